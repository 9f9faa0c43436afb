/- Part 3 of a proof. No conditions. -/
import Derived.Test.YtefgedeiipggkaaGreatDoorLx2
import Derived.KernelRfl
import Derived.OpenShut
import Derived.ChangeArms
import Derived.Below
import Derived.ChangeSame
import Derived.Carry
set_option maxRecDepth 100000
set_option linter.unusedVariables false
set_option linter.unusedSimpArgs false
namespace Go.Dx
open Go.Sx
section
variable {w0:World} {ν ν':Nu} {nV nS QG:Nat} {h h':List Ax} {lh lh':List ar} {α:Type} {LP:fD} {Q2:α->Prop} {e:bS} {sl:List ak} {ctx:Bool} {Q1:FuncId->ca}
theorem bX {v:V} {At:V->Bh α} (hs:bT LP (jo ctx v At) Q2):∃ u,bT LP (At u) Q2:=by
 unfold jo at hs;split at hs
 ·simp[bT]at hs;exact⟨_,hs.2⟩
 ·exact⟨_,hs⟩
theorem tT:∀ {xs:List gk} {At:List V->Bh α},bT LP (wb ctx e xs At) Q2->∃ us,bT LP (At us) Q2
 |[],At,hs=>⟨[],hs⟩
 |x::xs,At,hs=>by
   simp[wb]at hs
   let ⟨u,M⟩:=bX hs
   let ⟨us,N⟩:=tT M
   exact⟨_,N⟩
theorem kd {x:Option gk} {At:Option V->Bh α} (hs:bT LP (v8 ctx e x At) Q2):∃ u,bT LP (At u) Q2:=by
 cases x with
 |none=>exact⟨none,hs⟩|some x=>simp[v8]at hs;let ⟨u,M⟩:=bX hs;exact⟨_,M⟩
theorem fN {p:Prop} [Decidable p] {x:Bh α} (hs:bT LP (zy ctx p x) Q2):bT LP x Q2:=by simp[zy,bT]at hs;exact hs.2
theorem eN {x:Option V} {y d:Nat} {At:Nat->Bh α} (hs:bT LP (ol ctx x y d At) Q2):∃ n,bT LP (At n) Q2:=by
 unfold ol at hs;split at hs
 ·exact⟨_,hs⟩
 ·exact⟨_,fN hs⟩
 ·exact hs.elim
theorem hjr:∀ {ps:List (Nat×Nat×gk)} {z:List V} {At:List V->Bh α},bT LP (rV ctx e ps z At) Q2->∃ cs,bT LP (At cs) Q2
 |[],z,At,hs=>⟨_,hs⟩
 |(off,n,x)::ps,z,At,hs=>by
   simp[rV]at hs
   let ⟨v,N⟩:=bX hs
   cases hf:(v.flat&&Nat.beq (cg v.cells) n) with
   |false=>rw[hf]at N;exact N.elim
   |true=>
     rw[hf]at N;simp[cond_true]at N;split at N
     ·exact hjr N
     ·exact N.elim
theorem aj5 {v:V} {x:Bh α} (hs:bT LP (Xb ctx h v x) Q2):bT LP x Q2:=by
 unfold Xb at hs;split at hs
 ·split at hs
  ·exact fN hs
  ·exact hs.elim
 ·exact hs
theorem ht1 {op:BinOp} {k:IntKind} {x y:Int} {At:V->Bh α} (hs:bT LP (R6 ctx op k x y At) Q2):∃v,bT LP (At v) Q2:=by cases op<;>simp[R6]at hs<;>first|exact hs.elim|exact⟨_,hs⟩|exact⟨_,fN hs⟩
theorem hqa {op:BinOp} {x y:V} {At:V->Bh α} (hs:bT LP (Di ctx op x y At) Q2):∃ v,bT LP (At v) Q2:=by
 unfold Di at hs;split at hs
 ·split at hs
  ·exact ht1 hs
  ·exact hs.elim
 ·split at hs
  ·exact⟨_,hs⟩
  ·exact⟨_,hs⟩
  ·exact⟨_,fN hs⟩
  ·exact hs.elim
 ·exact hs.elim
theorem auJ {cf:CF α} {op:l7} {At:V->List Ax->Bh α} (Zt:ctx=false) (R0:mC op=true) (hs:bT LP (CK cf ctx none op e h At) Q2):∃ v,bT LP (At v h) Q2:=by
 cases op<;>simp[mC]at R0<;>simp[CK]at hs<;>try (cases R0;done)
 case mov x=>let ⟨u,M⟩:=bX hs;exact⟨_,M⟩
 case pick c a b=>
  let ⟨u,M⟩:=bX hs
  split at M
  ·let ⟨u,M⟩:=bX M;exact⟨_,M⟩
  ·let ⟨u,M⟩:=bX M;exact⟨_,M⟩
  ·let ⟨u,M⟩:=bX M
   let ⟨u,M⟩:=bX M
   split at M
   ·exact⟨_,M⟩
   ·simp[bT]at M
    rcases Bool.eq_false_or_eq_true (b:=_) with hb|hb
    ·exact⟨_,M.1 hb⟩
    ·exact⟨_,M.2 hb⟩
  ·simp[bT]at M
   exact⟨_,M.2⟩
  ·exact M.elim
 case agg z ps=>let ⟨cs,M⟩:=hjr hs;exact⟨_,M⟩
 case ld a=>
  let ⟨u,M⟩:=bX hs
  have M:=aj5 M
  split at M
  ·exact⟨_,M⟩
  ·exact M.elim
 case lds n a=>
  let ⟨u,M⟩:=bX hs
  have M:=aj5 M
  split at M
  ·exact⟨_,M⟩
  ·exact M.elim
 case nz x=>
  let ⟨u,M⟩:=bX hs
  split at M<;>first|exact⟨_,M⟩|exact M.elim
 case bin op x y=>
  let ⟨u,M⟩:=bX hs
  let ⟨v,N⟩:=bX M
  exact hqa N
 case eqa neg n x y=>
  let ⟨u,M⟩:=bX hs
  let ⟨v,N⟩:=bX M
  split at N
  ·rename_i xs ys
   split at N
   ·rename_i b hb
    cases hn:Nat.beq (cg xs) n with
    |false=>rw[hn]at N;exact N.elim
    |true=>rw[hn]at N;exact⟨_,N⟩
   ·exact N.elim
  ·exact N.elim
 case eqb neg x y=>
  let ⟨u,M⟩:=bX hs
  let ⟨v,N⟩:=bX M
  split at N
  ·exact⟨_,N⟩
  ·exact N.elim
 case un op x=>
  let ⟨u,M⟩:=bX hs
  split at M<;>first|exact⟨_,M⟩|exact M.elim
 case conv k x=>
  let ⟨u,M⟩:=bX hs
  split at M<;>first|exact⟨_,M⟩|exact M.elim
 case mkf f xs ys=>
  split at hs
  ·let ⟨us,g1⟩:=tT hs
   let ⟨vs,g2⟩:=tT g1
   exact⟨_,g2⟩
  ·exact hs.elim
 case fa off x=>
  let ⟨u,M⟩:=bX hs
  split at M
  ·exact⟨_,M⟩
  ·exact⟨_,M⟩
  ·split at M
   ·exact⟨_,M⟩
   ·exact M.elim
  ·exact M.elim
 case fld off n x=>
  let ⟨u,M⟩:=bX hs
  split at M
  ·split at M
   ·split at M
    ·exact⟨_,M⟩
    ·exact M.elim
   ·split at M
    ·exact⟨_,M⟩
    ·exact M.elim
  ·exact M.elim
 case iaA n esz x ix=>
  let ⟨u,M⟩:=bX hs
  let ⟨v,N⟩:=bX M
  split at N
  ·exact⟨_,fN N⟩
  ·exact⟨_,fN N⟩
  ·split at N
   ·exact⟨_,fN N⟩
   ·exact N.elim
  ·exact N.elim
 case iaS esz x ix=>
  let ⟨u,M⟩:=bX hs
  let ⟨v,N⟩:=bX M
  split at N
  ·rename_i n f _ i
   cases hn:Nat.beq (cg (f i.toNat)) esz with
   |false=>rw[hn]at N;exact N.elim
   |true=>rw[hn]at N;exact⟨_,fN N⟩
  ·exact⟨_,fN N⟩
  ·split at N
   ·rename_i ez n' f ty hk
    cases hn:Nat.beq ez esz with
    |false=>rw[hn]at N;exact N.elim
    |true=>rw[hn]at N;exact⟨_,fN N⟩
   ·exact N.elim
  ·split at N
   ·rename_i ez n' f ty hk
    cases hn:Nat.beq ez esz with
    |false=>rw[hn]at N;exact N.elim
    |true=>rw[hn]at N;exact⟨_,fN N⟩
   ·exact N.elim
  ·exact⟨_,fN N⟩
  ·exact N.elim
 case ixA n esz sz x ix=>
  let ⟨u,M⟩:=bX hs
  let ⟨v,N⟩:=bX M
  split at N
  ·split at N
   ·split at N
    ·exact⟨_,fN N⟩
    ·exact N.elim
   ·split at N
    ·exact⟨_,fN N⟩
    ·exact N.elim
  ·exact N.elim
 case ixS x ix=>
  let ⟨u,M⟩:=bX hs
  let ⟨v,N⟩:=bX M
  split at N
  ·exact⟨_,fN N⟩
  ·exact N.elim
 case len x=>
  let ⟨u,M⟩:=bX hs
  split at M<;>first|exact⟨_,M λe=>by rw[Zt]at e;cases e⟩|exact⟨_,M⟩|exact M.elim
 case lenT x=>
  let ⟨u,M⟩:=bX hs
  split at M<;>first|exact⟨_,M⟩|exact M.elim
 case lenA n=>exact⟨_,hs⟩
 case mm b x xs=>
  let ⟨u,M⟩:=bX hs
  let ⟨us,N⟩:=tT M
  split at N
  ·exact⟨_,N⟩
  ·exact N.elim
 case ext x i=>
  let ⟨u,M⟩:=bX hs
  split at M
  ·split at M
   ·exact⟨_,M⟩
   ·exact M.elim
  ·exact M.elim
 case slS esz x lo hi mx=>
  let ⟨u,M⟩:=bX hs
  let ⟨lo',N⟩:=kd M
  let ⟨Rn,h3⟩:=kd N
  let ⟨mx',h4⟩:=kd h3
  split at h4
  ·rename_i n f
   split at h4
   ·cases hz:Nat.beq (cg (f 0)) esz with
    |false=>rw[hz]at h4;exact h4.elim
    |true=>
      rw[hz]at h4
      simp[cond_true]at h4
      let ⟨_,h5⟩:=eN h4
      let ⟨_,h6⟩:=eN h5
      exact⟨_,h6⟩
   ·exact h4.elim
  ·split at h4
   ·let ⟨_,h5⟩:=eN h4
    exact⟨_,h5⟩
   ·split at h4
    ·rename_i ez n' f ty hk
     cases hn:Nat.beq ez esz with
     |false=>rw[hn]at h4;exact h4.elim
     |true=>
       rw[hn]at h4
       simp[cond_true]at h4
       let ⟨_,h5⟩:=eN h4
       let ⟨_,h6⟩:=eN h5
       exact⟨_,h6⟩
    ·exact h4.elim
   ·exact h4.elim
  ·let ⟨_,h5⟩:=eN h4
   let ⟨_,h6⟩:=eN h5
   let ⟨_,h7⟩:=eN h6
   exact⟨_,h7⟩
  ·split at h4
   ·let ⟨_,h5⟩:=eN h4
    let ⟨_,h6⟩:=eN h5
    exact⟨_,h6⟩
   ·exact h4.elim
  ·exact h4.elim
 case isn neg x=>
  let ⟨u,M⟩:=bX hs
  split at M
  ·exact⟨_,M⟩
  ·exact⟨_,M⟩
  ·exact⟨_,M.2⟩
  ·exact⟨_,M.2⟩
  ·exact M.elim
 case slA n esz x lo hi mx=>
  let ⟨u,M⟩:=bX hs
  let ⟨lo',N⟩:=kd M
  let ⟨Rn,h3⟩:=kd N
  let ⟨mx',h4⟩:=kd h3
  split at h4
  ·let ⟨_,h5⟩:=eN h4
   let ⟨_,h6⟩:=eN h5
   let ⟨_,h7⟩:=eN h6
   exact⟨_,h7⟩
  ·exact h4.elim
 case slT x lo hi=>
  let ⟨u,M⟩:=bX hs
  let ⟨lo',N⟩:=kd M
  let ⟨Rn,h3⟩:=kd N
  split at h3
  ·let ⟨_,h5⟩:=eN h3
   let ⟨_,h6⟩:=eN h5
   exact⟨_,h6⟩
  ·exact h3.elim
def pF (QG:Nat):List ji->Bool
 |[]=>true|o::l=>(match o.dst with|some d=>Nat.blt d QG|none=>true)&&pF QG l
theorem alL {QG:Nat} {o:ji} {l:List ji} (hd:pF QG (o::l)=true):(∀i,o.dst=some i->i<QG)/\pF QG l=true:=by simp[pF,D2]at hd;refine⟨λi hi=>?_,hd.2⟩;rw[hi]at hd;exact Dc hd.1
theorem dp {l:List ak} {d:Nat} {a:ak} (hd:l.getD d .any=a) (ha:a≠.any):l.set d a=l:=by
 apply F4;intro i;rw[Db];split
 ·rename_i e;subst e
  split
  ·rename_i Q7;simp[List.getD,EZ Q7]at hd;simp[hd,EZ Q7]
  ·rename_i Q7;simp[List.getD,Do (Nat.le_of_not_lt Q7)]at hd;exact(ha hd.symm).elim
 ·rfl
theorem Bn {b:Bool} {v:V} {a:ak} (hb:b=true) (hv:vr w0 lh ν v a):vr w0 lh ν (.gd b v) a:=by simp[vr];exact⟨λ_=>hv,λe=>by rw[hb]at e;cases e⟩
theorem ahb {b:Bool} {v:V} {l:List ak} (hb:b=false):vr w0 lh ν (.gd b v) (.tup l):=by simp only[vr];exact⟨(λe=>by rw[hb]at e;cases e),λ_=>⟨l,rfl⟩⟩
theorem BC:vr w0 lh ν (.tup []) (.tup []):=by simp only[vr,bI];exact⟨[],rfl,rfl⟩
theorem we {b want:Bool} (e:b=want):gB b want=true:=by subst e;cases b<;>rfl
theorem zI {b want:Bool} (e:b=!want):gB b want=false:=by subst e;cases want<;>rfl
theorem lV {cf:CF α} (Rh:uC w0 Q1 LP false cf):∀ (ops:List ji) (e:bS) (h:List Ax) (ν:Nu) (sl:List ak) (lh:List ar) (At:bS->List Ax->Bh α) (KA:List ak->List ar->Prop),pF QG ops=true ->
 gU w0 ν QG e sl->HR w0 ν nV nS h lh->bT LP (g9 cf ops e h At) Q2->(∀e' h' ν' sl' lh',ν.sub ν'->gU w0 ν' QG e' sl'->HR w0 ν' nV nS h' lh'->bT LP (At e' h') Q2->KA sl' lh')->fF w0 Q1 ops sl lh KA
 |[],e,h,ν,sl,lh,At,KA,hd,Qb,hh,hs,hK=>hK e h ν sl lh (Nu.sub_refl ν) Qb hh hs
 |o::rest,e,h,ν,sl,lh,At,KA,hd,Qb,hh,hs,hK=>by
   let ⟨Tp,Tq⟩:=alL hd
   have go:∀{e0:bS},gU w0 ν QG e0 sl->bT LP (CK cf true none o.op e0 h λv h=>g9 cf rest (eM e0 o.dst v) h At) Q2->dK w0 Q1 sl lh none (λv lh'=>fF w0 Q1 rest (fk sl o.dst v) lh' KA) o.op:=by intro e0 UK hs;refine Cf (md:=false) (wn:=[]) UK hh rfl Rh (.inl ⟨rfl,rfl⟩) (λe=>by cases e) hs λv h' ν' a lh' _ _ g1 g2 g3 g4=>?_;exact lV Rh rest _ h' ν' _ lh' At KA Tq ((UK.mono g1).put o.dst Tp g3) g2 g4 λe' h' ν'' sl' lh' k1=>hK e' h' ν'' sl' lh' (Nu.sub_trans g1 k1)
   have skip:∀{e0:bS},gU w0 ν QG e0 sl->bT LP (g9 cf rest (eM e0 o.dst (.tup [])) h At) Q2->fF w0 Q1 rest (fk sl o.dst (.tup [])) lh KA:=by intro e0 UK hs;exact lV Rh rest _ h ν _ lh At KA Tq (UK.put o.dst Tp BC) hh hs hK
   have goS:∀ {b:Bool},mC o.op=true->b=true->bT LP (CK cf b none o.op e h λv _=>g9 cf rest (eM e o.dst (.gd b v)) h At) Q2->dK w0 Q1 sl lh none (λv lh'=>fF w0 Q1 rest (fk sl o.dst v) lh' KA) o.op:=by
    intro b R0 hb hs;refine Cf (md:=false) (wn:=[]) Qb hh hb Rh (.inl ⟨rfl,rfl⟩) (λe=>by cases e) hs λv h' ν' a lh' _ Pw g1 g2 g3 g4=>?_
    let ⟨rfl,rfl,rfl⟩:=Pw R0
    exact lV Rh rest _ _ _ _ _ At KA Tq (Qb.put o.dst Tp (Bn hb g3)) g2 g4 hK
   have skipS:∀ {b:Bool},mC o.op=true->b=false->bT LP (CK cf b none o.op e h λv _=>g9 cf rest (eM e o.dst (.gd b v)) h At) Q2->fF w0 Q1 rest (fk sl o.dst (.tup [])) lh KA:=by
    intro b R0 hb hs
    let ⟨v,g⟩:=auJ hb R0 hs
    exact lV Rh rest _ h ν _ lh At KA Tq (Qb.put o.dst Tp (ahb hb)) hh g hK
   simp only[g9]at hs;simp only[fF];split at hs
   ·rename_i hg;rw[hg];exact go Qb hs
   ·rename_i d want hg
    rw[hg];dsimp only
    have Qh:=Qb.at' d;split at hs
    ·rename_i b hb
     rw[hb]at Qh;simp only[vr]at Qh;rw[Qh];dsimp only
     split at hs
     ·rename_i he _;subst he;exact⟨λ_=>by rw[dp Qh au];exact go Qb hs,λe=>by cases b<;>cases e⟩
     ·rename_i he _;exact⟨λe=>(he e).elim,λe=>by rw[← e,dp Qh au];exact skip Qb hs⟩
    ·rename_i l hb
     rw[hb]at Qh;simp only[vr]at Qh
     let ⟨az,Qh,_⟩:=Qh
     rw[Qh];dsimp only
     rw[dp Qh au];exact skip Qb hs
    ·rename_i k n hb;rw[hb]at Qh;simp only[vr]at Qh;rw[Qh];exact skip Qb hs
    ·rename_i b hb
     rw[hb]at Qh;simp only[vr]at Qh;rw[Qh];dsimp only
     split at hs
     ·rename_i R0;exact⟨λe1=>by rw[← e1,dp Qh au];exact goS R0 (we e1) hs,λe1=>by rw[← e1,dp Qh au];exact skipS R0 (zI e1) hs⟩
     ·simp only [bT]at hs
      refine⟨λe1=>?_,λe1=>?_⟩
      ·rw[← e1,dp Qh au];exact go (Qb.know (by simp only[vr];rw[Qh,e1])) (hs.1 (we e1))
      ·rw[← e1,dp Qh au];exact skip (Qb.know (by simp only[vr];rw[Qh,e1])) (hs.2 (zI e1))
    ·rename_i c v hb
     rw[hb]at Qh;simp only[vr]at Qh;split at hs
     ·split at hs
      ·have hl:∃ l,sl.getD d .any=.tup l:=by
        cases c with
        |false=>exact Qh.2 rfl|true=>have:=Qh.1 rfl;simp only[vr]at this;let ⟨l,e,_⟩:=this;exact⟨l,e⟩
       let ⟨l,hl⟩:=hl
       rw[hl];dsimp only
       rw[dp hl au];exact skip Qb hs
      ·exact hs.elim
     ·rename_i b Y2
      cases c with
      |false=>
        let ⟨l,hl⟩:=Qh.2 rfl
        rw[hl];dsimp only
        rw[dp hl au];split at hs
        ·rename_i R0;exact skipS R0 rfl hs
        ·simp only[bT]at hs;exact skip Qb (hs.2 rfl)
      |true=>
        have Qh:=pE (Qh.1 rfl) Y2;rw[Qh];dsimp only
        split at hs
        ·rename_i R0;exact⟨λe1=>by rw[← e1,dp Qh au];exact goS R0 (by rw[we e1];rfl) hs,λe1=>by rw[← e1,dp Qh au];exact skipS R0 (by rw[zI e1];rfl) hs⟩
        ·simp only [bT]at hs
         refine⟨λe1=>?_,λe1=>?_⟩
         ·rw[← e1,dp Qh au];exact go (Qb.know (by simp only[vr];rw[Qh,e1])) (hs.1 (by rw[we e1];rfl))
         ·rw[← e1,dp Qh au];exact skip Qb (hs.2 (by rw[zI e1];rfl))
    ·exact hs.elim
end
theorem ki {k:Nat}:∀ {l:List Nat},y4 k l=true↔k∈l
 |[]=>by simp[y4]
 |x::l=>by
   simp only[y4,ET];by_cases h:k=x
   ·subst h;simp
   ·have:Nat.beq k x=false:=by
     cases hb:Nat.beq k x with
     |false=>rfl|true=>exact(h (DT hb)).elim
    rw[this,cond_false,ki];simp[h]
theorem ya:∀ {l QW:List Nat},G1 l QW=true↔∀ k,k∈l->k∈QW
 |[],QW=>by simp[G1]
 |x::l,QW=>by simp[G1,D2,ki,ya,ET,Kv]
theorem xf:∀ {l QW:List Nat},Mj l QW=true↔∀ k,k∈l->k∉QW
 |[],QW=>by simp[Mj]
 |x::l,QW=>by
   simp only[Mj,D2,xf,ET,Kv];refine and_congr ?_ Iff.rfl;cases hm:y4 x QW with
   |false=>simp;intro h;rw[ki.2 h]at hm;cases hm|true=>simp;exact ki.1 hm
theorem nE {Ws:List (List Nat)} {k:Nat}:∀ {un:List Nat},k∈o4 Ws un↔∃ u,u∈un/\k∈dY Ws u
 |[]=>by simp[o4]
 |u::un=>by
   simp only[o4,mJ,Ih,nE,ET];constructor
   ·rintro (h|⟨v,M,N⟩)
    ·exact⟨u,.inl rfl,h⟩
    ·exact⟨v,.inr M,N⟩
   ·rintro⟨v,rfl|M,N⟩
    ·exact .inl N
    ·exact .inr ⟨v,M,N⟩
theorem hfo (X:List Nat):∀ (h:List Ax) (b k:Nat),(km X h b)[k]? = (h[k]?).map λo=>if b+k∈X then Ax.hid else o
 |[],b,k=>by simp[km]
 |o::h,b,0=>by
   simp only[km,Ew,E2,GE];cases hm:y4 b X with
   |false=>rw[cond_false,C4 (λh=>by rw[ki.2 h]at hm;cases hm)]|true=>rw[cond_true,CV (ki.1 hm)]
 |o::h,b,k+1=>by simp[km,Eu];rw[hfo X h (b+1) k,show b+1+k=b+(k+1) by omega]
theorem Ap (X:List Nat) (h:List Ax) (k:Nat):(kz X h)[k]? = (h[k]?).map λo=>if k∈X then Ax.hid else o:=by
 unfold kz;split
 ·cases h[k]? <;> simp
 ·rw[hfo];simp
theorem An (X:List Nat) (h:List Ax):(kz X h).length=h.length:=by
 have gen:∀ (h:List Ax) (b:Nat),(km X h b).length=h.length:=λh=>by
  induction h with
  |nil=>intro b;rfl|cons o h ih=>intro b;simp[km,ih]
 unfold kz;split
 ·rfl
 ·exact gen h 0
theorem hgx (QW:List Nat) (l:List Ax):∀ (h:List Ax) (b k:Nat),(mK QW l h b)[k]? = (h[k]?).map λo=>if b+k∈QW then l.getD (b+k) o else o
 |[],b,k=>by simp[mK]
 |o::h,b,0=>by
   simp only[mK,Ew,E2,GE];cases hm:y4 b QW with
   |false=>rw[cond_false,C4 (λh=>by rw[ki.2 h]at hm;cases hm)]
   |true=>rw[cond_true,CV (ki.1 hm),DG];simp only[List.getD];cases l[b]? <;> rfl
 |o::h,b,k+1=>by simp only[mK,Eu];rw[hgx QW l h (b+1) k,show b+1+k=b+(k+1) by omega]
theorem w7 (QW:List Nat) (h l:List Ax) (k:Nat):(Hc QW h l)[k]? = (h[k]?).map λo=>if k∈QW then l.getD k o else o:=by unfold Hc;rw[hgx];simp
theorem hz2 (QW:List Nat) (h l:List Ax):(Hc QW h l).length=h.length:=by
 have gen:∀ (h:List Ax) (b:Nat),(mK QW l h b).length=h.length:=λh=>by
  induction h with
  |nil=>intro b;rfl|cons o h ih=>intro b;simp[mK,ih]
 exact gen h 0
theorem hkX:∀ (h:List Ax) (k:Nat),(undead h)[k]? = (h[k]?).map λo=>match o with|.dead=>Ax.hid|o=>o
 |[],k=>by simp[undead]
 |o::h,0=>by cases o<;>rfl
 |o::h,k+1=>by simp[undead,Eu];exact hkX h k
theorem rF:∀ (h:List Ax),(undead h).length=h.length
 |[]=>rfl|o::h=>by simp[undead,rF h]
theorem qJ:∀ (n k:Nat),(deads n)[k]? = if k<n then some Ax.dead else none
 |0,k=>by simp[deads]
 |n+1,0=>by simp[deads]
 |n+1,k+1=>by simp[deads,qJ n k]
theorem Ls (X:List Nat) (lh:List ar) (k:Nat):(hide X lh)[k]? = (lh[k]?).map λo=>if k∈X then ar.hid else o:=by unfold hide;rw[K3]
theorem xh (QW:List Nat) (lh l:List ar) (k:Nat):(mix QW lh l)[k]? = (lh[k]?).map λo=>if k∈QW then l.getD k o else o:=by unfold mix;rw[K3]
section
variable {w0:World} {ν ν' ν0:Nu} {nV nS QG:Nat} {h h' h0:List Ax} {lh lh' lh0:List ar} {α:Type} {LP:fD} {Q2:α->Prop} {e:bS} {sl:List ak} {ctx:Bool} {Q1:FuncId->ca}
theorem HR.undead {a b:Nat} (hh:HR w0 ν a b h lh) (nV nS:Nat):HR w0 ν nV nS (undead h) lh:=by
 have hl:∀ k (o:Ax),(Dx.undead h)[k]? = some o->o≠.hid->h[k]? = some o/\o≠.dead:=λk o hk ho=>by
  rw[hkX]at hk;cases hg:h[k]? with
  |none=>rw[hg]at hk;cases hk
  |some o'=>rw[hg]at hk;simp[E2,DJ]at hk;cases o'<;>simp at hk<;>subst hk<;>first|exact(ho rfl).elim|exact⟨rfl,au⟩
 have hlive:∀ k,bk (Dx.undead h) k->bk h k:=λk hk=>by
  rcases gx hk with ⟨_,_,g⟩|⟨_,_,_,_,g⟩
  ·exact eK (hl k _ g au).1
  ·exact im (hl k _ g au).1
 refine⟨λk o hk=>?_,λk k' x x' M N=>hh.inj k k' x x' (hlive k M) (hlive k' N),λk hk=>hh.dom k (by rw[rF]at hk;exact hk),hh.rng,hh.zl,λk x hk hx=>hh.zn k x (hlive k hk) hx⟩;by_cases ho:o=.hid
 ·subst ho;trivial
 ·let ⟨g1,g2⟩:=hl k o hk ho
  have:=hh.blk k o g1;cases o with
  |dead=>exact(g2 rfl).elim|hid=>trivial|cells cs ty=>exact this|gl esz n f ty=>exact this
theorem HR.deads (hh:HR w0 ν nV nS h lh) (hV:nV=h.length) (hS:nS=lh.length) (m:Nat):HR w0 ν nV nS (h++deads m) (lh++List.replicate m .dead):=by
 subst hV hS;have hl:∀ k,bk (h++Dx.deads m) k->bk h k:=λk hk=>by
  unfold bk fj at *
  rw[DG]at *
  rw[Ei]at hk;split at hk
  ·rename_i Pw hq
   split at hq
   ·rw[hq]
   ·rw[qJ]at hq;split at hq<;>cases hq
  ·rename_i Pw hq
   split at hq
   ·rw[hq]
   ·rw[qJ]at hq;split at hq<;>cases hq
  ·cases hk
 refine⟨λk o hk=>?_,λk k' x x' M N=>hh.inj k k' x x' (hl k M) (hl k' N),λk hk=>hh.dom k (by simp at hk;omega),λk x hx=>by have:=hh.rng k x hx;simp;omega,λj az ty hj=>by have Pw:=hh.zl j az ty hj;rw[DW (List.getElem?_eq_some_iff.1 Pw).1];exact Pw,λk x hk hx=>hh.zn k x (hl k hk) hx⟩;rw[Ei]at hk;split at hk
 ·rename_i Q7
  have:=hh.blk k o hk;cases o with
  |dead=>let ⟨g1,g2,g3⟩:=this;omega
  |hid=>trivial|cells cs ty=>exact d7 (Nu.sub_refl ν) au (λb az ty' Pw _=>by rw[DW (List.getElem?_eq_some_iff.1 Pw).1];exact Pw) this|gl esz n f ty=>exact d7 (Nu.sub_refl ν) au (λb az ty' Pw _=>by rw[DW (List.getElem?_eq_some_iff.1 Pw).1];exact Pw) this
 ·rename_i TM
  rw[qJ]at hk;split at hk
  ·rename_i Q7;cases hk;refine⟨hh.dom k K,K,?_⟩;rw[Dy K,List.getElem?_replicate,CV K]
  ·cases hk
def ud (ν0:Nu) (nV nS k:Nat):Option Nat:=if k<nV then(match ν0 k with|some (some x)=>some x.1|_=>none) else some (nS+(k-nV))
structure WR (ν0:Nu) (nV nS:Nat) (h0:List Ax) (Ws WsS:List (List Nat)):Prop where
 rel:∀i j,j∈Dl WsS i↔∃k,k∈dY Ws i/\ud ν0 nV nS k=some j
 live:∀i k,k∈dY Ws i->k<nV->bk h0 k
structure DI (w0:World) (ν0:Nu) (h0:List Ax) (nV nS:Nat) (Ws:List (List Nat)) (rk:Nat->Bool) (cur:Nat) (ν:Nu) (h:List Ax) (lh:List ar):Prop where
 hr:HR w0 ν nV nS h lh
 old:∀k,k<nV->ν k=ν0 k
 zc:ν.z=ν0.z
 liv:∀k,k<nV->bk h k->bk h0 k
 nw:∀k x,nV<=k->ν k=some (some x)->x.1=nS+(k-nV)∨∃i k0,rk i=true/\i<cur/\k∈dY Ws i/\k0∈dY Ws i/\ud ν0 nV nS k0=some x.1
def GD (Ws:List (List Nat)) (rk:Nat->Bool) (cur:Nat) (QY:List Nat):Prop:=∀i,i<cur->rk i=true->(∀k,k∈dY Ws i->k∉QY)∨∀k,k∈dY Ws i->k∈QY
theorem wH (H0:HR w0 ν0 nV nS h0 lh0) (hS:nS=lh0.length) {k k' j:Nat} (hk:k<nV->bk h0 k) (Rv:k'<nV->bk h0 k') (M:ud ν0 nV nS k=some j) (N:ud ν0 nV nS k'=some j):k=k':=by
 unfold ud at M N;split at M
 ·rename_i l1
  split at M
  ·rename_i x hx
   have e1:x.1=j:=by simpa using M
   split at N
   ·rename_i l2
    split at N
    ·rename_i x' Sz
     have e2:x'.1=j:=by simpa using N
     exact H0.inj k k' x x' (hk l1) (Rv l2) hx Sz (by rw[e1,e2])
    ·cases N
   ·have e2:nS+(k'-nV)=j:=by simpa using N
    have:=H0.rng k x hx;omega
  ·cases M
 ·rename_i l1
  have e1:nS+(k-nV)=j:=by simpa using M
  split at N
  ·split at N
   ·rename_i x' Sz
    have e2:x'.1=j:=by simpa using N
    have:=H0.rng k' x' Sz;omega
   ·cases N
  ·have e2:nS+(k'-nV)=j:=by simpa using N
   omega
section
variable {Ws WsS:List (List Nat)} {rk:Nat->Bool} {cur:Nat}
theorem DI.nmu_of (hd:DI w0 ν0 h0 nV nS Ws rk cur ν h lh) {k:Nat} {x:Nat×Nat×Nat} (hx:ν k=some (some x)):ud ν0 nV nS k=some x.1∨∃ i k0,rk i=true/\i<cur/\k∈dY Ws i/\k0∈dY Ws i/\ud ν0 nV nS k0=some x.1:=by
 by_cases hk:k<nV
 ·left;unfold ud;rw[CV hk,← hd.old k hk,hx]
 ·rcases hd.nw k x K hx with M|M
  ·left;unfold ud;rw[C4 hk,M]
  ·exact .inr M
theorem DI.into (hd:DI w0 ν0 h0 nV nS Ws rk cur ν h lh) (H0:HR w0 ν0 nV nS h0 lh0) (hS:nS=lh0.length) (hw:WR ν0 nV nS h0 Ws WsS) {QY:List Nat} (hY:GD Ws rk cur QY) (hYw:∀ k,k∈QY->∃ u,k∈dY Ws u)
 {k k':Nat} {x:Nat×Nat×Nat} (hl:bk h k) (hx:ν k=some (some x)) (Rv:k'∈QY) (hm:ud ν0 nV nS k'=some x.1):k∈QY:=by
 let ⟨u,hu⟩:=hYw k' Rv
 rcases hd.nmu_of hx with M|⟨i,k0,g1,g2,g3,g4,g5⟩
 ·have:=wH H0 hS (λQ7=>hd.liv k Q7 hl) (λQ7=>hw.live u k' hu Q7) M hm;rw[this];exact Rv
 ·have:=wH H0 hS (λQ7=>hw.live i k0 g4 Q7) (λQ7=>hw.live u k' hu Q7) g5 hm
  subst this;rcases hY i g2 g1 with Pw|Pw
  ·exact absurd Rv (Pw k0 g4)
  ·exact Pw k g3
theorem DI.outof (hd:DI w0 ν0 h0 nV nS Ws rk cur ν h lh) {QY:List Nat} (hY:GD Ws rk cur QY) {k:Nat} {x:Nat×Nat×Nat} (hx:ν k=some (some x)) (hk:k∈QY):∃ k',k'∈QY/\ud ν0 nV nS k'=some x.1:=by
 rcases hd.nmu_of hx with M|⟨i,k0,g1,g2,g3,g4,g5⟩
 ·exact⟨k,hk,M⟩
 ·rcases hY i g2 g1 with Pw|Pw
  ·exact absurd hk (Pw k g3)
  ·exact⟨k0,Pw k0 g4,g5⟩
theorem R78 (H0:HR w0 ν0 nV nS h0 lh0) (hS:nS=lh0.length) {k k':Nat} (hk:nV<=k) (hm:ud ν0 nV nS k'=some (nS+(k-nV))):k'=k:=by
 unfold ud at hm;split at hm
 ·split at hm
  ·rename_i x hx
   have:=H0.rng k' x hx;have e1:x.1=nS+(k-nV):=by simpa using hm
   omega
  ·cases hm
 ·have e1:nS+(k'-nV)=nS+(k-nV):=by simpa using hm
  omega
theorem adr (H0:HR w0 ν0 nV nS h0 lh0) (hS:nS=lh0.length) {k j:Nat} (hk:k<nV->bk h0 k) (M:ud ν0 nV nS k=some j):isCells ν0.z[j]? = false:=by
 unfold ud at M;split at M
 ·rename_i l1
  split at M
  ·rename_i x hx
   have e1:x.1=j:=by simpa using M
   rw[← e1];exact H0.zn k x (hk l1) hx
  ·cases M
 ·have e1:nS+(k-nV)=j:=by simpa using M
  refine hcs H0.zl ?_;rw[Do K];rfl
theorem DI.hide (hd:DI w0 ν0 h0 nV nS Ws rk cur ν h lh) (H0:HR w0 ν0 nV nS h0 lh0) (hS:nS=lh0.length) (hw:WR ν0 nV nS h0 Ws WsS) {X XS:List Nat} (hX:GD Ws rk cur X) (hXw:∀ k,k∈X->∃ u,k∈dY Ws u)
 (hXS:∀j,j∈XS↔∃k,k∈X/\ud ν0 nV nS k=some j):HR w0 ν nV nS (kz X h) (Sx.hide XS lh):=by
 have hl:∀ k (o:Ax),(kz X h)[k]? = some o->o≠.hid->h[k]? = some o/\k∉X:=λk o hk ho=>by
  rw[Ap]at hk;cases hg:h[k]? with
  |none=>rw[hg]at hk;cases hk
  |some o'=>
    rw[hg]at hk;simp[E2,DJ]at hk;split at hk
    ·exact(ho hk.symm).elim
    ·rename_i hn;subst hk;exact⟨rfl,hn⟩
 have hlive:∀ k,bk (kz X h) k->bk h k:=λk hk=>by
  rcases gx hk with ⟨_,_,g⟩|⟨_,_,_,_,g⟩
  ·exact eK (hl k _ g au).1
  ·exact im (hl k _ g au).1
 refine⟨λk o hk=>?_,λk k' x x' M N=>hd.hr.inj k k' x x' (hlive k M) (hlive k' N),λk hk=>hd.hr.dom k (by rw[An]at hk;exact hk),λk x hx=>by have:=hd.hr.rng k x hx;unfold Sx.hide;simpa using this,λj az ty hj=>?_,λk x hk hx=>hd.hr.zn k x (hlive k hk) hx⟩
 case refine_2=>
  rw[Ls,hd.hr.zl j az ty hj];simp only[E2];rw[C4];intro hm
  let ⟨k',e1,e2⟩:=(hXS _).1 hm
  let ⟨u,hu⟩:=hXw k' e1
  have:=adr H0 hS (λQ7=>hw.live u k' hu Q7) e2;rw[← hd.zc]at this;exact nl this _ _ hj
 by_cases ho:o=.hid
 ·subst ho;trivial
 ·let ⟨g1,g2⟩:=hl k o hk ho
  have hb:=hd.hr.blk k o g1;by_cases Sb:o=.dead
  ·subst Sb
   let ⟨q1,q2,q3⟩:=hb
   refine⟨q1,q2,?_⟩;rw[Ls,q3];simp only[E2];rw[C4];intro hm
   let ⟨k',e1,e2⟩:=(hXS _).1 hm
   rw[R78 H0 hS q2 e2]at e1;exact g2 e1
  ·have Sc:bk h k:=by
    unfold bk fj;rw[DG,g1];cases o<;>first|rfl|exact(Sb rfl).elim|exact(ho rfl).elim
   refine d7 (Nu.sub_refl ν) Sb (λb az ty q1 q2=>?_) hb
   let ⟨c,ez,q3⟩:=q2
   rw[Ls,q1];simp only[E2];rw[C4];intro hm
   let ⟨k',e1,e2⟩:=(hXS _).1 hm
   exact g2 (hd.into H0 hS hw hX hXw Sc q3 e1 e2)
theorem DI.mix (hd : DI w0 ν0 h0 nV nS Ws rk cur ν h lh) (H0:HR w0 ν0 nV nS h0 lh0) (hS:nS=lh0.length) (hw:WR ν0 nV nS h0 Ws WsS) {X XS:List Nat} (hX:GD Ws rk cur X)
 (hW:GD Ws rk cur (dY Ws cur)) (hdis:∀k,k∈dY Ws cur->k∉X) (hhid:HR w0 ν nV nS (kz X h) (Sx.hide XS lh)) {pl plA:Option Nat} (Sd:∀p,pl=some p->p∈dY Ws cur/\nV<=p/\plA=some (nS+(p-nV))/\rk cur=true) (hpl0:pl=none->plA=none)
 {M:List Ax} {l1:List ar} (hsub:ν.sub ν') (hr:HR w0 ν' nV nS M l1) (hm:zR ν ν' (dY Ws cur) pl plA (kz X h) M (Sx.hide XS lh) l1) :
 kT (Dl WsS cur) l1 (Sx.hide XS lh)/\DI w0 ν0 h0 nV nS Ws rk (cur+1) ν' (Hc (dY Ws cur) h M) (mix (Dl WsS cur) lh l1):=by
 have hlenl:l1.length=lh.length:=by rw[hm.len];simp[Sx.hide]
 have hlenh:M.length=h.length:=by rw[hm.hlen,An]
 have hplS:∀ j,plA=some j->j∈Dl WsS cur:=λj hj=>by
  cases hp:pl with
  |none=>rw[hpl0 hp]at hj;cases hj
  |some p=>
    let ⟨q1,q2,q3,_⟩:=Sd p hp
    rw[q3]at hj;cases hj;exact(hw.rel cur _).2 ⟨p,q1,by unfold ud;rw[C4 K]⟩
 have hWS:∀ k x,k∈dY Ws cur->ν k=some (some x)->x.1∈Dl WsS cur:=λk x hk hx=>by
  let ⟨k',e1,e2⟩:=hd.outof hW hx hk
  exact(hw.rel cur _).2 ⟨k',e1,e2⟩
 have hold:∀ k,k<nV->ν' k=ν0 k:=λk hk=>by
  cases hv:ν k with
  |some x=>rw[hsub.1 k x hv,← hd.old k hk,hv]
  |none=>
    rw[← hd.old k hk,hv];cases XG:ν' k with
    |none=>rfl
    |some x=>
      rcases hm.nw k x XG with Pw|⟨Pw,_⟩
      ·rw[hv]at Pw;cases Pw
      ·have:=(Sd k Pw).2.1;omega
 have YM:∀ k x,nV<=k->ν' k=some (some x)->x.1=nS+(k-nV)∨∃ i k0,rk i=true/\i<cur+1/\k∈dY Ws i/\k0∈dY Ws i/\ud ν0 nV nS k0=some x.1:=λk x hk hx=>by
  rcases hm.nw k _ hx with Pw|⟨q1,q2⟩
  ·rcases hd.nw k x hk Pw with g|⟨i,k0,g1,g2,g3⟩
   ·exact .inl g
   ·exact .inr ⟨i,k0,g1,K,g3⟩
  ·let ⟨p1, p2, p3, p4⟩ := Sd k q1
   rcases q2 x rfl with g|⟨k0,z,g1,g2,g3⟩
   ·rw [p3] at g; exact .inl (by have:nS+(k-nV)=x.1:=by simpa using g
                                 omega)
   ·let ⟨k',e1,e2⟩:=hd.outof hW g2 g1
    exact .inr ⟨cur,k',p4,K,p1,e1,by rw[← g3];exact e2⟩
 have hsame:∀ j,j∉Dl WsS cur->l1[j]? = (Sx.hide XS lh)[j]? := λj hj=>hm.chg j (λe=>hj (hplS j e)) (λk x hk hx e=>hj (by rw[← e];exact hWS k x hk hx));refine⟨⟨hm.len,hsame⟩,?_⟩;have hlive:∀ k,bk (Hc (dY Ws cur) h M) k->(k∉dY Ws cur/\bk h k)∨(k∈dY Ws cur/\bk M k):=λk hk=>by
  by_cases Vi:k∈dY Ws cur
  ·right
   refine⟨Vi,?_⟩;unfold bk fj at *
   rw[DG]at *
   rw[w7]at hk;cases hg:h[k]? with
   |none=>rw[hg]at hk;cases hk
   |some o=>
     rw[hg]at hk;simp[E2,CV Vi,List.getD]at hk;have Q7:k<M.length:=by rw[hlenh];exact(List.getElem?_eq_some_iff.1 hg).1
     rw[EZ Q7]at hk ⊢;exact hk
  ·left
   refine⟨Vi,?_⟩;unfold bk fj at *
   rw[DG]at *
   rw[w7]at hk;cases hg:h[k]? with
   |none=>rw[hg]at hk;cases hk|some o=>rw[hg]at hk;simp[E2,C4 Vi]at hk;exact hk
 have hget:∀ k o,(Hc (dY Ws cur) h M)[k]? = some o->(k∉dY Ws cur/\h[k]? = some o)∨(k∈dY Ws cur/\M[k]? = some o):=λk o hk=>by
  rw[w7]at hk;cases hg:h[k]? with
  |none=>rw[hg]at hk;cases hk
  |some o'=>
    rw[hg]at hk;simp only[E2]at hk;by_cases Vi:k∈dY Ws cur
    ·right
     refine⟨Vi,?_⟩;have Q7:k<M.length:=by rw[hlenh];exact(List.getElem?_eq_some_iff.1 hg).1
     rw[CV Vi]at hk;simp only[List.getD,EZ Q7]at hk ⊢;exact hk
    ·left;rw[C4 Vi]at hk;exact⟨Vi,hk⟩
 have hmixin:∀ b,b∈Dl WsS cur->(Sx.mix (Dl WsS cur) lh l1)[b]? = l1[b]? := λb hb=>by
  rw[xh];cases hg:lh[b]? with
  |none=>have:=List.getElem?_eq_none_iff.1 hg;rw[Do K];rfl
  |some o=>
    have Q7:b<l1.length:=by rw[hlenl];exact(List.getElem?_eq_some_iff.1 hg).1
    simp only[E2,CV hb,List.getD,EZ Q7];rfl
 have hmixout:∀b,b∉Dl WsS cur->(Sx.mix (Dl WsS cur) lh l1)[b]? = lh[b]? := λb hb=>by rw[xh];cases hg:lh[b]? <;> simp[hb]
 have hout:∀ k x,k∉dY Ws cur->bk h k->ν k=some (some x)->x.1∉Dl WsS cur:=λk x hk hl hx hmem=>by
  let ⟨k',e1,e2⟩:=(hw.rel cur _).1 hmem
  exact hk (hd.into H0 hS hw hW (λk hk=>⟨cur,hk⟩) hl hx e1 e2)
 have Ru:∀ k x,k∈dY Ws cur->ν' k=some (some x)->x.1∈Dl WsS cur:=λk x hk hx=>by
  rcases hm.nw k _ hx with Pw|⟨q1,q2⟩
  ·exact hWS k x hk Pw
  ·rcases q2 x rfl with g|⟨k0,z,g1,g2,g3⟩
   ·exact hplS _ g
   ·rw[← g3];exact hWS k0 z g1 g2
 have hν:∀ k,k∉dY Ws cur->ν' k=ν k:=λk hk=>by
  cases hv:ν k with
  |some x=>exact hsub.1 k x hv
  |none=>
    cases XG:ν' k with
    |none=>rfl
    |some x=>
      rcases hm.nw k x XG with Pw|⟨Pw,_⟩
      ·rw[hv]at Pw;cases Pw
      ·exact absurd (Sd k Pw).1 hk
 refine⟨⟨λk o hk=>?_,λk k' x x' g1 g2 hx Sz he=>?_,λk hk=>?_,λk x hx=>?_,λj az ty hj=>?_,λk x hl hx=>?_⟩,hold,hm.zz.trans hd.zc,λk hk hl=>?_,YM⟩
 ·rcases hget k o hk with ⟨q1,q2⟩|⟨q1,q2⟩
  ·have hb:=hd.hr.blk k o q2
   by_cases ho:o=.hid
   ·subst ho;trivial
   ·by_cases Sb:o=.dead
    ·subst Sb
     let ⟨e1,e2,e3⟩:=hb
     refine⟨by rw[hν k q1];exact e1,e2,?_⟩;rw[hmixout]
     ·exact e3
     ·intro hmem
      let ⟨k',f1,O⟩:=(hw.rel cur _).1 hmem
      rw[R78 H0 hS e2 O]at f1;exact q1 f1
    ·have Sc:bk h k:=by
      unfold bk fj;rw[DG,q2];cases o<;>first|rfl|exact(Sb rfl).elim|exact(ho rfl).elim
     refine d7 hsub Sb (λb az ty e1 e2=>?_) hb
     let ⟨c,ez,e3⟩:=e2
     rw[hmixout b (hout k _ q1 Sc e3)];exact e1
  ·have hb:=hr.blk k o q2
   by_cases ho:o=.hid
   ·subst ho;trivial
   ·by_cases Sb:o=.dead
    ·subst Sb
     let ⟨e1,e2,e3⟩:=hb
     refine⟨e1,e2,?_⟩;rw[hmixin]
     ·exact e3
     ·exact(hw.rel cur _).2 ⟨k,q1,by unfold ud;rw[C4 K]⟩
    ·refine d7 (Nu.sub_refl ν') Sb (λb az ty e1 e2=>?_) hb
     let ⟨c,ez,e3⟩:=e2
     rw[hmixin b (Ru k _ q1 e3)];exact e1
 ·rcases hlive k g1 with ⟨a1,a2⟩|⟨a1,a2⟩<;>rcases hlive k' g2 with ⟨b1,b2⟩|⟨b1,b2⟩
  ·rw[hν k a1]at hx;rw[hν k' b1]at Sz;exact hd.hr.inj k k' x x' a2 b2 hx Sz he
  ·rw[hν k a1]at hx;exact absurd (by rw[he];exact Ru k' x' b1 Sz) (hout k x a1 a2 hx)
  ·rw[hν k' b1]at Sz;exact absurd (by rw[← he];exact Ru k x a1 hx) (hout k' x' b1 b2 Sz)
  ·exact hr.inj k k' x x' a2 b2 hx Sz he
 ·exact hr.dom k (by rw[hz2]at hk;omega)
 ·have:=hr.rng k x hx;unfold Sx.mix;simp;omega
 ·rw [hm.zz]at hj
  rw[hmixout j λhmem=>?_]
  ·exact hd.hr.zl j az ty hj
  ·let ⟨k',e1,e2⟩:=(hw.rel cur _).1 hmem
   have:=adr H0 hS (λQ7=>hw.live cur k' e1 Q7) e2;rw[← hd.zc]at this;exact nl this _ _ hj
 ·rcases hlive k hl with ⟨a1,a2⟩|⟨a1,a2⟩
  ·rw[hν k a1]at hx;rw[hm.zz];exact hd.hr.zn k x a2 hx
  ·exact hr.zn k x a2 hx
 ·rcases hlive k hl with ⟨_,a2⟩|⟨_,a2⟩
  ·exact hd.liv k hk a2
  ·rcases hm.liv k a2 with Pw|Pw
   ·refine hd.liv k hk ?_
    unfold bk fj at *
    rw[DG]at *
    rw[Ap]at Pw;cases hg:h[k]? with
    |none=>rw[hg]at Pw;cases Pw
    |some o=>
      rw[hg]at Pw;simp[E2]at Pw;split at Pw
      ·rename_i hq
       split at hq
       ·cases hq
       ·cases hq;rfl
      ·rename_i hq
       split at hq
       ·cases hq
       ·cases hq;rfl
      ·cases Pw
   ·have:=(Sd k Pw).2.1;omega
end
end
section
variable {w0:World} {ν ν' ν0:Nu} {nV nS QG:Nat} {h h' h0:List Ax} {lh lh' lh0:List ar} {α:Type} {LP:fD} {Q2:α->Prop} {e:bS} {sl:List ak} {ctx:Bool} {Q1:FuncId->ca}
theorem amY {k:Nat} (hl:bk h k):k<h.length:=by rcases gx hl with ⟨_,_,g⟩|⟨_,_,_,_,g⟩<;>exact(List.getElem?_eq_some_iff.1 g).1
theorem aAk (hV:nV=h.length) {v:V} {a:ak} {l:List Nat} (hv:vr w0 ν.z ν v a) (hn:kF h v=some l) :
 (∀j,j∈yG a↔∃k,k∈l/\ud ν nV nS k=some j)/\∀k,k∈l->k<nV->bk h k:=by
 have one:∀ {k b:Nat} {x:Nat×Nat},bk h k->ν k=some (some (b,x))->∀ j,j∈[b]↔∃ k',k'∈[k]/\ud ν nV nS k'=some j:=λ{k b x} hl hk j=>by
  have Q7:k<nV:=by rw[hV];exact amY hl
  simp only[Ib,exists_eq_left];unfold ud;rw[CV Q7,hk];simp[eq_comm]
 have lv:∀{k:Nat},bk h k->∀k',k'∈[k]->k'<nV->bk h k':=λhl k' Rv _=>by rw[List.mem_singleton.1 Rv];exact hl
 cases v<;>simp only[kF]at hn<;>try cases hn
 case pl k off=>
  cases hl:fj h k with
  |false=>rw[hl]at hn;cases hn
  |true=>rw[hl]at hn;cases hn;simp only[vr]at hv;obtain⟨b,c,ez,g1,rfl⟩:=hv;exact⟨one hl g1,lv hl⟩
 case pe k i j=>
  cases hl:fj h k with
  |false=>rw[hl]at hn;cases hn
  |true=>rw[hl]at hn;cases hn;simp only[vr]at hv;obtain⟨b,c,ez,g1,rfl⟩:=hv;exact⟨one hl g1,lv hl⟩
 case ss k off n c=>
  cases hl:fj h k with
  |false=>rw[hl]at hn;cases hn
  |true=>rw[hl]at hn;cases hn;simp only[vr]at hv;obtain⟨b,c,ez,g1,rfl⟩:=hv;exact⟨one hl g1,lv hl⟩
 case gs k n=>
  cases hl:fj h k with
  |false=>rw[hl]at hn;cases hn
  |true=>
    rw[hl]at hn;cases hn;simp only[vr]at hv;rcases hv with ⟨g1,g2,rfl⟩|⟨b,c,ez,g1,rfl,_⟩
    ·refine⟨λj=>?_,lv hl⟩
     have Q7:k<nV:=by rw[hV];exact amY hl
     simp only[yG,I4,false_iff,not_exists,not_and];intro k' Rv;rw[List.mem_singleton.1 Rv];unfold ud;rw[CV Q7,g1];simp
    ·exact⟨one hl g1,lv hl⟩
 case ns=>simp only[vr]at hv;subst hv;exact⟨λj=>by simp[yG],λk hk=>by cases hk⟩
theorem ic3 (hh:HR w0 ν nV nS h lh) (hV:nV=h.length) (Qb:gU w0 ν QG e sl) {s:Eo} {l:List Nat} (hn:IJ h e nV s=some l) :
 (∀j,j∈VG w0 lh sl nS s↔∃k,k∈l/\ud ν nV nS k=some j)/\∀k,k∈l->k<nV->bk h k:=by
 cases s with
 |fresh r=>
   simp[IJ]at hn;cases hn;refine⟨λj=>?_,λk hk Q7=>?_⟩
   ·simp[VG,Ib,exists_eq_left];unfold ud;rw[C4 K,show nS+(nV+r-nV)=nS+r by omega];simp[eq_comm]
   ·rw[List.mem_singleton.1 hk]at Q7;omega
 |slot s=>exact aAk hV (Qb.at' s) hn
 |load s off=>
   have Qh:=Qb.at' s;simp[IJ]at hn;split at hn
   ·rename_i k o hk
    rw[hk]at Qh;simp only[vr]at Qh
    let ⟨b,c,ez,g1,g2⟩:=Qh
    split at hn
    ·rename_i v hv
     let ⟨p,x,e1,e2,e3⟩:=Gp hh (v:=.pl k (o+off)) (a:=.ptr (some (.l b (o+off)))) (by simp only[vr];exact⟨b,c,ez,g1,rfl⟩) hv (λ_ _ _ he=>by cases he)
     cases e1;have:=aAk (nS:=nS) hV e3 hn;simp only[VG,g2,jh.add,e2];exact this
    ·cases hn
   ·cases hn
theorem Ab (hh:HR w0 ν nV nS h lh) (hV:nV=h.length) (Qb:gU w0 ν QG e sl):∀ {ss:List Eo} {l:List Nat},uY h e nV ss=some l ->
 (∀j,j∈ve w0 lh sl nS ss↔∃k,k∈l/\ud ν nV nS k=some j)/\∀k,k∈l->k<nV->bk h k
 |[],l,hn=>by simp[uY]at hn;cases hn;exact⟨λj=>by simp[ve],λk hk=>by cases hk⟩
 |s::ss,l,hn=>by
   simp[uY]at hn;split at hn
   ·rename_i a b ha hb
    cases hn
    let ⟨g1,g2⟩:=ic3 hh hV Qb ha
    let ⟨g3,g4⟩:=Ab hh hV Qb hb
    refine⟨λj=>?_,λk hk=>?_⟩
    ·simp [ve,Ih,mJ,g1 j,g3 j]
     constructor
     ·rintro (⟨k,M,N⟩|⟨k,M,N⟩)
      ·exact⟨k,.inl M,N⟩
      ·exact⟨k,.inr M,N⟩
     ·rintro⟨k,M|M,N⟩
      ·exact .inl ⟨k,M,N⟩
      ·exact .inr ⟨k,M,N⟩
    ·rw[mJ,Ih]at hk
     rcases hk with hk|hk
     ·exact g2 k hk
     ·exact g4 k hk
   ·cases hn
theorem hj3 {h:List Ax} {e:bS} {H:Nat}:∀ {ds:List jd} {Ws:List (List Nat)},va h e H ds=some Ws->∀ i,match ds[i]? with|some d=>uY h e H d.ws=some (dY Ws i)|none=>dY Ws i=[]
 |[],Ws,hn,i=>by simp[va]at hn;cases hn;simp[dY,gX]
 |d::ds,Ws,hn,i=>by
   simp[va]at hn;split at hn
   ·rename_i a b ha hb
    cases hn;cases i with
    |zero=>simp[dY,gX,ha]|succ i=>simpa[dY,gX] using hj3 hb i
   ·cases hn
theorem apj (hh:HR w0 ν nV nS h lh) (hV:nV=h.length) (Qb:gU w0 ν QG e sl) {ds:List jd} {Ws:List (List Nat)} (hn:va h e nV ds=some Ws):WR ν nV nS h Ws (mB w0 lh sl nS ds):=by
 have key:∀ i,(∀ j,j∈Dl (mB w0 lh sl nS ds) i↔∃ k,k∈dY Ws i/\ud ν nV nS k=some j)/\∀ k,k∈dY Ws i->k<nV->bk h k:=λi=>by
  have M:=hj3 hn i;have N:=qx w0 lh sl nS ds i;unfold Dl;rw[N];cases hd:ds[i]? with
  |none=>rw[hd]at M;dsimp only at M ⊢;rw[M];exact⟨λj=>by simp,λk hk=>by cases hk⟩|some d=>rw[hd]at M;exact Ab hh hV Qb M
 exact⟨λi=>(key i).1,λi=>(key i).2⟩
theorem arB {WsS:List (List Nat)} {un:List Nat} {j:Nat}:j∈HI WsS un↔∃u,u∈un/\j∈Dl WsS u:=by unfold HI;simp[List.mem_flatMap]
def ar4 (w0:World) (Q1:FuncId->ca) (LP:fD) (cp:FuncId->List V->List Ax->(V->Bh α)->Bh α):Prop:=∀ (f:FuncId) (vs:List V) (h:List Ax) (At:V->Bh α) (Q2:α->Prop) (ν:Nu) (nV nS:Nat) (args:List ak) (lh:List ar) (KA:ak->List ar->Prop),
 bI w0 ν.z ν vs args->HR w0 ν nV nS h lh->bT LP (cp f vs h At) Q2->(∀v a,vr w0 ν.z ν v a->bT LP (At v) Q2->KA a lh)->Q1 f w0 args lh KA
def xF (w0:World) (Q1:FuncId->ca) (LP:fD) (cp:CP α):Prop:=ar4 w0 Q1 LP (cp false)/\uC w0 (zA Q1) LP false (λf vs h At=>cp true f vs h λv=>At v h)
theorem xF.cf {cp:CP α} (hc:xF w0 Q1 LP cp) (md:Bool):uC w0 Q1 LP md (λf vs h At=>cp false f vs h λv=>At v h):=λf vs h At Q2 ν nV nS args lh KA M N h3 h4=>
 hc.1 f vs h _ Q2 ν nV nS args lh KA M N h3 λv a hv hs=>h4 v h ν a lh (λ_=>⟨rfl,rfl,rfl⟩) (Nu.sub_refl ν) N hv hs
theorem hro {op:l7} {pl:Option Nat} {KA:ak->List ar->Prop} (R0:mC op=true) (hv:dK w0 Q1 sl lh none KA op):dK w0 Q1 sl lh pl KA op:=by cases op<;>first|exact hv|cases R0
def BZ (QG:Nat):List jd->Bool
 |[]=>true|d::l=>(match d.o.dst with|some d=>Nat.blt d QG|none=>true)&&BZ QG l
theorem swF {QG:Nat} {d:jd} {l:List jd} (hd:BZ QG (d::l)=true):(∀i,d.o.dst=some i->i<QG)/\BZ QG l=true:=by simp[BZ,D2]at hd;refine⟨λi hi=>?_,hd.2⟩;rw[hi]at hd;exact Dc hd.1
theorem xr {Ws:List (List Nat)} {QY:List Nat} {all:List jd} {j:Nat}:∀ {l:List jd} {i:Nat},(∀ t,l[t]? = all[i+t]?)->xX Ws QY l i j=true->∀ i',i<=i'->i'<j->(match all[i']? with|some d=>d.rk.isSome|none=>false)=true ->
 (∀k,k∈dY Ws i'->k∉QY)∨∀k,k∈dY Ws i'->k∈QY
 |[],i,hl,hc,i',M,N,h3=>by have:=hl (i'-i);rw[show i+(i'-i)=i' by omega]at this;rw[← this]at h3;simp at h3
 |d::l,i,hl,hc,i',M,N,h3=>by
   simp[xX]at hc;have hb:Nat.blt i j=true:=Ey (by omega:i+1<=j);rw[hb]at hc;simp[cond_true,D2]at hc;have h0:=hl 0;simp[Ew,GE]at h0;by_cases e1:i'=i
   ·subst e1
    rw[← h0]at h3;dsimp only at h3;cases hr:d.rk with
    |none=>rw[hr]at h3;cases h3
    |some r=>
      have Td:=hc.1;rw[hr]at Td;simp[Gy]at Td;rcases Td with Pw|Pw
      ·exact .inl (xf.1 Pw)
      ·exact .inr (ya.1 Pw)
   ·exact xr (λt=>by have:=hl (t+1);rw[Eu]at this;rw[this,show i+(t+1)=i+1+t by omega]) hc.2 i' K N h3
theorem abO {Ws:List (List Nat)} {all:List jd}:∀ {l:List jd} {j:Nat},(∀ t,l[t]? = all[j+t]?)->Ad Ws all l j=true->∀ j' d,j<=j'->all[j']? = some d->xX Ws (dY Ws j') all 0 j'=true/\xX Ws (o4 Ws d.un) all 0 j'=true
 |[],j,hl,hc,j',d,M,N=>by have:=hl (j'-j);rw[show j+(j'-j)=j' by omega,N]at this;simp at this
 |d::l,j,hl,hc,j',d',M,N=>by
   simp[Ad,D2]at hc;have h0:=hl 0;simp[Ew,GE]at h0;by_cases e1:j'=j
   ·subst e1;rw[← h0]at N;cases N;exact hc.1
   ·exact abO (λt=>by have:=hl (t+1);rw[Eu]at this;rw[this,show j+(t+1)=j+1+t by omega]) hc.2 j' d' K N
theorem uL {Ws:List (List Nat)} {all:List jd}:∀ {l:List jd} {j:Nat},(∀ t,l[t]? = all[j+t]?)->vb Ws l j=true->∀ j' d,j<=j'->all[j']? = some d->∀ k,k∈dY Ws j'->k∉o4 Ws d.un
 |[],j,hl,hc,j',d,M,N=>by have:=hl (j'-j);rw[show j+(j'-j)=j' by omega,N]at this;simp at this
 |d::l,j,hl,hc,j',d',M,N=>by
   simp[vb,D2]at hc;have h0:=hl 0;simp[Ew,GE]at h0;by_cases e1:j'=j
   ·subst e1;rw[← h0]at N;cases N;exact xf.1 hc.1
   ·exact uL (λt=>by have:=hl (t+1);rw[Eu]at this;rw[this,show j+(t+1)=j+1+t by omega]) hc.2 j' d' K N
def KQ (ds:List jd) (i:Nat):Bool:=match ds[i]? with|some d=>d.rk.isSome|none=>false
theorem nF {cp:CP α} (SS:xF w0 Q1 LP cp) {ds:List jd} {Ws WsS:List (List Nat)} (H0:HR w0 ν0 nV nS h0 lh0) (hS:nS=lh0.length) (hw:WR ν0 nV nS h0 Ws WsS) (hcons:Ad Ws ds ds 0=true) (hall:vb Ws ds 0=true) :
 ∀(rest:List jd) (i:Nat) (e:bS) (h:List Ax) (ν:Nu) (sl:List ak) (lh:List ar) (At:bS->List Ax->Bh α) (KA:List ak->List ar->Prop),(∀t,rest[t]? = ds[i+t]?)->BZ QG rest=true ->
 DI w0 ν0 h0 nV nS Ws (KQ ds) i ν h lh->gU w0 ν QG e sl->bT LP (fT cp Ws nV rest i e h At) Q2 ->
 (∀e' h' ν' sl' lh',ν.sub ν'->gU w0 ν' QG e' sl'->HR w0 ν' nV nS h' lh'->bT LP (At e' h') Q2->KA sl' lh')->kw w0 Q1 WsS nS KA rest i sl lh
 |[],i,e,h,ν,sl,lh,At,KA,hr,hd,SH,Qb,hs,hK=>hK e h ν sl lh (Nu.sub_refl ν) Qb SH.hr hs
 |d::rest,i,e,h,ν,sl,lh,At,KA,hr,hd,SH,Qb,hs,hK=>by
   let ⟨Tp,Tq⟩:=swF hd
   have hdsi:ds[i]? = some d:=by have:=hr 0;simpa using this.symm
   have Vm:∀t,rest[t]? = ds[i+1+t]? := λt=>by have:=hr (t+1);rw[Eu]at this;rw[this,show i+(t+1)=i+1+t by omega]
   let ⟨Td,Ut⟩:=abO (j:=0) (λt=>by simp) hcons i d (Da _) hdsi
   have hdis:=uL (j:=0) (λt=>by simp) hall i d (Da _) hdsi;have hCW:GD Ws (KQ ds) i (dY Ws i):=λi' M N=>xr (i:=0) (λt=>by simp) Td i' (Da _) M N;have hCX:GD Ws (KQ ds) i (o4 Ws d.un):=λi' M N=>xr (i:=0) (λt=>by simp) Ut i' (Da _) M N;have hXw:∀k,k∈o4 Ws d.un->∃u,k∈dY Ws u:=λk hk=>by let ⟨u,_,g⟩:=nE.1 hk;exact⟨u,g⟩
   have hXS:∀ j,j∈HI WsS d.un↔∃ k,k∈o4 Ws d.un/\ud ν0 nV nS k=some j:=λj=>by
    rw[arB];constructor
    ·rintro⟨u,M,N⟩
     let ⟨k,g1,g2⟩:=(hw.rel u j).1 N
     exact⟨k,nE.2 ⟨u,M,g1⟩,g2⟩
    ·rintro⟨k,M,N⟩
     let ⟨u,g1,g2⟩:=nE.1 M
     exact⟨u,g1,(hw.rel u j).2 ⟨k,g2,N⟩⟩
   have hhid:=SH.hide H0 hS hw hCX hXw hXS;have hsucc:DI w0 ν0 h0 nV nS Ws (KQ ds) (i+1) ν h lh:=⟨SH.hr,SH.old,SH.zc,SH.liv,λk x M N=>by
    rcases SH.nw k x M N with g|⟨a,b,g1,g2,g3⟩
    ·exact .inl g
    ·exact .inr ⟨a,b,g1,K,g3⟩⟩
   have hmixid:mix (Dl WsS i) lh (hide (HI WsS d.un) lh)=lh:=by
    apply F4;intro j;rw[xh];cases hg:lh[j]? with
    |none=>rfl
    |some o=>
      simp only[E2];by_cases hj:j∈Dl WsS i
      ·rw[CV hj]
       simp only[List.getD,Ls,hg,E2,K7];rw[C4];intro hx
       let ⟨k,g1,g2⟩:=(hw.rel i j).1 hj
       let ⟨k',g3,g4⟩:=(hXS j).1 hx
       let ⟨u,_,g5⟩:=nE.1 g3
       have:=wH H0 hS (λQ7=>hw.live i k g1 Q7) (λQ7=>hw.live u k' g5 Q7) g2 g4;subst this;exact hdis k g1 g3
      ·rw[C4 hj]
   have run:∀ {e0:bS} {ctx:Bool} {QW:V->V},ctx=true->(∀ v a,vr w0 ν.z ν v a->vr w0 ν.z ν (QW v) a)->mC d.o.op=true->gU w0 ν QG e0 sl ->
    bT LP (CK (λf vs h At=>cp false f vs h λv=>At v h) ctx none d.o.op e0 (kz (o4 Ws d.un) h) λv _=>fT cp Ws nV rest (i+1) (eM e0 d.o.dst (QW v)) h At) Q2 ->
    dK w0 Q1 sl (hide (HI WsS d.un) lh) (d.rk.map (nS+·)) (λv l=>kT (Dl WsS i) l (hide (HI WsS d.un) lh)/\kw w0 Q1 WsS nS KA rest (i+1) (fk sl d.o.dst v) (mix (Dl WsS i) lh l)) d.o.op:=by
    intro e0 ctx QW hc hWv R0 UK hs;refine hro R0 (Cf (md:=false) (wn:=[]) UK hhid hc (SS.cf false) (.inl ⟨rfl,rfl⟩) (λe=>by cases e) hs λv h' ν' a lh' _ Pw g1 g2 g3 g4=>?_);obtain⟨rfl,rfl,rfl⟩:=Pw R0;refine⟨⟨rfl,λ_ _=>rfl⟩,?_⟩;rw[hmixid];exact nF SS H0 hS hw hcons hall rest (i+1) _ _ _ _ _ At KA Vm Tq hsucc (UK.put d.o.dst Tp (hWv _ _ g3)) g4 hK
   have runM:∀ {e0:bS},gU w0 ν QG e0 sl->bT LP (Jd cp Ws nV d i e0 h λv h=>fT cp Ws nV rest (i+1) (eM e0 d.o.dst v) h At) Q2 ->
    dK w0 Q1 sl (hide (HI WsS d.un) lh) (d.rk.map (nS+·)) (λv l=>kT (Dl WsS i) l (hide (HI WsS d.un) lh)/\kw w0 Q1 WsS nS KA rest (i+1) (fk sl d.o.dst v) (mix (Dl WsS i) lh l)) d.o.op:=by
    intro e0 UK hs;unfold Jd at hs;split at hs
    ·rename_i R0;exact run (QW:=id) rfl (λ_ _ h=>h) R0 UK hs
    ·rename_i R0
     split at hs
     ·exact hs.elim
     ·rename_i l hl
      cases WN:G1 (Lf (d.rk.map (nV+·)) l) (dY Ws i) with
      |false=>rw[WN]at hs;exact hs.elim
      |true=>
        rw[WN]at hs;simp only[cond_true]at hs;have WN:=ya.1 WN;have iy20:∀ k,k∈l->k∈dY Ws i:=λk hk=>WN k (by unfold Lf;split<;>simp[hk]);have iza3:KM nV nS (d.rk.map (nV+·)) (d.rk.map (nS+·)):=by
         cases hr:d.rk with
         |none=>exact .inl ⟨rfl,rfl⟩|some r=>exact .inr ⟨nV+r,rfl,au⟩
        refine Cf (md:=true) (wn:=dY Ws i) UK hhid rfl (SS.cf true) iza3 (λ_=>⟨l,hl,iy20⟩) hs λv h' ν' a lh' hm _ g1 g2 g3 g4=>?_
        let ⟨q1,q2⟩:=SH.mix H0 hS hw hCX hCW hdis hhid (pl:=d.rk.map (nV+·)) (plA:=d.rk.map (nS+·)) (λp hp=>by
         cases hr:d.rk with
         |none=>rw[hr]at hp;cases hp
         |some r=>rw[hr]at hp;simp only[E2,DJ]at hp;subst hp;refine⟨WN _ (by rw[hr];simp[Lf]),K,au,?_⟩;unfold KQ;rw[hdsi];dsimp only;rw[hr];rfl) (λhp=>by
         cases hr:d.rk with
         |none=>rfl|some r=>rw[hr]at hp;cases hp) g1 g2 (hm rfl)
        exact⟨q1,nF SS H0 hS hw hcons hall rest (i+1) _ _ _ _ _ At KA Vm Tq q2 ((UK.mono g1).put d.o.dst Tp g3) g4 λe' h' ν'' sl' lh' k1=>hK e' h' ν'' sl' lh' (Nu.sub_trans g1 k1)⟩
   have skip:∀{e0:bS},gU w0 ν QG e0 sl->bT LP (fT cp Ws nV rest (i+1) (eM e0 d.o.dst (.tup [])) h At) Q2->kw w0 Q1 WsS nS KA rest (i+1) (fk sl d.o.dst (.tup [])) lh:=by intro e0 UK hs;exact nF SS H0 hS hw hcons hall rest (i+1) _ _ _ _ _ At KA Vm Tq hsucc (UK.put d.o.dst Tp BC) hs hK
   have skipS:∀ {b:Bool},mC d.o.op=true->b=false->bT LP (CK (λf vs h At=>cp false f vs h λv=>At v h) b none d.o.op e (kz (o4 Ws d.un) h) λv _=>fT cp Ws nV rest (i+1) (eM e d.o.dst (.gd b v)) h At) Q2->kw w0 Q1 WsS nS KA rest (i+1) (fk sl d.o.dst (.tup [])) lh:=by
    intro b R0 hb hs
    let ⟨v,g⟩:=auJ hb R0 hs
    exact nF SS H0 hS hw hcons hall rest (i+1) _ _ _ _ _ At KA Vm Tq hsucc (Qb.put d.o.dst Tp (ahb hb)) g hK
   simp only[fT]at hs;simp only[kw,Mv,pY];split at hs
   ·rename_i hg;rw[hg];exact runM Qb hs
   ·rename_i g want hg
    rw[hg];dsimp only
    have Qh:=Qb.at' g;split at hs
    ·rename_i b hb
     rw[hb]at Qh;simp only[vr]at Qh;rw[Qh];dsimp only
     split at hs
     ·rename_i he _;subst he;exact⟨λ_=>runM Qb hs,λe=>by cases b<;>cases e⟩
     ·rename_i he _;exact⟨λe=>(he e).elim,λe=>skip Qb hs⟩
    ·rename_i l hb
     rw[hb]at Qh;simp only[vr]at Qh
     let ⟨az,Qh,_⟩:=Qh
     rw[Qh];exact skip Qb hs
    ·rename_i k n hb;rw[hb]at Qh;simp only[vr]at Qh;rw[Qh];exact skip Qb hs
    ·rename_i b hb
     rw[hb]at Qh;simp only[vr]at Qh;rw[Qh];dsimp only
     split at hs
     ·rename_i R0;exact⟨λe1=>run (we e1) (λ_ _ hv=>Bn (we e1) hv) R0 Qb hs,λe1=>skipS R0 (zI e1) hs⟩
     ·simp only[bT]at hs;exact⟨λe1=>runM (Qb.know (by simp only[vr];rw[Qh,e1])) (hs.1 (we e1)),λe1=>skip (Qb.know (by simp only[vr];rw[Qh,e1])) (hs.2 (zI e1))⟩
    ·rename_i c v hb
     rw[hb]at Qh;simp only[vr]at Qh;split at hs
     ·split at hs
      ·have hl:∃ l,sl.getD g .any=.tup l:=by
        cases c with
        |false=>exact Qh.2 rfl|true=>have:=Qh.1 rfl;simp only[vr]at this;let ⟨l,e,_⟩:=this;exact⟨l,e⟩
       let ⟨l,hl⟩:=hl
       rw[hl];exact skip Qb hs
      ·exact hs.elim
     ·rename_i b Y2
      cases c with
      |false=>
        let ⟨l,hl⟩:=Qh.2 rfl
        rw[hl];dsimp only
        split at hs
        ·rename_i R0;exact skipS R0 rfl hs
        ·simp only[bT]at hs;exact skip Qb (hs.2 rfl)
      |true=>
        have Qh:=pE (Qh.1 rfl) Y2;rw[Qh];dsimp only
        split at hs
        ·rename_i R0;exact⟨λe1=>run (by rw[we e1];rfl) (λ_ _ hv=>Bn (by rw[we e1];rfl) hv) R0 Qb hs,λe1=>skipS R0 (by rw[zI e1];rfl) hs⟩
        ·simp only[bT]at hs;exact⟨λe1=>runM (Qb.know (by simp only[vr];rw[Qh,e1])) (hs.1 (by rw[we e1];rfl)),λe1=>skip Qb (hs.2 (by rw[zI e1];rfl))⟩
    ·exact hs.elim
theorem uT {cp:CP α} (SS:xF w0 Q1 LP cp) {ds:List jd} {a b:Nat} {At:bS->List Ax->Bh α} {KA:List ak->List ar->Prop} (hd:BZ QG ds=true) (Qb:gU w0 ν QG e sl) (hh:HR w0 ν a b h lh)
 (hs:bT LP (xk cp ds e h At) Q2) (hK:∀e' h' ν' sl' lh' nV nS,ν.sub ν'->gU w0 ν' QG e' sl'->HR w0 ν' nV nS h' lh'->bT LP (At e' h') Q2->KA sl' lh'):ox w0 Q1 ds sl lh KA:=by
 unfold xk at hs;split at hs
 ·exact hs.elim
 ·rename_i Ws hW
  cases hc:(vb Ws ds 0&&Ad Ws ds ds 0) with
  |false=>rw[hc]at hs;exact hs.elim
  |true=>
    rw[hc]at hs;simp[cond_true]at hs;simp[D2]at hc;have hlen:cg h=(undead h).length:=by rw[b6,rF]
    rw[hlen]at hs hW;have H0:=hh.undead (undead h).length lh.length;have hw:=apj H0 rfl Qb hW;have yaz:=H0.deads rfl rfl (Rf ds);rw[mJ]at hs;refine⟨?_,?_⟩
    ·-- the sets are apart there,too
     have gen:∀ (l:List jd) (j:Nat),(∀ t,l[t]? = ds[j+t]?)->EX (mB w0 lh sl lh.length ds) l j:=by
      intro l;induction l with
      |nil=>intro j _;trivial
      |cons d l ih=>
        intro j hl;have im13:ds[j]? = some d:=by have:=hl 0;simpa using this.symm
        have hdis:=uL (j:=0) (λt=>by simp) hc.1 j d (Da _) im13;refine⟨?_,ih (j+1) λt=>by have:=hl (t+1);rw[Eu]at this;rw[this,show j+(t+1)=j+1+t by omega]⟩;have disj_of:∀ (Qa B:List Nat),(∀ k,k∈Qa->k∉B)->Kd Qa B:=by
         intro Qa B hAB;induction Qa with
         |nil=>trivial
         |cons x Qa ihA=>
           refine⟨?_,ihA λk hk=>hAB k (EQ _ hk)⟩;have hx:=hAB x G7;clear ihA hAB;induction B with
           |nil=>trivial|cons y B ihB=>exact⟨λe=>hx (by rw[e];exact G7),ihB λhm=>hx (EQ _ hm)⟩
        refine disj_of _ _ λs U5 U6=>?_
        let ⟨k,g1,g2⟩:=(hw.rel j s).1 U5
        let ⟨u,g3,g4⟩:=arB.1 U6
        let ⟨k',g5,g6⟩:=(hw.rel u s).1 g4
        have:=wH H0 rfl (λQ7=>hw.live j k g1 Q7) (λQ7=>hw.live u k' g5 Q7) g2 g6;subst this;exact hdis k g1 (nE.2 ⟨u,g3,g5⟩)
     exact gen ds 0 λt=>by simp
    ·refine nF SS H0 rfl hw hc.2 hc.1 ds 0 e _ ν sl _ At KA (λt=>by simp) hd ⟨yaz,λ_ _=>rfl,rfl,λk hk hl=>?_,λk x hk hx=>?_⟩ Qb hs λe' h' ν' sl' lh'=>hK e' h' ν' sl' lh' _ _
     ·unfold bk fj at *
      rw[DG]at *
      rw[DW hk]at hl;exact hl
     ·rw[H0.dom k hk]at hx;cases hx
end
def jb (QG:Nat):List o3->Bool
 |[]=>true|.op o::l=>pF QG [o]&&jb QG l|.yld _ d _::l=>(match d with|some d=>Nat.blt d QG|none=>true)&&jb QG l|.yldG _ _ _ d _::l=>(match d with|some d=>Nat.blt d QG|none=>true)&&jb QG l
def tD (QG:Nat):jq->Bool
 |.reg ops=>jb QG ops|.draw ds=>BZ QG ds|.drawY ds xs=>BZ QG ds&&jb QG xs|.seq a b=>tD QG a&&tD QG b|.cond _ a b=>tD QG a&&tD QG b|.block _ b=>tD QG b|.loop b=>tD QG b|.scope b=>tD QG b|_=>true
def Cn:List iU->Bool
 |[]=>true|it::l=>tD it.ntmps it.body&&Cn l
def xu (QG:Nat):List Nat->Bool
 |[]=>true|p::l=>Nat.blt p QG&&xu QG l
def vq (QG:Nat):OT->Bool
 |.done=>true|.op o r=>pF QG [o]&&vq QG r|.alt a b=>vq QG a&&vq QG b
def gm (QG:Nat):hG->Bool
 |.reg ops=>pF QG ops|.draw ds=>BZ QG ds|.allo t=>vq QG t|.alloq t=>vq QG t|.seq a b=>gm QG a&&gm QG b|.cond _ a b=>gm QG a&&gm QG b|.block _ b=>gm QG b|.loop b=>gm QG b|.scope b=>gm QG b|.range _ ps a b C3=>xu QG ps&&(gm QG a&&(gm QG b&&Cn C3))|_=>true
def DO (nb:Nat) (ν ν':Nu):Prop:=(∀k x,k<nb->ν k=some x->ν' k=some x)/\wY ν.z ν'.z
theorem DO.refl (nb:Nat) (ν:Nu):DO nb ν ν:=⟨λ_ _ _ h=>h,nh _⟩
theorem DO.trans {nb:Nat} {a b c:Nu} (h:DO nb a b) (k:DO nb b c):DO nb a c:=⟨λi x hi hx=>k.1 i x hi (h.1 i x hi hx),qt h.2 k.2⟩
theorem DO.of {ν ν':Nu} (h:ν.sub ν') (nb:Nat):DO nb ν ν':=⟨λk x _ hx=>h.1 k x hx,h.2⟩
theorem DO.sub {ν ν':Nu} {nb:Nat} (h:DO nb ν ν') (hd:∀ k,nb<=k->ν k=none):ν.sub ν':=⟨λk x hx=>(by
 rcases Fa k nb with hk|hk
 ·exact h.1 k x hk hx
 ·rw[hd k hk]at hx;exact absurd hx au),h.2⟩
def My (w0:World) (nb N0:Nat) (e0:bS) (S9:List ak) (ν:Nu):Prop:=∃ν0:Nu,(∀k,nb<=k->ν0 k=none)/\gU w0 ν0 N0 e0 S9/\ν0.sub ν
theorem My.step {w0:World} {nb N0:Nat} {e0:bS} {S9:List ak} {ν ν':Nu} (h:My w0 nb N0 e0 S9 ν) (hn:DO nb ν ν'):My w0 nb N0 e0 S9 ν':=by
 let ⟨ν0,M,N,h3⟩:=h
 exact⟨ν0,M,N,DO.sub ⟨λk x hk hx=>hn.1 k x hk (h3.1 k x hx),qt h3.2 hn.2⟩ M⟩
theorem My.get {w0:World} {nb N0:Nat} {e0:bS} {S9:List ak} {ν:Nu} (h:My w0 nb N0 e0 S9 ν):gU w0 ν N0 e0 S9:=let ⟨_,_,N,h3⟩:=h;N.mono h3
def YA (w0:World) (Q1:FuncId->ca) (ps:List Nat) (asg body:hG) (S9:List ak):YH:=λxs lh At=>xs.length=ps.length/\cJ w0 Q1 lh.length asg (mz S9 ps xs) lh (vY (λsl lh'=>cJ w0 Q1 lh.length body sl lh' λx _ lh=>At x lh) λ_ _ _=>False)
abbrev D6:=Nat->FuncId->ca
def dN (w0:World) (Q1:D6):fD:=λfr b e h g D5=>match b with
 | .s body=>∀ (QG nbS:Nat) (ν:Nu) (nV nS:Nat) (sl:List ak) (lh:List ar) (QA:Ex->List ak->List ar->Prop),gm QG body=true->gU w0 ν QG e sl->HR w0 ν nV nS h lh ->
   (∀ex e' h' ν' sl' lh' nV' nS',DO fr.2 ν ν'->gU w0 ν' QG e' sl'->HR w0 ν' nV' nS' h' lh'->D5 ex e' h' none->QA ex sl' lh')->cJ w0 (Q1 fr.1) nbS (.loop body) sl lh QA
 | .i body rd=>∀ (QG N0:Nat) (ν:Nu) (nV nS:Nat) (sl S9:List ak) (lh:List ar) (QA:IQ),tD QG body=true->xu N0 rd.ps=true->gm N0 rd.asg=true->gm N0 rd.body=true->gU w0 ν QG e sl->My w0 fr.2 N0 rd.e0 S9 ν->HR w0 ν nV nS h lh ->
   (∀ex e' h' g' ν' sl' lh' nV' nS',DO fr.2 ν ν'->gU w0 ν' QG e' sl'->HR w0 ν' nV' nS' h' lh'->D5 ex e' h' g'->QA ex sl' lh' g')->lX w0 (Q1 fr.1) rd.l (YA w0 (Q1 fr.1) rd.ps rd.asg rd.body S9) (.loop body) sl lh g QA
section
variable {w0:World} {Q1:D6} {α:Type} {Q2:α->Prop} {cf:CF α} {cp:CP α}
theorem u3 {ν:Nu} {QG:Nat}:∀ (ps:List Nat) (e:bS) (sl:List ak) (vs:List V) (az:List ak),xu QG ps=true->gU w0 ν QG e sl->bI w0 ν.z ν vs az->vs.length=ps.length->gU w0 ν QG (rS e ps vs) (mz sl ps az)
 |[],e,sl,vs,az,_,h,_,_=>by cases vs<;>simpa[rS,mz] using h
 |p::ps,e,sl,[],az,_,_,_,hl=>by cases hl
 |p::ps,e,sl,v::vs,az,hp,h,hv,hl=>by simp[bI]at hv;obtain⟨x,xs,rfl,M,N⟩:=hv;simp[xu,D2]at hp;simp[rS,mz];exact u3 ps _ _ vs xs hp.2 (h.set (by simpa[Nat.blt_eq] using hp.1) M) N (by simpa using hl)
def Ql (w0:World) (LP:fD) (Q2:α->Prop) (nb N0:Nat) (e0:bS) (S9:List ak) (QY:YV α) (YS:YH):Prop :=
 ∀ (vs:List V) (h:List Ax) (ν:Nu) (nV nS:Nat) (args:List ak) (lh:List ar) (At:Ex->List Ax->Bh α) (KA:Ex->List ar->Prop),My w0 nb N0 e0 S9 ν->HR w0 ν nV nS h lh->bI w0 ν.z ν vs args->bT LP (QY vs h At) Q2 ->
  (∀x h' ν' nV' nS' lh',ν.sub ν'->HR w0 ν' nV' nS' h' lh'->bT LP (At x h') Q2->KA x lh')->YS args lh KA
section it
variable {LP:fD} {nb QG N0 lv:Nat} {rd:RD} {QY:YV α} {YS:YH} {S9:List ak} {un:l8}
theorem jf0 {l:Nat} (hY:Ql w0 LP Q2 nb N0 rd.e0 S9 QY YS) {t:Nat} {d:Option Nat} {xs:List gk} {e:bS} {h:List Ax} {g:Option Ex} {ν:Nu} {nV nS:Nat} {sl:List ak} {lh:List ar} {Qv:bS->List Ax->Option Ex->Bh α} {KA:List ak->List ar->Option Ex->Prop} (Sb:∀ i,d=some i->i<QG)
 (M:gU w0 ν QG e sl) (hx:My w0 nb N0 rd.e0 S9 ν) (N:HR w0 ν nV nS h lh) (h3:bT LP (Mb l QY t d xs e h g Qv) Q2)
 (h4:∀e' h' g' ν' sl' lh' nV' nS',ν.sub ν'->gU w0 ν' QG e' sl'->HR w0 ν' nV' nS' h' lh'->bT LP (Qv e' h' g') Q2->KA sl' lh' g'):g=none/\sl.getD t .any=ks l/\YS (xs.map (arg sl)) lh (ZE KA sl d):=by
 unfold Mb at h3
 let ⟨u,hu,h3⟩:=Fy rfl (M.at' t) h3
 split at h3
 ·rename_i l'
  simp only[bT]at h3;obtain⟨he,h3⟩:=h3;simp only[Dh,V.yl.injEq,and_true]at he;subst he;obtain⟨us,k1,k2⟩:=mD M rfl h3;have h0:=hu;simp[vr]at h0;refine⟨rfl,h0,?_⟩;refine hY us h ν nV nS _ lh _ _ hx N k1 k2 λx h' ν' nV' nS' lh' g1 g2 g3=>?_;have hp:∀b,gU w0 ν' QG (eM e d (.kb b)) (fk sl d (.bool b)):=λb=>(M.mono g1).put d Sb (by simp[vr]);cases x with
  |normal=>exact h4 _ _ _ _ _ _ _ _ g1 (hp true) g2 g3|exit i=>exact h4 _ _ _ _ _ _ _ _ g1 (hp false) g2 g3|ret=>exact h4 _ _ _ _ _ _ _ _ g1 (hp false) g2 g3
 ·exact h3.elim
theorem iB {S1:FuncId->ca} {l:Nat} (Rh:uC w0 S1 LP false cf) (hY:Ql w0 LP Q2 nb N0 rd.e0 S9 QY YS):∀ (ops:List o3) (e:bS) (h:List Ax) (g:Option Ex) (ν:Nu) (nV nS:Nat) (sl:List ak) (lh:List ar) (At:bS->List Ax->Option Ex->Bh α) (KA:List ak->List ar->Option Ex->Prop),jb QG ops=true ->
 gU w0 ν QG e sl->My w0 nb N0 rd.e0 S9 ν->HR w0 ν nV nS h lh->bT LP (dR cf l QY ops e h g At) Q2->(∀e' h' g' ν' sl' lh' nV' nS',DO nb ν ν'->gU w0 ν' QG e' sl'->HR w0 ν' nV' nS' h' lh'->bT LP (At e' h' g') Q2->KA sl' lh' g')->cN w0 S1 l YS ops sl lh g KA
 |[],e,h,g,ν,nV,nS,sl,lh,At,KA,_,M,_,N,h3,h4=>h4 _ _ _ _ _ _ _ _ (DO.refl _ _) M N h3
 |.op o::rest,e,h,g,ν,nV,nS,sl,lh,At,KA,hd,M,hx,N,h3,h4=>by simp[jb,D2]at hd;simp[dR]at h3;simp[cN];exact lV Rh [o] e h ν sl lh _ _ hd.1 M N h3 λe' h' ν' sl' lh' k0 k1 k2 k3=>iB Rh hY rest e' h' g ν' nV nS sl' lh' At KA hd.2 k1 (hx.step (DO.of k0 _)) k2 k3 λe2 N g2 ν2 TF lh2 nV2 nS2 q0=>h4 e2 N g2 ν2 TF lh2 nV2 nS2 ((DO.of k0 _).trans q0)
 |.yld t d xs::rest,e,h,g,ν,nV,nS,sl,lh,At,KA,hd,M,hx,N,h3,h4=>by
   simp[jb,D2]at hd;simp[dR]at h3;split at h3
   ·rename_i l' hy
    simp only[bT]at h3
    let ⟨he,h3⟩:=h3
    simp only[Dh,V.yl.injEq,and_true]at he;subst he
    let ⟨us,k1,k2⟩:=mD M rfl h3
    have h0:=M.at' t;rw[hy]at h0;simp[vr]at h0;simp only[cN];refine⟨trivial,h0,?_⟩;have Sb:∀i,d=some i->i<QG:=λi hi=>by subst hi;simpa[Nat.blt_eq] using hd.1
    refine hY us h ν nV nS _ lh _ _ hx N k1 k2 λx h' ν' nV' nS' lh' g1 g2 g3=>?_;have hp:∀b,gU w0 ν' QG (eM e d (.kb b)) (fk sl d (.bool b)):=λb=>(M.mono g1).put d Sb (by simp[vr]);cases x with
    |normal=>exact iB Rh hY rest _ h' none ν' nV' nS' _ lh' At KA hd.2 (hp true) (hx.step (DO.of g1 _)) g2 g3 λe2 N g2 ν2 TF lh2 nV2 nS2 q0=>h4 e2 N g2 ν2 TF lh2 nV2 nS2 ((DO.of g1 _).trans q0)
    |exit i=>exact iB Rh hY rest _ h' _ ν' nV' nS' _ lh' At KA hd.2 (hp false) (hx.step (DO.of g1 _)) g2 g3 λe2 N g2 ν2 TF lh2 nV2 nS2 q0=>h4 e2 N g2 ν2 TF lh2 nV2 nS2 ((DO.of g1 _).trans q0)
    |ret=>exact iB Rh hY rest _ h' _ ν' nV' nS' _ lh' At KA hd.2 (hp false) (hx.step (DO.of g1 _)) g2 g3 λe2 N g2 ν2 TF lh2 nV2 nS2 q0=>h4 e2 N g2 ν2 TF lh2 nV2 nS2 ((DO.of g1 _).trans q0)
   ·exact h3.elim
 |.yldG d want t dst xs::rest,e,h,g,ν,nV,nS,sl,lh,At,KA,hd,M,hx,N,h3,h4=>by
   simp[jb,D2]at hd;have Sb:∀i,dst=some i->i<QG:=λi hi=>by have:=hd.1;subst hi;simpa[Nat.blt_eq] using this
   have next:∀ (e':bS) (h':List Ax) (g':Option Ex) (ν':Nu) (sl':List ak) (lh':List ar) (nV' nS':Nat),ν.sub ν'->gU w0 ν' QG e' sl'->HR w0 ν' nV' nS' h' lh'->bT LP (dR cf l QY rest e' h' g' At) Q2->cN w0 S1 l YS rest sl' lh' g' KA :=
    λe' h' g' ν' sl' lh' nV' nS' g1 k1 k2 k3=>iB Rh hY rest e' h' g' ν' nV' nS' sl' lh' At KA hd.2 k1 (hx.step (DO.of g1 _)) k2 k3 λe2 N g2 ν2 TF lh2 nV2 nS2 q0=>h4 e2 N g2 ν2 TF lh2 nV2 nS2 ((DO.of g1 _).trans q0)
   have go:∀ {e0:bS},gU w0 ν QG e0 sl->bT LP (Mb l QY t dst xs e0 h g λe h g=>dR cf l QY rest e h g At) Q2->g=none/\sl.getD t .any=ks l/\YS (xs.map (arg sl)) lh (ZE (λsl lh g=>cN w0 S1 l YS rest sl lh g KA) sl dst) :=
    λtF hs=>jf0 hY Sb tF hx N hs next
   have skip:∀ {e0:bS},gU w0 ν QG e0 sl->bT LP (dR cf l QY rest (eM e0 dst (.tup [])) h g At) Q2->cN w0 S1 l YS rest (fk sl dst (.tup [])) lh g KA :=
    λtF hs=>next _ _ _ ν _ _ nV nS (Nu.sub_refl ν) (tF.put dst Sb BC) N hs
   simp[dR]at h3;simp[cN];have Qh:=M.at' d;split at h3
   ·rename_i b hb
    rw[hb]at Qh;simp[vr]at Qh;rw[Qh];dsimp only
    split at h3
    ·rename_i he _;subst he;exact⟨λ_=>by rw[dp Qh au];exact go M h3,λe=>by cases b<;>cases e⟩
    ·rename_i he _;exact⟨λe=>(he e).elim,λe=>by rw[← e,dp Qh au];exact skip M h3⟩
   ·rename_i l1 hb
    rw[hb]at Qh;simp[vr]at Qh
    let ⟨az,Qh,_⟩:=Qh
    rw[Qh];dsimp only
    rw[dp Qh au];exact skip M h3
   ·rename_i k n hb;rw[hb]at Qh;simp[vr]at Qh;rw[Qh];exact skip M h3
   ·rename_i b hb
    rw[hb]at Qh;simp[vr]at Qh;rw[Qh];dsimp only
    simp[bT]at h3;refine⟨λe1=>?_,λe1=>?_⟩
    ·rw[← e1,dp Qh au];exact go (M.know (by simp[vr];rw[Qh,e1])) (h3.1 (we e1))
    ·rw[← e1,dp Qh au];exact skip (M.know (by simp[vr];rw[Qh,e1])) (h3.2 (zI e1))
   ·rename_i c v hb
    rw[hb]at Qh;simp[vr]at Qh;split at h3
    ·exact h3.elim
    ·rename_i b Y2
     simp only[bT]at h3;cases c with
     |false=>
       let ⟨l1,hl⟩:=Qh.2 rfl
       rw[hl];dsimp only
       rw[dp hl au];exact skip M (h3.2 rfl)
     |true=>
       have Qh:=pE (Qh.1 rfl) Y2;rw[Qh];dsimp only
       refine⟨λe1=>?_,λe1=>?_⟩
       ·rw[← e1,dp Qh au];exact go (M.know (by simp[vr];rw[Qh,e1])) (h3.1 (by rw[we e1];rfl))
       ·rw[← e1,dp Qh au];exact skip M (h3.2 (by rw[zI e1];rfl))
   ·exact h3.elim
structure Ju (w0:World) (LP:fD) (Q2:α->Prop) (nb QG N0:Nat) (e0:bS) (S9:List ak) (ev:bS->List Ax->Option Ex->(Ex->bS->List Ax->Option Ex->Bh α)->Bh α) (At:Ex->bS->List Ax->Option Ex->Bh α) (ν0:Nu) where
 n:Nat
 e:bS
 h:List Ax
 g:Option Ex
 ν:Nu
 nV:Nat
 nS:Nat
 sl:List ak
 lh:List ar
 hs:gU w0 ν QG e sl
 hx:My w0 nb N0 e0 S9 ν
 hh:HR w0 ν nV nS h lh
 hn:DO nb ν0 ν
 st:bT LP (Yk ev n e h g At) Q2
theorem aeh (Rh:uC w0 (Q1 lv) (dN w0 Q1) false cf) (SS:xF w0 (Q1 lv) (dN w0 Q1) cp) (Zz:xu N0 rd.ps=true) (a6:gm N0 rd.asg=true) (a7:gm N0 rd.body=true) (hYS:YS=YA w0 (Q1 lv) rd.ps rd.asg rd.body S9) (hY:Ql w0 (dN w0 Q1) Q2 nb N0 rd.e0 S9 QY YS):∀ (c:jq) (bi:Nat) (e:bS) (h:List Ax) (g:Option Ex) (ν:Nu) (nV nS:Nat) (sl:List ak) (lh:List ar) (At:Ex->bS->List Ax->Option Ex->Bh α) (KA:IQ),
 tD QG c=true->gU w0 ν QG e sl->My w0 nb N0 rd.e0 S9 ν->HR w0 ν nV nS h lh->bT (dN w0 Q1) (oF cf cp un (lv,nb) rd QY bi c e h g At) Q2 ->
 (∀x e' h' g' ν' sl' lh' nV' nS',DO nb ν ν'->gU w0 ν' QG e' sl'->HR w0 ν' nV' nS' h' lh'->bT (dN w0 Q1) (At x e' h' g') Q2->KA x sl' lh' g')->lX w0 (Q1 lv) rd.l YS c sl lh g KA:=by
 intro c;induction c with
 |skip=>intro bi e h g ν nV nS sl lh At KA _ M _ N h3 h4;exact h4 .normal _ _ _ _ _ _ _ _ (DO.refl _ _) M N h3
 |reg ops=>intro bi e h g ν nV nS sl lh At KA hd M hx N h3 h4;exact iB Rh hY ops e h g ν nV nS sl lh _ _ hd M hx N h3 λe' h' g' ν' sl' lh' nV' nS' k0 k1 k2 k3=>h4 .normal _ _ _ _ _ _ _ _ k0 k1 k2 k3
 |draw ds=>intro bi e h g ν nV nS sl lh At KA hd M hx N h3 h4;exact uT SS hd M N h3 λe' h' ν' sl' lh' _ _ k0 g1 g2 g3=>h4 .normal _ _ _ _ _ _ _ _ (DO.of k0 _) g1 g2 g3
 |drawY ds xs=>intro bi e h g ν nV nS sl lh At KA hd M hx N h3 h4;simp[tD,D2]at hd;exact uT SS hd.1 M N h3 λe1 h1' ν1 Si lh1 _ _ k0 g1 g2 g3=>iB Rh hY xs e1 h1' g ν1 _ _ Si lh1 _ _ hd.2 g1 (hx.step (DO.of k0 _)) g2 g3 λe' h' g' ν' sl' lh' nV' nS' nz18 j1 j2 j3=>h4 .normal _ _ _ _ _ _ _ _ ((DO.of k0 _).trans nz18) j1 j2 j3
 |seq a b iha ihb=>
   intro bi e h g ν nV nS sl lh At KA hd M hx N h3 h4;simp[tD,D2]at hd;refine iha bi e h g ν nV nS sl lh _ _ hd.1 M hx N h3 λx e' h' g' ν' sl' lh' nV' nS' g0 g1 g2 g3=>?_;cases x with
   |normal=>exact ihb bi e' h' g' ν' nV' nS' sl' lh' At KA hd.2 g1 (hx.step g0) g2 g3 λx e2 N g2 ν2 TF lh2 nV2 nS2 q0=>h4 x e2 N g2 ν2 TF lh2 nV2 nS2 (g0.trans q0)
   |exit i=>exact h4 _ _ _ _ _ _ _ _ _ g0 g1 g2 g3|ret=>exact h4 _ _ _ _ _ _ _ _ _ g0 g1 g2 g3
 |cond c a b iha ihb=>
   intro bi e h g ν nV nS sl lh At KA hd M hx N h3 h4;simp[tD,D2]at hd;simp[oF]at h3;have ha:=M.arg c;simp[lX];split at h3
   ·rename_i hc;rw[hc]at ha;simp[vr]at ha;rw[ha];exact⟨λ_=>iha bi e h g ν nV nS sl lh At KA hd.1 M hx N h3 h4,(λhe=>by cases he)⟩
   ·rename_i hc;rw[hc]at ha;simp[vr]at ha;rw[ha];exact⟨(λhe=>by cases he),λ_=>ihb bi e h g ν nV nS sl lh At KA hd.2 M hx N h3 h4⟩
   ·rename_i t hc
    rw[hc]at ha;simp[vr]at ha;rw[ha];split at h3
    ·rename_i s;simp[bT]at h3;simp[arg]at ha;exact⟨λet=>iha bi _ h g ν nV nS sl lh At KA hd.1 (M.know (by simp[vr];rw[ha,et])) hx N (h3.1 et) h4,λet=>ihb bi _ h g ν nV nS sl lh At KA hd.2 (M.know (by simp[vr];rw[ha,et])) hx N (h3.2 et) h4⟩
    ·simp[bT]at h3;exact⟨λet=>iha bi _ h g ν nV nS sl lh At KA hd.1 M hx N (h3.1 et) h4,λet=>ihb bi _ h g ν nV nS sl lh At KA hd.2 M hx N (h3.2 et) h4⟩
   ·exact h3.elim
 |block id b ih=>
   intro bi e h g ν nV nS sl lh At KA hd M hx N h3 h4;refine ih id e h g ν nV nS sl lh _ _ hd M hx N h3 λx e' h' g' ν' sl' lh' nV' nS' g0 g1 g2 g3=>?_;cases x with
   |normal=>exact h4 _ _ _ _ _ _ _ _ _ g0 g1 g2 g3|ret=>exact h4 _ _ _ _ _ _ _ _ _ g0 g1 g2 g3
   |exit i=>
     simp[xV];by_cases hi:i=id
     ·subst hi;rw[CV rfl];simp[Nat.beq_refl,cond]at g3;exact h4 _ _ _ _ _ _ _ _ _ g0 g1 g2 g3
     ·rw[C4 hi]
      have:Nat.beq i id=false:=by cases hb:Nat.beq i id with|false=>rfl|true=>exact(hi (DT hb)).elim
      simp[this,cond]at g3;exact h4 _ _ _ _ _ _ _ _ _ g0 g1 g2 g3
 |loop b ih=>
   intro bi e h g ν nV nS sl lh At KA hd M hx N h3 h4;simp[oF]at h3;split at h3
   ·subst hYS;exact h3 QG N0 ν nV nS sl S9 lh KA hd Zz a6 a7 M hx N h4
   ·rename_i n hn
    simp[lX];refine⟨Ju w0 (dN w0 Q1) Q2 nb QG N0 rd.e0 S9 (oF cf cp un (lv,nb) rd QY bi b) At ν,Ju.sl,Ju.lh,Ju.g,Ju.n,⟨n+1,e,h,g,ν,nV,nS,sl,lh,M,hx,N,DO.refl _ _,h3⟩,rfl,rfl,rfl,λs=>?_⟩;have R0:=s.st;have Wp:=s.hn
    match hm:s.n,R0 with
    |0,R0=>exact R0.elim
    |k+1,R0=>
      simp[Yk]at R0;refine ih bi s.e s.h s.g s.ν s.nV s.nS s.sl s.lh _ _ hd s.hs s.hx s.hh R0 λx e' h' g' ν' sl' lh' nV' nS' g0 g1 g2 g3=>?_;cases x with
      |normal=>exact⟨⟨k,e',h',g',ν',nV',nS',sl',lh',g1,s.hx.step g0,g2,Wp.trans g0,g3⟩,rfl,rfl,rfl,Nat.lt_succ_self k⟩|exit i=>exact h4 _ _ _ _ _ _ _ _ _ (Wp.trans g0) g1 g2 g3|ret=>exact h4 _ _ _ _ _ _ _ _ _ (Wp.trans g0) g1 g2 g3
 |exit i=>intro bi e h g ν nV nS sl lh At KA _ M _ N h3 h4;exact h4 _ _ _ _ _ _ _ _ _ (DO.refl _ _) M N h3|ret=>intro bi e h g ν nV nS sl lh At KA _ M _ N h3 h4;exact h4 _ _ _ _ _ _ _ _ _ (DO.refl _ _) M N h3|scope b ih=>intro bi e h g ν nV nS sl lh At KA hd M hx N h3 h4;exact ih bi e h g ν nV nS sl lh At KA hd M hx N h3 h4
end it
structure Kk (w0:World) (LP:fD) (Q2:α->Prop) (nb QG:Nat) (ev:bS->List Ax->(Ex->bS->List Ax->Bh α)->Bh α) (At:Ex->bS->List Ax->Bh α) (ν0:Nu) where
 n:Nat
 e:bS
 h:List Ax
 ν:Nu
 nV:Nat
 nS:Nat
 sl:List ak
 lh:List ar
 hs:gU w0 ν QG e sl
 hh:HR w0 ν nV nS h lh
 hn:DO nb ν0 ν
 st:bT LP (LU ev n e h At) Q2
theorem lK:∀ l:List ak,nq l l
 |[]=>by simp[nq]
 |a::l=>by unfold nq;exact⟨.inr rfl,lK l⟩
theorem hkb:∀ {C3:List iU} {it:iU},Cn C3=true->it∈C3->tD it.ntmps it.body=true
 |[],_,_,h=>by cases h
 |x::l,it,h,hm=>by
   simp[Cn,D2]at h;rcases List.mem_cons.1 hm with rfl|hm
   ·exact h.1
   ·exact hkb h.2 hm
theorem BO {lh:List ar} {ν:Nu}:∀ {us:List V} {az rest:List ak} {j i:Nat},bI w0 lh ν us az->(∀ a,a∈rest->True)->vr w0 lh ν (kp (Mk us j) (j+i)) ((az++rest).getD i .any)
 |[],az,rest,j,i,h,_=>by simp[Mk,kp,vr]
 |u::us,az,rest,j,i,h,hr=>by
   simp[bI]at h;obtain⟨x,xs,rfl,M,N⟩:=h;simp[Mk];rw[nj];cases i with
   |zero=>rw[CV K];simpa using M
   |succ i=>rw[C4 K];have:=BO (j:=j+1) (i:=i) (rest:=rest) N hr;rw[show j+1+i=j+(i+1) by omega]at this;simpa using this
theorem s7 {S1:FuncId->ca} {LP:fD} {QG:Nat} (Rh:uC w0 S1 LP false cf):∀ (t:OT) (e:bS) (h:List Ax) (ν:Nu) (nV nS:Nat) (sl:List ak) (lh:List ar) (At:bS->List Ax->Bh α) (KA:List ak->List ar->Prop),vq QG t=true ->
 gU w0 ν QG e sl->HR w0 ν nV nS h lh->bT LP (Fi cf t e h At) Q2->(∀e' h' ν' sl' lh',ν.sub ν'->gU w0 ν' QG e' sl'->HR w0 ν' nV nS h' lh'->bT LP (At e' h') Q2->KA sl' lh')->qS w0 S1 t sl lh KA
 |.done,e,h,ν,nV,nS,sl,lh,At,KA,_,M,N,h3,h4=>h4 _ _ _ _ _ (Nu.sub_refl ν) M N h3
 |.op o r,e,h,ν,nV,nS,sl,lh,At,KA,hd,M,N,h3,h4=>by simp[vq,D2]at hd;simp[Fi]at h3;simp[qS];exact lV Rh [o] e h ν sl lh _ _ hd.1 M N h3 λe' h' ν' sl' lh' k0 k1 k2 k3=>s7 Rh r e' h' ν' nV nS sl' lh' At KA hd.2 k1 k2 k3 λe2 N ν2 TF lh2 q0=>h4 e2 N ν2 TF lh2 (Nu.sub_trans k0 q0)
 |.alt a b,e,h,ν,nV,nS,sl,lh,At,KA,hd,M,N,h3,h4=>by simp[vq,D2]at hd;simp[Fi,bT]at h3;exact⟨s7 Rh a e h ν nV nS sl lh At KA hd.1 M N h3.1 h4,s7 Rh b e h ν nV nS sl lh At KA hd.2 M N h3.2 h4⟩
theorem CW {lv:Nat} (Rh:uC w0 (Q1 lv) (dN w0 Q1) false cf) (SS:xF w0 (Q1 lv) (dN w0 Q1) cp) {un:l8} {QG:Nat}:∀ (c:hG) (nb nbS bi:Nat) (e:bS) (h:List Ax) (ν:Nu) (nV nS:Nat) (sl:List ak) (lh:List ar) (At:Ex->bS->List Ax->Bh α) (KA:Ex->List ak->List ar->Prop),
 gm QG c=true->gU w0 ν QG e sl->HR w0 ν nV nS h lh->bT (dN w0 Q1) (vj cf cp un (lv,nb) bi c e h At) Q2 ->
 (∀x e' h' ν' sl' lh' nV' nS',DO nb ν ν'->gU w0 ν' QG e' sl'->HR w0 ν' nV' nS' h' lh'->bT (dN w0 Q1) (At x e' h') Q2->KA x sl' lh')->cJ w0 (Q1 lv) nbS c sl lh KA:=by
 intro c;induction c with
 |skip=>intro nb nbS bi e h ν nV nS sl lh At KA _ M N h3 h4;exact h4 .normal _ _ _ _ _ _ _ (DO.refl _ _) M N h3
 |reg ops=>intro nb nbS bi e h ν nV nS sl lh At KA hd M N h3 h4;exact lV Rh ops e h ν sl lh _ _ hd M N h3 λe' h' ν' sl' lh' g0 g1 g2 g3=>h4 .normal _ _ _ _ _ _ _ (DO.of g0 _) g1 g2 g3
 |allo t=>intro nb nbS bi e h ν nV nS sl lh At KA hd M N h3 h4;exact s7 Rh t e h ν nV nS sl lh _ _ hd M N h3 λe' h' ν' sl' lh' g0 g1 g2 g3=>h4 .normal _ _ _ _ _ _ _ (DO.of g0 _) g1 g2 g3
 |alloq t=>intro nb nbS bi e h ν nV nS sl lh At KA hd M N h3 h4;exact s7 SS.2 t e h ν nV nS sl lh _ _ hd M N h3 λe' h' ν' sl' lh' g0 g1 g2 g3=>h4 .normal _ _ _ _ _ _ _ (DO.of g0 _) g1 g2 g3
 |draw ds=>intro nb nbS bi e h ν nV nS sl lh At KA hd M N h3 h4;exact uT SS hd M N h3 λe' h' ν' sl' lh' _ _ g0 g1 g2 g3=>h4 .normal _ _ _ _ _ _ _ (DO.of g0 _) g1 g2 g3
 |seq a b iha ihb=>
   intro nb nbS bi e h ν nV nS sl lh At KA hd M N h3 h4;simp[gm,D2]at hd;refine iha nb nbS bi e h ν nV nS sl lh _ _ hd.1 M N h3 λx e' h' ν' sl' lh' nV' nS' g0 g1 g2 g3=>?_;cases x with
   |normal=>exact ihb nb nbS bi e' h' ν' nV' nS' sl' lh' At KA hd.2 g1 g2 g3 λx e2 N ν2 TF lh2 nV2 nS2 q0=>h4 x e2 N ν2 TF lh2 nV2 nS2 (g0.trans q0)
   |exit i=>exact h4 _ _ _ _ _ _ _ _ g0 g1 g2 g3|ret=>exact h4 _ _ _ _ _ _ _ _ g0 g1 g2 g3
 |cond c a b iha ihb=>
   intro nb nbS bi e h ν nV nS sl lh At KA hd M N h3 h4;simp[gm,D2]at hd;simp[vj]at h3;have ha:=M.arg c;simp[cJ];split at h3
   ·rename_i hc;rw[hc]at ha;simp[vr]at ha;rw[ha];exact⟨λ_=>iha nb nbS bi e h ν nV nS sl lh At KA hd.1 M N h3 h4,(λhe=>by cases he)⟩
   ·rename_i hc;rw[hc]at ha;simp[vr]at ha;rw[ha];exact⟨(λhe=>by cases he),λ_=>ihb nb nbS bi e h ν nV nS sl lh At KA hd.2 M N h3 h4⟩
   ·rename_i t hc
    rw[hc]at ha;simp[vr]at ha;rw[ha];split at h3
    ·rename_i s;simp[bT]at h3;simp[arg]at ha;exact⟨λet=>iha nb nbS bi _ h ν nV nS sl lh At KA hd.1 (M.know (by simp[vr];rw[ha,et])) N (h3.1 et) h4,λet=>ihb nb nbS bi _ h ν nV nS sl lh At KA hd.2 (M.know (by simp[vr];rw[ha,et])) N (h3.2 et) h4⟩
    ·simp[bT]at h3;exact⟨λet=>iha nb nbS bi _ h ν nV nS sl lh At KA hd.1 M N (h3.1 et) h4,λet=>ihb nb nbS bi _ h ν nV nS sl lh At KA hd.2 M N (h3.2 et) h4⟩
   ·exact h3.elim
 |block id b ih=>
   intro nb nbS bi e h ν nV nS sl lh At KA hd M N h3 h4;refine ih nb nbS id e h ν nV nS sl lh _ _ hd M N h3 λx e' h' ν' sl' lh' nV' nS' g0 g1 g2 g3=>?_;cases x with
   |normal=>exact h4 _ _ _ _ _ _ _ _ g0 g1 g2 g3|ret=>exact h4 _ _ _ _ _ _ _ _ g0 g1 g2 g3
   |exit i=>
     simp[xC];by_cases hi:i=id
     ·subst hi;rw[CV rfl];simp[Nat.beq_refl,cond]at g3;exact h4 _ _ _ _ _ _ _ _ g0 g1 g2 g3
     ·rw[C4 hi]
      have:Nat.beq i id=false:=by cases hb:Nat.beq i id with|false=>rfl|true=>exact(hi (DT hb)).elim
      simp[this,cond]at g3;exact h4 _ _ _ _ _ _ _ _ g0 g1 g2 g3
 |loop b ih=>
   intro nb nbS bi e h ν nV nS sl lh At KA hd M N h3 h4;simp[vj]at h3;split at h3
   ·exact h3 QG nbS ν nV nS sl lh KA hd M N h4
   ·rename_i n hn
    simp only[cJ];refine⟨Kk w0 (dN w0 Q1) Q2 nb QG (vj cf cp un (lv,nb) bi b) At ν,Kk.sl,Kk.lh,Kk.n,⟨n+1,e,h,ν,nV,nS,sl,lh,M,N,DO.refl _ _,h3⟩,.inl ⟨rfl,lK _⟩,λs=>?_⟩;have R0:=s.st;have Wp:=s.hn
    match hm:s.n,R0 with
    |0,R0=>exact R0.elim
    |k+1,R0=>
      simp[LU]at R0;refine ih nb nbS bi s.e s.h s.ν s.nV s.nS s.sl s.lh _ _ hd s.hs s.hh R0 λx e' h' ν' sl' lh' nV' nS' g0 g1 g2 g3=>?_;cases x with
      |normal=>exact⟨⟨k,e',h',ν',nV',nS',sl',lh',g1,g2,Wp.trans g0,g3⟩,.inl ⟨rfl,lK _⟩,Nat.lt_succ_self k⟩|exit i=>exact h4 _ _ _ _ _ _ _ _ (Wp.trans g0) g1 g2 g3|ret=>exact h4 _ _ _ _ _ _ _ _ (Wp.trans g0) g1 g2 g3
 |exit i=>intro nb nbS bi e h ν nV nS sl lh At KA _ M N h3 h4;exact h4 _ _ _ _ _ _ _ _ (DO.refl _ _) M N h3|ret=>intro nb nbS bi e h ν nV nS sl lh At KA _ M N h3 h4;exact h4 _ _ _ _ _ _ _ _ (DO.refl _ _) M N h3|scope b ih=>intro nb nbS bi e h ν nV nS sl lh At KA hd M N h3 h4;exact ih nb nbS bi e h ν nV nS sl lh At KA hd M N h3 h4
 |range gop ps asg body C3 iha ihb=>
   intro nb nbS bi e h ν nV nS sl lh At KA hd M N h3 h4;simp[gm,D2]at hd;simp[vj]at h3;have ha:=M.arg gop;simp[cJ];split at h3
   ·rename_i f ys hg
    rw[hg]at ha;simp[vr,bI]at ha;obtain⟨us,vs,hav,rfl,YT⟩:=ha;rw[hav];dsimp only
    split at h3
    ·rename_i it hit
     try rw[hit]
     try dsimp only
     cases hb:Nat.ble (cg ys+1) it.ntmps with
     |false=>rw[hb]at h3;exact h3.elim
     |true=>
       rw[hb]at h3;simp[cond,bT]at h3;have R8:=Dc hb;rw[b6]at R8;have hl:=bY YT;intro l;have hdom:∀ k,cg h<=k->ν k=none:=λk hk=>N.dom k (by rw[← b6];exact hk);have hctx:My w0 (cg h) QG e sl ν:=⟨ν,hdom,M,Nu.sub_refl ν⟩;have hY:Ql w0 (dN w0 Q1) Q2 (cg h) QG e sl (λvs h At=>cond (Nat.beq (cg vs) (cg ps)) (vj cf cp un (lv,cg h) bi asg (rS e ps vs) h λx e1 M=>match x with
        |.normal=>vj cf cp un (lv,cg h) bi body e1 M λx _ N=>At x N
        |_=>.fail 94) (.fail 95)) (YA w0 (Q1 lv) ps asg body sl):=by
        intro vs h ν nV nS args lh At KA hx hh hv hs hK;dsimp only at hs;cases hb:Nat.beq (cg vs) (cg ps) with
        |false=>rw[hb]at hs;exact hs.elim
        |true=>
          rw[hb]at hs;simp[cond]at hs;have hlen:=DT hb;rw[b6,b6]at hlen;have hdom:∀k,cg h<=k->ν k=none:=λk hk=>hh.dom k (by rw[← b6];exact hk);refine⟨by rw[bY hv];exact hlen,?_⟩;refine iha (cg h) _ bi _ h ν nV nS _ lh _ _ hd.2.1 (u3 ps e sl vs args hd.1 hx.get hv hlen) hh hs λx e' h' ν' sl' lh' nV' nS' g0 g1 g2 g3=>?_;cases x with
          |normal=>exact ihb (cg h) _ bi _ h' ν' nV' nS' _ lh' _ _ hd.2.2.1 g1 g2 g3 λx e2 N ν2 TF lh2 nV2 nS2 q0 q1 q2 q3=>hK x N ν2 nV2 nS2 lh2 ((g0.trans q0).sub hdom) q2 q3
          |exit i=>exact g3.elim|ret=>exact g3.elim
       refine aeh (rd:=⟨ps,asg,body,e,l⟩) (QY:=_) (S9:=sl) (nb:=cg h) Rh SS hd.1 hd.2.1 hd.2.2.1 rfl hY it.body 0 _ h none ν nV nS _ lh _ _ (hkb hd.2.2.2 (qe hit).1) ⟨by simp;omega,λi=>?_⟩ hctx N (h3 l) λx e' h' g' ν' sl' lh' nV' nS' g0 g1 g2 g3=>?_
       ·rw [nj]
        cases i with
        |zero=>simp[vr]
        |succ i=>rw[C4 K];have:=BO (j:=1) (i:=i) (rest:=List.replicate (it.ntmps-(vs.length+1)) .any) YT (λ_ _=>trivial);rw[show 1+i=i+1 by omega]at this;simpa using this
       ·have hsub:=g0.sub hdom
        cases x with
        |exit i=>exact g3.elim
        |normal=>
          cases g' with
          |none=>exact h4 .normal e h' ν' sl lh' nV' nS' (DO.of hsub _) (M.mono hsub) g2 g3|some x=>exact h4 x e h' ν' sl lh' nV' nS' (DO.of hsub _) (M.mono hsub) g2 g3
        |ret=>
          cases g' with
          |none=>exact h4 .normal e h' ν' sl lh' nV' nS' (DO.of hsub _) (M.mono hsub) g2 g3|some x=>exact h4 x e h' ν' sl lh' nV' nS' (DO.of hsub _) (M.mono hsub) g2 g3
    ·exact h3.elim
   ·exact h3.elim
theorem pV {LP:fD} {ν:Nu} {nV nS QG:Nat} {e:bS} {h:List Ax} {sl:List ak} {lh:List ar} (M:gU w0 ν QG e sl) (N:HR w0 ν nV nS h lh):∀ (rs:List CM) (At:List V->Bh α) (KA:List ak->Prop),bT LP (vh e h rs At) Q2 ->
 (∀us az,bI w0 ν.z ν us az->bT LP (At us) Q2->KA az)->kf w0 sl lh rs KA
 |[],At,KA,hs,hK=>hK [] [] (by simp[bI]) hs
 |.tmp t::l,At,KA,hs,hK=>by
   simp[vh]at hs
   let ⟨u,g1,g2⟩:=Fy rfl (M.at' t) hs
   exact pV M N l _ _ g2 λus az g3 g4=>hK (u::us) _ (by simp only[bI];exact⟨_,_,rfl,g1,g3⟩) g4
 |.cell t n::l,At,KA,hs,hK=>by
   cases n with
   |none=>
     simp[vh]at hs
     let ⟨g0,hs⟩:=w9 rfl hs
     split at hs
     ·rename_i v hv
      let ⟨p,x,e1,e2,e3⟩:=Gp N (M.at' t) hv g0
      simp only[kf,e1];exact⟨x,e2,pV M N l _ _ hs λus az g3 g4=>hK (v::us) _ (by simp only[bI];exact⟨_,_,rfl,e3,g3⟩) g4⟩
     ·exact hs.elim
   |some n=>
     simp[vh]at hs
     let ⟨g0,hs⟩:=w9 rfl hs
     split at hs
     ·rename_i cs hv
      let ⟨p,x,e1,e2,e3⟩:=awD N (M.at' t) hv g0
      simp only[kf,e1];exact⟨x,e2,pV M N l _ _ hs λus az g3 g4=>hK (.agg cs::us) _ (by simp only[bI];exact⟨_,_,rfl,by simp only[vr];exact⟨_,rfl,e3⟩,g3⟩) g4⟩
     ·exact hs.elim
theorem aes {lh:List ar} {ν:Nu}:∀ {us:List V} {az:List ak},bI w0 lh ν us az->vr w0 lh ν (uQ us) (sr az)
 |[],az,h=>by simp only[bI]at h;subst h;simp only[uQ,sr,vr];exact⟨_,rfl,by simp only[bI]⟩
 |[u],az,h=>by simp only[bI]at h;obtain⟨x,xs,rfl,M,rfl⟩:=h;exact M
 |u::v::us,az,h=>by have h':=h;simp only[bI]at h;obtain⟨x,xs,rfl,M,y,ys,rfl,N⟩:=h;simp only[uQ,sr,vr];exact⟨_,rfl,h'⟩
theorem HR.none (w0:World):HR w0 Nu.nil 0 0 [] []:=⟨(λk o h=>by simp at h),(λk k' x x' _ _ h=>by cases h),(λ_ _=>rfl),(λk x h=>by cases h),awT _,(λk x _ h=>by cases h)⟩
theorem sN {lv:Nat} (Rh:uC w0 (Q1 lv) (dN w0 Q1) false cf) (SS:xF w0 (Q1 lv) (dN w0 Q1) cp) {un:l8} {sf:aK} {args:List V} {az:List ak} {h:List Ax} {lh:List ar} {ν:Nu} {nV nS:Nat} {At:V->List Ax->Bh α} {KA:ak->List ar->Prop} (hd:gm sf.ntmps sf.body=true)
 (ha:bI w0 ν.z ν args az) (hh:HR w0 ν nV nS h lh) (hs:bT (dN w0 Q1) (o0 cf cp un lv sf args h At) Q2)
 (hK:∀v h' ν' a lh',ν.sub ν'->(∀nV nS,HR w0 ν' nV nS h' lh')->vr w0 ν'.z ν' v a->bT (dN w0 Q1) (At v h') Q2->KA a lh'):Jw w0 (Q1 lv) sf az lh KA:=by
 unfold o0 at hs;cases hb:Nat.ble (cg args) sf.ntmps with
 |false=>rw[hb]at hs;exact hs.elim
 |true=>
   rw[hb]at hs;simp[cond]at hs;have R8:=Dc hb;rw[b6]at R8;have hl:=bY ha;have hdom:∀k,cg h<=k->ν k=none:=λk hk=>hh.dom k (by rw[← b6];exact hk);unfold Jw;refine CW Rh SS sf.body (cg h) _ 0 _ h ν nV nS _ lh _ _ hd ⟨by simp;omega,λi=>?_⟩ hh hs λx e' h' ν' sl' lh' nV' nS' g0 g1 g2 g3=>?_
   ·have:=BO (j:=0) (i:=i) (rest:=List.replicate (sf.ntmps-az.length) .any) ha (λ_ _=>trivial);rwa [EB]at this
   ·cases x with
    |exit i=>exact g3.elim|normal=>exact pV g1 g2 _ _ _ g3 λus vs k1 k2=>hK _ _ ν' _ _ (g0.sub hdom) (λa b=>g2.undead a b) (aes k1) k2
    |ret=>exact pV g1 g2 _ _ _ g3 λus vs k1 k2=>hK _ _ ν' _ _ (g0.sub hdom) (λa b=>g2.undead a b) (aes k1) k2
def lN (w0:World) (nb:Nat) (e:bS) (h:List Ax) (e1:bS) (M:List Ax):Prop :=
 ∀(QG:Nat) (ν:Nu) (nV nS:Nat) (sl:List ak) (lh:List ar),gU w0 ν QG e sl->HR w0 ν nV nS h lh->∃ν1 nV1 nS1,DO nb ν ν1/\gU w0 ν1 QG e1 sl/\HR w0 ν1 nV1 nS1 M lh
structure LSt (w0:World) (nb QG:Nat) (SK:Type) (inv:SK->bS×List Ax) (ν0:Nu) where
 i:SK
 ν:Nu
 nV:Nat
 nS:Nat
 sl:List ak
 lh:List ar
 hs:gU w0 ν QG (inv i).1 sl
 hh:HR w0 ν nV nS (inv i).2 lh
 hn:DO nb ν0 ν
theorem srf {fr:Nat×Nat} {cf:CF (Ex×bS×List Ax)} {cp:CP (Ex×bS×List Ax)} (Rh:uC w0 (Q1 fr.1) (dN w0 Q1) false cf) (SS:xF w0 (Q1 fr.1) (dN w0 Q1) cp) {un:l8} {bi:Nat} {body:hG} {e:bS} {h:List Ax} {D5:Ex->bS->List Ax->Option Ex->Prop}
 (SK:Type) (inv:SK->bS×List Ax) (μ:SK->Nat) (h0:∃i,lN w0 fr.2 e h (inv i).1 (inv i).2)
 (round:∀i,bT (dN w0 Q1) (vj cf cp un fr bi body (inv i).1 (inv i).2 λx e h=>.ret (x,e,h)) λr=>match r.1 with|.normal=>∃i',lN w0 fr.2 r.2.1 r.2.2 (inv i').1 (inv i').2/\μ i'<μ i|x=>D5 x r.2.1 r.2.2 none):dN w0 Q1 fr (.s body) e h none D5:=by
 intro QG nbS ν nV nS sl lh QA hd M N hQ
 let ⟨i0,q5⟩:=h0
 let ⟨ν1,nV1,nS1,g0,g1,g2⟩:=q5 QG ν nV nS sl lh M N
 simp only[cJ];refine⟨LSt w0 fr.2 QG SK inv ν,λs=>s.sl,λs=>s.lh,λs=>μ s.i,⟨i0,ν1,nV1,nS1,sl,lh,g1,g2,g0⟩,.inl ⟨rfl,lK _⟩,λs=>?_⟩;refine CW Rh SS body fr.2 nbS bi _ _ s.ν s.nV s.nS s.sl s.lh _ _ hd s.hs s.hh (round s.i) λx e' h' ν' sl' lh' nV' nS' k0 k1 k2 k3=>?_;simp[bT]at k3;cases x with
 |normal=>
   let ⟨i',k4,k5⟩:=k3
   let ⟨ν2,nV2,nS2,k8,k6,k7⟩:=k4 QG ν' nV' nS' sl' lh' k1 k2
   exact⟨⟨i',ν2,nV2,nS2,sl',lh',k6,k7,(s.hn.trans k0).trans k8⟩,.inl ⟨rfl,lK _⟩,k5⟩
 |exit i=>exact hQ _ _ _ _ _ _ _ _ (s.hn.trans k0) k1 k2 k3|ret=>exact hQ _ _ _ _ _ _ _ _ (s.hn.trans k0) k1 k2 k3
structure azh (w0:World) (nb QG:Nat) (SK:Type) (inv:SK->bS×List Ax×Option Ex) (ν0:Nu) where
 i:SK
 ν:Nu
 nV:Nat
 nS:Nat
 sl:List ak
 lh:List ar
 hs:gU w0 ν QG (inv i).1 sl
 hh:HR w0 ν nV nS (inv i).2.1 lh
 hn:DO nb ν0 ν
def Jo (cf:CF α) (cp:CP α) (un:l8) (lv bi:Nat) (rd:RD):YV α:=λvs h At=>cond (Nat.beq (cg vs) (cg rd.ps)) (vj cf cp un (lv,cg h) bi rd.asg (rS rd.e0 rd.ps vs) h λx e1 M=>match x with
 |.normal=>vj cf cp un (lv,cg h) bi rd.body e1 M λx _ N=>At x N
 |_=>.fail 94) (.fail 95)
theorem aj0 {lv bi:Nat} {un:l8} {rd:RD} {nb QG:Nat} {sl:List ak} (Rh:uC w0 (Q1 lv) (dN w0 Q1) false cf) (SS:xF w0 (Q1 lv) (dN w0 Q1) cp) (h0:xu QG rd.ps=true) (M:gm QG rd.asg=true) (N:gm QG rd.body=true) :
 Ql w0 (dN w0 Q1) Q2 nb QG rd.e0 sl (Jo cf cp un lv bi rd) (YA w0 (Q1 lv) rd.ps rd.asg rd.body sl):=by
 intro vs h ν nV nS args lh At KA hx hh hv hs hK;unfold Jo at hs;cases hb:Nat.beq (cg vs) (cg rd.ps) with
 |false=>rw[hb]at hs;exact hs.elim
 |true=>
   rw[hb]at hs;simp[cond]at hs;have hlen:=DT hb;rw[b6,b6]at hlen;have hdom:∀k,cg h<=k->ν k=none:=λk hk=>hh.dom k (by rw[← b6];exact hk);refine⟨by rw[bY hv];exact hlen,?_⟩;refine CW Rh SS rd.asg (cg h) _ bi _ h ν nV nS _ lh _ _ M (u3 rd.ps rd.e0 sl vs args h0 hx.get hv hlen) hh hs λx e' h' ν' sl' lh' nV' nS' g0 g1 g2 g3=>?_;cases x with
   |normal=>exact CW Rh SS rd.body (cg h) _ bi _ h' ν' nV' nS' _ lh' _ _ N g1 g2 g3 λx e2 N ν2 TF lh2 nV2 nS2 q0 q1 q2 q3=>hK x N ν2 nV2 nS2 lh2 ((g0.trans q0).sub hdom) q2 q3
   |exit i=>exact g3.elim|ret=>exact g3.elim
theorem hr3 {fr:Nat×Nat} {cf:CF (Ex×bS×List Ax×Option Ex)} {cp:CP (Ex×bS×List Ax×Option Ex)} (Rh:uC w0 (Q1 fr.1) (dN w0 Q1) false cf) (SS:xF w0 (Q1 fr.1) (dN w0 Q1) cp) {un:l8} {bi bi':Nat} {body:jq} {rd:RD} {e:bS} {h:List Ax} {g:Option Ex} {D5:Ex->bS->List Ax->Option Ex->Prop}
 (SK:Type) (inv:SK->bS×List Ax×Option Ex) (μ:SK->Nat) (h0:∃i,g=(inv i).2.2/\lN w0 fr.2 e h (inv i).1 (inv i).2.1)
 (round:∀i,bT (dN w0 Q1) (oF cf cp un fr rd (Jo cf cp un fr.1 bi' rd) bi body (inv i).1 (inv i).2.1 (inv i).2.2 λx e h g=>.ret (x,e,h,g)) λr=>match r.1 with|.normal=>∃i',r.2.2.2=(inv i').2.2/\lN w0 fr.2 r.2.1 r.2.2.1 (inv i').1 (inv i').2.1/\μ i'<μ i|x=>D5 x r.2.1 r.2.2.1 r.2.2.2):dN w0 Q1 fr (.i body rd) e h g D5:=by
 intro QG N0 ν nV nS sl S9 lh QA hd Zz a6 a7 M hx N hQ;obtain⟨i0,rfl,q5⟩:=h0
 let ⟨ν1,nV1,nS1,g0,g1,g2⟩:=q5 QG ν nV nS sl lh M N
 simp[lX];refine⟨azh w0 fr.2 QG SK inv ν,λs=>s.sl,λs=>s.lh,λs=>(inv s.i).2.2,λs=>μ s.i,⟨i0,ν1,nV1,nS1,sl,lh,g1,g2,g0⟩,rfl,rfl,rfl,λs=>?_⟩;refine aeh (QY:=Jo cf cp un fr.1 bi' rd) (S9:=S9) Rh SS Zz a6 a7 rfl (aj0 Rh SS Zz a6 a7) body bi _ _ _ s.ν s.nV s.nS s.sl s.lh _ _ hd s.hs (hx.step s.hn) s.hh (round s.i) λx e' h' g' ν' sl' lh' nV' nS' k0 k1 k2 k3=>?_;simp[bT]at k3;cases x with
 |normal=>
   let ⟨i',nz22,k4,k5⟩:=k3
   let ⟨ν2,nV2,nS2,k8,k6,k7⟩:=k4 QG ν' nV' nS' sl' lh' k1 k2
   exact⟨⟨i',ν2,nV2,nS2,sl',lh',k6,k7,(s.hn.trans k0).trans k8⟩,rfl,rfl,nz22,k5⟩
 |exit i=>exact hQ _ _ _ _ _ _ _ _ _ (s.hn.trans k0) k1 k2 k3|ret=>exact hQ _ _ _ _ _ _ _ _ _ (s.hn.trans k0) k1 k2 k3
end
section
variable {B:dP} {m:aN} {lh:List ar} {w:World}
mutual
theorem eh (h:bh B m lh w):∀ (d:V) (x:ak) (u:Value),d.fc=true->vr B.w0 lh Nu.nil d x->C5 m x u->vr w [] Nu.nil d (bU u)
 |.int ..,x,u,_,hd,hv=>by simp only[vr]at hd;subst hd;simp only[C5]at hv;subst hv;simp only[bU,vr]
 |.bool _,x,u,_,hd,hv=>by simp only[vr]at hd;subst hd;simp only[C5]at hv;subst hv;simp only[bU,vr]
 |.kb _,x,u,_,hd,hv=>by simp only[vr]at hd;subst hd;simp only[C5]at hv;subst hv;simp only[bU,vr]
 |.str _,x,u,_,hd,hv=>by simp only[vr]at hd;subst hd;simp only[C5]at hv;subst hv;simp only[bU,vr]
 |.agg _,_,_,hc,_,_=>by cases hc
 |.tup _,_,_,hc,_,_=>by cases hc
 |.fn ..,_,_,hc,_,_=>by cases hc
 |.gd ..,_,_,hc,_,_=>by cases hc
 |.yl _,_,_,hc,_,_=>by cases hc
 |.sl n f,x,u,_,hd,hv=>by
   simp only[vr]at hd ⊢;obtain⟨p,c,esz,rfl,N,h3,h4,h5⟩:=hd;simp only[C5]at hv;obtain⟨Pw,rfl,hq⟩:=hv;refine⟨Pw.map .g,c,esz,by cases Pw<;>rfl,N,h3,by cases Pw<;>trivial,λi hi=>?_⟩;obtain⟨p',az,rfl,g2,g3,g4⟩:=h5 i hi;obtain⟨a,us,Wl,k1,k2⟩:=zj (Pw:=Pw.map λa=>a.add (i*esz)) h (by
    cases p' with
    |g a=>simp only[eg]at hq;subst hq;simp[eg,jh.add]|l k off=>simp only[eg]at hq;obtain⟨b,e1,rfl⟩:=hq;simp only[eg,jh.add];exact⟨b,e1,by simp[Addr.add]⟩) g2
   cases Pw with
   |none=>cases Wl
   |some a0=>simp at Wl;subst Wl;exact⟨.g a0,_,rfl,k1,qd h (f i) az us g4 g3 k2,g4⟩
 |.sq n m f,x,u,_,hd,hv=>by
   simp only[vr]at hd ⊢;obtain⟨p,c,esz,rfl,N,h3,h4,h5⟩:=hd;simp only[C5]at hv;obtain⟨Pw,rfl,hq⟩:=hv;refine⟨Pw.map .g,c,esz,by cases Pw<;>rfl,N,h3,by cases Pw<;>trivial,λi hi=>?_⟩;obtain⟨p',az,rfl,g2,g3,g4⟩:=h5 i hi;obtain⟨a,us,Wl,k1,k2⟩:=zj (Pw:=Pw.map λa=>a.add (i*esz)) h (by
    cases p' with
    |g a=>simp only[eg]at hq;subst hq;simp[eg,jh.add]|l k off=>simp only[eg]at hq;obtain⟨b,e1,rfl⟩:=hq;simp only[eg,jh.add];exact⟨b,e1,by simp[Addr.add]⟩) g2
   cases Pw with
   |none=>cases Wl
   |some a0=>simp at Wl;subst Wl;exact⟨.g a0,_,rfl,k1,qd h (f i) az us g4 g3 k2,g4⟩
 |.pd cs,x,u,_,hd,hv=>by simp only[vr]at hd ⊢;obtain⟨p,az,rfl,_,h3,h4,h5⟩:=hd;simp only[C5]at hv;obtain⟨Pw,rfl,hq⟩:=hv;obtain⟨a,us,rfl,k1,k2⟩:=zj h hq h3;exact⟨.g a,_,rfl,trivial,k1,qd h cs az us h5 h4 k2,h5⟩
 |.pl k off,x,u,_,hd,hv=>by simp only[vr]at hd;obtain⟨b,c,e,M,N⟩:=hd;cases M
 |.pe k i j,x,u,_,hd,hv=>by simp only[vr]at hd;obtain⟨b,c,e,M,N⟩:=hd;cases M
 |.ss k off n c,x,u,_,hd,hv=>by simp only[vr]at hd;obtain⟨b,c,e,M,N⟩:=hd;cases M
 |.gs k n,x,u,_,hd,hv=>by simp only[vr]at hd;rcases hd with ⟨M,_⟩|⟨b,c,e,M,_⟩<;>cases M
 |.go k off n,x,u,_,hd,hv=>by simp only[vr]at hd;rcases hd with ⟨M,_⟩|⟨b,c,e,o,M,_⟩<;>cases M
 |.ns,x,u,_,hd,hv=>by simp only[vr]at hd;subst hd;simp only[C5,eg]at hv;obtain⟨Pw,rfl,rfl⟩:=hv;simp only[bU,vr]
 |.np,x,u,_,hd,hv=>by simp only[vr]at hd;subst hd;simp only[C5,eg]at hv;obtain⟨Pw,rfl,rfl⟩:=hv;simp only[bU,vr]
 |.any,x,u,_,hd,hv=>by simp only[vr]
theorem qd (h:bh B m lh w):∀ (ds:List V) (xs:List ak) (us:List Value),ds.all V.fc=true->bI B.w0 lh Nu.nil ds xs->aC m xs us->bI w [] Nu.nil ds (us.map bU)
 |[],xs,us,_,hd,hv=>by simp[bI]at hd;subst hd;simp[aC]at hv;subst hv;simp[bI,HL]
 |d::ds,xs,us,hc,hd,hv=>by simp only[EJ,D2]at hc;simp only[bI]at hd;obtain⟨x,xs',rfl,N,h3⟩:=hd;simp only[aC]at hv;obtain⟨u,us',rfl,h4,h5⟩:=hv;simp only[E8,bI];exact⟨_,_,rfl,eh h d x u hc.1 N h4,qd h ds xs' us' hc.2 h3 h5⟩
end
mutual
theorem awG (h:bh B m lh w):∀ (d:V) (x:ak) (u:Value),vr B.w0 lh Nu.nil d x->C5 m x u->∃ x',C5 (λ_=>none) x' u/\vr w [] Nu.nil d x'
 |.agg cs,x,u,hd,hv=>by simp[vr]at hd;obtain⟨az,rfl,M⟩:=hd;simp[C5]at hv;obtain⟨us,rfl,N⟩:=hv;obtain⟨xs',g1,g2⟩:=lC h cs az us.toList M N;exact⟨.agg xs',by simp only[C5];exact⟨us,rfl,g1⟩,by simp only[vr];exact⟨_,rfl,g2⟩⟩
 |.tup cs,x,u,hd,hv=>by simp[vr]at hd;obtain⟨az,rfl,M⟩:=hd;simp[C5]at hv;obtain⟨us,rfl,N⟩:=hv;obtain⟨xs',g1,g2⟩:=lC h cs az us.toList M N;exact⟨.tup xs',by simp only[C5];exact⟨us,rfl,g1⟩,by simp only[vr];exact⟨_,rfl,g2⟩⟩
 |.fn f xs ys,x,u,hd,hv=>by simp[vr]at hd;obtain⟨us,vs,rfl,M,N⟩:=hd;simp[C5]at hv;obtain⟨us',vs',rfl,h3,h4⟩:=hv;obtain⟨az,g1,g2⟩:=lC h xs us us'.toList M h3;obtain⟨bs,g3,g4⟩:=lC h ys vs vs'.toList N h4;exact⟨.fn (.func f) az bs,by simp only[C5];exact⟨us',vs',rfl,g1,g3⟩,by simp only[vr];exact⟨az,bs,rfl,g2,g4⟩⟩
 |.gd b v,x,u,hd,hv=>by
   simp[vr]at hd;cases b with
   |true=>obtain⟨x',g1,g2⟩:=awG h v x u (hd.1 rfl) hv;exact⟨x',g1,by simp only[vr];exact⟨λ_=>g2,λe=>by cases e⟩⟩
   |false=>obtain⟨l,rfl⟩:=hd.2 rfl;simp[C5]at hv;obtain⟨vs,rfl,_⟩:=hv;exact⟨.tup (vs.toList.map bU),by simp only[C5];exact⟨vs,rfl,cv _ _⟩,by simp only[vr];exact⟨(λe=>by cases e),λ_=>⟨_,rfl⟩⟩⟩
 |.int k n,x,u,hd,hv=>⟨bU u,cK _ u,eh h (.int k n) x u rfl hd hv⟩|.bool b,x,u,hd,hv=>⟨bU u,cK _ u,eh h (.bool b) x u rfl hd hv⟩|.kb b,x,u,hd,hv=>⟨bU u,cK _ u,eh h (.kb b) x u rfl hd hv⟩|.str b,x,u,hd,hv=>⟨bU u,cK _ u,eh h (.str b) x u rfl hd hv⟩|.sl n f,x,u,hd,hv=>⟨bU u,cK _ u,eh h (.sl n f) x u rfl hd hv⟩|.sq n m f,x,u,hd,hv=>⟨bU u,cK _ u,eh h (.sq n m f) x u rfl hd hv⟩|.pd b,x,u,hd,hv=>⟨bU u,cK _ u,eh h (.pd b) x u rfl hd hv⟩|.pl k off,x,u,hd,hv=>⟨bU u,cK _ u,eh h (.pl k off) x u rfl hd hv⟩|.pe k i j,x,u,hd,hv=>⟨bU u,cK _ u,eh h (.pe k i j) x u rfl hd hv⟩|.ss k off n c,x,u,hd,hv=>⟨bU u,cK _ u,eh h (.ss k off n c) x u rfl hd hv⟩|.gs k n,x,u,hd,hv=>⟨bU u,cK _ u,eh h (.gs k n) x u rfl hd hv⟩|.ns,x,u,hd,hv=>⟨bU u,cK _ u,eh h .ns x u rfl hd hv⟩|.np,x,u,hd,hv=>⟨bU u,cK _ u,eh h .np x u rfl hd hv⟩|.any,x,u,hd,hv=>⟨bU u,cK _ u,eh h .any x u rfl hd hv⟩|.go k off n,x,u,hd,hv=>⟨bU u,cK _ u,eh h (.go k off n) x u rfl hd hv⟩|.yl l,x,u,hd,hv=>⟨ks l,by simp[vr]at hd;subst hd;simp[ks,C5]at hv ⊢;exact hv,by simp[vr]⟩
theorem lC (h:bh B m lh w):∀ (ds:List V) (xs:List ak) (us:List Value),bI B.w0 lh Nu.nil ds xs->aC m xs us->∃ xs',aC (λ_=>none) xs' us/\bI w [] Nu.nil ds xs'
 |[],xs,us,hd,hv=>by simp[bI]at hd;subst hd;simp[aC]at hv;subst hv;exact⟨[],by simp[aC],by simp[bI]⟩
 |d::ds,xs,us,hd,hv=>by
   simp[bI]at hd;obtain⟨x,xs',rfl,N,h3⟩:=hd;simp[aC]at hv;obtain⟨u,us',rfl,h4,h5⟩:=hv
   let ⟨a,g1,g2⟩:=awG h d x u N h4
   let ⟨az,g3,g4⟩:=lC h ds xs' us' h3 h5
   exact⟨a::az,by simp only[aC];exact⟨_,_,rfl,g1,g3⟩,by simp only[bI];exact⟨_,_,rfl,g2,g4⟩⟩
end
end
section
variable {w0:World} {ν:Nu} {nV nS:Nat} {h:List Ax} {lh:List ar}
theorem i10 (v:V):(tR v).fc=true:=by
 unfold tR;cases hv:v.fc with
 |true=>simpa using hv|false=>rfl
theorem hvz {v:V} {a:ak} (hv:vr w0 lh Nu.nil v a):vr w0 lh Nu.nil (tR v) a:=by
 unfold tR;cases v.fc with
 |true=>exact hv|false=>simp[cond,vr]
theorem uv (g:V->V) (l:List V):(l.map λv=>tR (g v)).all V.fc=true:=by rw[If];intro x hx;rw[List.mem_map]at hx;obtain⟨v,_,rfl⟩:=hx;exact i10 _
theorem wl {lh':List ar} {ν':Nu} {g:V->V} (hg:∀ v a,vr w0 lh ν v a->vr w0 lh' ν' (g v) a):∀ {vs:List V} {az:List ak},bI w0 lh ν vs az->bI w0 lh' ν' (vs.map g) az
 |[],az,hv=>by simp[bI]at hv ⊢;subst hv;simp[HL,bI]
 |v::vs,az,hv=>by simp only[bI]at hv;obtain⟨x,xs,rfl,M,N⟩:=hv;simp only[E8,bI];exact⟨_,_,rfl,hg v x M,wl hg N⟩
theorem pI (hh:HR w0 ν nV nS h lh):∀ (fu:Nat) (v:V) (a:ak),vr w0 ν.z ν v a->vr w0 lh Nu.nil (mF h fu v) a
 |0,v,a,_=>by simp only[mF,vr]
 |fu+1,v,a,hv=>by
   have ih:∀{vs:List V} {az:List ak},bI w0 ν.z ν vs az->bI w0 lh Nu.nil (vs.map (mF h fu)) az:=λR3=>wl (λv a=>pI hh fu v a) R3;have ihc:∀{vs:List V} {az:List ak},bI w0 ν.z ν vs az->bI w0 lh Nu.nil (vs.map λv=>tR (mF h fu v)) az:=λR3=>wl (λv a hv=>hvz (pI hh fu v a hv)) R3;unfold mF;split
   ·simp only[vr]at hv ⊢;exact hv
   ·simp only[vr]at hv ⊢;exact hv
   ·simp only[vr]at hv ⊢;exact hv
   ·simp only[vr]at hv ⊢;exact hv
   ·rename_i n f;exact nI hh.zl _ _ (by simp only[vr]at hv ⊢;exact hv)
   ·rename_i n m f;exact nI hh.zl _ _ (by simp only[vr]at hv ⊢;exact hv)
   ·rename_i cs;exact nI hh.zl _ _ (by simp only[vr]at hv ⊢;exact hv)
   ·simp only[vr]at hv ⊢;subst hv;exact⟨none,0,0,rfl,D7 _,K,trivial,λi hi=>by omega⟩
   ·simp only[vr]at hv ⊢;let ⟨az,M,N⟩:=hv;exact⟨az,M,ih N⟩
   ·simp only[vr]at hv ⊢;let ⟨us,vs,M,N,h3⟩:=hv;exact⟨us,vs,M,ih N,ih h3⟩
   ·rename_i k off
    rw[DG];split
    ·rename_i cs ty hk
     rw[b6];cases hb:Nat.ble off cs.length with
     |false=>simp only[cond,vr]
     |true=>
       have R8:=Dc hb;simp only[cond]
       let ⟨b,c0,e0,az,M,N,h3⟩:=hh.blk k _ hk
       simp only[vr]at hv ⊢;obtain⟨b',c',e',g1,rfl⟩:=hv;rw[M]at g1;obtain⟨rfl,rfl,rfl⟩:b=b'/\c0=c'/\e0=e':=by simpa using g1
       have hl:=bY h3;refine⟨.l b off,az.drop off,rfl,by simp[IF,N,isCells],?_,ihc (gY _ h3),uv _ _⟩;simp only[lds,N,List.length_map,JP];rw[CV K,IZ (by simp;omega)]
    ·simp only[vr]
   ·rename_i k n
    rw[DG];split
    ·rename_i e n' f ty hk
     cases hb:Nat.ble n n' with
     |false=>simp only[cond,vr]
     |true=>
       have R8:=Dc hb;simp only[cond];have hb:=hh.blk k _ hk;simp only[vr]at hv ⊢;rcases hb with ⟨M,N⟩|⟨b,c,az,M,N,h3,h4,h5⟩
       ·rcases hv with ⟨_,g2,rfl⟩|⟨b,c,e,g1,_⟩
        ·subst g2;exact⟨none,0,0,rfl,D7 _,K,trivial,λi hi=>by omega⟩
        ·rw[M]at g1;cases g1
       ·rcases hv with ⟨g1,_⟩|⟨b',c',e',g1,rfl,g3⟩
        ·rw[M]at g1;cases g1
        ·rw [M]at g1
         obtain⟨rfl,rfl,rfl⟩:b=b'/\c=c'/\e=e':=by simpa using g1
         refine⟨some (.l b 0),c,e,rfl,g3,K,⟨az,ty,N,Da _⟩,λi hi=>?_⟩;have Rn:i*e+e<=az.length:=by rw[h3,← E5];exact EA e K
         refine⟨_,_,rfl,?_,ihc (h5 i K).2,uv _ _⟩;simp only[jh.add,lds,N,EB];rw[CV K]
    ·simp only[vr]
   ·rename_i k off n c
    rw[DG];split
    ·rename_i cs ty hk
     rw[b6];cases hb:(Nat.ble n 9223372036854775807&&(Nat.ble n c&&Nat.ble (off+n*((cs.length-off) / c)) cs.length)) with
     |false=>simp only[cond,vr]
     |true=>
       simp only[D2]at hb;have b1:=Dc hb.1;have b2:=Dc hb.2.1;have b3:=Dc hb.2.2;simp only[cond]
       let ⟨b,c0,e0,az,M,N,h3⟩:=hh.blk k _ hk
       simp only[vr]at hv ⊢;obtain⟨b',c',e',g1,rfl⟩:=hv;rw[M]at g1;obtain⟨rfl,rfl,rfl⟩:b=b'/\c0=c'/\e0=e':=by simpa using g1
       have hl:=bY h3;refine⟨some (.l b off),c,(cs.length-off) / c,rfl,⟨b2,b2⟩,b1,⟨az,ty,N,K⟩,λi hi=>?_⟩;have Rn:off+i*((cs.length-off) / c)+(cs.length-off) / c<=cs.length:=by have:(i+1)*((cs.length-off) / c)<=n*((cs.length-off) / c):=EA _ K;rw[E5]at this;omega
       refine⟨_,_,rfl,?_,ja _ (gY _ (ihc h3)),ahM _ _ (uv _ _)⟩;simp only[jh.add,lds,N];rw[CV K]
    ·simp only[vr]
   ·simp only[vr]
theorem i25 (hz:wY ν.z lh) {v:V} {a:ak} (hv:vr w0 ν.z ν v a):vr w0 lh Nu.nil (EG v) a:=by
 unfold EG;split
 ·simp[vr]at hv ⊢;exact hv
 ·simp[vr]at hv ⊢;exact hv
 ·simp[vr]at hv ⊢;exact hv
 ·simp[vr]at hv ⊢;exact hv
 ·exact nI hz _ _ (by simp[vr]at hv ⊢;exact hv)
 ·exact nI hz _ _ (by simp[vr]at hv ⊢;exact hv)
 ·simp[vr]
theorem hxs (v:V):(EG v).fc=true:=by cases v<;>rfl
theorem hqs (l:List V):(l.map EG).all V.fc=true:=by rw[If];intro x hx;rw[List.mem_map]at hx;obtain⟨v,_,rfl⟩:=hx;exact hxs _
def Ug (l:List (Nat×Nat)):Prop:=∀p,p∈l->p.1<=p.2
theorem awV {a b:List (Nat×Nat)} (h:Ug (yY a b)):Ug a/\Ug b:=by rw[mJ]at h;exact⟨λp hp=>h p (K2 _ hp),λp hp=>h p (List.mem_append_right _ hp)⟩
theorem yM {α:Type} {LP:fD} {Q2:α->Prop}:∀ {l:List (Nat×Nat)} {x:Bh α},bT LP (Iw l x) Q2->Ug l/\bT LP x Q2
 |[],x,h=>⟨(λp hp=>by cases hp),h⟩
 |p::l,x,h=>by
   simp only[Iw,bT]at h
   let ⟨M,N⟩:=yM h.2
   refine⟨λPw hq=>?_,N⟩;rcases List.mem_cons.1 hq with rfl|hq
   ·exact Dc h.1
   ·exact M Pw hq
theorem abt (hh:HR w0 ν nV nS h lh) {k n:Nat} {a:ak} (hm:Ug (Jt h k n)) (hv:vr w0 ν.z ν (.gs k n) a):vr w0 lh Nu.nil (IT h k n) a:=by
 unfold Jt at hm;unfold IT;rw[DG]at hm ⊢;split
 ·rename_i e n' f ty hk
  rw[hk]at hm;have R8:n<=n':=hm (n,n') G7;have hb:=hh.blk k _ hk;cases Nat.beq e 6 with
  |true=>exact pI hh 11 _ a hv|false=>
  show vr w0 lh Nu.nil (.sl n (lM f)) a;simp only[vr]at hv ⊢;rcases hb with ⟨M,N⟩|⟨b,c,az,M,N,h3,h4,h5⟩
  ·rcases hv with ⟨_,g2,rfl⟩|⟨b,c,e,g1,_⟩
   ·subst g2;exact⟨none,0,0,rfl,D7 _,K,trivial,λi hi=>by omega⟩
   ·rw[M]at g1;cases g1
  ·rcases hv with ⟨g1,_⟩|⟨b',c',e',g1,rfl,g3⟩
   ·rw[M]at g1;cases g1
   ·rw [M]at g1
    obtain⟨rfl,rfl,rfl⟩:b=b'/\c=c'/\e=e':=by simpa using g1
    refine⟨some (.l b 0),c,e,rfl,g3,K,⟨az,ty,N,Da _⟩,λi hi=>?_⟩;have Rn:i*e+e<=az.length:=by rw[h3,← E5];exact EA e K
    refine⟨_,_,rfl,?_,wl (λv a hv=>i25 hh.zl hv) (h5 i K).2,hqs _⟩;simp only[jh.add,lds,N,EB];rw[CV K]
 ·simp[vr]
theorem i20 (hh:HR w0 ν nV nS h lh) {v:V} {a:ak} (hb:Ug (abS h v)) (hv:vr w0 ν.z ν v a):vr w0 lh Nu.nil (I0 h v) a:=by
 unfold I0;split
 ·exact abt hh hb hv
 ·exact pI hh 11 _ a hv
theorem hl2 (hh:HR w0 ν nV nS h lh):∀ {vs:List V} {az:List ak},Ug (Gz h vs)->bI w0 ν.z ν vs az->bI w0 lh Nu.nil (vs.map (I0 h)) az
 |[],az,_,hv=>by simp[bI,HL]at hv ⊢;exact hv
 |v::vs,az,hb,hv=>by have hb:=awV hb;simp[bI]at hv;obtain⟨x,xs,rfl,M,N⟩:=hv;simp only[E8,bI];exact⟨_,_,rfl,i20 hh hb.1 M,hl2 hh hb.2 N⟩
theorem hu' (hh:HR w0 ν nV nS h lh) {v:V} {a:ak} (hb:Ug (ad9 h v)) (hv:vr w0 ν.z ν v a):vr w0 lh Nu.nil (tN h v) a:=by
 unfold tN;split
 ·exact abt hh hb hv
 ·simp[vr]at hv ⊢
  let ⟨az,M,N⟩:=hv
  exact⟨az,M,hl2 hh hb N⟩
 ·exact pI hh 12 _ a hv
theorem te (hh:HR w0 ν nV nS h lh):∀ {vs:List V} {az:List ak},Ug (rR h vs)->bI w0 ν.z ν vs az->bI w0 lh Nu.nil (vs.map (tN h)) az
 |[],az,_,hv=>by simp[bI,HL]at hv ⊢;exact hv
 |v::vs,az,hb,hv=>by have hb:=awV hb;simp[bI]at hv;obtain⟨x,xs,rfl,M,N⟩:=hv;simp only[E8,bI];exact⟨_,_,rfl,hu' hh hb.1 M,te hh hb.2 N⟩
end
end Go.Dx
namespace Go.Sx
section
variable {P:Program} {Q1:FuncId->ca} {w0:World}
theorem iu (hS:∀ f,(Q1 f).Ok P f):∀ (ops:List ji) (sl:List ak) (lh:List ar) {At K':List ak->List ar->Prop},(∀ s l,At s l->K' s l)->fF w0 Q1 ops sl lh At->fF w0 Q1 ops sl lh K'
 |[],_,_,_,_,hk,h=>hk _ _ h
 |o::rest,sl,lh,At,K',hk,h=>by
   have ih:=λsl lh=>iu hS rest sl lh hk;simp[fF]at h ⊢;split at h
   ·exact dX hS (λ_ _=>ih _ _) h
   ·split at h
    ·exact⟨λe=>dX hS (λ_ _=>ih _ _) (h.1 e),λe=>ih _ _ (h.2 e)⟩
    ·exact ih _ _ h
    ·exact ih _ _ h
    ·exact h.elim
theorem kQ (hS:∀ f,(Q1 f).Ok P f) {Q2:Prop}:∀ (ops:List ji) (sl:List ak) (lh:List ar),fF w0 Q1 ops sl lh (λ_ _=>Q2)->Q2
 |[],_,_,h=>h
 |o::rest,sl,lh,h=>by
   have ih:=λsl lh=>kQ hS (Q2:=Q2) rest sl lh;simp[fF]at h;split at h
   ·exact oP hS (dX hS (λ_ _=>ih _ _) h)
   ·rename_i d want _
    split at h
    ·rename_i b _
     by_cases e:b=want
     ·exact oP hS (dX hS (λ_ _=>ih _ _) (h.1 e))
     ·exact ih _ _ (h.2 (by cases b<;>cases want<;>simp_all))
    ·exact ih _ _ h
    ·exact ih _ _ h
    ·exact h.elim
theorem hie (hS:∀ f,(Q1 f).Ok P f) {Ws:List (List Nat)} {H:Nat} {At K':List ak->List ar->Prop} (hk:∀ s l,At s l->K' s l):∀ (ds:List jd) (i:Nat) (sl:List ak) (lh:List ar),kw w0 Q1 Ws H At ds i sl lh->kw w0 Q1 Ws H K' ds i sl lh
 |[],_,_,_,h=>hk _ _ h|d::rest,i,sl,lh,h=>xz hS (λs l=>hie hS hk rest (i+1) s l) h
theorem hf' (hS:∀ f,(Q1 f).Ok P f) {Ws:List (List Nat)} {H:Nat} {Q2:Prop}:∀ (ds:List jd) (i:Nat) (sl:List ak) (lh:List ar),kw w0 Q1 Ws H (λ_ _=>Q2) ds i sl lh->Q2
 |[],_,_,_,h=>h|d::rest,i,sl,lh,h=>pg hS (nO hS (λ_=>hf' hS rest (i+1) _ _) h)
theorem iG (hS:∀f,(Q1 f).Ok P f) {ds:List jd} {sl:List ak} {lh:List ar} {At K':List ak->List ar->Prop} (hk:∀s l,At s l->K' s l) (h:ox w0 Q1 ds sl lh At):ox w0 Q1 ds sl lh K':=⟨h.1,hie hS hk ds 0 _ _ h.2⟩
theorem mX (hS:∀f,(Q1 f).Ok P f) {ds:List jd} {sl:List ak} {lh:List ar} {Q2:Prop} (h:ox w0 Q1 ds sl lh (λ_ _=>Q2)):Q2:=hf' hS ds 0 _ _ h.2
section it
variable {l:Nat} {QY:YH}
theorem dQ (hS:∀ f,(Q1 f).Ok P f) (hY:∀ xs lh At K',(∀ x l,At x l->K' x l)->QY xs lh At->QY xs lh K'):∀ (ops:List o3) (sl:List ak) (lh:List ar) (g:Option Ex) {At K':List ak->List ar->Option Ex->Prop},(∀ s l g,At s l g->K' s l g)->cN w0 Q1 l QY ops sl lh g At->cN w0 Q1 l QY ops sl lh g K'
 |[],_,_,_,_,_,hk,h=>hk _ _ _ h
 |.op o::rest,sl,lh,g,_,_,hk,h=>by simp[cN]at h ⊢;exact iu hS _ _ _ (λ_ _=>dQ hS hY rest _ _ g hk) h
 |.yld t d xs::rest,sl,lh,g,_,_,hk,h=>by simp[cN]at h ⊢;refine⟨h.1,h.2.1,hY _ _ _ _ (λx l hx=>?_) h.2.2⟩;cases x<;>exact dQ hS hY rest _ _ _ hk hx
 |.yldG d want t dst xs::rest,sl,lh,g,_,_,hk,h=>by
   simp only[cN]at h ⊢;cases hx:sl.getD d .any with
   |bool b=>
     simp only[hx]at h ⊢;refine⟨λe=>?_,λe=>dQ hS hY rest _ _ g hk (h.2 e)⟩
     let ⟨M,N,h3⟩:=h.1 e
     refine⟨M,N,hY _ _ _ _ (λx l hx=>?_) h3⟩;cases x<;>exact dQ hS hY rest _ _ _ hk hx
   |tup vs=>simp only[hx]at h ⊢;exact dQ hS hY rest _ _ g hk h|int k n=>simp only[hx]at h ⊢;exact dQ hS hY rest _ _ g hk h|_=>simp only[hx]at h
theorem dW (hS:∀ f,(Q1 f).Ok P f) (hY:∀ xs lh At K',(∀ x l,At x l->K' x l)->QY xs lh At->QY xs lh K') (UF:∀ xs lh (Q2:Prop),QY xs lh (λ_ _=>Q2)->Q2) {Q2:Prop}:∀ (ops:List o3) (sl:List ak) (lh:List ar) (g:Option Ex),cN w0 Q1 l QY ops sl lh g (λ_ _ _=>Q2)->Q2
 |[],_,_,_,h=>h
 |.op o::rest,sl,lh,g,h=>by simp[cN]at h;exact kQ hS _ _ _ (iu hS _ _ _ (λ_ _=>dW hS hY UF rest _ _ g) h)
 |.yld t d xs::rest,sl,lh,g,h=>by simp[cN]at h;refine UF _ _ _ (hY _ _ _ _ (λx l hx=>?_) h.2.2);cases x<;>exact dW hS hY UF rest _ _ _ hx
 |.yldG d want t dst xs::rest,sl,lh,g,h=>by
   simp only[cN]at h;cases hx:sl.getD d .any with
   |bool b=>
     simp only[hx]at h;by_cases e:b=want
     ·let ⟨M,N,h3⟩:=h.1 e
      refine UF _ _ _ (hY _ _ _ _ (λx l hx=>?_) h3);cases x<;>exact dW hS hY UF rest _ _ _ hx
     ·exact dW hS hY UF rest _ _ _ (h.2 (by cases b<;>cases want<;>simp_all))
   |tup vs=>simp only[hx]at h;exact dW hS hY UF rest _ _ _ h|int k n=>simp only[hx]at h;exact dW hS hY UF rest _ _ _ h|_=>simp only[hx]at h
theorem hq2 (hS:∀ f,(Q1 f).Ok P f) (hY:∀ xs lh At K',(∀ x l,At x l->K' x l)->QY xs lh At->QY xs lh K'):∀ (c:jq) (sl:List ak) (lh:List ar) (g:Option Ex) {Q2 Q':IQ},(∀ x s l g,Q2 x s l g->Q' x s l g)->lX w0 Q1 l QY c sl lh g Q2->lX w0 Q1 l QY c sl lh g Q':=by
 intro c;induction c with
 |reg ops=>intro sl lh g Q2 Q' hq h;exact dQ hS hY ops sl lh g (λ_ _ _=>hq _ _ _ _) h|draw ds=>intro sl lh g Q2 Q' hq h;exact iG hS (λ_ _=>hq _ _ _ _) h|drawY ds xs=>intro sl lh g Q2 Q' hq h;exact iG hS (λ_ _ h=>dQ hS hY xs _ _ g (λ_ _ _=>hq _ _ _ _) h) h
 |seq a b iha ihb=>
   intro sl lh g Q2 Q' hq h;refine iha sl lh g (λx s l g hx=>?_) h;cases x with
   |normal=>exact ihb _ _ _ hq hx|exit i=>exact hq _ _ _ _ hx|ret=>exact hq _ _ _ _ hx
 |cond c a b iha ihb=>
   intro sl lh g Q2 Q' hq h;simp[lX]at h ⊢;split at h
   ·exact⟨λe=>iha _ _ _ hq (h.1 e),λe=>ihb _ _ _ hq (h.2 e)⟩
   ·exact h.elim
 |block id b ih=>
   intro sl lh g Q2 Q' hq h;refine ih sl lh g (λx s l g hx=>?_) h;cases x with
   |normal=>exact hq _ _ _ _ hx|ret=>exact hq _ _ _ _ hx|exit i=>simp[xV]at hx ⊢;split at hx<;>rename_i e<;>simp[e,EN,EC]<;>exact hq _ _ _ _ hx
 |loop b ih=>
   intro sl lh g Q2 Q' hq h;simp[lX]at h ⊢
   let ⟨ι,shs,shl,shg,μ,i0,M,N,h3,hr⟩:=h
   refine⟨ι,shs,shl,shg,μ,i0,M,N,h3,λi=>ih _ _ _ (λx s l g hx=>?_) (hr i)⟩;cases x with
   |normal=>exact hx|exit i=>exact hq _ _ _ _ hx|ret=>exact hq _ _ _ _ hx
 |scope b ih=>intro sl lh g Q2 Q' hq h;exact ih sl lh g hq h|skip=>intro sl lh g Q2 Q' hq h;exact hq _ _ _ _ h|exit i=>intro sl lh g Q2 Q' hq h;exact hq _ _ _ _ h|ret=>intro sl lh g Q2 Q' hq h;exact hq _ _ _ _ h
theorem hmj (hS:∀ f,(Q1 f).Ok P f) (hY:∀ xs lh At K',(∀ x l,At x l->K' x l)->QY xs lh At->QY xs lh K') (UF:∀ xs lh (Q2:Prop),QY xs lh (λ_ _=>Q2)->Q2) {Qv:Prop}:∀ (c:jq) (sl:List ak) (lh:List ar) (g:Option Ex) {Q2:IQ},(∀ x s l g,Q2 x s l g->Qv)->lX w0 Q1 l QY c sl lh g Q2->Qv:=by
 intro c;induction c with
 |reg ops=>intro sl lh g Q2 hq h;exact dW hS hY UF ops sl lh g (dQ hS hY ops sl lh g (λ_ _ _=>hq _ _ _ _) h)|draw ds=>intro sl lh g Q2 hq h;exact mX hS (iG hS (K':=λ_ _=>Qv) (λ_ _=>hq _ _ _ _) h)|drawY ds xs=>intro sl lh g Q2 hq h;exact mX hS (iG hS (K':=λ_ _=>Qv) (λ_ _ h=>dW hS hY UF xs _ _ g (dQ hS hY xs _ _ g (λ_ _ _=>hq _ _ _ _) h)) h)
 |seq a b iha ihb=>
   intro sl lh g Q2 hq h;refine iha sl lh g (λx s l g hx=>?_) h;cases x with
   |normal=>exact ihb _ _ _ hq hx|exit i=>exact hq _ _ _ _ hx|ret=>exact hq _ _ _ _ hx
 |cond c a b iha ihb=>
   intro sl lh g Q2 hq h;simp[lX]at h;split at h
   ·rename_i t _
    cases t with
    |true=>exact iha _ _ _ hq (h.1 rfl)|false=>exact ihb _ _ _ hq (h.2 rfl)
   ·exact h.elim
 |block id b ih=>
   intro sl lh g Q2 hq h;refine ih sl lh g (λx s l g hx=>?_) h;cases x with
   |normal=>exact hq _ _ _ _ hx|ret=>exact hq _ _ _ _ hx|exit i=>simp[xV]at hx;split at hx<;>exact hq _ _ _ _ hx
 |loop b ih=>
   intro sl lh g Q2 hq h;simp[lX]at h
   let ⟨ι,shs,shl,shg,μ,i0,M,N,h3,hr⟩:=h
   have key:∀ k i,μ i=k->Qv:=λk=>by
    induction k using Nat.strongRecOn with
    |_ k ihk=>
      intro i hi;refine ih _ _ _ (λx s l g hx=>?_) (hr i);cases x with
      |normal=>let ⟨i',_,_,_,Q7⟩:=hx;exact ihk _ (by rw[← hi];exact Q7) i' rfl
      |exit i=>exact hq _ _ _ _ hx|ret=>exact hq _ _ _ _ hx
   exact key _ i0 rfl
 |scope b ih=>intro sl lh g Q2 hq h;exact ih sl lh g hq h|skip=>intro sl lh g Q2 hq h;exact hq _ _ _ _ h|exit i=>intro sl lh g Q2 hq h;exact hq _ _ _ _ h|ret=>intro sl lh g Q2 hq h;exact hq _ _ _ _ h
end it
theorem jv (hS:∀ f,(Q1 f).Ok P f):∀ (t:OT) (sl:List ak) (lh:List ar) {At K':List ak->List ar->Prop},(∀ s l,At s l->K' s l)->qS w0 Q1 t sl lh At->qS w0 Q1 t sl lh K'
 |.done,sl,lh,At,K',hk,h=>hk _ _ h|.op o r,sl,lh,At,K',hk,h=>iu hS [o] sl lh (λs l h=>jv hS r s l hk h) h|.alt a b,sl,lh,At,K',hk,h=>⟨jv hS a sl lh hk h.1,jv hS b sl lh hk h.2⟩
theorem mi (hS:∀ f,(Q1 f).Ok P f):∀ (t:OT) (sl:List ak) (lh:List ar) {Qv:Prop},qS w0 Q1 t sl lh (λ_ _=>Qv)->Qv
 |.done,sl,lh,Qv,h=>h|.op o r,sl,lh,Qv,h=>kQ hS [o] sl lh (iu hS [o] sl lh (K':=λ_ _=>Qv) (λs l h=>mi hS r s l h) h)|.alt a b,sl,lh,Qv,h=>mi hS a sl lh h.1
theorem Aa (hS:∀ f,(Q1 f).Ok P f):∀ (c:hG),(∀ (nb:Nat) (sl:List ak) (lh:List ar) {Q2 Q':Ex->List ak->List ar->Prop},(∀ x s l,Q2 x s l->Q' x s l)->cJ w0 Q1 nb c sl lh Q2->cJ w0 Q1 nb c sl lh Q') /\
 ∀(nb:Nat) (sl:List ak) (lh:List ar) {Q2:Ex->List ak->List ar->Prop} {Qv:Prop},(∀x s l,Q2 x s l->Qv)->cJ w0 Q1 nb c sl lh Q2->Qv:=by
 intro c;induction c with
 |reg ops=>exact⟨λnb sl lh Q2 Q' hq h=>iu hS ops sl lh (λ_ _=>hq _ _ _) h,λnb sl lh Q2 Qv hq h=>kQ hS ops sl lh (iu hS ops sl lh (λ_ _=>hq _ _ _) h)⟩|allo t=>exact⟨λnb sl lh Q2 Q' hq h=>jv hS t sl lh (λ_ _=>hq _ _ _) h,λnb sl lh Q2 Qv hq h=>mi hS t sl lh (jv hS t sl lh (K':=λ_ _=>Qv) (λ_ _=>hq _ _ _) h)⟩|alloq t=>exact⟨λnb sl lh Q2 Q' hq h=>jv (r7 hS) t sl lh (λ_ _=>hq _ _ _) h,λnb sl lh Q2 Qv hq h=>mi (r7 hS) t sl lh (jv (r7 hS) t sl lh (K':=λ_ _=>Qv) (λ_ _=>hq _ _ _) h)⟩|draw ds=>exact⟨λnb sl lh Q2 Q' hq h=>iG hS (λ_ _=>hq _ _ _) h,λnb sl lh Q2 Qv hq h=>mX hS (iG hS (K':=λ_ _=>Qv) (λ_ _=>hq _ _ _) h)⟩
 |seq a b iha ihb=>
   refine⟨λnb sl lh Q2 Q' hq h=>iha.1 nb sl lh (λx s l hx=>?_) h,λnb sl lh Q2 Qv hq h=>iha.2 nb sl lh (λx s l hx=>?_) h⟩
   ·cases x with|normal=>exact ihb.1 nb _ _ hq hx|exit i=>exact hq _ _ _ hx|ret=>exact hq _ _ _ hx
   ·cases x with|normal=>exact ihb.2 nb _ _ hq hx|exit i=>exact hq _ _ _ hx|ret=>exact hq _ _ _ hx
 |cond c a b iha ihb=>
   refine⟨λnb sl lh Q2 Q' hq h=>?_,λnb sl lh Q2 Qv hq h=>?_⟩
   ·simp[cJ]at h ⊢
    split at h
    ·exact⟨λe=>iha.1 nb _ _ hq (h.1 e),λe=>ihb.1 nb _ _ hq (h.2 e)⟩
    ·exact h.elim
   ·simp [cJ]at h
    split at h
    ·rename_i t _
     cases t with
     |true=>exact iha.2 nb _ _ hq (h.1 rfl)|false=>exact ihb.2 nb _ _ hq (h.2 rfl)
    ·exact h.elim
 |block id b ih=>
   refine⟨λnb sl lh Q2 Q' hq h=>ih.1 nb sl lh (λx s l hx=>?_) h,λnb sl lh Q2 Qv hq h=>ih.2 nb sl lh (λx s l hx=>?_) h⟩
   ·cases x with|normal=>exact hq _ _ _ hx|ret=>exact hq _ _ _ hx|exit i=>simp[xC]at hx ⊢;split at hx<;>rename_i e<;>simp[e,EN,EC]<;>exact hq _ _ _ hx
   ·cases x with|normal=>exact hq _ _ _ hx|ret=>exact hq _ _ _ hx|exit i=>simp[xC]at hx;split at hx<;>exact hq _ _ _ hx
 |loop b ih=>
   refine⟨λnb sl lh Q2 Q' hq h=>?_,λnb sl lh Q2 Qv hq h=>?_⟩
   ·simp only[cJ]at h ⊢
    let ⟨ι,shs,shl,μ,i0,M,hr⟩:=h
    refine⟨ι,shs,shl,μ,i0,M,λi=>ih.1 nb _ _ (λx s l hx=>?_) (hr i)⟩;cases x with
    |normal=>exact hx|exit i=>exact hq _ _ _ hx|ret=>exact hq _ _ _ hx
   ·simp only [cJ]at h
    let ⟨ι,shs,shl,μ,i0,M,hr⟩:=h
    have key:∀ k i,μ i=k->Qv:=λk=>by
     induction k using Nat.strongRecOn with
     |_ k ihk=>
       intro i hi;refine ih.2 nb _ _ (λx s l hx=>?_) (hr i);cases x with
       |normal=>let ⟨i',_,Q7⟩:=hx;exact ihk _ (by rw[← hi];exact Q7) i' rfl
       |exit i=>exact hq _ _ _ hx|ret=>exact hq _ _ _ hx
    exact key _ i0 rfl
 |scope b ih=>exact⟨λnb sl lh Q2 Q' hq h=>ih.1 nb sl lh hq h,λnb sl lh Q2 Qv hq h=>ih.2 nb sl lh hq h⟩|skip=>exact⟨λnb sl lh Q2 Q' hq h=>hq _ _ _ h,λnb sl lh Q2 Qv hq h=>hq _ _ _ h⟩|exit i=>exact⟨λnb sl lh Q2 Q' hq h=>hq _ _ _ h,λnb sl lh Q2 Qv hq h=>hq _ _ _ h⟩|ret=>exact⟨λnb sl lh Q2 Q' hq h=>hq _ _ _ h,λnb sl lh Q2 Qv hq h=>hq _ _ _ h⟩
 |range g ps asg body C3 iha ihb=>
   have hY:∀ (sl xs:List ak) (lh:List ar) (At K':Ex->List ar->Prop),(∀ x l,At x l->K' x l)->(xs.length=ps.length/\cJ w0 Q1 lh.length asg (mz sl ps xs) lh (vY (λsl lh'=>cJ w0 Q1 lh.length body sl lh' λx _ lh=>At x lh) λ_ _ _=>False))->(xs.length=ps.length/\cJ w0 Q1 lh.length asg (mz sl ps xs) lh (vY (λsl lh'=>cJ w0 Q1 lh.length body sl lh' λx _ lh=>K' x lh) λ_ _ _=>False)):=λsl xs lh At K' hk h=>by
    refine⟨h.1,iha.1 _ _ _ (λx s l hx=>?_) h.2⟩;cases x with
    |normal=>exact ihb.1 _ _ _ (λ_ _ _=>hk _ _) hx|exit i=>exact hx|ret=>exact hx
   have UF:∀ (sl xs:List ak) (lh:List ar) (Q2:Prop),(xs.length=ps.length/\cJ w0 Q1 lh.length asg (mz sl ps xs) lh (vY (λsl lh'=>cJ w0 Q1 lh.length body sl lh' λ_ _ _=>Q2) λ_ _ _=>False))->Q2:=λsl xs lh Q2 h=>by
    refine iha.2 _ _ _ (λx s l hx=>?_) h.2;cases x with
    |normal=>exact ihb.2 _ _ _ (λ_ _ _ h=>h) hx|exit i=>exact hx.elim|ret=>exact hx.elim
   refine⟨λnb sl lh Q2 Q' hq h=>?_,λnb sl lh Q2 Qv hq h=>?_⟩
   ·simp [cJ]at h ⊢
    split at h
    ·split at h
     ·exact λl=>hq2 hS (λxs lh At K'=>hY sl xs lh At K') _ _ _ _ (λx s l g hx=>by cases x<;>cases g<;>first|exact hx|exact hq _ _ _ hx) (h l)
     ·exact h.elim
    ·exact h.elim
   ·simp [cJ]at h
    split at h
    ·split at h
     ·exact hmj hS (λxs lh At K'=>hY sl xs lh At K') (λxs lh Q2=>UF sl xs lh Q2) _ _ _ _ (λx s l g hx=>by cases x<;>cases g<;>first|exact hx.elim|exact hq _ _ _ hx) (h 0)
     ·exact h.elim
    ·exact h.elim
theorem oq:∀ (rs:List CM) (sl:List ak) (lh:List ar) {At K':List ak->Prop},(∀ vs,At vs->K' vs)->kf w0 sl lh rs At->kf w0 sl lh rs K'
 |[],_,_,_,_,hk,h=>hk _ h|.tmp t::l,sl,lh,_,_,hk,h=>oq l sl lh (λ_=>hk _) h
 |.cell t n::l,sl,lh,_,_,hk,h=>by
   simp[kf]at h ⊢;split at h
   ·split at h
    ·let ⟨v,M,N⟩:=h;exact⟨v,M,oq l sl lh (λ_=>hk _) N⟩
    ·let ⟨v,M,N⟩:=h;exact⟨v,M,oq l sl lh (λ_=>hk _) N⟩
   ·exact h.elim
theorem kN {Qv:Prop}:∀ (rs:List CM) (sl:List ak) (lh:List ar),kf w0 sl lh rs (λ_=>Qv)->Qv
 |[],_,_,h=>h|.tmp t::l,sl,lh,h=>kN l sl lh h
 |.cell t n::l,sl,lh,h=>by
   simp only[kf]at h;split at h
   ·split at h
    ·let ⟨v,M,N⟩:=h;exact kN l sl lh N
    ·let ⟨v,M,N⟩:=h;exact kN l sl lh N
   ·exact h.elim
def Pz (Q1:FuncId->ca) (sf:aK):ca:=λw0 args lh At=>Jw w0 Q1 sf args lh At
theorem yap {Bs : List TypeId} {C3 : List iU} {f : FuncId} {fn : Func} {sf : aK} (hS : ∀ g, (Q1 g).Ok P g) (hE : ∀ t ∈ Bs, dM P t) (hI : mE P Bs C3) (hf : P.funcs[f]? = some fn) (hn : (fn.name == "runtime.NumGoroutine") = false) (hc : eS P Bs C3 fn = some sf) : (Pz Q1 sf).Ok P f := by
 have mono:∀ w0 args lh At K',(∀ r l,At r l->K' r l)->Pz Q1 sf w0 args lh At->Pz Q1 sf w0 args lh K':=λw0 args lh At K' hk h=>
  (Aa hS sf.body).1 _ _ _ (λx s l hx=>by cases x<;>first|exact hx|exact oq _ _ _ (λ_=>hk _ _) hx) h
 refine⟨qu hS hE hI hf hn hc λw0 args lh At _ _ h=>?_,mono,λw0 args lh Q2 h=>(Aa hS sf.body).2 _ _ _ (λx s l hx=>by cases x<;>first|exact hx.elim|exact kN _ _ _ hx) h⟩
 exact mono w0 args lh At _ (λr l hk=>⟨r,l,.inl ⟨rfl,by unfold nq;exact⟨.inr rfl,by simp[nq]⟩⟩,hk⟩) h
end
end Go.Sx
namespace Go.Dx
open Go.Sx
mutual
def dq:V->ak
 |.int k n=>.int k n|.bool b=>.bool b|.kb b=>.bool b|.str s=>.str s|.agg cs=>.agg (dj cs)|.tup cs=>.tup (dj cs)|.sl n f=>.fn (.func 0) [] ((List.range n).map λi=>.agg (dj (f i)))|_=>.any
def dj:List V->List ak
 |[]=>[]|v::vs=>dq v::dj vs
end
section
variable {w0:World} {lh:List ar} {ν:Nu}
theorem oe:∀ {v:V},bK (dq v)=true->∀ a,vr w0 lh ν v a↔a=dq v
 |.int ..,_,a=>by simp[vr,dq]
 |.bool _,_,a=>by simp[vr,dq]
 |.kb _,_,a=>by simp[vr,dq]
 |.str _,_,a=>by simp[vr,dq]
 |.agg _,h,_=>by simp[dq,bK]at h
 |.tup _,h,_=>by simp[dq,bK]at h
 |.fn ..,h,_=>by simp[dq,bK]at h
 |.sl ..,h,_=>by simp[dq,bK]at h
 |.pd ..,h,_=>by simp[dq,bK]at h
 |.pl ..,h,_=>by simp[dq,bK]at h
 |.pe ..,h,_=>by simp[dq,bK]at h
 |.ss ..,h,_=>by simp[dq,bK]at h
 |.gs ..,h,_=>by simp[dq,bK]at h
 |.ns,h,_=>by simp[dq,bK]at h
 |.np,h,_=>by simp[dq,bK]at h
 |.any,h,_=>by simp[dq,bK]at h
 |.gd ..,h,_=>by simp[dq,bK]at h
 |.yl _,h,_=>by simp[dq,bK]at h
 |.go ..,h,_=>by simp[dq,bK]at h
 |.sq ..,h,_=>by simp[dq,bK]at h
theorem fH:∀ {vs:List V},(dj vs).all bK=true->∀ az,bI w0 lh ν vs az↔az=dj vs
 |[],_,az=>by simp[bI,dj]
 |v::vs,h,az=>by
   simp only[dj,EJ,D2]at h;simp only[bI,dj];constructor
   ·rintro⟨x,xs,rfl,M,N⟩;rw[(oe h.1 x).1 M,(fH h.2 xs).1 N]
   ·rintro rfl;exact⟨_,_,rfl,(oe h.1 _).2 rfl,(fH h.2 _).2 rfl⟩
theorem rQ {v:V} (h:(match dq v with|.agg ds=>ds.all bK|a=>bK a)=true) (a:ak):vr w0 lh ν v a↔a=dq v:=by
 cases v with
 |agg cs=>
   simp only[dq]at h;simp only[vr,dq];constructor
   ·rintro⟨az,rfl,M⟩;rw[(fH h az).1 M]
   ·rintro rfl;exact⟨_,rfl,(fH h _).2 rfl⟩
 |_=>first|exact oe (by simpa[dq] using h) a|(simp[dq,bK]at h)
theorem oM:∀ {vs:List V},((dj vs).all λ|.agg ds=>ds.all bK|a=>bK a)=true->∀ az,bI w0 lh ν vs az↔az=dj vs
 |[],_,az=>by simp[bI,dj]
 |v::vs,h,az=>by
   simp only[dj,EJ,D2]at h;simp only[bI,dj];constructor
   ·rintro⟨x,xs,rfl,M,N⟩;rw[(rQ h.1 x).1 M,(oM h.2 xs).1 N]
   ·rintro rfl;exact⟨_,_,rfl,(rQ h.1 _).2 rfl,(oM h.2 _).2 rfl⟩
theorem AQ {v:V} (h:plain (dq v)=true) (a:ak):vr w0 lh ν v a↔a=dq v:=by
 cases v with
 |tup cs=>
   simp only[dq,plain]at h;simp only[vr,dq];constructor
   ·rintro⟨az,rfl,M⟩;rw[(oM h az).1 M]
   ·rintro rfl;exact⟨_,rfl,(oM h _).2 rfl⟩
 |agg cs=>exact rQ (by simpa[dq,plain] using h) a|_=>first|exact oe (by simpa[dq,plain] using h) a|(simp[dq,plain,bK]at h)
end
theorem xR:∀ vs:List V,(dj vs).length=vs.length
 |[]=>by simp[dj]
 |v::vs=>by simp[dj,xR vs]
theorem Hq {n m:Nat} {f g:be} (h:dq (.sl n f)=dq (.sl m g)):n=m/\∀i,i<n->dj (f i)=dj (g i):=by simp[dq,ak.fn.injEq,Dq]at h;have hl:=congrArg List.length h;simp[List.length_map,List.length_range]at hl;subst hl;refine⟨rfl,λi hi=>?_⟩;have:=congrArg (λl=>l[i]?) h;simpa[hi] using this
def rp:V->Option (Nat×(Nat->List V))
 |.sl n f=>some (n,f)|.tup (.sl n f::_)=>some (n,f)|_=>none
def Gg:V->List V
 |.tup (_::vs)=>vs|_=>[]
def evObi (v:V):V->V
 |.tup (_::vs)=>.tup (v::vs)|_=>v
def ru (a:ak):V->ak
 |.tup (_::vs)=>.tup (a::dj vs)|_=>a
theorem hij {r:V} {n:Nat} {f:be} (h:rp r=some (n,f)):r=.sl n f∨∃ vs,r=.tup (.sl n f::vs):=by
 unfold rp at h;split at h
 ·cases h;exact .inl rfl
 ·cases h;exact .inr ⟨_,rfl⟩
 ·cases h
def XR (e:Nat) (r:V):Prop:=∃n f,rp r=some (n,f)/\n<=9223372036854775807/\(∀i,i<n->nX e (f i)=true/\(dj (f i)).all bK=true)/\(dj (Gg r)).all bK=true
def Lu (e:Nat) (ty:TypeId) (nb:Nat) (lh:List ar) (n:Nat) (f:be) (x:ak):Prop :=
 (n=0/\x=.slice none 0 0)∨∃b c az,nb<=b/\lh[b]? = some (.cells az ty)/\x=.slice (some (.l b 0)) n c/\az.length=c*e/\n<=c/\∀i,i<n->(az.drop (i*e)).take e=dj (f i)
theorem AR {m m':aN} {x x':ak} {r:V} {n:Nat} {f:be} {v:Value} (hr:rp r=some (n,f)) (hs:(dj (Gg r)).all bK=true) (hx:∀ u,C5 m x u->C5 m' x' u) (h:C5 m (ru x r) v):C5 m' (ru x' r) v:=by
 rcases hij hr with rfl|⟨vs,rfl⟩
 ·exact hx v h
 ·simp[ru,C5]at h ⊢
  obtain⟨us,rfl,N⟩:=h;refine⟨us,rfl,?_⟩;simp[aC]at N ⊢
  let ⟨u,us',e,h3,h4⟩:=N
  exact⟨u,us',e,hx u h3,kj hs h4⟩
theorem Bq {e:Nat} {f:be}:∀ {n:Nat},(∀ i,i<n->(dj (f i)).length=e)->((List.range n).flatMap λi=>dj (f i)).length=n*e/\∀ i,i<n->(((List.range n).flatMap λi=>dj (f i)).drop (i*e)).take e=dj (f i)
 |0,_=>⟨au,λi hi=>by omega⟩
 |n+1,h=>by
   let ⟨M,N⟩:=Bq (n:=n) λi hi=>h i K
   rw[List.range_succ,List.flatMap_append];simp only[List.flatMap_cons,List.flatMap_nil,KE];have hn:=h n K;refine⟨by rw[Ea,M,hn,E5],λi hi=>?_⟩;by_cases e1:i=n
   ·subst e1;rw[Km K,List.drop_of_length_le K,List.nil_append,IZ K]
   ·have R8:i*e+e<=n*e:=by rw[← E5];exact EA e K
    rw[Km K,J9 (by rw[JP];omega)];exact N i K
theorem hlk {α:Type} {l l':List α} {QG a e:Nat} (h:l.take QG=l'.take QG) (ha:a+e<=QG):(l.drop a).take e=(l'.drop a).take e:=by
 have key:∀l:List α,(l.drop a).take e=((l.take QG).drop a).take e:=λl=>by rw[JU,HJ,Ig K]
 rw[key l,key l',h]
theorem hfn {az:List ak} {e:Nat}:∀ {n:Nat},(∀ i,i<n->((az.drop (i*e)).take e).all bK=true)->(az.take (n*e)).all bK=true
 |0,_=>by simp
 |n+1,h=>by rw[E5,List.take_add,List.all_append,hfn λi hi=>h i K,h n K];rfl
theorem hj1 {m:aN}:∀ vs:List Value,aC m (List.replicate vs.length .any) vs
 |[]=>by simp[aC]
 |v::vs=>by simp only[EO,IW,aC];exact⟨v,vs,rfl,trivial,hj1 vs⟩
theorem hq' {B:dP} {m:aN} {lh:List ar} {w:World} (h:bh B m lh w) {b:Nat} {az:List ak} {vs:Array Value} {ty:TypeId} (hb:w.heap[b]? = some (.cells vs ty (0,0)))
 (hs:aC (λk=>if k=lh.length then some b else m k) az vs.toList) (h0:B.w0.heap.size<=b) (M:B.wf.heap.size<=b) (hn:∀k b',m k=some b'->b'≠b):bh B (λk=>if k=lh.length then some b else m k) (lh++[.cells az ty]) w/\m.le (λk=>if k=lh.length then some b else m k):=by
 have R8:m.le (λk=>if k=lh.length then some b else m k):=λk x hk=>by
  have:k≠lh.length:=λe=>by rw[e,h.dom _ (D7 _)]at hk;cases hk
  simp[C4 this];exact hk
 have hget:∀ k cs ty',(lh++[ar.cells az ty])[k]? = some (.cells cs ty')->(k=lh.length/\cs=az/\ty'=ty)∨(k<lh.length/\lh[k]? = some (.cells cs ty')):=λk cs ty' hk=>by
  rw[Ei]at hk;split at hk
  ·rename_i Q7;exact .inr ⟨Q7,hk⟩
  ·rename_i TM
   have:k-lh.length=0:=by apply Classical.byContradiction;intro Rw;rw[Do (by simp;omega)]at hk;cases hk
   rw[this]at hk;simp[Ew,DJ,ar.cells.injEq]at hk;exact .inl ⟨K,hk.1.symm,hk.2.symm⟩
 refine⟨⟨h.os,h.tape,h.output,h.size,h.old,h.fsize,h.kept,λk cs ty' hk=>?_,λk k' b' cs cs' ty1 DC hk Rv hm UW=>?_,λk hk=>?_,λk hk=>?_,λk b' hk=>?_⟩,R8⟩
 ·rcases hget k cs ty' hk with ⟨rfl,rfl,rfl⟩|⟨Q7,hk⟩
  ·exact⟨b,vs,au,hs,hb,h0,.inl M⟩
  ·let ⟨b',vs',g1,g2,g3,g4,g5⟩:=h.loc k cs ty' hk
   exact⟨b',vs',R8 _ _ g1,db R8 _ _ g2,g3,g4,g5⟩
 ·rcases hget k cs ty1 hk with ⟨e1,_,_⟩|⟨l1,g1⟩<;>rcases hget k' cs' DC Rv with ⟨e2,_,_⟩|⟨l2,g2⟩
  ·omega
  ·simp[e1,EN]at hm;simp[C4 (Ij l2)]at UW;cases hm;exact(hn _ _ UW rfl).elim
  ·simp[e2,EN]at UW;simp[C4 (Ij l1)]at hm;cases UW;exact(hn _ _ hm rfl).elim
  ·simp[C4 (Ij l1)]at hm;simp[C4 (Ij l2)]at UW;exact h.inj k k' b' cs cs' ty1 DC g1 g2 hm UW
 ·simp[Ea,EO,FL]at hk;simp[C4 (show k≠lh.length by omega)];exact h.dom k K
 ·rw [Ei]at hk
  split at hk
  ·rename_i Q7;simp[C4 (Ij Q7)];exact h.dead k hk
  ·rename_i TM
   have:k-lh.length=0:=by apply Classical.byContradiction;intro Rw;rw[Do (by simp;omega)]at hk;cases hk
   rw[this]at hk;simp at hk
 ·by_cases e1:k=lh.length
  ·simp[e1,EN,DJ]at hk;subst hk;exact(Array.getElem?_eq_some_iff.1 hb).1
  ·simp[C4 e1]at hk;exact h.rng k b' hk
abbrev aE:=List V->Option ((List V×List V)×Prop×V)
def Ix (r:V):Prop:=∀(w0:World) (lh:List ar),∃x new,vr w0 (List.replicate lh.length .dead++new) Nu.nil r x
inductive M3 where|con (C:aE)|conN (C:aE) (h:∀ds d p r,C ds=some (d,p,r)->d.1=d.2->p->Ix r)|conZ (C:aE) (h:∀ds d p r,C ds=some (d,p,r)->d.1=d.2->p->∀w0 lh args,bI w0 lh Nu.nil ds args->∃x new,vr w0 (lh++new) Nu.nil r x)|inl (sf:aK) (un:l8)
abbrev bm:=List (FuncId×M3)
def kK:bm->FuncId->Option M3
 |[],_=>none|(k,c)::l,f=>cond (Nat.beq f k) (some c) (kK l f)
def vP (C:aE):ca:=λw0 args lh At=>∃ds d p r,bI w0 lh Nu.nil ds args/\C ds=some (d,p,r)/\(d.1=d.2/\p)/\plain (dq r)=true/\At (dq r) lh
def vL (e:Nat) (ty:TypeId) (C:aE):ca:=λw0 args lh At=>∃ds d p r n f,bI w0 lh Nu.nil ds args/\C ds=some (d,p,r)/\(d.1=d.2/\p)/\rp r=some (n,f)/\XR e r/\∀x new,Lu e ty lh.length (lh++new) n f x->At (ru x r) (lh++new)
def vN (C:aE):ca:=λw0 args lh At=>∃ds d p r,bI w0 lh Nu.nil ds args/\C ds=some (d,p,r)/\(d.1=d.2/\p)/\Ix r/\∀x new,vr w0 (List.replicate lh.length .dead++new) Nu.nil r x->At x (lh++new)
def vZ (C:aE):ca:=λw0 args lh At=>∃ds d p r X,bI w0 (hide X lh) Nu.nil ds args/\(∀k,k∉X->isCells lh[k]? = true∨lh.length<=k)/\C ds=some (d,p,r)/\(d.1=d.2/\p)/\(∃x new,vr w0 (hide X lh++new) Nu.nil r x)/\∀x new,vr w0 (hide X lh++new) Nu.nil r x->At x (lh++new)
def SV (ct:bm):D6
 |0,f=>match kK ct f with|some (.con C)=>vP C|some (.conN C _)=>vN C|some (.conZ C _)=>vZ C|_=>NB
 |n+1,f=>match kK ct f with|some (.con C)=>vP C|some (.conN C _)=>vN C|some (.conZ C _)=>vZ C|some (.inl sf _)=>Pz (SV ct n) sf|none=>NB
section
variable {α:Type}
def KY (C:aE) (vs:List V) (h:List Ax) (At:V->Bh α):Bh α:=match C (vs.map (tN h)) with|none=>.fail 81|some (d,p,r)=>.obq d.1 d.2 (.obp p (.ob (plain (dq r)) (Iw (rR h vs) (At r))))
def xO (C:aE) (vs:List V) (h:List Ax) (At:V->Bh α):Bh α:=match C (vs.map (tN h)) with|none=>.fail 86|some (d,p,r)=>.obq d.1 d.2 (.obp p (Iw (rR h vs) (At r)))
mutual
def oT:V->Bool
 |.int ..|.bool _|.kb _|.str _|.sl ..|.sq ..|.pd _|.ns|.np|.any=>true|.agg cs|.tup cs=>yn cs|_=>false
def yn:List V->Bool
 |[]=>true|v::vs=>oT v&&yn vs
end
def yt (C:aE) (vs:List V) (h:List Ax) (At:V->Bh α):Bh α:=match C vs with|none=>.fail 87|some (d,p,r)=>.obq d.1 d.2 (.obp p (.ob (yn vs) (At r)))
def ou (ct:bm):CP α:=λPw f vs h At=>match kK ct f with|some (.con C)=>KY C vs h At|some (.conN C _)=>cond Pw (xO C vs h At) (.fail 80)|some (.conZ C _)=>cond Pw (yt C vs h At) (.fail 80)|_=>.fail 80
def oR (ct:bm):Nat->CF α
 |0,f,vs,h,At=>match kK ct f with
   |some (.con C)=>KY C vs h λv=>At v h
   |some (.conN C _)=>xO C vs h λv=>At v h
   |some (.conZ C _)=>yt C vs h λv=>At v h
   |_=>.fail 82
 |n+1,f,vs,h,At=>match kK ct f with
   |some (.con C)=>KY C vs h λv=>At v h
   |some (.conN C _)=>xO C vs h λv=>At v h
   |some (.conZ C _)=>yt C vs h λv=>At v h
   |some (.inl sf un)=>o0 (oR ct n) (ou ct) un n sf vs h At|none=>.fail 83
theorem sS {w0:World} {LP:fD} {C:aE} {vs:List V} {h:List Ax} {At:V->Bh α} {Q2:α->Prop} {ν:Nu} {nV nS:Nat} {args:List ak} {lh:List ar} {KA:ak->List ar->Prop} (hv:bI w0 ν.z ν vs args) (hh:HR w0 ν nV nS h lh) (hs:bT LP (KY C vs h At) Q2)
 (hK:∀v a,vr w0 ν.z ν v a->bT LP (At v) Q2->KA a lh):vP C w0 args lh KA:=by
 unfold KY at hs;split at hs
 ·exact hs.elim
 ·rename_i d p r hr
  simp[bT]at hs
  let ⟨hb,YP⟩:=yM hs.2.2.2
  exact⟨_,d,p,r,te hh hb hv,hr,⟨hs.1,hs.2.1⟩,hs.2.2.1,hK r (dq r) ((AQ hs.2.2.1 _).2 rfl) YP⟩
theorem uH {w0:World} {LP:fD} {C:aE} (hC:∀ ds d p r,C ds=some (d,p,r)->d.1=d.2->p->Ix r) {vs:List V} {h:List Ax} {At:V->Bh α} {Q2:α->Prop} {ν:Nu} {nV nS:Nat} {args:List ak} {lh:List ar} {KA:ak->List ar->Prop} (hv:bI w0 ν.z ν vs args) (hh:HR w0 ν nV nS h lh) (hs:bT LP (xO C vs h At) Q2)
 (hK:∀v ν' a lh',(∃t,lh'=lh++t)->ν.sub ν'->HR w0 ν' nV nS h lh'->vr w0 ν'.z ν' v a->bT LP (At v) Q2->KA a lh'):vN C w0 args lh KA:=by
 unfold xO at hs;split at hs
 ·exact hs.elim
 ·rename_i d p r hr
  simp[bT]at hs
  let ⟨hb,YP⟩:=yM hs.2.2
  refine⟨_,d,p,r,te hh hb hv,hr,⟨hs.1,hs.2.1⟩,hC _ _ _ _ hr hs.1 hs.2.1,λx new hx=>?_⟩;have hz:∀k,k<lh.length->((List.range lh.length).map (λk=>(ν.z[k]?).getD ar.dead)++new)[k]? = some ((ν.z[k]?).getD .dead):=λk hk=>by rw[DW (by simpa using hk)];simp[hk]
  have WO:∀k,lh.length<=k->((List.range lh.length).map (λk=>(ν.z[k]?).getD ar.dead)++new)[k]? = new[k-lh.length]? := λk hk=>by rw[Dy (by simpa using hk)];simp
  have hsub:ν.sub ⟨ν.m,(List.range lh.length).map (λk=>(ν.z[k]?).getD ar.dead)++new⟩:=⟨λ_ _ h=>h,λk az ty hk=>by have g:=hh.zl k az ty hk;have Q7:=(List.getElem?_eq_some_iff.1 g).1;show((List.range lh.length).map (λk=>(ν.z[k]?).getD ar.dead)++new)[k]? = _;rw[hz k Q7,hk];rfl⟩;refine hK r _ x _ ⟨new,rfl⟩ hsub ⟨λk o hk=>?_,hh.inj,hh.dom,λk R hk=>by rw[Ea];exact Fj (hh.rng k R hk) K,λj az ty hj=>?_,λk R hl hk=>?_⟩ ?_ YP
  ·by_cases hd:o=.dead
   ·subst hd
    let ⟨g1,g2,g3⟩:=hh.blk k _ hk
    exact⟨g1,g2,by rw[DW (List.getElem?_eq_some_iff.1 g3).1];exact g3⟩
   ·exact d7 hsub hd (λb az ty' g1 _=>by rw[DW (List.getElem?_eq_some_iff.1 g1).1];exact g1) (hh.blk k _ hk)
  ·by_cases Q7:j<lh.length
   ·rw [hz j Q7]at hj
    cases hg:ν.z[j]? with
    |none=>rw[hg]at hj;cases hj
    |some o=>rw[hg]at hj;simp[K7,DJ]at hj;subst hj;rw[DW Q7];exact hh.zl j az ty hg
   ·rw[WO j K]at hj;rw[Dy K];exact hj
  ·have Q7:=hh.rng k R hk
   have:=hh.zn k R hl hk;show isCells ((List.range lh.length).map (λk=>(ν.z[k]?).getD ar.dead)++new)[R.1]? = false;rw[hz _ Q7];cases hg:ν.z[R.1]? with
   |none=>rfl|some o=>rw[hg]at this;exact this
  ·refine p7 (λk x h=>by cases h) r x (nI (λk az ty hk=>?_) r x hx)
   by_cases Q7:k<lh.length
   ·rw[DW (by simpa using Q7)]at hk;simp[Q7]at hk
   ·rw[Dy (by simp;omega)]at hk;rw[WO k K];simpa using hk
mutual
theorem hr0 {w0:World} {lh:List ar} {ν:Nu}:∀ (v:V) (a:ak),oT v=true->vr w0 lh ν v a->vr w0 lh Nu.nil v a
 |.int ..,a,_,h=>by simp[vr]at h ⊢;exact h
 |.bool _,a,_,h=>by simp[vr]at h ⊢;exact h
 |.kb _,a,_,h=>by simp[vr]at h ⊢;exact h
 |.str _,a,_,h=>by simp[vr]at h ⊢;exact h
 |.sl ..,a,_,h=>by simp[vr]at h ⊢;exact h
 |.sq ..,a,_,h=>by simp[vr]at h ⊢;exact h
 |.pd _,a,_,h=>by simp[vr]at h ⊢;exact h
 |.ns,a,_,h=>by simp[vr]at h ⊢;exact h
 |.np,a,_,h=>by simp[vr]at h ⊢;exact h
 |.any,a,_,h=>by simp[vr]
 |.agg cs,a,hn,h=>by simp[vr]at h ⊢;let ⟨az,e,h⟩:=h;exact⟨az,e,qL cs az (by simpa[oT] using hn) h⟩
 |.tup cs,a,hn,h=>by simp[vr]at h ⊢;let ⟨az,e,h⟩:=h;exact⟨az,e,qL cs az (by simpa[oT] using hn) h⟩
 |.fn ..,a,hn,h=>by simp[oT]at hn
 |.pl ..,a,hn,h=>by simp[oT]at hn
 |.pe ..,a,hn,h=>by simp[oT]at hn
 |.ss ..,a,hn,h=>by simp[oT]at hn
 |.gs ..,a,hn,h=>by simp[oT]at hn
 |.gd ..,a,hn,h=>by simp[oT]at hn
 |.yl ..,a,hn,h=>by simp[oT]at hn
 |.go ..,a,hn,h=>by simp[oT]at hn
theorem qL {w0:World} {lh:List ar} {ν:Nu}:∀ (vs:List V) (az:List ak),yn vs=true->bI w0 lh ν vs az->bI w0 lh Nu.nil vs az
 |[],az,_,h=>by simp[bI]at h ⊢;exact h
 |v::vs,az,hn,h=>by
   simp[yn,D2]at hn;simp[bI]at h ⊢
   let ⟨x,xs,e,M,N⟩:=h
   exact⟨x,xs,e,hr0 v x hn.1 M,qL vs xs hn.2 N⟩
end
theorem ue {w0:World} {LP:fD} {C:aE} (hC:∀ ds d p r,C ds=some (d,p,r)->d.1=d.2->p->∀ w0 lh args,bI w0 lh Nu.nil ds args->∃ x new,vr w0 (lh++new) Nu.nil r x) {vs:List V} {h:List Ax} {At:V->Bh α} {Q2:α->Prop} {ν:Nu} {nV nS:Nat} {args:List ak} {lh:List ar} {KA:ak->List ar->Prop} (hv:bI w0 ν.z ν vs args) (hh:HR w0 ν nV nS h lh) (hs:bT LP (yt C vs h At) Q2)
 (hK:∀v ν' a lh',(∃t,lh'=lh++t)->ν.sub ν'->HR w0 ν' nV nS h lh'->vr w0 ν'.z ν' v a->bT LP (At v) Q2->KA a lh'):vZ C w0 args lh KA:=by
 unfold yt at hs;split at hs
 ·exact hs.elim
 ·rename_i d p r hr
  simp[bT]at hs
  let ⟨U5,U6,XF,YP⟩:=hs
  have hX:∀k,k∈((List.range lh.length).filter λk=>!isCells ν.z[k]?)↔k<lh.length/\isCells ν.z[k]? = false:=λk=>by simp
  have XH:wY ν.z (hide ((List.range lh.length).filter λk=>!isCells ν.z[k]?) lh):=λk az ty hk=>by rw[Go.Sx.hide_get,C4 (λhm=>by have:=((hX k).1 hm).2;rw[hk]at this;simp[isCells]at this)];exact hh.zl k az ty hk
  have ha:bI w0 (hide ((List.range lh.length).filter λk=>!isCells ν.z[k]?) lh) Nu.nil vs args:=lL XH vs args (qL vs args XF hv);refine⟨vs,d,p,r,_,ha,λk hk=>?_,hr,⟨U5,U6⟩,hC _ _ _ _ hr U5 U6 _ _ _ ha,λx new hx=>?_⟩
  ·rcases Fa k lh.length with Q7|TM
   ·left
    cases hi:isCells ν.z[k]? with
    |false=>exact(hk ((hX k).2 ⟨Q7,hi⟩)).elim
    |true=>
      cases hz:ν.z[k]? with
      |none=>rw[hz]at hi;cases hi
      |some o=>
        rw[hz]at hi;cases o with
        |cells az ty=>rw[hh.zl k az ty hz];rfl|_=>cases hi
   ·exact .inr TM
  have hz:∀k,k<lh.length->((List.range lh.length).map (λk=>(ν.z[k]?).getD ar.dead)++new)[k]? = some ((ν.z[k]?).getD .dead):=λk hk=>by rw[DW (by simpa using hk)];simp[hk]
  have WO:∀k,lh.length<=k->((List.range lh.length).map (λk=>(ν.z[k]?).getD ar.dead)++new)[k]? = new[k-lh.length]? := λk hk=>by rw[Dy (by simpa using hk)];simp
  have hsub:ν.sub ⟨ν.m,(List.range lh.length).map (λk=>(ν.z[k]?).getD ar.dead)++new⟩:=⟨λ_ _ h=>h,λk az ty hk=>by have g:=hh.zl k az ty hk;have Q7:=(List.getElem?_eq_some_iff.1 g).1;show((List.range lh.length).map (λk=>(ν.z[k]?).getD ar.dead)++new)[k]? = _;rw[hz k Q7,hk];rfl⟩;refine hK r _ x _ ⟨new,rfl⟩ hsub ⟨λk o hk=>?_,hh.inj,hh.dom,λk R hk=>by rw[Ea];exact Fj (hh.rng k R hk) K,λj az ty hj=>?_,λk R hl hk=>?_⟩ ?_ YP
  ·by_cases hd:o=.dead
   ·subst hd
    let ⟨g1,g2,g3⟩:=hh.blk k _ hk
    exact⟨g1,g2,by rw[DW (List.getElem?_eq_some_iff.1 g3).1];exact g3⟩
   ·exact d7 hsub hd (λb az ty' g1 _=>by rw[DW (List.getElem?_eq_some_iff.1 g1).1];exact g1) (hh.blk k _ hk)
  ·by_cases Q7:j<lh.length
   ·rw [hz j Q7]at hj
    cases hg:ν.z[j]? with
    |none=>rw[hg]at hj;cases hj
    |some o=>rw[hg]at hj;simp[K7,DJ]at hj;subst hj;rw[DW Q7];exact hh.zl j az ty hg
   ·rw[WO j K]at hj;rw[Dy K];exact hj
  ·have Q7:=hh.rng k R hk
   have:=hh.zn k R hl hk;show isCells ((List.range lh.length).map (λk=>(ν.z[k]?).getD ar.dead)++new)[R.1]? = false;rw[hz _ Q7];cases hg:ν.z[R.1]? with
   |none=>rfl|some o=>rw[hg]at this;exact this
  ·refine p7 (λk x h=>by cases h) r x (nI (λk az ty hk=>?_) r x hx)
   by_cases Q7:k<lh.length
   ·rw [DW (by rw[Go.Sx.hide_length];exact Q7),Go.Sx.hide_get]at hk
    split at hk
    ·cases hg:lh[k]? <;> rw[hg]at hk<;>cases hk
    ·rename_i hm
     rw[hz k Q7];cases hi:isCells ν.z[k]? with
     |false=>exact(hm ((hX k).2 ⟨Q7,hi⟩)).elim
     |true=>
       cases hg:ν.z[k]? with
       |none=>rw[hg]at hi;cases hi
       |some o=>
         rw[hg]at hi;cases o with
         |cells as' ty'=>have:=hh.zl k as' ty' hg;rw[hk]at this;cases this;rfl|_=>cases hi
   ·rw[Dy (by rw[Go.Sx.hide_length];omega),Go.Sx.hide_length]at hk;rw[WO k K];exact hk
theorem fs8 {ct:bm} {lv:Nat} {f:FuncId} {C:aE} (hC:kK ct f=some (.con C)):SV ct lv f=vP C:=by cases lv<;>simp[SV,hC]
theorem sqN {ct:bm} {lv:Nat} {f:FuncId} {C:aE} {h} (hC:kK ct f=some (.conN C h)):SV ct lv f=vN C:=by cases lv<;>simp[SV,hC]
theorem nf5 {ct:bm} {lv:Nat} {f:FuncId} {C:aE} {h} (hC:kK ct f=some (.conZ C h)):SV ct lv f=vZ C:=by cases lv<;>simp[SV,hC]
theorem qG (w0:World) (ct:bm) (LP:fD) (lv:Nat):xF w0 (SV ct lv) LP (ou (α:=α) ct):=by
 refine⟨?_,?_⟩
 ·intro f vs h At Q2 ν nV nS args lh KA hv hh hs hK
  unfold ou at hs;split at hs
  ·rename_i C hC;rw[fs8 hC];exact sS hv hh hs hK
  ·exact hs.elim
  ·exact hs.elim
  ·exact hs.elim
 ·intro f vs h At Q2 ν nV nS args lh KA hv hh hs hK
  unfold ou at hs;unfold zA;dsimp only at hs;split at hs
  ·rename_i C hC;rw[fs8 hC];exact sS hv hh hs λv a M N=>⟨⟨[],au⟩,hK v h ν a lh (λe=>by cases e) (Nu.sub_refl ν) hh M N⟩
  ·rename_i C nR hC;rw[sqN hC];exact uH nR hv hh hs λv ν' a lh' h0 M N h3 h4=>⟨h0,hK v h ν' a lh' (λe=>by cases e) M N h3 h4⟩
  ·rename_i C nR hC;rw[nf5 hC];exact ue nR hv hh hs λv ν' a lh' h0 M N h3 h4=>⟨h0,hK v h ν' a lh' (λe=>by cases e) M N h3 h4⟩
  ·exact hs.elim
def qT:bm->Bool
 |[]=>true|(_,.con _)::l=>qT l|(_,.conN ..)::l=>qT l|(_,.conZ ..)::l=>qT l|(_,.inl sf _)::l=>gm sf.ntmps sf.body&&qT l
theorem AX:∀ {ct:bm} {f:FuncId} {sf:aK} {un:l8},qT ct=true->kK ct f=some (.inl sf un)->gm sf.ntmps sf.body=true
 |[],_,_,_,_,h=>by cases h
 |(k,c)::l,f,sf,un,hd,h=>by
   simp[kK]at h;cases hb:Nat.beq f k with
   |true=>rw[hb]at h;simp[cond]at h;cases h;simp[qT,D2]at hd;exact hd.1
   |false=>
     rw[hb]at h;simp[cond]at h;refine AX (ct:=l) ?_ h;cases c with
     |con C=>exact hd|conN C h=>exact hd|conZ C h=>exact hd|inl sf' un'=>simp[qT,D2]at hd;exact hd.2
theorem qp (w0:World) (ct:bm) (hd:qT ct=true):∀ (lv:Nat),uC w0 (SV ct lv) (dN w0 (SV ct)) false (oR (α:=α) ct lv)
 |0=>by
   intro f vs h At Q2 ν nV nS args lh KA hv hh hs hK;simp[oR]at hs;split at hs
   ·rename_i C hC
    have:SV ct 0 f=vP C:=by simp[SV,hC]
    rw[this];exact sS hv hh hs λv a hv hs=>hK v h ν a lh (λe=>by cases e) (Nu.sub_refl ν) hh hv hs
   ·rename_i C hC0 hC
    have:SV ct 0 f=vN C:=by simp[SV,hC]
    rw[this];exact uH hC0 hv hh hs λv ν' a lh' _ g0 g1 g2 g3=>hK v h ν' a lh' (λe=>by cases e) g0 g1 g2 g3
   ·rename_i C hC0 hC
    have:SV ct 0 f=vZ C:=by simp[SV,hC]
    rw[this];exact ue hC0 hv hh hs λv ν' a lh' _ g0 g1 g2 g3=>hK v h ν' a lh' (λe=>by cases e) g0 g1 g2 g3
   ·exact hs.elim
 |n+1=>by
   intro f vs h At Q2 ν nV nS args lh KA hv hh hs hK;simp[oR]at hs;split at hs
   ·rename_i C hC
    have:SV ct (n+1) f=vP C:=by simp[SV,hC]
    rw[this];exact sS hv hh hs λv a hv hs=>hK v h ν a lh (λe=>by cases e) (Nu.sub_refl ν) hh hv hs
   ·rename_i C hC0 hC
    have:SV ct (n+1) f=vN C:=by simp[SV,hC]
    rw[this];exact uH hC0 hv hh hs λv ν' a lh' _ g0 g1 g2 g3=>hK v h ν' a lh' (λe=>by cases e) g0 g1 g2 g3
   ·rename_i C hC0 hC
    have:SV ct (n+1) f=vZ C:=by simp[SV,hC]
    rw[this];exact ue hC0 hv hh hs λv ν' a lh' _ g0 g1 g2 g3=>hK v h ν' a lh' (λe=>by cases e) g0 g1 g2 g3
   ·rename_i sf un hC
    have:SV ct (n+1) f=Pz (SV ct n) sf:=by simp[SV,hC]
    rw[this];exact sN (qp w0 ct hd n) (qG w0 ct _ n) (AX hd hC) hv hh hs λv h' ν' a lh' g0 g1 g2 g3=>hK v h' ν' a lh' (λe=>by cases e) g0 (g1 nV nS) g2 g3
   ·exact hs.elim
end
inductive aZ (P:Program) (Bs:List TypeId) (C3:List iU):bm->Prop
 |nil:aZ P Bs C3 []
 |con {f:FuncId} {C:aE} {ct:bm} (h:(vP C).Ok P f) (hl:aZ P Bs C3 ct):aZ P Bs C3 ((f,.con C)::ct)
 |conN {f:FuncId} {C:aE} {hC:∀ds d p r,C ds=some (d,p,r)->d.1=d.2->p->Ix r} {ct:bm} (h:(vN C).Ok P f) (hl:aZ P Bs C3 ct):aZ P Bs C3 ((f,.conN C hC)::ct)
 |conZ {f:FuncId} {C:aE} {hC:∀ds d p r,C ds=some (d,p,r)->d.1=d.2->p->∀w0 lh args,bI w0 lh Nu.nil ds args->∃x new,vr w0 (lh++new) Nu.nil r x} {ct:bm} (h:(vZ C).Ok P f) (hl:aZ P Bs C3 ct):aZ P Bs C3 ((f,.conZ C hC)::ct)
 |inl {f : FuncId} {fn : Func} {sf : aK} {un : l8} {ct : bm} (hf : P.funcs[f]? = some fn) (hn : (fn.name == "runtime.NumGoroutine") = false) (hc : eS P Bs C3 fn = some sf) (hd : gm sf.ntmps sf.body = true) (hl : aZ P Bs C3 ct) : aZ P Bs C3 ((f, .inl sf un) :: ct)
theorem aZ.look {P:Program} {Bs:List TypeId} {C3:List iU} {ct:bm} (h:aZ P Bs C3 ct):∀ {f:FuncId} {x:M3},kK ct f=some x->match x with
 |.con C=>(vP C).Ok P f
 |.conN C _=>(vN C).Ok P f
 |.conZ C _=>(vZ C).Ok P f
 |.inl sf _ => ∃ fn, P.funcs[f]? = some fn /\ (fn.name == "runtime.NumGoroutine") = false /\ eS P Bs C3 fn = some sf := by
 induction h with
 |nil=>intro f x h;cases h
 | @con k C ct h hl ih=>
   intro f x hx
   simp[kK]at hx
   cases hb:Nat.beq f k with
   |true=>rw[hb]at hx;simp[cond]at hx;cases hx;have:=DT hb;subst this;exact h
   |false=>rw[hb]at hx;simp[cond]at hx;exact ih hx
 | @conN k C hC ct h hl ih=>
   intro f x hx
   simp[kK]at hx
   cases hb:Nat.beq f k with
   |true=>rw[hb]at hx;simp[cond]at hx;cases hx;have:=DT hb;subst this;exact h
   |false=>rw[hb]at hx;simp[cond]at hx;exact ih hx
 | @conZ k C hC ct h hl ih=>
   intro f x hx
   simp[kK]at hx
   cases hb:Nat.beq f k with
   |true=>rw[hb]at hx;simp[cond]at hx;cases hx;have:=DT hb;subst this;exact h
   |false=>rw[hb]at hx;simp[cond]at hx;exact ih hx
 | @inl k fn sf un ct hf hn hc hd hl ih=>
   intro f x hx
   simp[kK]at hx
   cases hb:Nat.beq f k with
   |true=>rw[hb]at hx;simp[cond]at hx;cases hx;have:=DT hb;subst this;exact⟨fn,hf,hn,hc⟩
   |false=>rw[hb]at hx;simp[cond]at hx;exact ih hx
theorem aZ.dst {P:Program} {Bs:List TypeId} {C3:List iU} {ct:bm} (h:aZ P Bs C3 ct):qT ct=true:=by
 induction h with
 |nil=>rfl|con h hl ih=>exact ih|conN h hl ih=>exact ih|conZ h hl ih=>exact ih|inl hf hn hc hd hl ih=>simp[qT,hd,ih,JW]
theorem aZ.ok {P:Program} {Bs:List TypeId} {C3:List iU} {ct:bm} (h:aZ P Bs C3 ct) (hE:∀ t∈Bs,dM P t) (hI:mE P Bs C3):∀ (lv:Nat) (g:FuncId),(SV ct lv g).Ok P g
 |0,g=>by
   simp[SV];split
   ·rename_i C hC;exact h.look hC
   ·rename_i C hC0 hC;exact h.look hC
   ·rename_i C hC0 hC;exact h.look hC
   ·exact fz6 g
 |n+1,g=>by
   simp[SV];split
   ·rename_i C hC;exact h.look hC
   ·rename_i C hC0 hC;exact h.look hC
   ·rename_i C hC0 hC;exact h.look hC
   ·rename_i sf un hC
    let ⟨fn,M,N,h3⟩:=h.look hC
    exact yap (h.ok hE hI n) hE hI M N h3
   ·exact fz6 g
def LV:Nat:=12
def run (ct:bm) (un:l8) (sf:aK) (ds:List V):Bh V:=o0 (oR ct LV) (ou ct) un LV sf ds [] λv _=>.ret v
theorem alA {α:Type} {P:Program} {Bs:List TypeId} {C3:List iU} {ct:bm} {f:FuncId} {fn:Func} {sf:aK} {un:l8} {C:aE} {K0:V->Bh α} {Q0:V->α->Prop} (hK0:∀ w0 r v,bT (dN w0 (SV ct)) (K0 v) (Q0 r)->dq v=dq r) (hT:aZ P Bs C3 ct) (hE:∀ t∈Bs,dM P t) (hI:mE P Bs C3) (hf:P.funcs[f]? = some fn)
 (hn : (fn.name == "runtime.NumGoroutine") = false) (hc : eS P Bs C3 fn = some sf) (hd : gm sf.ntmps sf.body = true)
 (h:∀w0 ds d p r,C ds=some (d,p,r)->d.1=d.2->p->plain (dq r)=true->bT (dN w0 (SV ct)) (o0 (oR ct LV) (ou ct) un LV sf ds [] λv _=>K0 v) (Q0 r)):(vP C).Ok P f:=by
 refine⟨λB m lh w args vs At hrel hargs S4=>?_,λ_ _ _ _ _ hk ⟨ds,d,p,r,M,N,h3,h4,h5⟩=>⟨ds,d,p,r,M,N,h3,h4,hk _ _ h5⟩,λ_ _ _ _ ⟨_,_,_,_,_,_,_,_,h⟩=>h⟩
 let ⟨ds,d,p,r,M,N,⟨Sq,h3⟩,h4,h5⟩:=S4
 let ⟨args',g1,g2⟩:=lC hrel ds args vs M hargs
 have hs:=qu (Sp:=λw0 args lh At=>lh=[]/\∃ ds d p r,bI w0 [] Nu.nil ds args/\C ds=some (d,p,r)/\(d.1=d.2/\p)/\plain (dq r)=true/\At (dq r) []) (hT.ok hE hI LV) hE hI hf hn hc (λw0 args lh At hw ha ⟨e,ds,d,p,r,k1,k2,⟨k30,k3⟩,k4,k5⟩=>by
  subst e
  refine sN (qp w0 ct hT.dst LV) (qG w0 ct _ LV) hd k1 (HR.none w0) (h w0 ds d p r k2 k30 k3 k4) λv h' ν' a lh' _ q1 q2 q3=>?_
  have q3:=hK0 _ _ _ q3
  have:=(AQ (by rw[q3];exact k4) a).1 q2
  rw[q3]at this
  subst this
  exact hs3 (lh:=[]) (l:=lh') (hza k4) hw k5)
 let ⟨e1,e2⟩:=hs ⟨w,w,λ_=>False,[]⟩ (λ_=>none) [] w args' vs (λr' _=>r'=dq r) (bh.start w) g1 ⟨rfl,ds,d,p,r,g2,N,⟨Sq,h3⟩,h4,rfl⟩
 refine⟨e1,e2.mono λe w' ⟨v,r',m1,lh1,he,hv,_,hr,hk⟩=>?_⟩
 subst hk
 exact⟨v,_,m,lh,he,hp2 h4 hv,jx.refl _ _,hrel.back hr,h5⟩
def G4 (e:Nat) (ty:TypeId) (h:List Ax):V->V
 |.gs k n=>match gX h k with|some (.gl e' _ f ty')=>cond (Nat.beq e' e&&Nat.beq ty' ty) (.sl n f) .any|_=>.any
 |.ns=>.sl 0 λ_=>[]
 |_=>.any
def Ji (h:List Ax):V->Bool
 |.gs k n=>match gX h k with|some (.gl _ n' _ _)=>decide (n<=n')|_=>true
 |_=>true
def LN (h:List Ax):V->Bool
 |.tup (v::_)=>Ji h v|v=>Ji h v
def Mc (e:Nat) (ty:TypeId) (h:List Ax):V->V
 |.tup (v::vs)=>.tup (G4 e ty h v::vs)|v=>G4 e ty h v
section
variable {w0:World} {ν:Nu} {nV nS:Nat} {h:List Ax} {lh:List ar}
theorem alm (hh:HR w0 ν nV nS h lh) {e:Nat} {ty:TypeId} {v:V} {a:ak} {n:Nat} {f:be} (hv:vr w0 ν.z ν v a) (hs:∀ i,i<n->(dj (f i)).all bK=true) (hc:Ji h v=true) (ht:dq (G4 e ty h v)=dq (.sl n f)):Lu e ty 0 lh n f a:=by
 unfold G4 at ht;split at ht
 ·rename_i k n1
  unfold Ji at hc;dsimp only at hc;rw[DG]at ht hc;split at ht
  ·rename_i e' n' g ty' hk
   cases hb:(Nat.beq e' e&&Nat.beq ty' ty) with
   |false=>rw[hb]at ht;simp[dq]at ht
   |true=>
     rw[hb]at ht;simp only[D2]at hb;have e1:=DT hb.1;have e2:=DT hb.2;rw[hk]at hc;have e3:=DU hc;subst e1;subst e2
     let ⟨rfl,RB⟩:=Hq ht
     simp only[vr]at hv;rcases hv with ⟨g1,rfl,rfl⟩|⟨b,c,e2,g1,rfl,g3⟩
     ·exact .inl ⟨rfl,rfl⟩
     ·rcases hh.blk k _ hk with ⟨M,N⟩|⟨b',c',az,M,N,h3,h4,h5⟩
      ·rw[M]at g1;cases g1
      ·rw[M]at g1
       obtain⟨rfl,rfl,rfl⟩:b'=b/\c'=c/\e'=e2:=by simpa using g1
       refine .inr ⟨b',c',az,Da _,N,rfl,h3,g3,λi hi=>?_⟩;have:=(fH (by rw[RB i hi];exact hs i hi) _).1 (h5 i K).2;rw[this,RB i hi]
  ·simp[dq]at ht
 ·simp only[vr]at hv
  let ⟨rfl,_⟩:=Hq ht
  exact .inl ⟨rfl,hv⟩
 ·simp[dq]at ht
theorem nd2 (hh:HR w0 ν nV nS h lh) {e:Nat} {ty:TypeId} {v r:V} {a:ak} {n:Nat} {f:be} (hv:vr w0 ν.z ν v a) (hr:rp r=some (n,f)) (ho:XR e r) (hc:LN h v=true) (ht:dq (Mc e ty h v)=dq r):∃ x,Lu e ty 0 lh n f x/\a=ru x r:=by
 let ⟨n',f',hl,_,RB,a8⟩:=ho
 rw[hr]at hl;cases hl;have hs:=λi hi=>(RB i hi).2;unfold Mc at ht;rcases hij hr with rfl|⟨us,rfl⟩
 ·split at ht
  ·simp[dq]at ht
  ·rename_i ti;exact⟨a,alm hh hv hs (by unfold LN at hc;split at hc<;>first|exact(ti _ _ rfl).elim|exact hc) ht,rfl⟩
 ·split at ht
  ·rename_i u vs
   have no11:dq (G4 e ty h u)=dq (.sl n f):=by simp[dq,dj,ak.tup.injEq,Dh]at ht ⊢;exact ht.1
   have ht2:dj vs=dj us:=by simp[dq,dj,ak.tup.injEq,Dh]at ht;exact ht.2
   simp[vr]at hv;obtain⟨az,rfl,hv⟩:=hv;simp[bI]at hv;obtain⟨x,xs,rfl,M,N⟩:=hv;refine⟨x,alm hh M hs hc no11,?_⟩;simp[ru];rw[(fH (by rw[ht2];exact a8) _).1 N,ht2]
  ·have:∀ u,dq (G4 e ty h u)≠.tup (dj (.sl n f::us)):=λu=>by
    unfold G4;split
    ·split
     ·rename_i e' n' g ty' _;cases (Nat.beq e' e&&Nat.beq ty' ty)<;>simp[dq]
     ·simp[dq]
    ·simp[dq]
    ·simp[dq]
   exact(this _ (by rw[ht];simp[dq])).elim
end
theorem exL {e:Nat} {ty:TypeId} {r:V} {n:Nat} {f:be} (hr:rp r=some (n,f)) (ho:XR e r) (lh:List ar):∃ x new,Lu e ty lh.length (lh++new) n f x:=by
 let ⟨n',f',hl,_,RB,_⟩:=ho
 rw[hr]at hl;cases hl
 let ⟨M,N⟩:=Bq (e:=e) (f:=f) (n:=n) λi hi=>by rw[xR];exact(oA (RB i hi).1).1
 exact⟨_,[.cells ((List.range n).flatMap λi=>dj (f i)) ty],.inr ⟨lh.length,n,(List.range n).flatMap λi=>dj (f i),D7 _,au,rfl,M,D7 _,N⟩⟩
theorem akZ {α:Type} {P:Program} {Bs:List TypeId} {C3:List iU} {ct:bm} {f:FuncId} {fn:Func} {sf:aK} {un:l8} {e:Nat} {ty:TypeId} {C:aE} {K0:V->List Ax->Bh α} {Q0:V->α->Prop} (hK0:∀ w0 r v h,bT (dN w0 (SV ct)) (K0 v h) (Q0 r)->LN h v=true/\dq (Mc e ty h v)=dq r) (hT:aZ P Bs C3 ct) (hE:∀ t∈Bs,dM P t) (hI:mE P Bs C3) (hf:P.funcs[f]? = some fn)
 (hn : (fn.name == "runtime.NumGoroutine") = false) (hc : eS P Bs C3 fn = some sf) (hd : gm sf.ntmps sf.body = true)
 (h:∀w0 ds d p r,C ds=some (d,p,r)->d.1=d.2->p->bT (dN w0 (SV ct)) (o0 (oR ct LV) (ou ct) un LV sf ds [] K0) (Q0 r)):(vL e ty C).Ok P f:=by
 refine⟨λB m lh w args vs At hrel hargs S4=>?_,λ_ _ _ _ _ hk ⟨ds,d,p,r,n,g,M,N,h3,h4,h5,h6⟩=>⟨ds,d,p,r,n,g,M,N,h3,h4,h5,λx new hx=>hk _ _ (h6 x new hx)⟩,λ_ _ lh _ ⟨_,_,_,_,_,_,_,_,_,h4,h5,h6⟩=>let ⟨x,new,hx⟩:=exL (ty:=ty) h4 h5 lh;h6 x new hx⟩
 let ⟨ds,d,p,r,n,g,M,N,⟨Sq,h3⟩,h4,h5,h6⟩:=S4
 let ⟨args',g1,g2⟩:=lC hrel ds args vs M hargs
 have hs:=qu (Sp:=λw0 args lh At=>lh=[]/\∃ ds d p r n g,bI w0 [] Nu.nil ds args/\C ds=some (d,p,r)/\(d.1=d.2/\p)/\rp r=some (n,g)/\XR e r/\∀ x lh1,Lu e ty 0 lh1 n g x->At (ru x r) lh1) (hT.ok hE hI LV) hE hI hf hn hc (λw0 args lh At hw ha ⟨e,ds,d,p,r,n,g,k1,k2,⟨k30,k3⟩,k4,k5,k6⟩=>by
  subst e
  refine sN (qp w0 ct hT.dst LV) (qG w0 ct _ LV) hd k1 (HR.none w0) (h w0 ds d p r k2 k30 k3) λv h' ν' a lh' _ q1 q2 q3=>?_
  have q3:=hK0 _ _ _ _ q3
  obtain⟨x,hx,rfl⟩:=nd2 (q1 0 0) q2 k4 k5 q3.1 q3.2
  exact⟨_,lh',.inl ⟨rfl,(⟨.inr rfl,trivial⟩:nq [_] [_])⟩,k6 x lh' hx⟩)
 let ⟨e1,e2⟩:=hs ⟨w,w,λ_=>False,[]⟩ (λ_=>none) [] w args' vs (λr' lh1=>∃x,Lu e ty 0 lh1 n g x/\r'=ru x r) (bh.start w) g1 ⟨rfl,ds,d,p,r,n,g,g2,N,⟨Sq,h3⟩,h4,h5,λx lh1 hx=>⟨x,hx,rfl⟩⟩
 refine⟨e1,e2.mono λybf w' ⟨v,r',m1,lh1,he,hv,_,hr,⟨x,hx,hk⟩⟩=>?_⟩
 subst hk
 let ⟨n',g',hl,hmax,RB,a8⟩:=h5
 have Ro:=hl
 rw[h4]at Ro;cases Ro
 have hback:=hrel.back hr
 rcases hx with ⟨rfl,rfl⟩|⟨b,c,az,_,Sj,rfl,Zs,U2,hall⟩
 ·refine ⟨v,ru (.slice none 0 0) r,m,lh,he,AR h4 a8 (λu hu=>?_) hv,jx.refl _ _,hback,?_⟩
  ·simp[C5]at hu ⊢;exact hu
  ·have:=h6 (.slice none 0 0) [] (.inl ⟨rfl,rfl⟩)
   rwa [KE]at this
 ·let ⟨b0,us,m1b,TO,hheap,TM,_⟩:=hr.loc b az ty Sj
  have R8:n*e<=az.length:=by rw[Zs];exact EA e U2
  have hlen:=c7 TO
  have hnew:∀ k b',m k=some b'->b'≠b0:=λk b' hk e0=>by
   have:=hrel.rng k b' hk;simp only at TM;omega
  have new7:(az.take (n*e)).all bK=true:=hfn λi hi=>by rw[hall i hi];exact(RB i hi).2
  have R3:aC (λk=>if k=lh.length then some b0 else m k) (az.take (n*e)++List.replicate (us.toList.drop (n*e)).length .any) us.toList:=by
   have:=eo (kj (m':=λk=>if k=lh.length then some b0 else m k) new7 (fK (n*e) TO)) (hj1 (us.toList.drop (n*e)))
   rwa [Kx]at this
  let ⟨hH,hle'⟩:=hq' hback (b:=b0) (ty:=ty) hheap R3 (Eg hrel.size TM) (Eg hrel.fsize TM) hnew
  refine⟨v,ru (.slice (some (.l lh.length 0)) n c) r,_,_,he,AR h4 a8 (λu hu=>?_) hv,⟨hle',λk hk=>⟨?_,?_⟩⟩,hH,h6 _ _ (.inr ⟨lh.length,c,az.take (n*e)++List.replicate (us.toList.drop (n*e)).length .any,D7 _,by rw[Dy (D7 _),JX];rfl,rfl,?_,U2,λi hi=>?_⟩)⟩
  ·simp only[C5,eg]at hu ⊢
   obtain⟨Pw,rfl,b',Qx,rfl⟩:=hu
   rw[m1b]at Qx;cases Qx
   exact⟨_,rfl,b0,au,rfl⟩
  ·rw[DW (List.getElem?_eq_some_iff.1 hk).1];exact hk
  ·have:=(List.getElem?_eq_some_iff.1 hk).1
   simp[C4 (Ij this)]
  ·simp only[Ea,Kw,List.length_replicate,JP];omega
  ·rw[← hall i hi]
   refine hlk (QG:=n*e) ?_ (by rw[← E5];exact EA e K)
   rw[J9 (by simp;omega),HJ,Nat.min_self]
inductive Ty where|int (k:IntKind)|bool|str|agg (ts:List Ty)|sl (ts:List Ty)|fn (f:FuncId) (xs ys:List Ty)|pd (ts:List Ty)
def iv:V->Int
 |.int _ n=>n|_=>0
def bv:V->Bool
 |.bool b=>b|.kb b=>b|_=>false
def sv:V->ByteArray
 |.str s=>s|_=>ByteArray.empty
def aB:V->Nat
 |.sl n _=>n|.sq n _ _=>n|_=>0
def LI:V->Nat
 |.sl n _=>n|.sq _ m _=>m|_=>0
def bL:V->Nat->List V
 |.sl _ f,i=>f i|.sq _ _ f,i=>f i|_,_=>[]
def eD:V->List V
 |.agg cs=>cs|_=>[]
def KF:V->List V
 |.fn _ xs _=>xs|_=>[]
def Kn:V->List V
 |.fn _ _ ys=>ys|_=>[]
def Is:V->List V
 |.pd cs=>cs|_=>[]
def aA:List V->V
 |v::_=>v|[]=>.any
def I:List V->List V
 |_::vs=>vs|[]=>[]
def cw:Ty->Bool
 |.agg _=>false|.fn ..=>false|.pd _=>false|_=>true
mutual
def dD:Ty->V->V
 |.int k,v=>.int k (iv v)|.bool,v=>.bool (bv v)|.str,v=>.str (sv v)|.agg ts,v=>.agg (al ts (eD v))|.sl ts,v=>.sl (aB v) λi=>al ts (bL v i)
 |.fn f xs ys,v=>.fn f (al xs (KF v)) (al ys (Kn v))|.pd ts,v=>.pd (al ts (Is v))
def al:List Ty->List V->List V
 |[],_=>[]|t::ts,vs=>dD t (aA vs)::al ts (I vs)
end
mutual
def dF:Ty->V->Prop
 |.int k,v=>v=.int k (iv v)|.bool,v=>v=.bool (bv v)∨v=.kb (bv v)|.str,v=>v=.str (sv v)|.agg ts,v=>v=.agg (eD v)/\bO ts (eD v)|.sl ts,v=>(v=.sl (aB v) (bL v)∨v=.sq (aB v) (LI v) (bL v))/\ts.all cw=true/\∀i,i<LI v->bO ts (bL v i)|.fn f xs ys,v=>v=.fn f (KF v) (Kn v)/\bO xs (KF v)/\bO ys (Kn v)|.pd ts,v=>v=.pd (Is v)/\ts.all cw=true/\bO ts (Is v)
def bO:List Ty->List V->Prop
 |[],vs=>vs=[]|t::ts,vs=>vs=aA vs::I vs/\dF t (aA vs)/\bO ts (I vs)
end
theorem pN:∀ (ts:List Ty) (vs:List V),ts.all cw=true->(al ts vs).all V.fc=true
 |[],_,_=>by simp[al]
 |t::ts,vs,h=>by simp only[EJ,D2]at h;simp only[al,EJ,D2];refine⟨?_,pN ts _ h.2⟩;cases t<;>first|rfl|(simp[cw]at h)|(simp[dD];rfl)
theorem hjk:∀ {ts:List Ty} {vs:List V},bO ts vs->vs.length=ts.length
 |[],vs,h=>by simp[bO]at h;subst h;rfl
 |t::ts,vs,h=>by simp[bO]at h;rw[h.1];simp[hjk h.2.2]
section
variable {w0:World} {lh:List ar}
theorem uW:∀ (ts:List Ty) (vs:List V),(al ts vs).length=ts.length
 |[],_=>by simp[al]
 |t::ts,vs=>by simp[al,uW ts]
mutual
theorem np5:∀ (t:Ty) (v:V) (a:ak),dF t v->vr w0 lh Nu.nil v a->vr w0 lh Nu.nil (dD t v) a
 |.int k,v,a,h,hv=>by simp[dF]at h;simp[dD];rw[h]at hv;exact hv
 |.bool,v,a,h,hv=>by simp[dF]at h;simp[dD,vr];rcases h with h|h<;>(rw[h]at hv;simp[vr]at hv;exact hv)
 |.str,v,a,h,hv=>by simp[dF]at h;simp[dD];rw[h]at hv;exact hv
 |.agg ts,v,a,h,hv=>by
   simp[dF]at h;rw[h.1]at hv;simp[dD,vr]at hv ⊢
   let ⟨az,M,N⟩:=hv
   exact⟨az,M,fW ts _ az h.2 N⟩
 |.sl ts,v,a,h,hv=>by
   simp only[dF]at h;rcases h.1 with h0|h0
   ·have hb:LI v=aB v:=by rw[h0];rfl
    rw[h0]at hv;simp only[dD,vr]at hv ⊢
    let ⟨p,c,esz,M,N,h3,h4,h5⟩:=hv
    exact⟨p,c,esz,M,N,h3,h4,λi hi=>let ⟨Pw,az,g1,g2,g3,g4⟩:=h5 i hi;⟨Pw,az,g1,g2,fW ts _ az (h.2.2 i K) g3,pN ts _ h.2.1⟩⟩
   ·rw[h0]at hv
    simp only[dD,vr]at hv ⊢
    let ⟨p,c,esz,M,⟨N,h2'⟩,h3,h4,h5⟩:=hv
    exact⟨p,c,esz,M,N,h3,h4,λi hi=>let ⟨Pw,az,g1,g2,g3,g4⟩:=h5 i hi;⟨Pw,az,g1,g2,fW ts _ az (h.2.2 i K) g3,pN ts _ h.2.1⟩⟩
 |.fn f xs ys,v,a,h,hv=>by
   simp[dF]at h;rw[h.1]at hv;simp[dD,vr]at hv ⊢
   let ⟨us,vs,M,N,h3⟩:=hv
   exact⟨us,vs,M,fW xs _ us h.2.1 N,fW ys _ vs h.2.2 h3⟩
 |.pd ts,v,a,h,hv=>by
   simp only[dF]at h;rw[h.1]at hv;simp only[dD,vr]at hv ⊢
   let ⟨p,az,M,N,h3,h4,h5⟩:=hv
   have hl:=hjk h.2.2;refine⟨p,az,M,N,by rw[uW,← hl];exact h3,fW ts _ az h.2.2 h4,pN ts _ h.2.1⟩
theorem fW:∀ (ts:List Ty) (vs:List V) (az:List ak),bO ts vs->bI w0 lh Nu.nil vs az->bI w0 lh Nu.nil (al ts vs) az
 |[],vs,az,h,hv=>by simp[bO]at h;subst h;simpa[al] using hv
 |t::ts,vs,az,h,hv=>by simp[bO]at h;rw[h.1]at hv;simp[bI]at hv;obtain⟨x,xs,rfl,M,N⟩:=hv;simp only[al,bI];exact⟨x,xs,rfl,np5 t _ x h.2.1 M,fW ts _ xs h.2.2 N⟩
end
end
mutual
def yq:Ty->Bool
 |.agg ts=>gO ts|.sl ts=>ts.all cw&&gO ts|.fn _ xs ys=>gO xs&&gO ys|.pd ts=>ts.all cw&&gO ts|_=>true
def gO:List Ty->Bool
 |[]=>true|t::ts=>yq t&&gO ts
end
def LW:Nat->(Nat->List V->List V)->List V->List V
 |0,_,k=>k|j+1,g,k=>g j (LW j g k)
mutual
def uR:Ty->V->List V->List V
 |.agg ts,v,k=>.agg (eD v)::ma ts (eD v) k
 |.sl ts,v,k=>match v with|.sq _ m f=>LW m (λj k=>ma ts (f j) k) k|v=>dD (.sl ts) v::k
 |.fn f xs ys,v,k=>.fn f (KF v) (Kn v)::ma xs (KF v) (ma ys (Kn v) k)|.pd ts,v,k=>.pd (Is v)::ma ts (Is v) k|t,v,k=>dD t v::k
def ma:List Ty->List V->List V->List V
 |[],_,k=>.agg []::k|t::ts,vs,k=>.agg (aA vs::I vs)::uR t (aA vs) (ma ts (I vs) k)
end
mutual
def uE:Ty->V->List V->List V
 |.agg ts,v,k=>v::mb ts (eD v) k
 |.sl ts,v,k=>match v with|.sq _ m f=>LW m (λj k=>mb ts (f j) k) k|v=>v::k
 |.fn _ xs ys,v,k=>v::mb xs (KF v) (mb ys (Kn v) k)|.pd ts,v,k=>v::mb ts (Is v) k|_,v,k=>v::k
def mb:List Ty->List V->List V->List V
 |[],vs,k=>.agg vs::k|t::ts,vs,k=>.agg vs::uE t (aA vs) (mb ts (I vs) k)
end
theorem BG {P:Nat->Prop} {g g':Nat->List V->List V} (hg:∀ j k k',g j k=g' j k'->P j/\k=k'):∀ (m:Nat) (k k':List V),LW m g k=LW m g' k'->(∀ j,j<m->P j)/\k=k'
 |0,k,k',h=>⟨λj hj=>by omega,h⟩
 |m+1,k,k',h=>by
   simp[LW]at h
   let ⟨M,N⟩:=hg m _ _ h
   let ⟨h3,h4⟩:=BG hg m k k' N
   exact⟨λj hj=>by
    by_cases e:j=m
    ·subst e;exact M
    ·exact h3 j K,h4⟩
theorem hlt:∀(ts:List Ty) (vs:List V),gO ts=true->al ts vs=vs->bO ts vs:=by have key:∀(ts:List Ty),gO ts=true->∀vs,al ts vs=vs->bO ts vs:=λts ho vs h=>hasTys_of' ts vs ho h;exact λts vs ho h=>key ts ho vs h
 where
 hasTy_of':∀(t:Ty) (v:V),yq t=true->dD t v=v->dF t v
 |.int k,v,_,h=>by simp[dD]at h;simp[dF];exact h.symm
 |.bool,v,_,h=>by simp[dD]at h;simp[dF];exact .inl h.symm
 |.str,v,_,h=>by simp[dD]at h;simp[dF];exact h.symm
 |.agg ts,v,ho,h=>by
   simp[dD]at h;simp[yq]at ho;have N:al ts (eD v)=eD v:=by have:=congrArg eD h;simpa[eD] using this
   simp[dF];exact⟨by rw[N]at h;exact h.symm,hasTys_of' ts _ ho N⟩
 |.sl ts,v,ho,h=>by
   simp[dD]at h;simp[yq,D2]at ho;have N:∀i,al ts (bL v i)=bL v i:=λi=>by have:=congrArg (λu=>bL u i) h;simpa[bL] using this
   simp[dF];refine⟨.inl ?_,ho.1,λi _=>hasTys_of' ts _ ho.2 (N i)⟩;have h3:(λi=>al ts (bL v i))=bL v:=funext N;rw[h3]at h;exact h.symm
 |.fn f xs ys,v,ho,h=>by
   simp[dD]at h;simp[yq,D2]at ho;have N:al xs (KF v)=KF v:=by have:=congrArg KF h;simpa[KF] using this
   have h3:al ys (Kn v)=Kn v:=by have:=congrArg Kn h;simpa[Kn] using this
   simp[dF];exact⟨by rw[N,h3]at h;exact h.symm,hasTys_of' xs _ ho.1 N,hasTys_of' ys _ ho.2 h3⟩
 |.pd ts,v,ho,h=>by
   simp[dD]at h;simp[yq,D2]at ho;have N:al ts (Is v)=Is v:=by have:=congrArg Is h;simpa[Is] using this
   simp[dF];exact⟨by rw[N]at h;exact h.symm,ho.1,hasTys_of' ts _ ho.2 N⟩
 hasTys_of':∀(ts:List Ty) (vs:List V),gO ts=true->al ts vs=vs->bO ts vs
 |[],vs,_,h=>by simp only[al]at h;simp only[bO];exact h.symm
 |t::ts,vs,ho,h=>by
   simp[al]at h;simp[gO,D2]at ho;have N:dD t (aA vs)=aA vs:=by have:=congrArg aA h;simpa[aA] using this
   have h3:al ts (I vs)=I vs:=by have:=congrArg I h;simpa[I] using this
   simp[bO];exact⟨by rw[N,h3]at h;exact h.symm,hasTy_of' t _ ho.1 N,hasTys_of' ts _ ho.2 h3⟩
def D (ts:List Ty) (f:be):Nat->List V:=λi=>al ts (f i)
mutual
def SL:Ty->V->V
 |.agg ts,v=>match v with|.agg cs=>.agg (lR ts cs)|v=>v
 |.sl ts,v=>match v with|.sq n _ f=>.sl n (D ts f)|v=>v
 |.fn _ xs ys,v=>match v with|.fn f us vs=>.fn f (lR xs us) (lR ys vs)|v=>v
 |.pd ts,v=>match v with|.pd cs=>.pd (lR ts cs)|v=>v
 |_,v=>v
def lR:List Ty->List V->List V
 |[],_=>[]
 |t::ts,vs=>match vs with|v::vs=>SL t v::lR ts vs|[]=>[]
end
mutual
theorem afU:∀ (t:Ty) (v:V) (k k':List V),uR t v k=uE t v k'->SL t v=dD t v/\k=k'
 |.int _,v,k,k',h=>by simp[uR,uE,Dh]at h;simp[SL];exact⟨h.1.symm,h.2⟩
 |.bool,v,k,k',h=>by simp[uR,uE,Dh]at h;simp[SL];exact⟨h.1.symm,h.2⟩
 |.str,v,k,k',h=>by simp[uR,uE,Dh]at h;simp[SL];exact⟨h.1.symm,h.2⟩
 |.agg ts,v,k,k',h=>by
   simp[uR,uE,Dh]at h
   let ⟨M,N⟩:=ig ts _ k k' h.2
   obtain⟨cs,rfl⟩:∃cs,v=.agg cs:=⟨_,h.1.symm⟩;simp[eD]at M;simp only[SL,dD,eD,M];exact⟨trivial,N⟩
 |.sl ts,v,k,k',h=>by
   by_cases hv:∃n m f,v=.sq n m f
   ·obtain⟨n,m,f,rfl⟩:=hv
    simp[uR,uE]at h
    let ⟨_,N⟩:=BG (P:=λ_=>True) (λj k k' hj=>⟨trivial,(ig ts (f j) k k' hj).2⟩) m k k' h
    exact⟨rfl,N⟩
   ·cases v<;>first|exact(hv ⟨_,_,_,rfl⟩).elim|(simp[uR,uE,Dh]at h;simp[SL];exact⟨h.1.symm,h.2⟩)
 |.fn f xs ys,v,k,k',h=>by
   simp[uR,uE,Dh]at h
   let ⟨M,N⟩:=ig xs _ _ _ h.2
   let ⟨h3,h4⟩:=ig ys _ _ _ N
   obtain⟨us,vs,rfl⟩:∃us vs,v=.fn f us vs:=⟨_,_,h.1.symm⟩;simp[KF]at M;simp[Kn]at h3;simp only[SL,dD,KF,Kn,M,h3];exact⟨trivial,h4⟩
 |.pd ts,v,k,k',h=>by
   simp[uR,uE,Dh]at h
   let ⟨M,N⟩:=ig ts _ k k' h.2
   obtain⟨cs,rfl⟩:∃cs,v=.pd cs:=⟨_,h.1.symm⟩;simp[Is]at M;simp only[SL,dD,Is,M];exact⟨trivial,N⟩
theorem ig:∀ (ts:List Ty) (vs:List V) (k k':List V),ma ts vs k=mb ts vs k'->lR ts vs=al ts vs/\k=k'
 |[],vs,k,k',h=>by simp[ma,mb,Dh,V.agg.injEq]at h;simp only[lR,al];exact⟨trivial,h.2⟩
 |t::ts,vs,k,k',h=>by
   simp[ma,mb,Dh,V.agg.injEq]at h
   let ⟨M,N⟩:=afU t _ _ _ h.2
   let ⟨h3,h4⟩:=ig ts _ _ _ N
   have h0:=h.1;cases vs with
   |nil=>cases h0
   |cons v vs=>simp[aA,I]at M h3;simp only[lR,al,aA,I,M,h3];exact⟨trivial,h4⟩
end
mutual
theorem apt:∀ (t:Ty) (v:V) (k k':List V),yq t=true->uR t v k=uE t v k'->dF t v/\k=k'
 |.int _,v,k,k',_,h=>by simp[uR,uE,Dh]at h;simp[dD]at h;simp[dF];exact⟨h.1.symm,h.2⟩
 |.bool,v,k,k',_,h=>by simp[uR,uE,Dh,dD]at h;simp[dF];exact⟨.inl h.1.symm,h.2⟩
 |.str,v,k,k',_,h=>by simp[uR,uE,Dh]at h;simp[dD]at h;simp[dF];exact⟨h.1.symm,h.2⟩
 |.agg ts,v,k,k',ho,h=>by
   simp[uR,uE,Dh]at h;simp[yq]at ho
   let ⟨M,N⟩:=kv ts _ k k' ho h.2
   simp[dF];exact⟨⟨h.1.symm,M⟩,N⟩
 |.sl ts,v,k,k',ho,h=>by
   have UX:=ho;simp only[yq,D2]at ho;by_cases hv:∃n m f,v=.sq n m f
   ·obtain⟨n,m,f,rfl⟩:=hv
    simp only[uR,uE]at h
    let ⟨M,N⟩:=BG (P:=λj=>bO ts (f j)) (λj k k' hj=>kv ts (f j) k k' ho.2 hj) m k k' h
    simp only[dF,aB,bL,LI];exact⟨⟨.inr rfl,ho.1,M⟩,N⟩
   ·have h':dD (.sl ts) v=v/\k=k':=by
     cases v<;>first|exact(hv ⟨_,_,_,rfl⟩).elim|(simp[uR,uE,Dh]at h;exact h)
    have:=hlt [.sl ts] [v] (by simp[gO,UX,K6]) (by simp[al,aA,I,h'.1]);simp[bO,aA]at this;exact⟨this.2.1,h'.2⟩
 |.fn f xs ys,v,k,k',ho,h=>by
   simp[uR,uE,Dh]at h;simp[yq,D2]at ho
   let ⟨M,N⟩:=kv xs _ _ _ ho.1 h.2
   let ⟨h3,h4⟩:=kv ys _ _ _ ho.2 N
   simp[dF];exact⟨⟨h.1.symm,M,h3⟩,h4⟩
 |.pd ts,v,k,k',ho,h=>by
   simp[uR,uE,Dh]at h;simp[yq,D2]at ho
   let ⟨M,N⟩:=kv ts _ k k' ho.2 h.2
   simp[dF];exact⟨⟨h.1.symm,ho.1,M⟩,N⟩
theorem kv:∀ (ts:List Ty) (vs:List V) (k k':List V),gO ts=true->ma ts vs k=mb ts vs k'->bO ts vs/\k=k'
 |[],vs,k,k',_,h=>by simp only[ma,mb,Dh,V.agg.injEq]at h;simp only[bO];exact⟨h.1.symm,h.2⟩
 |t::ts,vs,k,k',ho,h=>by
   simp[ma,mb,Dh,V.agg.injEq]at h;simp[gO,D2]at ho
   let ⟨M,N⟩:=apt t _ _ _ ho.1 h.2
   let ⟨h3,h4⟩:=kv ts _ _ _ ho.2 N
   simp[bO];exact⟨⟨h.1.symm,M,h3⟩,h4⟩
end
def bP (ts:List Ty) (pre:List V->Prop) (r:List V->V):aE:=λds=>some ((ma ts ds [],mb ts ds []),pre (lR ts ds),r (lR ts ds))
theorem mkE {α:Type} {P:Program} {Bs:List TypeId} {C3:List iU} {ct:bm} {f:FuncId} {fn:Func} {sf:aK} {un:l8} {ts:List Ty} {pre:List V->Prop} {r:List V->V} {K0:V->Bh α} {Q0:V->α->Prop} (hK0:∀ w0 r v,bT (dN w0 (SV ct)) (K0 v) (Q0 r)->dq v=dq r) (hT:aZ P Bs C3 ct) (hE:∀ t∈Bs,dM P t) (hI:mE P Bs C3) (hf:P.funcs[f]? = some fn)
 (hn : (fn.name == "runtime.NumGoroutine") = false) (hc : eS P Bs C3 fn = some sf) (hd : gm sf.ntmps sf.body = true) (ho : gO ts = true)
 (h:∀w0 ds,pre (al ts ds)->bT (dN w0 (SV ct)) (o0 (oR ct LV) (ou ct) un LV sf (al ts ds) [] λv _=>K0 v) (Q0 (r (al ts ds)))):(vP (bP ts pre r)).Ok P f:=by
 refine⟨λB m lh w args vs At hrel hargs S4=>?_,λ_ _ _ _ _ hk ⟨ds,d,p,r,M,N,h3,h4,h5⟩=>⟨ds,d,p,r,M,N,h3,h4,hk _ _ h5⟩,λ_ _ _ _ ⟨_,_,_,_,_,_,_,_,h⟩=>h⟩
 let ⟨ds,d,p,r',M,N,⟨Sq,h3⟩,h4,h5⟩:=S4
 simp only[bP,DJ,Prod.mk.injEq]at N
 let ⟨rfl,rfl,rfl⟩:=N
 have Sk:=(kv ts ds [] [] ho Sq).1
 rw[(ig ts ds [] [] Sq).1]at h3 h4 h5
 have key2:=alA (C:=λds'=>some ((ds',al ts ds),pre (al ts ds),r (al ts ds))) (P:=P) (f:=f) hK0 hT hE hI hf hn hc hd (λw0 ds' d' p' r' e he hp _=>by
  simp only[DJ,Prod.mk.injEq]at e
  let ⟨rfl,rfl,rfl⟩:=e
  simp only at he
  subst he
  exact h w0 ds hp)
 exact key2.sound B m lh w args vs At hrel hargs ⟨al ts ds,_,_,_,fW ts ds args Sk M,rfl,⟨rfl,h3⟩,h4,h5⟩
theorem i11 {α:Type} {P:Program} {Bs:List TypeId} {C3:List iU} {ct:bm} {f:FuncId} {fn:Func} {sf:aK} {un:l8} {e:Nat} {ty:TypeId} {ts:List Ty} {pre:List V->Prop} {r:List V->V} {K0:V->List Ax->Bh α} {Q0:V->α->Prop} (hK0:∀ w0 r v h,bT (dN w0 (SV ct)) (K0 v h) (Q0 r)->LN h v=true/\dq (Mc e ty h v)=dq r) (hT:aZ P Bs C3 ct) (hE:∀ t∈Bs,dM P t) (hI:mE P Bs C3) (hf:P.funcs[f]? = some fn)
 (hn : (fn.name == "runtime.NumGoroutine") = false) (hc : eS P Bs C3 fn = some sf) (hd : gm sf.ntmps sf.body = true) (ho : gO ts = true)
 (h:∀w0 ds,pre (al ts ds)->bT (dN w0 (SV ct)) (o0 (oR ct LV) (ou ct) un LV sf (al ts ds) [] K0) (Q0 (r (al ts ds)))):(vL e ty (bP ts pre r)).Ok P f:=by
 refine⟨λB m lh w args vs At hrel hargs S4=>?_,λ_ _ _ _ _ hk ⟨ds,d,p,r,n,g,M,N,h3,h4,h5,h6⟩=>⟨ds,d,p,r,n,g,M,N,h3,h4,h5,λx new hx=>hk _ _ (h6 x new hx)⟩,λ_ _ lh _ ⟨_,_,_,_,_,_,_,_,_,h4,h5,h6⟩=>let ⟨x,new,hx⟩:=exL (ty:=ty) h4 h5 lh;h6 x new hx⟩
 let ⟨ds,d,p,r',n,g,M,N,⟨Sq,h3⟩,h4,h5,h6⟩:=S4
 simp only[bP,DJ,Prod.mk.injEq]at N
 let ⟨rfl,rfl,rfl⟩:=N
 have Sk:=(kv ts ds [] [] ho Sq).1
 rw[(ig ts ds [] [] Sq).1]at h3 h4 h5 h6
 have key2:=akZ (e:=e) (ty:=ty) (C:=λds'=>some ((ds',al ts ds),pre (al ts ds),r (al ts ds))) (P:=P) (f:=f) hK0 hT hE hI hf hn hc hd (λw0 ds' d' p' r' e he hp=>by
  simp only[DJ,Prod.mk.injEq]at e
  let ⟨rfl,rfl,rfl⟩:=e
  simp only at he
  subst he
  exact h w0 ds hp)
 exact key2.sound B m lh w args vs At hrel hargs ⟨al ts ds,_,_,_,n,g,fW ts ds args Sk M,rfl,⟨rfl,h3⟩,h4,h5,h6⟩
abbrev o8:=List (Option (Option Nat))
def ef (ρ:o8) (k:Nat):Option (Option Nat):=match gX ρ k with|some x=>x|none=>none
mutual
def c9 (ρ:o8):V->V->Prop
 |v,.any=>True∨v=.any|.int k a,.int k' b=>k=k'/\a=b|.bool a,.bool b=>a=b|.kb a,.bool b=>a=b|.kb a,.kb b=>a=b|.str a,.str b=>a=b|.agg xs,.agg ys=>fI ρ xs ys|.tup xs,.tup ys=>fI ρ xs ys|.fn f xs ys,.fn g us vs=>f=g/\fI ρ xs us/\fI ρ ys vs|.sl n f,.sl m g=>n=m/\f=g|.pd cs,.pd ds=>cs=ds|.pl k o,.pl k1 o1=>ef ρ k1=some (some k)/\o=o1|.pe k i j,.pe k1 i1 j1=>ef ρ k1=some (some k)/\i=i1/\j=j1|.ss k o n c,.ss k1 o1 n1 c1=>ef ρ k1=some (some k)/\o=o1/\n=n1/\c=c1|.gs k n,.gs k1 n1=>ef ρ k1=some (some k)/\n=n1|.ns,.gs k1 n1=>ef ρ k1=some none/\n1=0|.ns,.ns=>True|.np,.np=>True|.yl l,.yl l1=>l=l1|.go k o n,.go k1 o1 n1=>ef ρ k1=some (some k)/\o=o1/\n=n1|_,_=>False
def fI (ρ:o8):List V->List V->Prop
 |[],[]=>True|x::xs,y::ys=>c9 ρ x y/\fI ρ xs ys|_,_=>False
end
def xb (ρ:o8) (e:bS):bS->Prop
 |[]=>True|(s,v)::l=>c9 ρ (kp e s) v/\xb ρ e l
def FH (ρ:o8) (h:List Ax) (k:Nat):Ax->Prop
 |.cells cs ty=>∃j ds,ef ρ k=some (some j)/\gX h j=some (.cells ds ty)/\fI ρ ds cs|.gl e n f ty=>(ef ρ k=some none/\n=0)∨∃j m g,ef ρ k=some (some j)/\gX h j=some (.gl e m g ty)/\n<=m/\∀i,i<n->nX e (f i)=true/\fI ρ (g i) (f i)|.dead=>False|.hid=>True
def w6 (ρ:o8) (h:List Ax):Nat->List Ax->Prop
 |_,[]=>True|k,o::l=>FH ρ h k o/\w6 ρ h (k+1) l
def ta (x:Option (Option Nat)):o8->Bool
 |[]=>true
 |y::l=>(match x,y with|some (some a),some (some b)=>!Nat.beq a b|_,_=>true)&&ta x l
def GU:o8->Bool
 |[]=>true|x::l=>ta x l&&GU l
def Rm (ρ:o8):Nat->Bool
 |0=>true
 |k+1=>(match ef ρ k with|some (some j)=>Nat.beq j k|_=>false)&&Rm ρ k
def nP (ρ:o8) (ν:Nu):Nu:=⟨λk=>match ef ρ k with|some (some j)=>ν j|some none=>some none|none=>none,ν.z⟩
section
variable {w0:World} {ν:Nu} {ρ:o8} {lh:List ar}
mutual
theorem avp:∀ (v v1:V) (a:ak),c9 ρ v v1->vr w0 ν.z ν v a->vr w0 ν.z (nP ρ ν) v1 a
 |.int k n,v1,a,h,hv=>by
   cases v1<;>simp[c9]at h
   case int=>let ⟨rfl,rfl⟩:=h;simp[vr]at hv ⊢;exact hv
   case any=>simp[vr]
 |.bool b,v1,a,h,hv=>by
   cases v1<;>simp[c9]at h
   case bool=>subst h;simp[vr]at hv ⊢;exact hv
   case any=>simp[vr]
 |.kb b,v1,a,h,hv=>by
   cases v1<;>simp[c9]at h
   case bool=>subst h;simp[vr]at hv ⊢;exact hv
   case kb=>subst h;simp[vr]at hv ⊢;exact hv
   case any=>simp[vr]
 |.str b,v1,a,h,hv=>by
   cases v1<;>simp[c9]at h
   case str=>subst h;simp[vr]at hv ⊢;exact hv
   case any=>simp[vr]
 |.agg xs,v1,a,h,hv=>by
   cases v1<;>simp[c9]at h
   case agg=>simp[vr]at hv ⊢;let ⟨az,M,N⟩:=hv;exact⟨az,M,kn xs _ az h N⟩
   case any=>simp[vr]
 |.tup xs,v1,a,h,hv=>by
   cases v1<;>simp[c9]at h
   case tup=>simp[vr]at hv ⊢;let ⟨az,M,N⟩:=hv;exact⟨az,M,kn xs _ az h N⟩
   case any=>simp[vr]
 |.fn f xs ys,v1,a,h,hv=>by
   cases v1<;>simp[c9]at h
   case fn=>let ⟨rfl,g1,g2⟩:=h;simp[vr]at hv ⊢;let ⟨az,bs,M,N,h3⟩:=hv;exact⟨az,bs,M,kn xs _ az g1 N,kn ys _ bs g2 h3⟩
   case any=>simp[vr]
 |.sl n f,v1,a,h,hv=>by
   cases v1<;>simp[c9]at h
   case sl=>let ⟨rfl,rfl⟩:=h;simp[vr]at hv ⊢;exact hv
   case any=>simp[vr]
 |.pd cs,v1,a,h,hv=>by
   cases v1<;>simp[c9]at h
   case pd=>subst h;simp[vr]at hv ⊢;exact hv
   case any=>simp[vr]
 |.pl k o,v1,a,h,hv=>by
   cases v1<;>simp[c9]at h
   case pl=>let ⟨M,rfl⟩:=h;simp[vr]at hv ⊢;simp[nP,M];exact hv
   case any=>simp[vr]
 |.pe k i j,v1,a,h,hv=>by
   cases v1<;>simp[c9]at h
   case pe=>let ⟨M,rfl,rfl⟩:=h;simp[vr]at hv ⊢;simp[nP,M];exact hv
   case any=>simp[vr]
 |.ss k o n c,v1,a,h,hv=>by
   cases v1<;>simp[c9]at h
   case ss=>let ⟨M,rfl,rfl,rfl⟩:=h;simp[vr]at hv ⊢;simp[nP,M];exact hv
   case any=>simp[vr]
 |.gs k n,v1,a,h,hv=>by
   cases v1<;>simp[c9]at h
   case gs=>let ⟨M,rfl⟩:=h;simp[vr]at hv ⊢;simp[nP,M];exact hv
   case any=>simp[vr]
 |.ns,v1,a,h,hv=>by
   cases v1<;>simp[c9]at h
   case gs=>obtain⟨M,rfl⟩:=h;simp only[vr]at hv ⊢;simp only[nP,M];exact .inl ⟨trivial,trivial,hv⟩
   case ns=>simp[vr]at hv ⊢;exact hv
   case any=>simp[vr]
 |.np,v1,a,h,hv=>by
   cases v1<;>simp[c9]at h
   case np=>simp[vr]at hv ⊢;exact hv
   case any=>simp[vr]
 |.any,v1,a,h,hv=>by
   cases v1<;>simp[c9]at h
   case any=>simp[vr]
 |.gd b v,v1,a,h,hv=>by
   cases v1<;>simp[c9]at h
   case any=>simp[vr]
 |.yl l,v1,a,h,hv=>by
   cases v1<;>simp[c9]at h
   case yl=>subst h;simp[vr]at hv ⊢;exact hv
   case any=>simp[vr]
 |.go k o n,v1,a,h,hv=>by
   cases v1<;>simp[c9]at h
   case go=>let ⟨M,rfl,rfl⟩:=h;simp[vr]at hv ⊢;simp[nP,M];exact hv
   case any=>simp[vr]
 |.sq n m f,v1,a,h,hv=>by
   cases v1<;>simp[c9]at h
   case any=>simp[vr]
theorem kn:∀ (vs us:List V) (az:List ak),fI ρ vs us->bI w0 ν.z ν vs az->bI w0 ν.z (nP ρ ν) us az
 |[],[],az,_,hv=>by simp[bI]at hv ⊢;exact hv
 |v::vs,u::us,az,h,hv=>by
   simp[fI]at h;simp[bI]at hv ⊢
   let ⟨x,xs,M,N,h3⟩:=hv
   exact⟨x,xs,M,avp v u x h.1 N,kn vs us xs h.2 h3⟩
 |[],_::_,_,h,_=>by simp[fI]at h
 |_::_,[],_,h,_=>by simp[fI]at h
end
theorem hl0:∀ {e e1:bS} (s:Nat),xb ρ e e1->kp e1 s=.any∨c9 ρ (kp e s) (kp e1 s)
 |e,[],s,_=>.inl rfl
 |e,(d,v)::l,s,h=>by
   simp[xb]at h;rw[nj];by_cases hd:s=d
   ·subst hd;rw[CV rfl];exact .inr h.1
   ·rw[C4 hd];exact hl0 s h.2
theorem oH {h:List Ax}:∀ {l:List Ax} {k i:Nat} {o:Ax},w6 ρ h k l->l[i]? = some o->FH ρ h (k+i) o
 |[],_,_,_,_,hi=>by simp at hi
 |x::l,k,0,o,hh,hi=>by simp at hi;subst hi;exact hh.1
 |x::l,k,i+1,o,hh,hi=>by have:=oH (i:=i) hh.2 (by simpa using hi);rwa [show k+1+i=k+(i+1) by omega]at this
theorem rz:∀ {l:o8} {a i:Nat},ta (some (some a)) l=true->gX l i=some (some (some a))->False
 |[],_,_,_,h=>by cases h
 |y::l,a,0,h,hi=>by simp[gX,DJ]at hi;subst hi;simp[ta]at h
 |y::l,a,i+1,h,hi=>by simp[ta,D2]at h;exact rz h.2 hi
theorem ahB:∀ {l:o8} {a i j:Nat},GU l=true->gX l i=some (some (some a))->gX l j=some (some (some a))->i=j
 |[],_,_,_,_,h,_=>by cases h
 |x::l,a,0,0,_,_,_=>rfl
 |x::l,a,i+1,0,h,hi,hj=>by simp[GU,D2]at h;simp[gX,DJ]at hj;subst hj;exact(rz h.1 hi).elim
 |x::l,a,0,j+1,h,hi,hj=>by simp[GU,D2]at h;simp[gX,DJ]at hi;subst hi;exact(rz h.1 hj).elim
 |x::l,a,i+1,j+1,h,hi,hj=>by simp[GU,D2]at h;rw[ahB h.2 hi hj]
theorem afr:∀ {n k:Nat},Rm ρ n=true->k<n->ef ρ k=some (some k)
 |n+1,k,h,hk=>by
   simp[Rm,D2]at h;rcases Nat.lt_succ_iff_lt_or_eq.1 hk with hk|rfl
   ·exact afr h.2 hk
   ·have M:=h.1
    split at M
    ·rename_i j hj;rw[hj,DT M]
    ·cases M
theorem hkw {k j:Nat} (h:ef ρ k=some (some j)):gX ρ k=some (some (some j)):=by
 unfold ef at h;split at h
 ·rename_i x hx;rw[hx,h]
 ·cases h
theorem lN.ren (w0:World) {nb:Nat} {e e1:bS} {h M:List Ax} (ρ:o8) (hl:Nat.beq (cg ρ) (cg M)=true) (hi:GU ρ=true) (hid:Rm ρ nb=true) (he:xb ρ e e1) (hh:w6 ρ h 0 M):lN w0 nb e h e1 M:=by
 intro QG ν nV nS sl lh hs hr;have hlen:ρ.length=M.length:=by have:=DT hl;rwa [b6,b6]at this
 have hlive:∀ k,bk M k->∀ x,nP ρ ν k=some (some x)->∃ j,ef ρ k=some (some j)/\bk h j/\ν j=some (some x):=λk hk x hx=>by
  have Sz:=hx;simp[nP]at hx;split at hx
  ·rename_i j hj
   refine⟨j,hj,?_,hx⟩;rcases gx hk with ⟨cs,ty,hc⟩|⟨e',n,f,ty,hc⟩
   ·let ⟨j',ds,g1,g2,g3⟩:=oH (k:=0) (i:=k) hh hc
    rw[EB,hj]at g1;cases g1;exact eK (by rwa [DG]at g2)
   ·rcases oH (k:=0) (i:=k) hh hc with ⟨g1,_⟩|⟨j',m,g,g1,g2,_⟩
    ·rw[EB,hj]at g1;cases g1
    ·rw[EB,hj]at g1;cases g1;exact im (by rwa [DG]at g2)
  ·cases hx
  ·cases hx
 refine⟨nP ρ ν,0,0,⟨λk x hk hx=>by simp[nP,afr hid hk];exact hx,nh _⟩,⟨hs.len,λi=>?_⟩,⟨λk o hk=>?_,λk k' x x' hk Rv hx Sz Tt=>?_,λk hk=>?_,λk x hx=>?_,hr.zl,λk x hk hx=>let ⟨j,_,g2,g3⟩:=hlive k hk x hx;hr.zn j x g2 g3⟩⟩
 ·rcases hl0 i he with h0|h0
  ·rw[h0];simp[vr]
  ·exact avp _ _ _ h0 (hs.at' i)
 ·have hb:=oH (k:=0) (i:=k) hh hk
  rw[EB]at hb;cases o with
  |cells cs ty=>
    let ⟨j,ds,g1,g2,g3⟩:=hb
    rw[DG]at g2
    let ⟨b,c,e',az,k1,k2,k3⟩:=hr.blk j _ g2
    exact⟨b,c,e',az,by simp[nP,g1];exact k1,k2,kn _ _ _ g3 k3⟩
  |gl e' n f ty=>
    rcases hb with ⟨g1,rfl⟩|⟨j,m,g,g1,g2,g3,g4⟩
    ·exact .inl ⟨by simp[nP,g1],rfl⟩
    ·rw[DG]at g2
     rcases hr.blk j _ g2 with ⟨k1,k2⟩|⟨b,c,az,k1,k2,k3,k4,k5⟩
     ·exact .inl ⟨by simp[nP,g1];exact k1,K⟩
     ·exact .inr ⟨b,c,az,by simp[nP,g1];exact k1,k2,k3,⟨K,K⟩,λi hi=>⟨(g4 i hi).1,kn _ _ _ (g4 i hi).2 (k5 i K).2⟩⟩
  |dead=>exact hb.elim|hid=>trivial
 ·let ⟨j,g1,g2,g3⟩:=hlive k hk x hx
  let ⟨j',g1',g2',g3'⟩:=hlive k' Rv x' Sz
  have:=hr.inj j j' x x' g2 g2' g3 g3' Tt;subst this;exact ahB hi (hkw g1) (hkw g1')
 ·simp[nP,ef,DG];rw[Do K]
 ·simp[nP]at hx
  split at hx
  ·exact hr.rng _ x hx
  ·cases hx
  ·cases hx
theorem lN.refl (w0:World) (nb:Nat) (e:bS) (h:List Ax):lN w0 nb e h e h:=λQG ν nV nS sl lh hs hr=>⟨ν,nV,nS,DO.refl _ _,hs,hr⟩
theorem lN.trans {w0:World} {nb:Nat} {e e1 e2:bS} {h M N:List Ax} (a:lN w0 nb e h e1 M) (b:lN w0 nb e1 M e2 N):lN w0 nb e h e2 N:=λQG ν nV nS sl lh hs hr=>by
 let ⟨ν1,nV1,nS1,g0,g1,g2⟩:=a QG ν nV nS sl lh hs hr
 let ⟨ν2,nV2,nS2,k0,k1,k2⟩:=b QG ν1 nV1 nS1 sl lh g1 g2
 exact⟨ν2,nV2,nS2,g0.trans k0,k1,k2⟩
end
def zK {α:Type}:Bh α->List Bool->Bh α
 |t,[]=>t|.br _ x y,p::ps=>cond p (zK x ps) (zK y ps)|.und x y,p::ps=>cond p (zK x ps) (zK y ps)|.asm _ x,ps=>zK x ps|.ob _ x,ps=>zK x ps|.obi _ _ x,ps=>zK x ps|.obp _ x,ps=>zK x ps|.obq _ _ x,ps=>zK x ps|t,_=>t
def Az {α:Type}:Bh α->Bh α
 |.ob _ x=>Az x|.obi _ _ x=>Az x|.obp _ x=>Az x|.obq _ _ x=>Az x|.asm _ x=>Az x|t=>t
def eT:Bh (Ex×bS×List Ax)->bS
 |.ret r=>r.2.1|_=>[]
def hT:Bh (Ex×bS×List Ax)->List Ax
 |.ret r=>r.2.2|_=>[]
def rB:AN->RD
 |.i _ r=>r|_=>⟨[],.skip,.skip,[],0⟩
def Jx {α:Type}:Bh α->Nat->Bh α
 |.all f=>f|_=>λ_=>.fail 0
def eJ {α:Type} (t:Bh α) (p:List Bool):Bh α:=Az (zK t p)
theorem aoE {ct:bm} {w0:World} (hd:qT ct=true) {lv nb:Nat} {un:l8} {body:hG} {e:bS} {h:List Ax} {D5:Ex->bS->List Ax->Option Ex->Prop} (bi:Nat)
 (SK:Type) (inv:SK->bS×List Ax) (μ:SK->Nat) (h0:∃i,lN w0 nb e h (inv i).1 (inv i).2)
 (round:∀i,bT (dN w0 (SV ct)) (vj (oR ct lv) (ou ct) un (lv,nb) bi body (inv i).1 (inv i).2 λx e h=>.ret (x,e,h)) λr=>match r.1 with|.normal=>∃i',lN w0 nb r.2.1 r.2.2 (inv i').1 (inv i').2/\μ i'<μ i|x=>D5 x r.2.1 r.2.2 none):dN w0 (SV ct) (lv,nb) (.s body) e h none D5 :=
 srf (fr:=(lv,nb)) (qp w0 ct hd lv) (qG w0 ct _ lv) SK inv μ h0 round
theorem aig {ct:bm} {w0:World} (hd:qT ct=true) {lv nb:Nat} {un:l8} {body:jq} {rd:RD} {e:bS} {h:List Ax} {g:Option Ex} {D5:Ex->bS->List Ax->Option Ex->Prop} (bi bi':Nat)
 (SK:Type) (inv:SK->bS×List Ax×Option Ex) (μ:SK->Nat) (h0:∃i,g=(inv i).2.2/\lN w0 nb e h (inv i).1 (inv i).2.1)
 (round:∀i,bT (dN w0 (SV ct)) (oF (oR ct lv) (ou ct) un (lv,nb) rd (Jo (oR ct lv) (ou ct) un lv bi' rd) bi body (inv i).1 (inv i).2.1 (inv i).2.2 λx e h g=>.ret (x,e,h,g)) λr=>match r.1 with|.normal=>∃i',r.2.2.2=(inv i').2.2/\lN w0 nb r.2.1 r.2.2.1 (inv i').1 (inv i').2.1/\μ i'<μ i|x=>D5 x r.2.1 r.2.2.1 r.2.2.2):dN w0 (SV ct) (lv,nb) (.i body rd) e h g D5 :=
 hr3 (fr:=(lv,nb)) (qp w0 ct hd lv) (qG w0 ct _ lv) SK inv μ h0 round
def iE (P:Program) (rec:TypeId->Option (List Ty)):List Field->Nat->Option (List Ty×Nat)
 |[],off=>some ([],off)
 |f::l,off=>match rec f.type,iE P rec l (off+P.cellsOf f.type) with
   |some ts,some (us,n)=>if f.offset=off/\ts.length=P.cellsOf f.type then some (ts++us,n) else none
   |_,_=>none
def kW (P:Program):Nat->TypeId->Option (List Ty)
 |0,_=>none
 |fu+1,t=>match P.underlying t with
   |some .bool=>some [.bool]|some (.int k)=>some [.int k]|some .string=>some [.str]
   |some (.slice e)=>match kW P fu e with
     |some ts=>if ts.length=P.cellsOf e then some [.sl ts] else none
     |none=>none
   |some (.struct fs)=>match iE P (kW P fu) fs.toList 0 with
     |some (ts,n)=>if n=P.cellsOf t then some ts else none
     |none=>none
   |some (.array n e)=>match kW P fu e with
     |some ts=>if ts.length=P.cellsOf e/\P.cellsOf t=n*P.cellsOf e then some (List.replicate n ts).flatten else none
     |none=>none
   |_=>none
def rgI:IntKind->Int->Prop
 |.u8,n=>0<=n/\n<=255|_,_=>True
theorem h3' {k:IntKind} {n:Int} (h:(Lit.int k n).wf=true):rgI k n:=by have M:(decide (k.min<=n)&&decide (n<=k.max))=true:=h;rw[D2,E0,E0]at M;cases k<;>first|trivial|exact⟨M.1,M.2⟩
mutual
def zO:Ty->V->Prop
 |.int k,v=>rgI k (iv v)|.str,v=>(sv v).size<=9223372036854775807|.agg ts,v=>iI ts (eD v)|.sl ts,v=>∀i,i<aB v->iI ts (bL v i)|_,_=>True
def iI:List Ty->List V->Prop
 |[],_=>True|t::ts,vs=>zO t (aA vs)/\iI ts (I vs)
end
mutual
theorem hp1:∀ (t:Ty) (v:V),zO t v->zO t (dD t v)
 |.int k,v,h=>by simp[dD,zO,iv]at h ⊢;exact h
 |.bool,_,_=>trivial|.str,v,h=>by simp[dD,zO,sv]at h ⊢;exact h
 |.agg ts,v,h=>by simp[dD,zO,eD]at h ⊢;exact jY ts _ h
 |.sl ts,v,h=>by simp[dD,zO,aB,bL]at h ⊢;exact λi hi=>jY ts _ (h i hi)
 |.fn ..,_,_=>trivial|.pd _,_,_=>trivial
theorem jY:∀ (ts:List Ty) (vs:List V),iI ts vs->iI ts (al ts vs)
 |[],_,_=>trivial|t::ts,vs,h=>by simp[iI,al,aA,I]at h ⊢;exact⟨hp1 t _ h.1,jY ts _ h.2⟩
end
section
variable {w:World}
theorem oh:∀ {ts us:List Ty} {vs xs:List V},bO ts vs->iI ts vs->iI us xs->iI (ts++us) (vs++xs)
 |[],_,_,_,h,_,k=>by simp[bO]at h;subst h;simpa using k
 |t::ts,us,vs,xs,h,hz,k=>by simp[bO]at h;rw[h.1];simp[iI]at hz;simp[JM,iI,aA,I];exact⟨hz.1,oh h.2.2 hz.2 k⟩
theorem m5:∀ {ts us:List Ty} {vs xs:List V},bO ts vs->bO us xs->bO (ts++us) (vs++xs)
 |[],_,_,_,h,k=>by simp[bO]at h;subst h;simpa using k
 |t::ts,us,vs,xs,h,k=>by simp[bO]at h;rw[h.1];simp only[JM,bO,aA,I];exact⟨trivial,h.2.1,m5 h.2.2 k⟩
theorem kZ {w:World} {a:Addr}:∀ (n i:Nat) (cs:List Value),(List.range' i n).mapM (λj=>w.cell? (a.add j))=some cs->gP w a i n=some (cs.map bU):=by
 intro n;induction n with
 |zero=>intro i cs h;simp at h;subst h;rfl
 |succ n ih=>
   intro i cs h;simp[Ii,JS]at h;cases hc:w.cell? (a.add i) with
   |none=>simp[hc]at h
   |some v=>
     cases hr:(List.range' (i+1) n).mapM (λj=>w.cell? (a.add j)) with
     |none=>simp[hc,hr]at h
     |some l=>simp[hc,hr]at h;subst h;simp[gP,hc,ih (i+1) l hr]
theorem ib2 {a:Addr} {n c esz:Nat} {ts:List Ty} (hn:n<=c) (hc:c<=maxLen) (hcell:ts.all cw=true)
 (h:∀i,i<n->∃cs:List Value,gP w (a.add (i*esz)) 0 esz=some (cs.map bU)/\∃vs,bI w [] Nu.nil vs (cs.map bU)/\(bO ts vs/\iI ts vs)/\vs.all V.fc=true) :
 ∃v,vr w [] Nu.nil v (.slice (some (.g a)) n c)/\(dF (.sl ts) v/\zO (.sl ts) v)/\v.fc=true:=by
 classical
 refine⟨.sl n λi=>if hi:i<n then(Classical.choose (Classical.choose_spec (h i hi)).2) else [],?_,?_,rfl⟩
 ·simp only[vr]
  refine⟨some (.g a),c,esz,rfl,hn,by unfold maxLen at hc;omega,trivial,λi hi=>?_⟩;have M:=Classical.choose_spec (h i hi);have N:=Classical.choose_spec M.2;refine⟨.g a,(Classical.choose (h i hi)).map bU,rfl,?_,?_,?_⟩
  ·simp only[jh.add,lds];exact M.1
  ·simp only[hi,dite_true];exact N.1
  ·simp only[hi,dite_true];exact N.2.2
 ·simp only [dF,zO,aB,bL,LI]
  refine⟨⟨.inl rfl,hcell,λi hi=>?_⟩,λi hi=>?_⟩
  ·simp only[hi,dite_true];exact(Classical.choose_spec (Classical.choose_spec (h i hi)).2).2.1.1
  ·simp only[hi,dite_true];exact(Classical.choose_spec (Classical.choose_spec (h i hi)).2).2.1.2
end
theorem hge:∀ {ts:List Ty} {vs:List V},bO ts vs->ts.all cw=true->vs.all V.fc=true
 |[],vs,h,_=>by simp[bO]at h;subst h;rfl
 |t::ts,vs,h,ho=>by
   simp[bO]at h;simp only[EJ,D2]at ho;rw[h.1];simp only[EJ,D2];refine⟨?_,hge h.2.2 ho.2⟩;have M:=h.2.1;cases t<;>simp[dF]at M
   case int=>rw[M];rfl
   case bool=>rcases M with M|M<;>(rw[M];rfl)
   case str=>rw[M];rfl
   case sl=>rcases M.1 with h0|h0<;>(rw[h0];rfl)
   all_goals simp[cw]at ho
section
variable {P:Program}
theorem hes {rec:TypeId->Option (List Ty)} (hr:∀ t ts,rec t=some ts->ts.all cw=true):∀ {fs:List Field} {off n:Nat} {ts:List Ty},iE P rec fs off=some (ts,n)->ts.all cw=true
 |[],off,n,ts,h=>by simp[iE]at h;rw[h.1];rfl
 |f::l,off,n,ts,h=>by
   simp[iE]at h;split at h
   ·rename_i us vs m M N
    split at h
    ·cases h;rw[List.all_append,hr _ _ M,hes hr N];rfl
    ·cases h
   ·cases h
theorem jT:∀ {fu:Nat} {t:TypeId} {ts:List Ty},kW P fu t=some ts->ts.all cw=true
 |0,_,_,h=>by cases h
 |fu+1,t,ts,h=>by
   simp[kW]at h;split at h
   ·cases h;rfl
   ·cases h;rfl
   ·cases h;rfl
   ·split at h
    ·split at h
     ·cases h;rfl
     ·cases h
    ·cases h
   ·split at h
    ·rename_i us n hf
     split at h
     ·cases h;exact hes (λt ts=>jT (fu:=fu)) hf
     ·cases h
    ·cases h
   ·split at h
    ·rename_i us hu
     split at h
     ·cases h
      rw[If];intro x hx
      let ⟨l,hl,hx⟩:=List.mem_flatten.1 hx
      rw[(List.mem_replicate.1 hl).2]at hx;exact List.all_eq_true.1 (jT hu) x hx
     ·cases h
    ·cases h
   ·cases h
variable {QR:Type} {enc:TypeId×Value->QR} {w:World} {base:Nat} {spare:Nat->Bool} {held:Bool}
theorem hin {rec:TypeId->Option (List Ty)} {fuel:Nat} (hr:∀ t ts cs d ps,rec t=some ts->DataW.trod enc P w base spare held fuel t cs=some (d,ps)->∃ vs,bI w [] Nu.nil vs (cs.map bU)/\bO ts vs/\iI ts vs) (cs:List Value) :
 ∀{fs:List Field} {off n:Nat} {ts:List Ty},iE P rec fs off=some (ts,n)->(∀f∈fs,∃x,DataW.trod enc P w base spare held fuel f.type ((cs.drop f.offset).take (P.cellsOf f.type))=some x)->cs.length=n ->
 ∃vs,bI w [] Nu.nil vs ((cs.drop off).map bU)/\bO ts vs/\iI ts vs
 |[],off,n,ts,h,_,hl=>by simp[iE]at h;obtain⟨rfl,rfl⟩:=h;exact⟨[],by rw[List.drop_eq_nil_of_le K];simp[bI],by simp[bO],trivial⟩
 |f::l,off,n,ts,h,hx,hl=>by
   simp[iE]at h;split at h
   ·rename_i us vs m M N
    split at h
    ·rename_i hc
     cases h
     let ⟨rfl,hlen⟩:=hc
     let ⟨⟨d,ps⟩,ha⟩:=hx f G7
     let ⟨v1,g1,g2,z1⟩:=hr _ _ _ _ _ M ha
     let ⟨v2,g3,g4,z2⟩:=hin hr cs N (λg hg=>hx g (EQ _ hg)) hl
     refine⟨v1++v2,?_,m5 g2 g4,oh g2 z1 z2⟩;have e:cs.drop f.offset=(cs.drop f.offset).take (P.cellsOf f.type)++cs.drop (f.offset+P.cellsOf f.type):=by rw[← H1];exact(Kx _ _).symm
     rw[e,List.map_append];exact lZ g1 g3
    ·cases h
   ·cases h
theorem hnk {fuel k:Nat} {e:TypeId} {us:List Ty} (hr:∀ cs d ps,DataW.trod enc P w base spare held fuel e cs=some (d,ps)->∃ vs,bI w [] Nu.nil vs (cs.map bU)/\bO us vs/\iI us vs) (cs:List Value) :
 ∀(n m:Nat),cs.length=(m+n)*k->(∀i,m<=i->i<m+n->∃x,DataW.trod enc P w base spare held fuel e ((cs.drop (i*k)).take k)=some x)->∃vs,bI w [] Nu.nil vs ((cs.drop (m*k)).map bU)/\bO (List.replicate n us).flatten vs/\iI (List.replicate n us).flatten vs:=by
 intro n;induction n with
 |zero=>intro m hl _;exact⟨[],by rw[List.drop_eq_nil_of_le (by simp at hl;omega)];simp[bI],by simp[bO],trivial⟩
 |succ n ih=>
   intro m hl h
   let ⟨x,hx⟩:=h m (D7 _) K
   let ⟨d,ps⟩:=x
   let ⟨v1,g1,g2,z1⟩:=hr _ _ _ hx
   let ⟨v2,g3,g4,z2⟩:=ih (m+1) (by rw[hl];congr 1;omega) (λi M N=>h i K K)
   refine⟨v1++v2,?_,by rw[IW,K5];exact m5 g2 g4,by rw[IW,K5];exact oh g2 z1 z2⟩;have e:cs.drop (m*k)=(cs.drop (m*k)).take k++cs.drop ((m+1)*k):=by rw[E5,← H1];exact(Kx _ _).symm
   rw[e,List.map_append];exact lZ g1 g3
theorem fu1:∀ (fuel fu:Nat) (t:TypeId) (ts:List Ty) (cs:List Value) (d:DataW QR) (ps:List MemPlace),kW P fu t=some ts->DataW.trod enc P w base spare held fuel t cs=some (d,ps)->∃ vs,bI w [] Nu.nil vs (cs.map bU)/\bO ts vs/\iI ts vs:=by
 intro fuel;induction fuel with
 |zero=>intro fu t ts cs d ps _ h;cases h
 |succ fuel ih=>
   intro fu t ts cs d ps ht h;cases fu with
   |zero=>cases ht
   |succ fu=>
     have TN:=jT ht;simp[kW]at ht;split at ht
     ·rename_i hu;cases ht;obtain⟨b,rfl,_⟩:=DataW.trod_bool hu h;exact⟨[.bool b],by simp[bI,vr,bU],by simp[bO,dF,aA,I,bv],trivial,trivial⟩
     ·rename_i k hu;cases ht;obtain⟨n,rfl,_,uI⟩:=DataW.trod_int hu h;exact⟨[.int k n],by simp[bI,vr,bU],by simp[bO,dF,aA,I,iv],h3' uI,trivial⟩
     ·rename_i hu;cases ht;obtain⟨b,rfl,_,hb⟩:=DataW.trod_string hu h;exact⟨[.str b],by simp[bI,vr,bU],by simp[bO,dF,aA,I,sv],(show b.size<=9223372036854775807 by unfold maxLen at hb;omega),trivial⟩
     ·rename_i e hu
      split at ht
      ·rename_i us TO
       split at ht
       ·rename_i hlen
        cases ht;have hcell:=jT TO;rcases DataW.trod_slice hu h with ⟨rfl,_⟩|⟨a,len,cap,elems,rest,n,hn,rfl,_,_,h3,h4,h5,h6,_⟩
        ·exact⟨[.sl 0 λ_=>[]],by simp only[E8,HL,bU,bI,vr];exact⟨_,_,rfl,⟨none,0,0,rfl,D7 _,K,trivial,λi hi=>by omega⟩,rfl⟩,by simp only[bO,dF,aA,I,aB,LI];exact⟨trivial,⟨.inl rfl,hcell,λi hi=>by omega⟩,trivial⟩,(λi hi=>by simp[aB,aA]at hi),trivial⟩
        ·cases hn
         let ⟨v,g1,g2,_⟩:=ib2 (w:=w) (a:=a) (n:=len) (c:=cap) (esz:=P.cellsOf e) (ts:=us) h3 h4 hcell (λi hi=>by
          have h7:=h6 i hi;rw[EZ K]at h7;cases Uv:w.cells? base (a.add (i*P.cellsOf e)) (P.cellsOf e) with
          |none=>rw[Uv]at h7;cases h7
          |some cs'=>
            rw[Uv]at h7
            let ⟨vs,g1,g2,z2⟩:=ih fu e us cs' elems[i].1 elems[i].2 TO h7
            unfold World.cells? at Uv;split at Uv
            ·rw[Ky]at Uv;exact⟨cs',kZ _ 0 cs' Uv,vs,g1,⟨g2,z2⟩,hge g2 hcell⟩
            ·cases Uv)
         exact⟨[v],by simp only[E8,HL,bU,bI];exact⟨_,_,rfl,g1,rfl⟩,by simp only[bO,aA,I];exact⟨trivial,g2.1,trivial⟩,g2.2,trivial⟩
       ·cases ht
      ·cases ht
     ·rename_i fs hu
      split at ht
      ·rename_i us n hf
       split at ht
       ·rename_i hn
        cases ht
        let ⟨xs,m,hm,_,h3,h4,h5⟩:=DataW.trod_struct hu h
        cases hm;have:=hin (off:=0) (λt ts cs d ps=>ih fu t ts cs d ps) cs hf (λf Zv=>by obtain⟨i,hi,rfl⟩:=List.getElem_of_mem Zv;simp at hi;have h6:=h5 i fs[i] (by simp[hi]);rw[EZ K]at h6;exact⟨_,by simpa using h6⟩) (by rw[h3,hn]);simpa using this
       ·cases ht
      ·cases ht
     ·rename_i n e hu
      split at ht
      ·rename_i us TO
       split at ht
       ·rename_i hc
        cases ht
        let ⟨xs,m,hm,_,h3,h4,h5⟩:=DataW.trod_array hu h
        cases hm;have:=hnk (k:=P.cellsOf e) (λcs d ps=>ih fu e us cs d ps TO) cs n 0 (by rw[h3,hc.2];simp) (λi _ hi=>by have h6:=h5 i K;rw[EZ K]at h6;exact⟨_,h6⟩);simpa using this
       ·cases ht
      ·cases ht
     ·cases ht
end
end Go.Dx
namespace Go.Dx
open Go.Sx Go.RowKit
def rx:Value->ak
 |.agg cs=>.agg (cs.toList.map bU)|v=>bU v
theorem hnt (v:Value):C5 (λ_=>none) (rx v) v:=by
 unfold rx;split
 ·rename_i cs;simp only[C5];exact⟨cs,rfl,cv _ _⟩
 ·exact cK _ _
theorem hh':∀ vs:List Value,aC (λ_=>none) (vs.map rx) vs
 |[]=>by simp[aC]
 |v::vs=>by simp only[E8,aC];exact⟨_,_,rfl,hnt v,hh' vs⟩
def NS (P:Program) (fu:Nat) (t:TypeId):Option Ty:=match P.underlying t with|some (.struct _)=>(kW P fu t).map .agg|some (.array _ _)=>(kW P fu t).map .agg|some (.int k)=>some (.int k)|some .bool=>some .bool|_=>none
def argTys (P:Program) (fu:Nat):List TypeId->Option (List Ty)
 |[]=>some []
 |t::ts=>match NS P fu t,argTys P fu ts with|some x,some xs=>some (x::xs)|_,_=>none
section
variable {P:Program} {QR:Type} {enc:TypeId×Value->QR} {QW:World} {base:Nat}
theorem atO {fu:Nat} {t:TypeId} {ty:Ty} {v:Value} {d:DataW QR} {ps:List MemPlace} {b:Nat} {spare:Nat->Bool} {held:Bool} (ht:NS P fu t=some ty) (hv:Value.okWide P QW .any base t v) (h:DataW.Trod enc P QW b spare held t v d ps) :
 ∃x,vr QW [] Nu.nil x (rx v)/\dF ty x/\zO ty x:=by
 let ⟨fuel,h⟩:=h
 unfold NS at ht;unfold Value.okWide at hv;split at ht
 ·rename_i fs hu
  rw[hu]at hv;obtain⟨cs,rfl,_,_⟩:=hv;simp[DZ]at ht;obtain⟨ts,YQ,rfl⟩:=ht
  let ⟨vs,g1,g2,z2⟩:=fu1 fuel fu t ts _ d ps YQ h
  exact⟨.agg vs,by simp only[rx,vr];exact⟨_,rfl,g1⟩,by simp only[dF,eD];exact⟨trivial,g2⟩,z2⟩
 ·rename_i n e hu
  rw[hu]at hv;obtain⟨cs,rfl,_,_⟩:=hv;simp[DZ]at ht;obtain⟨ts,YQ,rfl⟩:=ht
  let ⟨vs,g1,g2,z2⟩:=fu1 fuel fu t ts _ d ps YQ h
  exact⟨.agg vs,by simp only[rx,vr];exact⟨_,rfl,g1⟩,by simp only[dF,eD];exact⟨trivial,g2⟩,z2⟩
 ·rename_i k hu
  cases ht
  let ⟨n,hc,_,uI⟩:=DataW.trod_int hu h
  have:v=.int k n:=by rw[hu]at hv;unfold Cell.okWide at hv;rw[hu]at hv;cases v<;>simp_all [Value.cells,Cell.ok]
  subst this;exact⟨.int k n,by simp[rx,bU,vr],by simp[dF,iv],h3' uI⟩
 ·rename_i hu
  cases ht
  let ⟨n,hc,_⟩:=DataW.trod_bool hu h
  have:v=.bool n:=by rw[hu]at hv;unfold Cell.okWide at hv;rw[hu]at hv;cases v<;>simp_all [Value.cells,Cell.ok]
  subst this;exact⟨.bool n,by simp[rx,bU,vr],by simp[dF,bv],trivial⟩
 ·cases ht
theorem fw2 {fu:Nat} {b:Nat} {spare:Nat->Bool} {held:Bool}:∀ {ts:List TypeId} {tys:List Ty} {vs:List Value} {ds:List (DataW QR)} {ps:List MemPlace},argTys P fu ts=some tys->(∀ (j:Nat) t v,ts[j]? = some t->vs[j]? = some v->Value.okWide P QW .any base t v)->DataW.TrodAll enc P QW b spare held ts vs ds ps ->
 ∃xs,bI QW [] Nu.nil xs (vs.map rx)/\bO tys xs/\iI tys xs
 |[],tys,[],[],ps,ht,_,h=>by simp[argTys,DJ]at ht;subst ht;exact⟨[],by simp[bI],by simp[bO],trivial⟩
 |t::ts,tys,v::vs,d::ds,ps,ht,hv,h=>by
   simp[argTys]at ht;split at ht
   ·rename_i x xs hx T2
    cases ht
    let ⟨p,Pw,M,N,_⟩:=h
    let ⟨y,g1,g2,z1⟩:=atO hx (hv 0 t v rfl rfl) M
    let ⟨ys,g3,g4,z2⟩:=fw2 T2 (λj t v hj tq=>hv (j+1) t v (by simpa using hj) (by simpa using tq)) N
    exact⟨y::ys,by simp only[E8,bI];exact⟨_,_,rfl,g1,g3⟩,by simp only[bO,aA,I];exact⟨trivial,g2,g4⟩,z1,z2⟩
   ·cases ht
 |[],_,_::_,_,_,_,_,h=>by simp[DataW.TrodAll]at h
 |[],_,[],_::_,_,_,_,h=>by simp[DataW.TrodAll]at h
 |_::_,_,[],_,_,_,_,h=>by simp[DataW.TrodAll]at h
 |_::_,_,_::_,[],_,_,_,h=>by simp[DataW.TrodAll]at h
mutual
theorem Ar:∀ (t:Ty) (v:V),dD t (dD t v)=dD t v
 |.int k,v=>by simp[dD,iv]
 |.bool,v=>by simp[dD,bv]
 |.str,v=>by simp[dD,sv]
 |.agg ts,v=>by simp[dD,eD];rw[d9 ts]
 |.sl ts,v=>by simp[dD,aB,bL];congr 1;funext i;exact d9 ts _
 |.fn f xs ys,v=>by simp only[dD,KF,Kn];rw[d9 xs,d9 ys]
 |.pd ts,v=>by simp[dD,Is];rw[d9 ts]
theorem d9:∀ (ts:List Ty) (vs:List V),al ts (al ts vs)=al ts vs
 |[],vs=>by simp[al]
 |t::ts,vs=>by simp only[al,aA,I];rw[Ar t,d9 ts]
end
mutual
theorem hw0:∀ (t:Ty) (v:V) (k:List V),uR t (dD t v) k=uE t (dD t v) k
 |.int k,v,_=>by simp[dD,uR,uE,iv]
 |.bool,v,_=>by simp[dD,uR,uE,bv]
 |.str,v,_=>by simp[dD,uR,uE,sv]
 |.agg ts,v,k=>by simp[dD,uR,uE,eD];rw[gE ts]
 |.sl ts,v,k=>by have:=Ar (.sl ts) v;simp[dD]at this ⊢;simp[uR,uE,dD,this]
 |.fn f xs ys,v,k=>by simp[dD,uR,uE,KF,Kn];rw[gE ys,gE xs]
 |.pd ts,v,k=>by simp[dD,uR,uE,Is];rw[gE ts]
theorem gE:∀ (ts:List Ty) (vs:List V) (k:List V),ma ts (al ts vs) k=mb ts (al ts vs) k
 |[],vs,k=>by simp[al,ma,mb]
 |t::ts,vs,k=>by simp[al,ma,mb,aA,I];rw[gE ts,hw0 t]
end
def lawC (tys:List Ty):aE:=bP tys (iI tys) λ_=>.bool true
theorem law_calls {f:FuncId} {fu b:Nat} {spare:Nat->Bool} {held:Bool} {tys:List Ty} {ts:List TypeId} {args:Array Value} {ds:List (DataW QR)} {ps:List MemPlace} (hOk:(vP (lawC tys)).Ok P f) (ht:argTys P fu ts=some tys)
 (hv:∀(j:Nat) t v,ts[j]? = some t->args[j]? = some v->Value.okWide P QW .any base t v) (hA:DataW.TrodAll enc P QW b spare held ts args.toList ds ps) :
 Calls P f args QW λe W'=>e=.returned (.bool true)/\Below QW.heap.size QW W':=by
 let ⟨xs,g1,g2,z2⟩:=fw2 (vs:=args.toList) ht (λj t v hj tq=>hv j t v hj (by simpa using tq)) hA
 let ⟨_,hc⟩:=hOk.sound ⟨QW,QW,λ_=>False,[]⟩ (λ_=>none) [] QW (args.toList.map rx) args.toList (λr _=>r=.bool true) (bh.start QW) (hh' _)
  ⟨al tys xs,_,_,_,fW tys xs _ g2 g1,rfl,⟨gE tys xs [],by rw[(ig tys _ [] [] (gE tys xs [])).1];exact jY tys _ (jY tys xs z2)⟩,rfl,rfl⟩
 refine hc.mono λe w' ⟨v,r,m',lh',he,hr,_,hh,hk⟩=>?_;subst hk;simp[C5]at hr;subst hr;exact⟨he,hh.os,hh.tape,hh.output,hh.fsize,hh.old⟩
end
end Go.Dx
