/- Part 3 of a proof. No conditions. -/
import Derived.Test.YtllggmkhjhjkpaaGreatDoorLh2
import Derived.KernelRfl
import Derived.OpenShut
import Derived.ChangeArms
import Derived.Below
import Derived.ChangeSame
import Derived.Carry
set_option maxRecDepth 100000
set_option linter.unusedVariables false
set_option linter.unusedSimpArgs false
namespace Go.Dx
open Go.Sx
section
variable {w0:World} {ν ν':Nu} {nV nS Qo:Nat} {h h':List A7} {lh lh':List ar} {α:Type} {LP:fK} {Qe:α->Prop} {e:bZ} {sl:List af} {ctx:Bool} {QZ:FuncId->b6}
theorem bU {v:V} {K:V->BO α} (hs:bR LP (ju ctx v K) Qe):∃ u,bR LP (K u) Qe:=by
 unfold ju at hs;split at hs
 ·simp[bR]at hs;exact⟨_,hs.2⟩
 ·exact⟨_,hs⟩
theorem ti:∀ {xs:List gq} {K:List V->BO α},bR LP (vF ctx e xs K) Qe->∃ us,bR LP (K us) Qe
 |[],K,hs=>⟨[],hs⟩
 |x::xs,K,hs=>by
   simp[vF]at hs
   let ⟨u,M⟩:=bU hs
   let ⟨us,N⟩:=ti M
   exact⟨_,N⟩
theorem j6 {x:Option gq} {K:Option V->BO α} (hs:bR LP (vC ctx e x K) Qe):∃ u,bR LP (K u) Qe:=by
 cases x with
 |none=>exact⟨none,hs⟩|some x=>simp[vC]at hs;let ⟨u,M⟩:=bU hs;exact⟨_,M⟩
theorem fY {p:Prop} [Decidable p] {x:BO α} (hs:bR LP (yR ctx p x) Qe):bR LP x Qe:=by simp[yR,bR]at hs;exact hs.2
theorem eG {x:Option V} {y d:Nat} {K:Nat->BO α} (hs:bR LP (nI ctx x y d K) Qe):∃ n,bR LP (K n) Qe:=by
 unfold nI at hs;split at hs
 ·exact⟨_,hs⟩
 ·exact⟨_,fY hs⟩
 ·exact hs.elim
theorem hkW:∀ {ps:List (Nat×Nat×gq)} {z:List V} {K:List V->BO α},bR LP (ri ctx e ps z K) Qe->∃ cs,bR LP (K cs) Qe
 |[],z,K,hs=>⟨_,hs⟩
 |(off,n,x)::ps,z,K,hs=>by
   simp[ri]at hs
   let ⟨v,N⟩:=bU hs
   cases hf:(v.flat&&Nat.beq (b7 v.cells) n) with
   |false=>rw[hf]at N;exact N.elim
   |true=>
     rw[hf]at N;simp[cond_true]at N;split at N
     ·exact hkW N
     ·exact N.elim
theorem Rts {v:V} {x:BO α} (hs:bR LP (Wj ctx h v x) Qe):bR LP x Qe:=by
 unfold Wj at hs;split at hs
 ·split at hs
  ·exact fY hs
  ·exact hs.elim
 ·exact hs
theorem hvz {op:BinOp} {k:IntKind} {x y:Int} {K:V->BO α} (hs:bR LP (Rq ctx op k x y K) Qe):∃v,bR LP (K v) Qe:=by cases op<;>simp[Rq]at hs<;>first|exact hs.elim|exact⟨_,hs⟩|exact⟨_,fY hs⟩
theorem hsb {op:BinOp} {x y:V} {K:V->BO α} (hs:bR LP (C4 ctx op x y K) Qe):∃ v,bR LP (K v) Qe:=by
 unfold C4 at hs;split at hs
 ·split at hs
  ·exact hvz hs
  ·exact hs.elim
 ·split at hs
  ·exact⟨_,hs⟩
  ·exact⟨_,hs⟩
  ·exact⟨_,fY hs⟩
  ·exact hs.elim
 ·exact hs.elim
theorem alT {cf:CF α} {op:lN} {K:V->List A7->BO α} (hc0:ctx=false) (RX:mf op=true) (hs:bR LP (Ct cf ctx none op e h K) Qe):∃ v,bR LP (K v h) Qe:=by
 cases op<;>simp[mf]at RX<;>simp[Ct]at hs<;>try (cases RX;done)
 case mov x=>let ⟨u,M⟩:=bU hs;exact⟨_,M⟩
 case pick c a b=>
  let ⟨u,M⟩:=bU hs
  split at M
  ·let ⟨u,M⟩:=bU M;exact⟨_,M⟩
  ·let ⟨u,M⟩:=bU M;exact⟨_,M⟩
  ·let ⟨u,M⟩:=bU M
   let ⟨u,M⟩:=bU M
   split at M
   ·exact⟨_,M⟩
   ·simp[bR]at M
    rcases Bool.eq_false_or_eq_true (b:=_) with hb|hb
    ·exact⟨_,M.1 hb⟩
    ·exact⟨_,M.2 hb⟩
  ·simp[bR]at M
   exact⟨_,M.2⟩
  ·exact M.elim
 case agg z ps=>let ⟨cs,M⟩:=hkW hs;exact⟨_,M⟩
 case ld a=>
  let ⟨u,M⟩:=bU hs
  have M:=Rts M
  split at M
  ·exact⟨_,M⟩
  ·exact M.elim
 case lds n a=>
  let ⟨u,M⟩:=bU hs
  have M:=Rts M
  split at M
  ·exact⟨_,M⟩
  ·exact M.elim
 case nz x=>
  let ⟨u,M⟩:=bU hs
  split at M<;>first|exact⟨_,M⟩|exact M.elim
 case bin op x y=>
  let ⟨u,M⟩:=bU hs
  let ⟨v,N⟩:=bU M
  exact hsb N
 case eqa neg n x y=>
  let ⟨u,M⟩:=bU hs
  let ⟨v,N⟩:=bU M
  split at N
  ·rename_i xs ys
   split at N
   ·rename_i b hb
    cases hn:Nat.beq (b7 xs) n with
    |false=>rw[hn]at N;exact N.elim
    |true=>rw[hn]at N;exact⟨_,N⟩
   ·exact N.elim
  ·exact N.elim
 case eqb neg x y=>
  let ⟨u,M⟩:=bU hs
  let ⟨v,N⟩:=bU M
  split at N
  ·exact⟨_,N⟩
  ·exact N.elim
 case un op x=>
  let ⟨u,M⟩:=bU hs
  split at M<;>first|exact⟨_,M⟩|exact M.elim
 case conv k x=>
  let ⟨u,M⟩:=bU hs
  split at M<;>first|exact⟨_,M⟩|exact M.elim
 case mkf f xs ys=>
  split at hs
  ·let ⟨us,g1⟩:=ti hs
   let ⟨vs,g2⟩:=ti g1
   exact⟨_,g2⟩
  ·exact hs.elim
 case fa off x=>
  let ⟨u,M⟩:=bU hs
  split at M
  ·exact⟨_,M⟩
  ·exact⟨_,M⟩
  ·split at M
   ·exact⟨_,M⟩
   ·exact M.elim
  ·exact M.elim
 case fld off n x=>
  let ⟨u,M⟩:=bU hs
  split at M
  ·split at M
   ·split at M
    ·exact⟨_,M⟩
    ·exact M.elim
   ·split at M
    ·exact⟨_,M⟩
    ·exact M.elim
  ·exact M.elim
 case iaA n esz x ix=>
  let ⟨u,M⟩:=bU hs
  let ⟨v,N⟩:=bU M
  split at N
  ·exact⟨_,fY N⟩
  ·exact⟨_,fY N⟩
  ·split at N
   ·exact⟨_,fY N⟩
   ·exact N.elim
  ·exact N.elim
 case iaS esz x ix=>
  let ⟨u,M⟩:=bU hs
  let ⟨v,N⟩:=bU M
  split at N
  ·rename_i n f _ i
   cases hn:Nat.beq (b7 (f i.toNat)) esz with
   |false=>rw[hn]at N;exact N.elim
   |true=>rw[hn]at N;exact⟨_,fY N⟩
  ·exact⟨_,fY N⟩
  ·split at N
   ·rename_i ez n' f ty W
    cases hn:Nat.beq ez esz with
    |false=>rw[hn]at N;exact N.elim
    |true=>rw[hn]at N;exact⟨_,fY N⟩
   ·exact N.elim
  ·split at N
   ·rename_i ez n' f ty W
    cases hn:Nat.beq ez esz with
    |false=>rw[hn]at N;exact N.elim
    |true=>rw[hn]at N;exact⟨_,fY N⟩
   ·exact N.elim
  ·exact⟨_,fY N⟩
  ·exact N.elim
 case ixA n esz sz x ix=>
  let ⟨u,M⟩:=bU hs
  let ⟨v,N⟩:=bU M
  split at N
  ·split at N
   ·split at N
    ·exact⟨_,fY N⟩
    ·exact N.elim
   ·split at N
    ·exact⟨_,fY N⟩
    ·exact N.elim
  ·exact N.elim
 case ixS x ix=>
  let ⟨u,M⟩:=bU hs
  let ⟨v,N⟩:=bU M
  split at N
  ·exact⟨_,fY N⟩
  ·exact N.elim
 case len x=>
  let ⟨u,M⟩:=bU hs
  split at M<;>first|exact⟨_,M λe=>by rw[hc0]at e;cases e⟩|exact⟨_,M⟩|exact M.elim
 case lenT x=>
  let ⟨u,M⟩:=bU hs
  split at M<;>first|exact⟨_,M⟩|exact M.elim
 case lenA n=>exact⟨_,hs⟩
 case mm b x xs=>
  let ⟨u,M⟩:=bU hs
  let ⟨us,N⟩:=ti M
  split at N
  ·exact⟨_,N⟩
  ·exact N.elim
 case ext x i=>
  let ⟨u,M⟩:=bU hs
  split at M
  ·split at M
   ·exact⟨_,M⟩
   ·exact M.elim
  ·exact M.elim
 case slS esz x lo hi mx=>
  let ⟨u,M⟩:=bU hs
  let ⟨lo',N⟩:=j6 M
  let ⟨Rk,h3⟩:=j6 N
  let ⟨mx',h4⟩:=j6 h3
  split at h4
  ·rename_i n f
   split at h4
   ·cases hz:Nat.beq (b7 (f 0)) esz with
    |false=>rw[hz]at h4;exact h4.elim
    |true=>
      rw[hz]at h4
      simp[cond_true]at h4
      let ⟨_,h5⟩:=eG h4
      let ⟨_,h6⟩:=eG h5
      exact⟨_,h6⟩
   ·exact h4.elim
  ·split at h4
   ·let ⟨_,h5⟩:=eG h4
    exact⟨_,h5⟩
   ·split at h4
    ·rename_i ez n' f ty W
     cases hn:Nat.beq ez esz with
     |false=>rw[hn]at h4;exact h4.elim
     |true=>
       rw[hn]at h4
       simp[cond_true]at h4
       let ⟨_,h5⟩:=eG h4
       let ⟨_,h6⟩:=eG h5
       exact⟨_,h6⟩
    ·exact h4.elim
   ·exact h4.elim
  ·let ⟨_,h5⟩:=eG h4
   let ⟨_,h6⟩:=eG h5
   let ⟨_,h7⟩:=eG h6
   exact⟨_,h7⟩
  ·split at h4
   ·let ⟨_,h5⟩:=eG h4
    let ⟨_,h6⟩:=eG h5
    exact⟨_,h6⟩
   ·exact h4.elim
  ·exact h4.elim
 case isn neg x=>
  let ⟨u,M⟩:=bU hs
  split at M
  ·exact⟨_,M⟩
  ·exact⟨_,M⟩
  ·exact⟨_,M.2⟩
  ·exact⟨_,M.2⟩
  ·exact M.elim
 case slA n esz x lo hi mx=>
  let ⟨u,M⟩:=bU hs
  let ⟨lo',N⟩:=j6 M
  let ⟨Rk,h3⟩:=j6 N
  let ⟨mx',h4⟩:=j6 h3
  split at h4
  ·let ⟨_,h5⟩:=eG h4
   let ⟨_,h6⟩:=eG h5
   let ⟨_,h7⟩:=eG h6
   exact⟨_,h7⟩
  ·exact h4.elim
 case slT x lo hi=>
  let ⟨u,M⟩:=bU hs
  let ⟨lo',N⟩:=j6 M
  let ⟨Rk,h3⟩:=j6 N
  split at h3
  ·let ⟨_,h5⟩:=eG h3
   let ⟨_,h6⟩:=eG h5
   exact⟨_,h6⟩
  ·exact h3.elim
def oY (Qo:Nat):List jq->Bool
 |[]=>true|o::l=>(match o.dst with|some d=>Nat.blt d Qo|none=>true)&&oY Qo l
theorem ahK {Qo:Nat} {o:jq} {l:List jq} (hd:oY Qo (o::l)=true):(∀i,o.dst=some i->i<Qo)/\oY Qo l=true:=by simp[oY,Eg]at hd;refine⟨λi hi=>?_,hd.2⟩;rw[hi]at hd;exact G2 hd.1
theorem cY {l:List af} {d:Nat} {a:af} (hd:l.getD d .any=a) (ha:a≠.any):l.set d a=l:=by
 apply Hg;intro i;rw[G1];split
 ·rename_i e;subst e
  split
  ·rename_i Qw;simp[List.getD,HU Qw]at hd;simp[hd,HU Qw]
  ·rename_i Qw;simp[List.getD,GE (Nat.le_of_not_lt Qw)]at hd;exact(ha hd.symm).elim
 ·rfl
theorem AX {b:Bool} {v:V} {a:af} (hb:b=true) (U:vr w0 lh ν v a):vr w0 lh ν (.gd b v) a:=by simp[vr];exact⟨λ_=>U,λe=>by rw[hb]at e;cases e⟩
theorem R54 {b:Bool} {v:V} {l:List af} (hb:b=false):vr w0 lh ν (.gd b v) (.tup l):=by simp only[vr];exact⟨(λe=>by rw[hb]at e;cases e),λ_=>⟨l,rfl⟩⟩
theorem Bi:vr w0 lh ν (.tup []) (.tup []):=by simp only[vr,bC];exact⟨[],rfl,rfl⟩
theorem vG {b want:Bool} (e:b=want):gB b want=true:=by subst e;cases b<;>rfl
theorem y4 {b want:Bool} (e:b=!want):gB b want=false:=by subst e;cases want<;>rfl
theorem lH {cf:CF α} (SB:tR w0 QZ LP false cf):∀ (ops:List jq) (e:bZ) (h:List A7) (ν:Nu) (sl:List af) (lh:List ar) (K:bZ->List A7->BO α) (KA:List af->List ar->Prop),oY Qo ops=true ->
 gX w0 ν Qo e sl->HR w0 ν nV nS h lh->bR LP (hU cf ops e h K) Qe->(∀e' h' ν' sl' lh',ν.sub ν'->gX w0 ν' Qo e' sl'->HR w0 ν' nV nS h' lh'->bR LP (K e' h') Qe->KA sl' lh')->fN w0 QZ ops sl lh KA
 |[],e,h,ν,sl,lh,K,KA,hd,RH,hh,hs,hK=>hK e h ν sl lh (Nu.sub_refl ν) RH hh hs
 |o::rest,e,h,ν,sl,lh,K,KA,hd,RH,hh,hs,hK=>by
   let ⟨U3,U4⟩:=ahK hd
   have go:∀{e0:bZ},gX w0 ν Qo e0 sl->bR LP (Ct cf true none o.op e0 h λv h=>hU cf rest (eE e0 o.dst v) h K) Qe->dv w0 QZ sl lh none (λv lh'=>fN w0 QZ rest (fv sl o.dst v) lh' KA) o.op:=by intro e0 UW hs;refine B5 (md:=false) (wn:=[]) UW hh rfl SB (.inl ⟨rfl,rfl⟩) (λe=>by cases e) hs λv h' ν' a lh' _ _ g1 g2 g3 g4=>?_;exact lH SB rest _ h' ν' _ lh' K KA U4 ((UW.mono g1).put o.dst U3 g3) g2 g4 λe' h' ν'' sl' lh' k1=>hK e' h' ν'' sl' lh' (Nu.sub_trans g1 k1)
   have skip:∀{e0:bZ},gX w0 ν Qo e0 sl->bR LP (hU cf rest (eE e0 o.dst (.tup [])) h K) Qe->fN w0 QZ rest (fv sl o.dst (.tup [])) lh KA:=by intro e0 UW hs;exact lH SB rest _ h ν _ lh K KA U4 (UW.put o.dst U3 Bi) hh hs hK
   have goS:∀ {b:Bool},mf o.op=true->b=true->bR LP (Ct cf b none o.op e h λv _=>hU cf rest (eE e o.dst (.gd b v)) h K) Qe->dv w0 QZ sl lh none (λv lh'=>fN w0 QZ rest (fv sl o.dst v) lh' KA) o.op:=by
    intro b RX hb hs;refine B5 (md:=false) (wn:=[]) RH hh hb SB (.inl ⟨rfl,rfl⟩) (λe=>by cases e) hs λv h' ν' a lh' _ At g1 g2 g3 g4=>?_
    let ⟨rfl,rfl,rfl⟩:=At RX
    exact lH SB rest _ _ _ _ _ K KA U4 (RH.put o.dst U3 (AX hb g3)) g2 g4 hK
   have skipS:∀ {b:Bool},mf o.op=true->b=false->bR LP (Ct cf b none o.op e h λv _=>hU cf rest (eE e o.dst (.gd b v)) h K) Qe->fN w0 QZ rest (fv sl o.dst (.tup [])) lh KA:=by
    intro b RX hb hs
    let ⟨v,g⟩:=alT hb RX hs
    exact lH SB rest _ h ν _ lh K KA U4 (RH.put o.dst U3 (R54 hb)) hh g hK
   simp only[hU]at hs;simp only[fN];split at hs
   ·rename_i hg;rw[hg];exact go RH hs
   ·rename_i d want hg
    rw[hg];dsimp only
    have RL:=RH.at' d;split at hs
    ·rename_i b hb
     rw[hb]at RL;simp only[vr]at RL;rw[RL];dsimp only
     split at hs
     ·rename_i he _;subst he;exact⟨λ_=>by rw[cY RL av];exact go RH hs,λe=>by cases b<;>cases e⟩
     ·rename_i he _;exact⟨λe=>(he e).elim,λe=>by rw[← e,cY RL av];exact skip RH hs⟩
    ·rename_i l hb
     rw[hb]at RL;simp only[vr]at RL
     let ⟨az,RL,_⟩:=RL
     rw[RL];dsimp only
     rw[cY RL av];exact skip RH hs
    ·rename_i k n hb;rw[hb]at RL;simp only[vr]at RL;rw[RL];exact skip RH hs
    ·rename_i b hb
     rw[hb]at RL;simp only[vr]at RL;rw[RL];dsimp only
     split at hs
     ·rename_i RX;exact⟨λe1=>by rw[← e1,cY RL av];exact goS RX (vG e1) hs,λe1=>by rw[← e1,cY RL av];exact skipS RX (y4 e1) hs⟩
     ·simp only [bR]at hs
      refine⟨λe1=>?_,λe1=>?_⟩
      ·rw[← e1,cY RL av];exact go (RH.know (by simp only[vr];rw[RL,e1])) (hs.1 (vG e1))
      ·rw[← e1,cY RL av];exact skip (RH.know (by simp only[vr];rw[RL,e1])) (hs.2 (y4 e1))
    ·rename_i c v hb
     rw[hb]at RL;simp only[vr]at RL;split at hs
     ·split at hs
      ·have hl:∃ l,sl.getD d .any=.tup l:=by
        cases c with
        |false=>exact RL.2 rfl|true=>have:=RL.1 rfl;simp only[vr]at this;let ⟨l,e,_⟩:=this;exact⟨l,e⟩
       let ⟨l,hl⟩:=hl
       rw[hl];dsimp only
       rw[cY hl av];exact skip RH hs
      ·exact hs.elim
     ·rename_i b YR
      cases c with
      |false=>
        let ⟨l,hl⟩:=RL.2 rfl
        rw[hl];dsimp only
        rw[cY hl av];split at hs
        ·rename_i RX;exact skipS RX rfl hs
        ·simp only[bR]at hs;exact skip RH (hs.2 rfl)
      |true=>
        have RL:=oW (RL.1 rfl) YR;rw[RL];dsimp only
        split at hs
        ·rename_i RX;exact⟨λe1=>by rw[← e1,cY RL av];exact goS RX (by rw[vG e1];rfl) hs,λe1=>by rw[← e1,cY RL av];exact skipS RX (by rw[y4 e1];rfl) hs⟩
        ·simp only [bR]at hs
         refine⟨λe1=>?_,λe1=>?_⟩
         ·rw[← e1,cY RL av];exact go (RH.know (by simp only[vr];rw[RL,e1])) (hs.1 (by rw[vG e1];rfl))
         ·rw[← e1,cY RL av];exact skip RH (hs.2 (by rw[y4 e1];rfl))
    ·exact hs.elim
end
theorem ka {k:Nat}:∀ {l:List Nat},yz k l=true↔k∈l
 |[]=>by simp[yz]
 |x::l=>by
   simp only[yz,HD];by_cases h:k=x
   ·subst h;simp
   ·have:Nat.beq k x=false:=by
     cases hb:Nat.beq k x with
     |false=>rfl|true=>exact(h (FF hb)).elim
    rw[this,cond_false,ka];simp[h]
theorem xE:∀ {l R2:List Nat},Gp l R2=true↔∀ k,k∈l->k∈R2
 |[],R2=>by simp[Gp]
 |x::l,R2=>by simp[Gp,Eg,ka,xE,HD,MU]
theorem wM:∀ {l R2:List Nat},Lq l R2=true↔∀ k,k∈l->k∉R2
 |[],R2=>by simp[Lq]
 |x::l,R2=>by
   simp only[Lq,Eg,wM,HD,MU];refine and_congr ?_ Iff.rfl;cases hm:yz x R2 with
   |false=>simp;intro h;rw[ka.2 h]at hm;cases hm|true=>simp;exact ka.1 hm
theorem nd {Ws:List (List Nat)} {k:Nat}:∀ {un:List Nat},k∈oG Ws un↔∃ u,u∈un/\k∈dP Ws u
 |[]=>by simp[oG]
 |u::un=>by
   simp only[oG,mt,KD,nd,HD];constructor
   ·rintro (h|⟨v,M,N⟩)
    ·exact⟨u,.inl rfl,h⟩
    ·exact⟨v,.inr M,N⟩
   ·rintro⟨v,rfl|M,N⟩
    ·exact .inl N
    ·exact .inr ⟨v,M,N⟩
theorem hge (X:List Nat):∀ (h:List A7) (b k:Nat),(ke X h b)[k]? = (h[k]?).map λo=>if b+k∈X then A7.hid else o
 |[],b,k=>by simp[ke]
 |o::h,b,0=>by
   simp only[ke,Hc,GU,I6];cases hm:yz b X with
   |false=>rw[cond_false,DX (λh=>by rw[ka.2 h]at hm;cases hm)]|true=>rw[cond_true,E5 (ka.1 hm)]
 |o::h,b,k+1=>by simp[ke,He];rw[hge X h (b+1) k,show b+1+k=b+(k+1) by omega]
theorem hm' (X:List Nat) (h:List A7) (k:Nat):(ko X h)[k]? = (h[k]?).map λo=>if k∈X then A7.hid else o:=by
 unfold ko;split
 ·cases h[k]? <;> simp
 ·rw[hge];simp
theorem hly (X:List Nat) (h:List A7):(ko X h).length=h.length:=by
 have gen:∀ (h:List A7) (b:Nat),(ke X h b).length=h.length:=λh=>by
  induction h with
  |nil=>intro b;rfl|cons o h ih=>intro b;simp[ke,ih]
 unfold ko;split
 ·rfl
 ·exact gen h 0
theorem hgx (R2:List Nat) (l:List A7):∀ (h:List A7) (b k:Nat),(mu R2 l h b)[k]? = (h[k]?).map λo=>if b+k∈R2 then l.getD (b+k) o else o
 |[],b,k=>by simp[mu]
 |o::h,b,0=>by
   simp only[mu,Hc,GU,I6];cases hm:yz b R2 with
   |false=>rw[cond_false,DX (λh=>by rw[ka.2 h]at hm;cases hm)]
   |true=>rw[cond_true,E5 (ka.1 hm),bq];simp only[List.getD];cases l[b]? <;> rfl
 |o::h,b,k+1=>by simp only[mu,He];rw[hgx R2 l h (b+1) k,show b+1+k=b+(k+1) by omega]
theorem wF (R2:List Nat) (h l:List A7) (k:Nat):(Gz R2 h l)[k]? = (h[k]?).map λo=>if k∈R2 then l.getD k o else o:=by unfold Gz;rw[hgx];simp
theorem hzl (R2:List Nat) (h l:List A7):(Gz R2 h l).length=h.length:=by
 have gen:∀ (h:List A7) (b:Nat),(mu R2 l h b).length=h.length:=λh=>by
  induction h with
  |nil=>intro b;rfl|cons o h ih=>intro b;simp[mu,ih]
 exact gen h 0
theorem hl':∀ (h:List A7) (k:Nat),(undead h)[k]? = (h[k]?).map λo=>match o with|.dead=>A7.hid|o=>o
 |[],k=>by simp[undead]
 |o::h,0=>by cases o<;>rfl
 |o::h,k+1=>by simp[undead,He];exact hl' h k
theorem qU:∀ (h:List A7),(undead h).length=h.length
 |[]=>rfl|o::h=>by simp[undead,qU h]
theorem ql:∀ (n k:Nat),(deads n)[k]? = if k<n then some A7.dead else none
 |0,k=>by simp[deads]
 |n+1,0=>by simp[deads]
 |n+1,k+1=>by simp[deads,ql n k]
theorem pU (X:List Nat) (lh:List ar) (k:Nat):(hide X lh)[k]? = (lh[k]?).map λo=>if k∈X then ar.hid else o:=by unfold hide;rw[L8]
theorem wP (R2:List Nat) (lh l:List ar) (k:Nat):(mix R2 lh l)[k]? = (lh[k]?).map λo=>if k∈R2 then l.getD k o else o:=by unfold mix;rw[L8]
section
variable {w0:World} {ν ν' ν0:Nu} {nV nS Qo:Nat} {h h' h0:List A7} {lh lh' lh0:List ar} {α:Type} {LP:fK} {Qe:α->Prop} {e:bZ} {sl:List af} {ctx:Bool} {QZ:FuncId->b6}
theorem HR.undead {a b:Nat} (hh:HR w0 ν a b h lh) (nV nS:Nat):HR w0 ν nV nS (undead h) lh:=by
 have hl:∀ k (o:A7),(Dx.undead h)[k]? = some o->o≠.hid->h[k]? = some o/\o≠.dead:=λk o W ho=>by
  rw[hl']at W;cases hg:h[k]? with
  |none=>rw[hg]at W;cases W
  |some o'=>rw[hg]at W;simp[GU,Et]at W;cases o'<;>simp at W<;>subst W<;>first|exact(ho rfl).elim|exact⟨rfl,av⟩
 have hlive:∀ k,bj (Dx.undead h) k->bj h k:=λk W=>by
  rcases gD W with ⟨_,_,g⟩|⟨_,_,_,_,g⟩
  ·exact eC (hl k _ g av).1
  ·exact iw (hl k _ g av).1
 refine⟨λk o W=>?_,λk k' x x' M N=>hh.inj k k' x x' (hlive k M) (hlive k' N),λk W=>hh.dom k (by rw[qU]at W;exact W),hh.rng,hh.zl,λk x W hx=>hh.zn k x (hlive k W) hx⟩;by_cases ho:o=.hid
 ·subst ho;trivial
 ·let ⟨g1,g2⟩:=hl k o W ho
  have:=hh.blk k o g1;cases o with
  |dead=>exact(g2 rfl).elim|hid=>trivial|cells cs ty=>exact this|gl esz n f ty=>exact this
theorem HR.deads (hh:HR w0 ν nV nS h lh) (hV:nV=h.length) (hS:nS=lh.length) (m:Nat):HR w0 ν nV nS (h++deads m) (lh++List.replicate m .dead):=by
 subst hV hS;have hl:∀ k,bj (h++Dx.deads m) k->bj h k:=λk W=>by
  unfold bj ft at *
  rw[bq]at *
  rw[HO]at W;split at W
  ·rename_i At hq
   split at hq
   ·rw[hq]
   ·rw[ql]at hq;split at hq<;>cases hq
  ·rename_i At hq
   split at hq
   ·rw[hq]
   ·rw[ql]at hq;split at hq<;>cases hq
  ·cases W
 refine⟨λk o W=>?_,λk k' x x' M N=>hh.inj k k' x x' (hl k M) (hl k' N),λk W=>hh.dom k (by simp at W;omega),λk x hx=>by have:=hh.rng k x hx;simp;omega,λj az ty hj=>by have At:=hh.zl j az ty hj;rw[Fp (List.getElem?_eq_some_iff.1 At).1];exact At,λk x W hx=>hh.zn k x (hl k W) hx⟩;rw[HO]at W;split at W
 ·rename_i Qw
  have:=hh.blk k o W;cases o with
  |dead=>let ⟨g1,g2,g3⟩:=this;omega
  |hid=>trivial|cells cs ty=>exact dT (Nu.sub_refl ν) av (λb az ty' At _=>by rw[Fp (List.getElem?_eq_some_iff.1 At).1];exact At) this|gl esz n f ty=>exact dT (Nu.sub_refl ν) av (λb az ty' At _=>by rw[Fp (List.getElem?_eq_some_iff.1 At).1];exact At) this
 ·rename_i Ta
  rw[ql]at W;split at W
  ·rename_i Qw;cases W;refine⟨hh.dom k E,E,?_⟩;rw[GY E,List.getElem?_replicate,E5 E]
  ·cases W
def tt (ν0:Nu) (nV nS k:Nat):Option Nat:=if k<nV then(match ν0 k with|some (some x)=>some x.1|_=>none) else some (nS+(k-nV))
structure WR (ν0:Nu) (nV nS:Nat) (h0:List A7) (Ws WsS:List (List Nat)):Prop where
 rel:∀i j,j∈G8 WsS i↔∃k,k∈dP Ws i/\tt ν0 nV nS k=some j
 live:∀i k,k∈dP Ws i->k<nV->bj h0 k
structure DI (w0:World) (ν0:Nu) (h0:List A7) (nV nS:Nat) (Ws:List (List Nat)) (rk:Nat->Bool) (cur:Nat) (ν:Nu) (h:List A7) (lh:List ar):Prop where
 hr:HR w0 ν nV nS h lh
 old:∀k,k<nV->ν k=ν0 k
 zc:ν.z=ν0.z
 liv:∀k,k<nV->bj h k->bj h0 k
 nw:∀k x,nV<=k->ν k=some (some x)->x.1=nS+(k-nV)∨∃i k0,rk i=true/\i<cur/\k∈dP Ws i/\k0∈dP Ws i/\tt ν0 nV nS k0=some x.1
def F2 (Ws:List (List Nat)) (rk:Nat->Bool) (cur:Nat) (R6:List Nat):Prop:=∀i,i<cur->rk i=true->(∀k,k∈dP Ws i->k∉R6)∨∀k,k∈dP Ws i->k∈R6
theorem we (H0:HR w0 ν0 nV nS h0 lh0) (hS:nS=lh0.length) {k k' j:Nat} (W:k<nV->bj h0 k) (SP:k'<nV->bj h0 k') (M:tt ν0 nV nS k=some j) (N:tt ν0 nV nS k'=some j):k=k':=by
 unfold tt at M N;split at M
 ·rename_i l1
  split at M
  ·rename_i x hx
   have e1:x.1=j:=by simpa using M
   split at N
   ·rename_i l2
    split at N
    ·rename_i x' TI
     have e2:x'.1=j:=by simpa using N
     exact H0.inj k k' x x' (W l1) (SP l2) hx TI (by rw[e1,e2])
    ·cases N
   ·have e2:nS+(k'-nV)=j:=by simpa using N
    have:=H0.rng k x hx;omega
  ·cases M
 ·rename_i l1
  have e1:nS+(k-nV)=j:=by simpa using M
  split at N
  ·split at N
   ·rename_i x' TI
    have e2:x'.1=j:=by simpa using N
    have:=H0.rng k' x' TI;omega
   ·cases N
  ·have e2:nS+(k'-nV)=j:=by simpa using N
   omega
section
variable {Ws WsS:List (List Nat)} {rk:Nat->Bool} {cur:Nat}
theorem DI.nmu_of (hd:DI w0 ν0 h0 nV nS Ws rk cur ν h lh) {k:Nat} {x:Nat×Nat×Nat} (hx:ν k=some (some x)):tt ν0 nV nS k=some x.1∨∃ i k0,rk i=true/\i<cur/\k∈dP Ws i/\k0∈dP Ws i/\tt ν0 nV nS k0=some x.1:=by
 by_cases W:k<nV
 ·left;unfold tt;rw[E5 W,← hd.old k W,hx]
 ·rcases hd.nw k x E hx with M|M
  ·left;unfold tt;rw[DX W,M]
  ·exact .inr M
theorem DI.into (hd:DI w0 ν0 h0 nV nS Ws rk cur ν h lh) (H0:HR w0 ν0 nV nS h0 lh0) (hS:nS=lh0.length) (hw:WR ν0 nV nS h0 Ws WsS) {R6:List Nat} (hY:F2 Ws rk cur R6) (hYw:∀ k,k∈R6->∃ u,k∈dP Ws u)
 {k k':Nat} {x:Nat×Nat×Nat} (hl:bj h k) (hx:ν k=some (some x)) (SP:k'∈R6) (hm:tt ν0 nV nS k'=some x.1):k∈R6:=by
 let ⟨u,hu⟩:=hYw k' SP
 rcases hd.nmu_of hx with M|⟨i,k0,g1,g2,g3,g4,g5⟩
 ·have:=we H0 hS (λQw=>hd.liv k Qw hl) (λQw=>hw.live u k' hu Qw) M hm;rw[this];exact SP
 ·have:=we H0 hS (λQw=>hw.live i k0 g4 Qw) (λQw=>hw.live u k' hu Qw) g5 hm
  subst this;rcases hY i g2 g1 with At|At
  ·exact absurd SP (At k0 g4)
  ·exact At k g3
theorem DI.outof (hd:DI w0 ν0 h0 nV nS Ws rk cur ν h lh) {R6:List Nat} (hY:F2 Ws rk cur R6) {k:Nat} {x:Nat×Nat×Nat} (hx:ν k=some (some x)) (W:k∈R6):∃ k',k'∈R6/\tt ν0 nV nS k'=some x.1:=by
 rcases hd.nmu_of hx with M|⟨i,k0,g1,g2,g3,g4,g5⟩
 ·exact⟨k,W,M⟩
 ·rcases hY i g2 g1 with At|At
  ·exact absurd W (At k g3)
  ·exact⟨k0,At k0 g4,g5⟩
theorem C3 (H0:HR w0 ν0 nV nS h0 lh0) (hS:nS=lh0.length) {k k':Nat} (W:nV<=k) (hm:tt ν0 nV nS k'=some (nS+(k-nV))):k'=k:=by
 unfold tt at hm;split at hm
 ·split at hm
  ·rename_i x hx
   have:=H0.rng k' x hx;have e1:x.1=nS+(k-nV):=by simpa using hm
   omega
  ·cases hm
 ·have e1:nS+(k'-nV)=nS+(k-nV):=by simpa using hm
  omega
theorem abP (H0:HR w0 ν0 nV nS h0 lh0) (hS:nS=lh0.length) {k j:Nat} (W:k<nV->bj h0 k) (M:tt ν0 nV nS k=some j):isCells ν0.z[j]? = false:=by
 unfold tt at M;split at M
 ·rename_i l1
  split at M
  ·rename_i x hx
   have e1:x.1=j:=by simpa using M
   rw[← e1];exact H0.zn k x (W l1) hx
  ·cases M
 ·have e1:nS+(k-nV)=j:=by simpa using M
  refine h3' H0.zl ?_;rw[GE E];rfl
theorem DI.hide (hd:DI w0 ν0 h0 nV nS Ws rk cur ν h lh) (H0:HR w0 ν0 nV nS h0 lh0) (hS:nS=lh0.length) (hw:WR ν0 nV nS h0 Ws WsS) {X XS:List Nat} (hX:F2 Ws rk cur X) (hXw:∀ k,k∈X->∃ u,k∈dP Ws u)
 (hXS:∀j,j∈XS↔∃k,k∈X/\tt ν0 nV nS k=some j):HR w0 ν nV nS (ko X h) (Sx.hide XS lh):=by
 have hl:∀ k (o:A7),(ko X h)[k]? = some o->o≠.hid->h[k]? = some o/\k∉X:=λk o W ho=>by
  rw[hm']at W;cases hg:h[k]? with
  |none=>rw[hg]at W;cases W
  |some o'=>
    rw[hg]at W;simp[GU,Et]at W;split at W
    ·exact(ho W.symm).elim
    ·rename_i hn;subst W;exact⟨rfl,hn⟩
 have hlive:∀ k,bj (ko X h) k->bj h k:=λk W=>by
  rcases gD W with ⟨_,_,g⟩|⟨_,_,_,_,g⟩
  ·exact eC (hl k _ g av).1
  ·exact iw (hl k _ g av).1
 refine⟨λk o W=>?_,λk k' x x' M N=>hd.hr.inj k k' x x' (hlive k M) (hlive k' N),λk W=>hd.hr.dom k (by rw[hly]at W;exact W),λk x hx=>by have:=hd.hr.rng k x hx;unfold Sx.hide;simpa using this,λj az ty hj=>?_,λk x W hx=>hd.hr.zn k x (hlive k W) hx⟩
 case refine_2=>
  rw[pU,hd.hr.zl j az ty hj];simp only[GU];rw[DX];intro hm
  let ⟨k',e1,e2⟩:=(hXS _).1 hm
  let ⟨u,hu⟩:=hXw k' e1
  have:=abP H0 hS (λQw=>hw.live u k' hu Qw) e2;rw[← hd.zc]at this;exact mV this _ _ hj
 by_cases ho:o=.hid
 ·subst ho;trivial
 ·let ⟨g1,g2⟩:=hl k o W ho
  have hb:=hd.hr.blk k o g1;by_cases T4:o=.dead
  ·subst T4
   let ⟨q1,q2,q3⟩:=hb
   refine⟨q1,q2,?_⟩;rw[pU,q3];simp only[GU];rw[DX];intro hm
   let ⟨k',e1,e2⟩:=(hXS _).1 hm
   rw[C3 H0 hS q2 e2]at e1;exact g2 e1
  ·have T5:bj h k:=by
    unfold bj ft;rw[bq,g1];cases o<;>first|rfl|exact(T4 rfl).elim|exact(ho rfl).elim
   refine dT (Nu.sub_refl ν) T4 (λb az ty q1 q2=>?_) hb
   let ⟨c,ez,q3⟩:=q2
   rw[pU,q1];simp only[GU];rw[DX];intro hm
   let ⟨k',e1,e2⟩:=(hXS _).1 hm
   exact g2 (hd.into H0 hS hw hX hXw T5 q3 e1 e2)
theorem DI.mix (hd : DI w0 ν0 h0 nV nS Ws rk cur ν h lh) (H0:HR w0 ν0 nV nS h0 lh0) (hS:nS=lh0.length) (hw:WR ν0 nV nS h0 Ws WsS) {X XS:List Nat} (hX:F2 Ws rk cur X)
 (hW:F2 Ws rk cur (dP Ws cur)) (hdis:∀k,k∈dP Ws cur->k∉X) (hhid:HR w0 ν nV nS (ko X h) (Sx.hide XS lh)) {pl plA:Option Nat} (T8:∀p,pl=some p->p∈dP Ws cur/\nV<=p/\plA=some (nS+(p-nV))/\rk cur=true) (hpl0:pl=none->plA=none)
 {M:List A7} {l1:List ar} (hsub:ν.sub ν') (hr:HR w0 ν' nV nS M l1) (hm:ze ν ν' (dP Ws cur) pl plA (ko X h) M (Sx.hide XS lh) l1) :
 kI (G8 WsS cur) l1 (Sx.hide XS lh)/\DI w0 ν0 h0 nV nS Ws rk (cur+1) ν' (Gz (dP Ws cur) h M) (mix (G8 WsS cur) lh l1):=by
 have hlenl:l1.length=lh.length:=by rw[hm.len];simp[Sx.hide]
 have hlenh:M.length=h.length:=by rw[hm.hlen,hly]
 have hplS:∀ j,plA=some j->j∈G8 WsS cur:=λj hj=>by
  cases hp:pl with
  |none=>rw[hpl0 hp]at hj;cases hj
  |some p=>
    let ⟨q1,q2,q3,_⟩:=T8 p hp
    rw[q3]at hj;cases hj;exact(hw.rel cur _).2 ⟨p,q1,by unfold tt;rw[DX E]⟩
 have hWS:∀ k x,k∈dP Ws cur->ν k=some (some x)->x.1∈G8 WsS cur:=λk x W hx=>by
  let ⟨k',e1,e2⟩:=hd.outof hW hx W
  exact(hw.rel cur _).2 ⟨k',e1,e2⟩
 have hold:∀ k,k<nV->ν' k=ν0 k:=λk W=>by
  cases U:ν k with
  |some x=>rw[hsub.1 k x U,← hd.old k W,U]
  |none=>
    rw[← hd.old k W,U];cases VS:ν' k with
    |none=>rfl
    |some x=>
      rcases hm.nw k x VS with At|⟨At,_⟩
      ·rw[U]at At;cases At
      ·have:=(T8 k At).2.1;omega
 have Yg:∀ k x,nV<=k->ν' k=some (some x)->x.1=nS+(k-nV)∨∃ i k0,rk i=true/\i<cur+1/\k∈dP Ws i/\k0∈dP Ws i/\tt ν0 nV nS k0=some x.1:=λk x W hx=>by
  rcases hm.nw k _ hx with At|⟨q1,q2⟩
  ·rcases hd.nw k x W At with g|⟨i,k0,g1,g2,g3⟩
   ·exact .inl g
   ·exact .inr ⟨i,k0,g1,E,g3⟩
  ·let ⟨p1, p2, p3, p4⟩ := T8 k q1
   rcases q2 x rfl with g|⟨k0,z,g1,g2,g3⟩
   ·rw [p3] at g; exact .inl (by have:nS+(k-nV)=x.1:=by simpa using g
                                 omega)
   ·let ⟨k',e1,e2⟩:=hd.outof hW g2 g1
    exact .inr ⟨cur,k',p4,E,p1,e1,by rw[← g3];exact e2⟩
 have hsame:∀ j,j∉G8 WsS cur->l1[j]? = (Sx.hide XS lh)[j]? := λj hj=>hm.chg j (λe=>hj (hplS j e)) (λk x W hx e=>hj (by rw[← e];exact hWS k x W hx));refine⟨⟨hm.len,hsame⟩,?_⟩;have hlive:∀ k,bj (Gz (dP Ws cur) h M) k->(k∉dP Ws cur/\bj h k)∨(k∈dP Ws cur/\bj M k):=λk W=>by
  by_cases Vy:k∈dP Ws cur
  ·right
   refine⟨Vy,?_⟩;unfold bj ft at *
   rw[bq]at *
   rw[wF]at W;cases hg:h[k]? with
   |none=>rw[hg]at W;cases W
   |some o=>
     rw[hg]at W;simp[GU,E5 Vy,List.getD]at W;have Qw:k<M.length:=by rw[hlenh];exact(List.getElem?_eq_some_iff.1 hg).1
     rw[HU Qw]at W ⊢;exact W
  ·left
   refine⟨Vy,?_⟩;unfold bj ft at *
   rw[bq]at *
   rw[wF]at W;cases hg:h[k]? with
   |none=>rw[hg]at W;cases W|some o=>rw[hg]at W;simp[GU,DX Vy]at W;exact W
 have hget:∀ k o,(Gz (dP Ws cur) h M)[k]? = some o->(k∉dP Ws cur/\h[k]? = some o)∨(k∈dP Ws cur/\M[k]? = some o):=λk o W=>by
  rw[wF]at W;cases hg:h[k]? with
  |none=>rw[hg]at W;cases W
  |some o'=>
    rw[hg]at W;simp only[GU]at W;by_cases Vy:k∈dP Ws cur
    ·right
     refine⟨Vy,?_⟩;have Qw:k<M.length:=by rw[hlenh];exact(List.getElem?_eq_some_iff.1 hg).1
     rw[E5 Vy]at W;simp only[List.getD,HU Qw]at W ⊢;exact W
    ·left;rw[DX Vy]at W;exact⟨Vy,W⟩
 have hmixin:∀ b,b∈G8 WsS cur->(Sx.mix (G8 WsS cur) lh l1)[b]? = l1[b]? := λb hb=>by
  rw[wP];cases hg:lh[b]? with
  |none=>have:=List.getElem?_eq_none_iff.1 hg;rw[GE E];rfl
  |some o=>
    have Qw:b<l1.length:=by rw[hlenl];exact(List.getElem?_eq_some_iff.1 hg).1
    simp only[GU,E5 hb,List.getD,HU Qw];rfl
 have hmixout:∀b,b∉G8 WsS cur->(Sx.mix (G8 WsS cur) lh l1)[b]? = lh[b]? := λb hb=>by rw[wP];cases hg:lh[b]? <;> simp[hb]
 have hout:∀ k x,k∉dP Ws cur->bj h k->ν k=some (some x)->x.1∉G8 WsS cur:=λk x W hl hx hmem=>by
  let ⟨k',e1,e2⟩:=(hw.rel cur _).1 hmem
  exact W (hd.into H0 hS hw hW (λk W=>⟨cur,W⟩) hl hx e1 e2)
 have Sz:∀ k x,k∈dP Ws cur->ν' k=some (some x)->x.1∈G8 WsS cur:=λk x W hx=>by
  rcases hm.nw k _ hx with At|⟨q1,q2⟩
  ·exact hWS k x W At
  ·rcases q2 x rfl with g|⟨k0,z,g1,g2,g3⟩
   ·exact hplS _ g
   ·rw[← g3];exact hWS k0 z g1 g2
 have hν:∀ k,k∉dP Ws cur->ν' k=ν k:=λk W=>by
  cases U:ν k with
  |some x=>exact hsub.1 k x U
  |none=>
    cases VS:ν' k with
    |none=>rfl
    |some x=>
      rcases hm.nw k x VS with At|⟨At,_⟩
      ·rw[U]at At;cases At
      ·exact absurd (T8 k At).1 W
 refine⟨⟨λk o W=>?_,λk k' x x' g1 g2 hx TI he=>?_,λk W=>?_,λk x hx=>?_,λj az ty hj=>?_,λk x hl hx=>?_⟩,hold,hm.zz.trans hd.zc,λk W hl=>?_,Yg⟩
 ·rcases hget k o W with ⟨q1,q2⟩|⟨q1,q2⟩
  ·have hb:=hd.hr.blk k o q2
   by_cases ho:o=.hid
   ·subst ho;trivial
   ·by_cases T4:o=.dead
    ·subst T4
     let ⟨e1,e2,e3⟩:=hb
     refine⟨by rw[hν k q1];exact e1,e2,?_⟩;rw[hmixout]
     ·exact e3
     ·intro hmem
      let ⟨k',f1,Q⟩:=(hw.rel cur _).1 hmem
      rw[C3 H0 hS e2 Q]at f1;exact q1 f1
    ·have T5:bj h k:=by
      unfold bj ft;rw[bq,q2];cases o<;>first|rfl|exact(T4 rfl).elim|exact(ho rfl).elim
     refine dT hsub T4 (λb az ty e1 e2=>?_) hb
     let ⟨c,ez,e3⟩:=e2
     rw[hmixout b (hout k _ q1 T5 e3)];exact e1
  ·have hb:=hr.blk k o q2
   by_cases ho:o=.hid
   ·subst ho;trivial
   ·by_cases T4:o=.dead
    ·subst T4
     let ⟨e1,e2,e3⟩:=hb
     refine⟨e1,e2,?_⟩;rw[hmixin]
     ·exact e3
     ·exact(hw.rel cur _).2 ⟨k,q1,by unfold tt;rw[DX E]⟩
    ·refine dT (Nu.sub_refl ν') T4 (λb az ty e1 e2=>?_) hb
     let ⟨c,ez,e3⟩:=e2
     rw[hmixin b (Sz k _ q1 e3)];exact e1
 ·rcases hlive k g1 with ⟨a1,a2⟩|⟨a1,a2⟩<;>rcases hlive k' g2 with ⟨b1,b2⟩|⟨b1,b2⟩
  ·rw[hν k a1]at hx;rw[hν k' b1]at TI;exact hd.hr.inj k k' x x' a2 b2 hx TI he
  ·rw[hν k a1]at hx;exact absurd (by rw[he];exact Sz k' x' b1 TI) (hout k x a1 a2 hx)
  ·rw[hν k' b1]at TI;exact absurd (by rw[← he];exact Sz k x a1 hx) (hout k' x' b1 b2 TI)
  ·exact hr.inj k k' x x' a2 b2 hx TI he
 ·exact hr.dom k (by rw[hzl]at W;omega)
 ·have:=hr.rng k x hx;unfold Sx.mix;simp;omega
 ·rw [hm.zz]at hj
  rw[hmixout j λhmem=>?_]
  ·exact hd.hr.zl j az ty hj
  ·let ⟨k',e1,e2⟩:=(hw.rel cur _).1 hmem
   have:=abP H0 hS (λQw=>hw.live cur k' e1 Qw) e2;rw[← hd.zc]at this;exact mV this _ _ hj
 ·rcases hlive k hl with ⟨a1,a2⟩|⟨a1,a2⟩
  ·rw[hν k a1]at hx;rw[hm.zz];exact hd.hr.zn k x a2 hx
  ·exact hr.zn k x a2 hx
 ·rcases hlive k hl with ⟨_,a2⟩|⟨_,a2⟩
  ·exact hd.liv k W a2
  ·rcases hm.liv k a2 with At|At
   ·refine hd.liv k W ?_
    unfold bj ft at *
    rw[bq]at *
    rw[hm']at At;cases hg:h[k]? with
    |none=>rw[hg]at At;cases At
    |some o=>
      rw[hg]at At;simp[GU]at At;split at At
      ·rename_i hq
       split at hq
       ·cases hq
       ·cases hq;rfl
      ·rename_i hq
       split at hq
       ·cases hq
       ·cases hq;rfl
      ·cases At
   ·have:=(T8 k At).2.1;omega
end
end
section
variable {w0:World} {ν ν' ν0:Nu} {nV nS Qo:Nat} {h h' h0:List A7} {lh lh' lh0:List ar} {α:Type} {LP:fK} {Qe:α->Prop} {e:bZ} {sl:List af} {ctx:Bool} {QZ:FuncId->b6}
theorem ae4 {k:Nat} (hl:bj h k):k<h.length:=by rcases gD hl with ⟨_,_,g⟩|⟨_,_,_,_,g⟩<;>exact(List.getElem?_eq_some_iff.1 g).1
theorem C23 (hV:nV=h.length) {v:V} {a:af} {l:List Nat} (U:vr w0 ν.z ν v a) (hn:kv h v=some l) :
 (∀j,j∈yf a↔∃k,k∈l/\tt ν nV nS k=some j)/\∀k,k∈l->k<nV->bj h k:=by
 have one:∀ {k b:Nat} {x:Nat×Nat},bj h k->ν k=some (some (b,x))->∀ j,j∈[b]↔∃ k',k'∈[k]/\tt ν nV nS k'=some j:=λ{k b x} hl W j=>by
  have Qw:k<nV:=by rw[hV];exact ae4 hl
  simp only[Jr,exists_eq_left];unfold tt;rw[E5 Qw,W];simp[eq_comm]
 have lv:∀{k:Nat},bj h k->∀k',k'∈[k]->k'<nV->bj h k':=λhl k' SP _=>by rw[List.mem_singleton.1 SP];exact hl
 cases v<;>simp only[kv]at hn<;>try cases hn
 case pl k off=>
  cases hl:ft h k with
  |false=>rw[hl]at hn;cases hn
  |true=>rw[hl]at hn;cases hn;simp only[vr]at U;obtain⟨b,c,ez,g1,rfl⟩:=U;exact⟨one hl g1,lv hl⟩
 case pe k i j=>
  cases hl:ft h k with
  |false=>rw[hl]at hn;cases hn
  |true=>rw[hl]at hn;cases hn;simp only[vr]at U;obtain⟨b,c,ez,g1,rfl⟩:=U;exact⟨one hl g1,lv hl⟩
 case ss k off n c=>
  cases hl:ft h k with
  |false=>rw[hl]at hn;cases hn
  |true=>rw[hl]at hn;cases hn;simp only[vr]at U;obtain⟨b,c,ez,g1,rfl⟩:=U;exact⟨one hl g1,lv hl⟩
 case gs k n=>
  cases hl:ft h k with
  |false=>rw[hl]at hn;cases hn
  |true=>
    rw[hl]at hn;cases hn;simp only[vr]at U;rcases U with ⟨g1,g2,rfl⟩|⟨b,c,ez,g1,rfl,_⟩
    ·refine⟨λj=>?_,lv hl⟩
     have Qw:k<nV:=by rw[hV];exact ae4 hl
     simp only[yf,IP,false_iff,not_exists,not_and];intro k' SP;rw[List.mem_singleton.1 SP];unfold tt;rw[E5 Qw,g1];simp
    ·exact⟨one hl g1,lv hl⟩
 case ns=>simp only[vr]at U;subst U;exact⟨λj=>by simp[yf],λk W=>by cases W⟩
theorem ic7 (hh:HR w0 ν nV nS h lh) (hV:nV=h.length) (RH:gX w0 ν Qo e sl) {s:DY} {l:List Nat} (hn:HZ h e nV s=some l) :
 (∀j,j∈UR w0 lh sl nS s↔∃k,k∈l/\tt ν nV nS k=some j)/\∀k,k∈l->k<nV->bj h k:=by
 cases s with
 |fresh r=>
   simp[HZ]at hn;cases hn;refine⟨λj=>?_,λk W Qw=>?_⟩
   ·simp[UR,Jr,exists_eq_left];unfold tt;rw[DX E,show nS+(nV+r-nV)=nS+r by omega];simp[eq_comm]
   ·rw[List.mem_singleton.1 W]at Qw;omega
 |slot s=>exact C23 hV (RH.at' s) hn
 |load s off=>
   have RL:=RH.at' s;simp[HZ]at hn;split at hn
   ·rename_i k o W
    rw[W]at RL;simp only[vr]at RL
    let ⟨b,c,ez,g1,g2⟩:=RL
    split at hn
    ·rename_i v U
     let ⟨p,x,e1,e2,e3⟩:=FJ hh (v:=.pl k (o+off)) (a:=.ptr (some (.l b (o+off)))) (by simp only[vr];exact⟨b,c,ez,g1,rfl⟩) U (λ_ _ _ he=>by cases he)
     cases e1;have:=C23 (nS:=nS) hV e3 hn;simp only[UR,g2,jp.add,e2];exact this
    ·cases hn
   ·cases hn
theorem hnd (hh:HR w0 ν nV nS h lh) (hV:nV=h.length) (RH:gX w0 ν Qo e sl):∀ {ss:List DY} {l:List Nat},uv h e nV ss=some l ->
 (∀j,j∈uI w0 lh sl nS ss↔∃k,k∈l/\tt ν nV nS k=some j)/\∀k,k∈l->k<nV->bj h k
 |[],l,hn=>by simp[uv]at hn;cases hn;exact⟨λj=>by simp[uI],λk W=>by cases W⟩
 |s::ss,l,hn=>by
   simp[uv]at hn;split at hn
   ·rename_i a b ha hb
    cases hn
    let ⟨g1,g2⟩:=ic7 hh hV RH ha
    let ⟨g3,g4⟩:=hnd hh hV RH hb
    refine⟨λj=>?_,λk W=>?_⟩
    ·simp [uI,KD,mt,g1 j,g3 j]
     constructor
     ·rintro (⟨k,M,N⟩|⟨k,M,N⟩)
      ·exact⟨k,.inl M,N⟩
      ·exact⟨k,.inr M,N⟩
     ·rintro⟨k,M|M,N⟩
      ·exact .inl ⟨k,M,N⟩
      ·exact .inr ⟨k,M,N⟩
    ·rw[mt,KD]at W
     rcases W with W|W
     ·exact g2 k W
     ·exact g4 k W
   ·cases hn
theorem hj3 {h:List A7} {e:bZ} {H:Nat}:∀ {ds:List jn} {Ws:List (List Nat)},uE h e H ds=some Ws->∀ i,match ds[i]? with|some d=>uv h e H d.ws=some (dP Ws i)|none=>dP Ws i=[]
 |[],Ws,hn,i=>by simp[uE]at hn;cases hn;simp[dP,gY]
 |d::ds,Ws,hn,i=>by
   simp[uE]at hn;split at hn
   ·rename_i a b ha hb
    cases hn;cases i with
    |zero=>simp[dP,gY,ha]|succ i=>simpa[dP,gY] using hj3 hb i
   ·cases hn
theorem akw (hh:HR w0 ν nV nS h lh) (hV:nV=h.length) (RH:gX w0 ν Qo e sl) {ds:List jn} {Ws:List (List Nat)} (hn:uE h e nV ds=some Ws):WR ν nV nS h Ws (me w0 lh sl nS ds):=by
 have key:∀ i,(∀ j,j∈G8 (me w0 lh sl nS ds) i↔∃ k,k∈dP Ws i/\tt ν nV nS k=some j)/\∀ k,k∈dP Ws i->k<nV->bj h k:=λi=>by
  have M:=hj3 hn i;have N:=pZ w0 lh sl nS ds i;unfold G8;rw[N];cases hd:ds[i]? with
  |none=>rw[hd]at M;dsimp only at M ⊢;rw[M];exact⟨λj=>by simp,λk W=>by cases W⟩|some d=>rw[hd]at M;exact hnd hh hV RH M
 exact⟨λi=>(key i).1,λi=>(key i).2⟩
theorem aeu {WsS:List (List Nat)} {un:List Nat} {j:Nat}:j∈GX WsS un↔∃u,u∈un/\j∈G8 WsS u:=by unfold GX;simp[List.mem_flatMap]
def amL (w0:World) (QZ:FuncId->b6) (LP:fK) (cp:FuncId->List V->List A7->(V->BO α)->BO α):Prop:=∀ (f:FuncId) (vs:List V) (h:List A7) (K:V->BO α) (Qe:α->Prop) (ν:Nu) (nV nS:Nat) (args:List af) (lh:List ar) (KA:af->List ar->Prop),
 bC w0 ν.z ν vs args->HR w0 ν nV nS h lh->bR LP (cp f vs h K) Qe->(∀v a,vr w0 ν.z ν v a->bR LP (K v) Qe->KA a lh)->QZ f w0 args lh KA
def xf (w0:World) (QZ:FuncId->b6) (LP:fK) (cp:CP α):Prop:=amL w0 QZ LP (cp false)/\tR w0 (yS QZ) LP false (λf vs h K=>cp true f vs h λv=>K v h)
theorem xf.cf {cp:CP α} (hc:xf w0 QZ LP cp) (md:Bool):tR w0 QZ LP md (λf vs h K=>cp false f vs h λv=>K v h):=λf vs h K Qe ν nV nS args lh KA M N h3 h4=>
 hc.1 f vs h _ Qe ν nV nS args lh KA M N h3 λv a U hs=>h4 v h ν a lh (λ_=>⟨rfl,rfl,rfl⟩) (Nu.sub_refl ν) N U hs
theorem hsi {op:lN} {pl:Option Nat} {KA:af->List ar->Prop} (RX:mf op=true) (U:dv w0 QZ sl lh none KA op):dv w0 QZ sl lh pl KA op:=by cases op<;>first|exact U|cases RX
def BI (Qo:Nat):List jn->Bool
 |[]=>true|d::l=>(match d.o.dst with|some d=>Nat.blt d Qo|none=>true)&&BI Qo l
theorem sq0 {Qo:Nat} {d:jn} {l:List jn} (hd:BI Qo (d::l)=true):(∀i,d.o.dst=some i->i<Qo)/\BI Qo l=true:=by simp[BI,Eg]at hd;refine⟨λi hi=>?_,hd.2⟩;rw[hi]at hd;exact G2 hd.1
theorem wY {Ws:List (List Nat)} {R6:List Nat} {all:List jn} {j:Nat}:∀ {l:List jn} {i:Nat},(∀ t,l[t]? = all[i+t]?)->xB Ws R6 l i j=true->∀ i',i<=i'->i'<j->(match all[i']? with|some d=>d.rk.isSome|none=>false)=true ->
 (∀k,k∈dP Ws i'->k∉R6)∨∀k,k∈dP Ws i'->k∈R6
 |[],i,hl,hc,i',M,N,h3=>by have:=hl (i'-i);rw[show i+(i'-i)=i' by omega]at this;rw[← this]at h3;simp at h3
 |d::l,i,hl,hc,i',M,N,h3=>by
   simp[xB]at hc;have hb:Nat.blt i j=true:=Hj (by omega:i+1<=j);rw[hb]at hc;simp[cond_true,Eg]at hc;have h0:=hl 0;simp[Hc,I6]at h0;by_cases e1:i'=i
   ·subst e1
    rw[← h0]at h3;dsimp only at h3;cases hr:d.rk with
    |none=>rw[hr]at h3;cases h3
    |some r=>
      have UH:=hc.1;rw[hr]at UH;simp[II]at UH;rcases UH with At|At
      ·exact .inl (wM.1 At)
      ·exact .inr (xE.1 At)
   ·exact wY (λt=>by have:=hl (t+1);rw[He]at this;rw[this,show i+(t+1)=i+1+t by omega]) hc.2 i' E N h3
theorem D3 {Ws:List (List Nat)} {all:List jn}:∀ {l:List jn} {j:Nat},(∀ t,l[t]? = all[j+t]?)->zB Ws all l j=true->∀ j' d,j<=j'->all[j']? = some d->xB Ws (dP Ws j') all 0 j'=true/\xB Ws (oG Ws d.un) all 0 j'=true
 |[],j,hl,hc,j',d,M,N=>by have:=hl (j'-j);rw[show j+(j'-j)=j' by omega,N]at this;simp at this
 |d::l,j,hl,hc,j',d',M,N=>by
   simp[zB,Eg]at hc;have h0:=hl 0;simp[Hc,I6]at h0;by_cases e1:j'=j
   ·subst e1;rw[← h0]at N;cases N;exact hc.1
   ·exact D3 (λt=>by have:=hl (t+1);rw[He]at this;rw[this,show j+(t+1)=j+1+t by omega]) hc.2 j' d' E N
theorem ua {Ws:List (List Nat)} {all:List jn}:∀ {l:List jn} {j:Nat},(∀ t,l[t]? = all[j+t]?)->uG Ws l j=true->∀ j' d,j<=j'->all[j']? = some d->∀ k,k∈dP Ws j'->k∉oG Ws d.un
 |[],j,hl,hc,j',d,M,N=>by have:=hl (j'-j);rw[show j+(j'-j)=j' by omega,N]at this;simp at this
 |d::l,j,hl,hc,j',d',M,N=>by
   simp[uG,Eg]at hc;have h0:=hl 0;simp[Hc,I6]at h0;by_cases e1:j'=j
   ·subst e1;rw[← h0]at N;cases N;exact wM.1 hc.1
   ·exact ua (λt=>by have:=hl (t+1);rw[He]at this;rw[this,show j+(t+1)=j+1+t by omega]) hc.2 j' d' E N
def Lw (ds:List jn) (i:Nat):Bool:=match ds[i]? with|some d=>d.rk.isSome|none=>false
theorem nf {cp:CP α} (Su:xf w0 QZ LP cp) {ds:List jn} {Ws WsS:List (List Nat)} (H0:HR w0 ν0 nV nS h0 lh0) (hS:nS=lh0.length) (hw:WR ν0 nV nS h0 Ws WsS) (hcons:zB Ws ds ds 0=true) (hall:uG Ws ds 0=true) :
 ∀(rest:List jn) (i:Nat) (e:bZ) (h:List A7) (ν:Nu) (sl:List af) (lh:List ar) (K:bZ->List A7->BO α) (KA:List af->List ar->Prop),(∀t,rest[t]? = ds[i+t]?)->BI Qo rest=true ->
 DI w0 ν0 h0 nV nS Ws (Lw ds) i ν h lh->gX w0 ν Qo e sl->bR LP (HG cp Ws nV rest i e h K) Qe ->
 (∀e' h' ν' sl' lh',ν.sub ν'->gX w0 ν' Qo e' sl'->HR w0 ν' nV nS h' lh'->bR LP (K e' h') Qe->KA sl' lh')->km w0 QZ WsS nS KA rest i sl lh
 |[],i,e,h,ν,sl,lh,K,KA,hr,hd,TY,RH,hs,hK=>hK e h ν sl lh (Nu.sub_refl ν) RH TY.hr hs
 |d::rest,i,e,h,ν,sl,lh,K,KA,hr,hd,TY,RH,hs,hK=>by
   let ⟨U3,U4⟩:=sq0 hd
   have hdsi:ds[i]? = some d:=by have:=hr 0;simpa using this.symm
   have W3:∀t,rest[t]? = ds[i+1+t]? := λt=>by have:=hr (t+1);rw[He]at this;rw[this,show i+(t+1)=i+1+t by omega]
   let ⟨UH,Vw⟩:=D3 (j:=0) (λt=>by simp) hcons i d (GG _) hdsi
   have hdis:=ua (j:=0) (λt=>by simp) hall i d (GG _) hdsi;have hCW:F2 Ws (Lw ds) i (dP Ws i):=λi' M N=>wY (i:=0) (λt=>by simp) UH i' (GG _) M N;have hCX:F2 Ws (Lw ds) i (oG Ws d.un):=λi' M N=>wY (i:=0) (λt=>by simp) Vw i' (GG _) M N;have hXw:∀k,k∈oG Ws d.un->∃u,k∈dP Ws u:=λk W=>by let ⟨u,_,g⟩:=nd.1 W;exact⟨u,g⟩
   have hXS:∀ j,j∈GX WsS d.un↔∃ k,k∈oG Ws d.un/\tt ν0 nV nS k=some j:=λj=>by
    rw[aeu];constructor
    ·rintro⟨u,M,N⟩
     let ⟨k,g1,g2⟩:=(hw.rel u j).1 N
     exact⟨k,nd.2 ⟨u,M,g1⟩,g2⟩
    ·rintro⟨k,M,N⟩
     let ⟨u,g1,g2⟩:=nd.1 M
     exact⟨u,g1,(hw.rel u j).2 ⟨k,g2,N⟩⟩
   have hhid:=TY.hide H0 hS hw hCX hXw hXS;have hsucc:DI w0 ν0 h0 nV nS Ws (Lw ds) (i+1) ν h lh:=⟨TY.hr,TY.old,TY.zc,TY.liv,λk x M N=>by
    rcases TY.nw k x M N with g|⟨a,b,g1,g2,g3⟩
    ·exact .inl g
    ·exact .inr ⟨a,b,g1,E,g3⟩⟩
   have hmixid:mix (G8 WsS i) lh (hide (GX WsS d.un) lh)=lh:=by
    apply Hg;intro j;rw[wP];cases hg:lh[j]? with
    |none=>rfl
    |some o=>
      simp only[GU];by_cases hj:j∈G8 WsS i
      ·rw[E5 hj]
       simp only[List.getD,pU,hg,GU,LX];rw[DX];intro hx
       let ⟨k,g1,g2⟩:=(hw.rel i j).1 hj
       let ⟨k',g3,g4⟩:=(hXS j).1 hx
       let ⟨u,_,g5⟩:=nd.1 g3
       have:=we H0 hS (λQw=>hw.live i k g1 Qw) (λQw=>hw.live u k' g5 Qw) g2 g4;subst this;exact hdis k g1 g3
      ·rw[DX hj]
   have run:∀ {e0:bZ} {ctx:Bool} {R2:V->V},ctx=true->(∀ v a,vr w0 ν.z ν v a->vr w0 ν.z ν (R2 v) a)->mf d.o.op=true->gX w0 ν Qo e0 sl ->
    bR LP (Ct (λf vs h K=>cp false f vs h λv=>K v h) ctx none d.o.op e0 (ko (oG Ws d.un) h) λv _=>HG cp Ws nV rest (i+1) (eE e0 d.o.dst (R2 v)) h K) Qe ->
    dv w0 QZ sl (hide (GX WsS d.un) lh) (d.rk.map (nS+·)) (λv l=>kI (G8 WsS i) l (hide (GX WsS d.un) lh)/\km w0 QZ WsS nS KA rest (i+1) (fv sl d.o.dst v) (mix (G8 WsS i) lh l)) d.o.op:=by
    intro e0 ctx R2 hc hWv RX UW hs;refine hsi RX (B5 (md:=false) (wn:=[]) UW hhid hc (Su.cf false) (.inl ⟨rfl,rfl⟩) (λe=>by cases e) hs λv h' ν' a lh' _ At g1 g2 g3 g4=>?_);obtain⟨rfl,rfl,rfl⟩:=At RX;refine⟨⟨rfl,λ_ _=>rfl⟩,?_⟩;rw[hmixid];exact nf Su H0 hS hw hcons hall rest (i+1) _ _ _ _ _ K KA W3 U4 hsucc (UW.put d.o.dst U3 (hWv _ _ g3)) g4 hK
   have runM:∀ {e0:bZ},gX w0 ν Qo e0 sl->bR LP (KJ cp Ws nV d i e0 h λv h=>HG cp Ws nV rest (i+1) (eE e0 d.o.dst v) h K) Qe ->
    dv w0 QZ sl (hide (GX WsS d.un) lh) (d.rk.map (nS+·)) (λv l=>kI (G8 WsS i) l (hide (GX WsS d.un) lh)/\km w0 QZ WsS nS KA rest (i+1) (fv sl d.o.dst v) (mix (G8 WsS i) lh l)) d.o.op:=by
    intro e0 UW hs;unfold KJ at hs;split at hs
    ·rename_i RX;exact run (R2:=id) rfl (λ_ _ h=>h) RX UW hs
    ·rename_i RX
     split at hs
     ·exact hs.elim
     ·rename_i l hl
      cases Wb:Gp (Mr (d.rk.map (nV+·)) l) (dP Ws i) with
      |false=>rw[Wb]at hs;exact hs.elim
      |true=>
        rw[Wb]at hs;simp only[cond_true]at hs;have Wb:=xE.1 Wb;have iz20:∀ k,k∈l->k∈dP Ws i:=λk W=>Wb k (by unfold Mr;split<;>simp[W]);have izb6:Lu nV nS (d.rk.map (nV+·)) (d.rk.map (nS+·)):=by
         cases hr:d.rk with
         |none=>exact .inl ⟨rfl,rfl⟩|some r=>exact .inr ⟨nV+r,rfl,av⟩
        refine B5 (md:=true) (wn:=dP Ws i) UW hhid rfl (Su.cf true) izb6 (λ_=>⟨l,hl,iz20⟩) hs λv h' ν' a lh' hm _ g1 g2 g3 g4=>?_
        let ⟨q1,q2⟩:=TY.mix H0 hS hw hCX hCW hdis hhid (pl:=d.rk.map (nV+·)) (plA:=d.rk.map (nS+·)) (λp hp=>by
         cases hr:d.rk with
         |none=>rw[hr]at hp;cases hp
         |some r=>rw[hr]at hp;simp only[GU,Et]at hp;subst hp;refine⟨Wb _ (by rw[hr];simp[Mr]),E,av,?_⟩;unfold Lw;rw[hdsi];dsimp only;rw[hr];rfl) (λhp=>by
         cases hr:d.rk with
         |none=>rfl|some r=>rw[hr]at hp;cases hp) g1 g2 (hm rfl)
        exact⟨q1,nf Su H0 hS hw hcons hall rest (i+1) _ _ _ _ _ K KA W3 U4 q2 ((UW.mono g1).put d.o.dst U3 g3) g4 λe' h' ν'' sl' lh' k1=>hK e' h' ν'' sl' lh' (Nu.sub_trans g1 k1)⟩
   have skip:∀{e0:bZ},gX w0 ν Qo e0 sl->bR LP (HG cp Ws nV rest (i+1) (eE e0 d.o.dst (.tup [])) h K) Qe->km w0 QZ WsS nS KA rest (i+1) (fv sl d.o.dst (.tup [])) lh:=by intro e0 UW hs;exact nf Su H0 hS hw hcons hall rest (i+1) _ _ _ _ _ K KA W3 U4 hsucc (UW.put d.o.dst U3 Bi) hs hK
   have skipS:∀ {b:Bool},mf d.o.op=true->b=false->bR LP (Ct (λf vs h K=>cp false f vs h λv=>K v h) b none d.o.op e (ko (oG Ws d.un) h) λv _=>HG cp Ws nV rest (i+1) (eE e d.o.dst (.gd b v)) h K) Qe->km w0 QZ WsS nS KA rest (i+1) (fv sl d.o.dst (.tup [])) lh:=by
    intro b RX hb hs
    let ⟨v,g⟩:=alT hb RX hs
    exact nf Su H0 hS hw hcons hall rest (i+1) _ _ _ _ _ K KA W3 U4 hsucc (RH.put d.o.dst U3 (R54 hb)) g hK
   simp only[HG]at hs;simp only[km,LC,pz];split at hs
   ·rename_i hg;rw[hg];exact runM RH hs
   ·rename_i g want hg
    rw[hg];dsimp only
    have RL:=RH.at' g;split at hs
    ·rename_i b hb
     rw[hb]at RL;simp only[vr]at RL;rw[RL];dsimp only
     split at hs
     ·rename_i he _;subst he;exact⟨λ_=>runM RH hs,λe=>by cases b<;>cases e⟩
     ·rename_i he _;exact⟨λe=>(he e).elim,λe=>skip RH hs⟩
    ·rename_i l hb
     rw[hb]at RL;simp only[vr]at RL
     let ⟨az,RL,_⟩:=RL
     rw[RL];exact skip RH hs
    ·rename_i k n hb;rw[hb]at RL;simp only[vr]at RL;rw[RL];exact skip RH hs
    ·rename_i b hb
     rw[hb]at RL;simp only[vr]at RL;rw[RL];dsimp only
     split at hs
     ·rename_i RX;exact⟨λe1=>run (vG e1) (λ_ _ U=>AX (vG e1) U) RX RH hs,λe1=>skipS RX (y4 e1) hs⟩
     ·simp only[bR]at hs;exact⟨λe1=>runM (RH.know (by simp only[vr];rw[RL,e1])) (hs.1 (vG e1)),λe1=>skip (RH.know (by simp only[vr];rw[RL,e1])) (hs.2 (y4 e1))⟩
    ·rename_i c v hb
     rw[hb]at RL;simp only[vr]at RL;split at hs
     ·split at hs
      ·have hl:∃ l,sl.getD g .any=.tup l:=by
        cases c with
        |false=>exact RL.2 rfl|true=>have:=RL.1 rfl;simp only[vr]at this;let ⟨l,e,_⟩:=this;exact⟨l,e⟩
       let ⟨l,hl⟩:=hl
       rw[hl];exact skip RH hs
      ·exact hs.elim
     ·rename_i b YR
      cases c with
      |false=>
        let ⟨l,hl⟩:=RL.2 rfl
        rw[hl];dsimp only
        split at hs
        ·rename_i RX;exact skipS RX rfl hs
        ·simp only[bR]at hs;exact skip RH (hs.2 rfl)
      |true=>
        have RL:=oW (RL.1 rfl) YR;rw[RL];dsimp only
        split at hs
        ·rename_i RX;exact⟨λe1=>run (by rw[vG e1];rfl) (λ_ _ U=>AX (by rw[vG e1];rfl) U) RX RH hs,λe1=>skipS RX (by rw[y4 e1];rfl) hs⟩
        ·simp only[bR]at hs;exact⟨λe1=>runM (RH.know (by simp only[vr];rw[RL,e1])) (hs.1 (by rw[vG e1];rfl)),λe1=>skip RH (hs.2 (by rw[y4 e1];rfl))⟩
    ·exact hs.elim
theorem uo {cp:CP α} (Su:xf w0 QZ LP cp) {ds:List jn} {a b:Nat} {K:bZ->List A7->BO α} {KA:List af->List ar->Prop} (hd:BI Qo ds=true) (RH:gX w0 ν Qo e sl) (hh:HR w0 ν a b h lh)
 (hs:bR LP (wS cp ds e h K) Qe) (hK:∀e' h' ν' sl' lh' nV nS,ν.sub ν'->gX w0 ν' Qo e' sl'->HR w0 ν' nV nS h' lh'->bR LP (K e' h') Qe->KA sl' lh'):nP w0 QZ ds sl lh KA:=by
 unfold wS at hs;split at hs
 ·exact hs.elim
 ·rename_i Ws hW
  cases hc:(uG Ws ds 0&&zB Ws ds ds 0) with
  |false=>rw[hc]at hs;exact hs.elim
  |true=>
    rw[hc]at hs;simp[cond_true]at hs;simp[Eg]at hc;have hlen:b7 h=(undead h).length:=by rw[b5,qU]
    rw[hlen]at hs hW;have H0:=hh.undead (undead h).length lh.length;have hw:=akw H0 rfl RH hW;have yal:=H0.deads rfl rfl (QB ds);rw[mt]at hs;refine⟨?_,?_⟩
    ·-- the sets are apart there,too
     have gen:∀ (l:List jn) (j:Nat),(∀ t,l[t]? = ds[j+t]?)->Es (me w0 lh sl lh.length ds) l j:=by
      intro l;induction l with
      |nil=>intro j _;trivial
      |cons d l ih=>
        intro j hl;have io16:ds[j]? = some d:=by have:=hl 0;simpa using this.symm
        have hdis:=ua (j:=0) (λt=>by simp) hc.1 j d (GG _) io16;refine⟨?_,ih (j+1) λt=>by have:=hl (t+1);rw[He]at this;rw[this,show j+(t+1)=j+1+t by omega]⟩;have disj_of:∀ (R0 B:List Nat),(∀ k,k∈R0->k∉B)->M9 R0 B:=by
         intro R0 B hAB;induction R0 with
         |nil=>trivial
         |cons x R0 ihA=>
           refine⟨?_,ihA λk W=>hAB k (HA _ W)⟩;have hx:=hAB x Hw;clear ihA hAB;induction B with
           |nil=>trivial|cons y B ihB=>exact⟨λe=>hx (by rw[e];exact Hw),ihB λhm=>hx (HA _ hm)⟩
        refine disj_of _ _ λs UL UM=>?_
        let ⟨k,g1,g2⟩:=(hw.rel j s).1 UL
        let ⟨u,g3,g4⟩:=aeu.1 UM
        let ⟨k',g5,g6⟩:=(hw.rel u s).1 g4
        have:=we H0 rfl (λQw=>hw.live j k g1 Qw) (λQw=>hw.live u k' g5 Qw) g2 g6;subst this;exact hdis k g1 (nd.2 ⟨u,g3,g5⟩)
     exact gen ds 0 λt=>by simp
    ·refine nf Su H0 rfl hw hc.2 hc.1 ds 0 e _ ν sl _ K KA (λt=>by simp) hd ⟨yal,λ_ _=>rfl,rfl,λk W hl=>?_,λk x W hx=>?_⟩ RH hs λe' h' ν' sl' lh'=>hK e' h' ν' sl' lh' _ _
     ·unfold bj ft at *
      rw[bq]at *
      rw[Fp W]at hl;exact hl
     ·rw[H0.dom k W]at hx;cases hx
end
def jj (Qo:Nat):List oF->Bool
 |[]=>true|.op o::l=>oY Qo [o]&&jj Qo l|.yld _ d _::l=>(match d with|some d=>Nat.blt d Qo|none=>true)&&jj Qo l|.yldG _ _ _ d _::l=>(match d with|some d=>Nat.blt d Qo|none=>true)&&jj Qo l
def sX (Qo:Nat):jv->Bool
 |.reg ops=>jj Qo ops|.draw ds=>BI Qo ds|.drawY ds xs=>BI Qo ds&&jj Qo xs|.seq a b=>sX Qo a&&sX Qo b|.cond _ a b=>sX Qo a&&sX Qo b|.block _ b=>sX Qo b|.loop b=>sX Qo b|.scope b=>sX Qo b|_=>true
def Cb:List jc->Bool
 |[]=>true|it::l=>sX it.ntmps it.body&&Cb l
def wZ (Qo:Nat):List Nat->Bool
 |[]=>true|p::l=>Nat.blt p Qo&&wZ Qo l
def uS (Qo:Nat):OT->Bool
 |.done=>true|.op o r=>oY Qo [o]&&uS Qo r|.alt a b=>uS Qo a&&uS Qo b
def gr (Qo:Nat):il->Bool
 |.reg ops=>oY Qo ops|.draw ds=>BI Qo ds|.allo t=>uS Qo t|.alloq t=>uS Qo t|.seq a b=>gr Qo a&&gr Qo b|.cond _ a b=>gr Qo a&&gr Qo b|.block _ b=>gr Qo b|.loop b=>gr Qo b|.scope b=>gr Qo b|.range _ ps a b D7=>wZ Qo ps&&(gr Qo a&&(gr Qo b&&Cb D7))|_=>true
def F3 (nb:Nat) (ν ν':Nu):Prop:=(∀k x,k<nb->ν k=some x->ν' k=some x)/\wz ν.z ν'.z
theorem F3.refl (nb:Nat) (ν:Nu):F3 nb ν ν:=⟨λ_ _ _ h=>h,mS _⟩
theorem F3.trans {nb:Nat} {a b c:Nu} (h:F3 nb a b) (k:F3 nb b c):F3 nb a c:=⟨λi x hi hx=>k.1 i x hi (h.1 i x hi hx),pV h.2 k.2⟩
theorem F3.of {ν ν':Nu} (h:ν.sub ν') (nb:Nat):F3 nb ν ν':=⟨λk x _ hx=>h.1 k x hx,h.2⟩
theorem F3.sub {ν ν':Nu} {nb:Nat} (h:F3 nb ν ν') (hd:∀ k,nb<=k->ν k=none):ν.sub ν':=⟨λk x hx=>(by
 rcases Hl k nb with W|W
 ·exact h.1 k x W hx
 ·rw[hd k W]at hx;exact absurd hx av),h.2⟩
def LH (w0:World) (nb N0:Nat) (e0:bZ) (Sf:List af) (ν:Nu):Prop:=∃ν0:Nu,(∀k,nb<=k->ν0 k=none)/\gX w0 ν0 N0 e0 Sf/\ν0.sub ν
theorem LH.step {w0:World} {nb N0:Nat} {e0:bZ} {Sf:List af} {ν ν':Nu} (h:LH w0 nb N0 e0 Sf ν) (hn:F3 nb ν ν'):LH w0 nb N0 e0 Sf ν':=by
 let ⟨ν0,M,N,h3⟩:=h
 exact⟨ν0,M,N,F3.sub ⟨λk x W hx=>hn.1 k x W (h3.1 k x hx),pV h3.2 hn.2⟩ M⟩
theorem LH.get {w0:World} {nb N0:Nat} {e0:bZ} {Sf:List af} {ν:Nu} (h:LH w0 nb N0 e0 Sf ν):gX w0 ν N0 e0 Sf:=let ⟨_,_,N,h3⟩:=h;N.mono h3
def YA (w0:World) (QZ:FuncId->b6) (ps:List Nat) (asg body:il) (Sf:List af):YH:=λxs lh K=>xs.length=ps.length/\cI w0 QZ lh.length asg (l9 Sf ps xs) lh (vt (λsl lh'=>cI w0 QZ lh.length body sl lh' λx _ lh=>K x lh) λ_ _ _=>False)
abbrev DK:=Nat->FuncId->b6
def dz (w0:World) (QZ:DK):fK:=λfr b e h g El=>match b with
 | .s body=>∀ (Qo nbS:Nat) (ν:Nu) (nV nS:Nat) (sl:List af) (lh:List ar) (QA:Ex->List af->List ar->Prop),gr Qo body=true->gX w0 ν Qo e sl->HR w0 ν nV nS h lh ->
   (∀ex e' h' ν' sl' lh' nV' nS',F3 fr.2 ν ν'->gX w0 ν' Qo e' sl'->HR w0 ν' nV' nS' h' lh'->El ex e' h' none->QA ex sl' lh')->cI w0 (QZ fr.1) nbS (.loop body) sl lh QA
 | .i body rd=>∀ (Qo N0:Nat) (ν:Nu) (nV nS:Nat) (sl Sf:List af) (lh:List ar) (QA:IQ),sX Qo body=true->wZ N0 rd.ps=true->gr N0 rd.asg=true->gr N0 rd.body=true->gX w0 ν Qo e sl->LH w0 fr.2 N0 rd.e0 Sf ν->HR w0 ν nV nS h lh ->
   (∀ex e' h' g' ν' sl' lh' nV' nS',F3 fr.2 ν ν'->gX w0 ν' Qo e' sl'->HR w0 ν' nV' nS' h' lh'->El ex e' h' g'->QA ex sl' lh' g')->lJ w0 (QZ fr.1) rd.l (YA w0 (QZ fr.1) rd.ps rd.asg rd.body Sf) (.loop body) sl lh g QA
section
variable {w0:World} {QZ:DK} {α:Type} {Qe:α->Prop} {cf:CF α} {cp:CP α}
theorem uw {ν:Nu} {Qo:Nat}:∀ (ps:List Nat) (e:bZ) (sl:List af) (vs:List V) (az:List af),wZ Qo ps=true->gX w0 ν Qo e sl->bC w0 ν.z ν vs az->vs.length=ps.length->gX w0 ν Qo (rf e ps vs) (l9 sl ps az)
 |[],e,sl,vs,az,_,h,_,_=>by cases vs<;>simpa[rf,l9] using h
 |p::ps,e,sl,[],az,_,_,_,hl=>by cases hl
 |p::ps,e,sl,v::vs,az,hp,h,U,hl=>by simp[bC]at U;obtain⟨x,xs,rfl,M,N⟩:=U;simp[wZ,Eg]at hp;simp[rf,l9];exact uw ps _ _ vs xs hp.2 (h.set (by simpa[Nat.blt_eq] using hp.1) M) N (by simpa using hl)
def PL (w0:World) (LP:fK) (Qe:α->Prop) (nb N0:Nat) (e0:bZ) (Sf:List af) (R6:YV α) (YS:YH):Prop :=
 ∀ (vs:List V) (h:List A7) (ν:Nu) (nV nS:Nat) (args:List af) (lh:List ar) (K:Ex->List A7->BO α) (KA:Ex->List ar->Prop),LH w0 nb N0 e0 Sf ν->HR w0 ν nV nS h lh->bC w0 ν.z ν vs args->bR LP (R6 vs h K) Qe ->
  (∀x h' ν' nV' nS' lh',ν.sub ν'->HR w0 ν' nV' nS' h' lh'->bR LP (K x h') Qe->KA x lh')->YS args lh KA
section it
variable {LP:fK} {nb Qo N0 lv:Nat} {rd:RD} {R6:YV α} {YS:YH} {Sf:List af} {un:l8}
theorem ic16 {l:Nat} (hY:PL w0 LP Qe nb N0 rd.e0 Sf R6 YS) {t:Nat} {d:Option Nat} {xs:List gq} {e:bZ} {h:List A7} {g:Option Ex} {ν:Nu} {nV nS:Nat} {sl:List af} {lh:List ar} {RJ:bZ->List A7->Option Ex->BO α} {KA:List af->List ar->Option Ex->Prop} (T4:∀ i,d=some i->i<Qo)
 (M:gX w0 ν Qo e sl) (hx:LH w0 nb N0 rd.e0 Sf ν) (N:HR w0 ν nV nS h lh) (h3:bR LP (Lj l R6 t d xs e h g RJ) Qe)
 (h4:∀e' h' g' ν' sl' lh' nV' nS',ν.sub ν'->gX w0 ν' Qo e' sl'->HR w0 ν' nV' nS' h' lh'->bR LP (RJ e' h' g') Qe->KA sl' lh' g'):g=none/\sl.getD t .any=kj l/\YS (xs.map (arg sl)) lh (Yw KA sl d):=by
 unfold Lj at h3
 let ⟨u,hu,h3⟩:=E1 rfl (M.at' t) h3
 split at h3
 ·rename_i l'
  simp only[bR]at h3;obtain⟨he,h3⟩:=h3;simp only[G5,V.yl.injEq,and_true]at he;subst he;obtain⟨us,k1,k2⟩:=mg M rfl h3;have h0:=hu;simp[vr]at h0;refine⟨rfl,h0,?_⟩;refine hY us h ν nV nS _ lh _ _ hx N k1 k2 λx h' ν' nV' nS' lh' g1 g2 g3=>?_;have hp:∀b,gX w0 ν' Qo (eE e d (.kb b)) (fv sl d (.bool b)):=λb=>(M.mono g1).put d T4 (by simp[vr]);cases x with
  |normal=>exact h4 _ _ _ _ _ _ _ _ g1 (hp true) g2 g3|exit i=>exact h4 _ _ _ _ _ _ _ _ g1 (hp false) g2 g3|ret=>exact h4 _ _ _ _ _ _ _ _ g1 (hp false) g2 g3
 ·exact h3.elim
theorem iG {S1:FuncId->b6} {l:Nat} (SB:tR w0 S1 LP false cf) (hY:PL w0 LP Qe nb N0 rd.e0 Sf R6 YS):∀ (ops:List oF) (e:bZ) (h:List A7) (g:Option Ex) (ν:Nu) (nV nS:Nat) (sl:List af) (lh:List ar) (K:bZ->List A7->Option Ex->BO α) (KA:List af->List ar->Option Ex->Prop),jj Qo ops=true ->
 gX w0 ν Qo e sl->LH w0 nb N0 rd.e0 Sf ν->HR w0 ν nV nS h lh->bR LP (dG cf l R6 ops e h g K) Qe->(∀e' h' g' ν' sl' lh' nV' nS',F3 nb ν ν'->gX w0 ν' Qo e' sl'->HR w0 ν' nV' nS' h' lh'->bR LP (K e' h' g') Qe->KA sl' lh' g')->cO w0 S1 l YS ops sl lh g KA
 |[],e,h,g,ν,nV,nS,sl,lh,K,KA,_,M,_,N,h3,h4=>h4 _ _ _ _ _ _ _ _ (F3.refl _ _) M N h3
 |.op o::rest,e,h,g,ν,nV,nS,sl,lh,K,KA,hd,M,hx,N,h3,h4=>by simp[jj,Eg]at hd;simp[dG]at h3;simp[cO];exact lH SB [o] e h ν sl lh _ _ hd.1 M N h3 λe' h' ν' sl' lh' k0 k1 k2 k3=>iG SB hY rest e' h' g ν' nV nS sl' lh' K KA hd.2 k1 (hx.step (F3.of k0 _)) k2 k3 λe2 N g2 ν2 TX lh2 nV2 nS2 q0=>h4 e2 N g2 ν2 TX lh2 nV2 nS2 ((F3.of k0 _).trans q0)
 |.yld t d xs::rest,e,h,g,ν,nV,nS,sl,lh,K,KA,hd,M,hx,N,h3,h4=>by
   simp[jj,Eg]at hd;simp[dG]at h3;split at h3
   ·rename_i l' hy
    simp only[bR]at h3
    let ⟨he,h3⟩:=h3
    simp only[G5,V.yl.injEq,and_true]at he;subst he
    let ⟨us,k1,k2⟩:=mg M rfl h3
    have h0:=M.at' t;rw[hy]at h0;simp[vr]at h0;simp only[cO];refine⟨trivial,h0,?_⟩;have T4:∀i,d=some i->i<Qo:=λi hi=>by subst hi;simpa[Nat.blt_eq] using hd.1
    refine hY us h ν nV nS _ lh _ _ hx N k1 k2 λx h' ν' nV' nS' lh' g1 g2 g3=>?_;have hp:∀b,gX w0 ν' Qo (eE e d (.kb b)) (fv sl d (.bool b)):=λb=>(M.mono g1).put d T4 (by simp[vr]);cases x with
    |normal=>exact iG SB hY rest _ h' none ν' nV' nS' _ lh' K KA hd.2 (hp true) (hx.step (F3.of g1 _)) g2 g3 λe2 N g2 ν2 TX lh2 nV2 nS2 q0=>h4 e2 N g2 ν2 TX lh2 nV2 nS2 ((F3.of g1 _).trans q0)
    |exit i=>exact iG SB hY rest _ h' _ ν' nV' nS' _ lh' K KA hd.2 (hp false) (hx.step (F3.of g1 _)) g2 g3 λe2 N g2 ν2 TX lh2 nV2 nS2 q0=>h4 e2 N g2 ν2 TX lh2 nV2 nS2 ((F3.of g1 _).trans q0)
    |ret=>exact iG SB hY rest _ h' _ ν' nV' nS' _ lh' K KA hd.2 (hp false) (hx.step (F3.of g1 _)) g2 g3 λe2 N g2 ν2 TX lh2 nV2 nS2 q0=>h4 e2 N g2 ν2 TX lh2 nV2 nS2 ((F3.of g1 _).trans q0)
   ·exact h3.elim
 |.yldG d want t dst xs::rest,e,h,g,ν,nV,nS,sl,lh,K,KA,hd,M,hx,N,h3,h4=>by
   simp[jj,Eg]at hd;have T4:∀i,dst=some i->i<Qo:=λi hi=>by have:=hd.1;subst hi;simpa[Nat.blt_eq] using this
   have next:∀ (e':bZ) (h':List A7) (g':Option Ex) (ν':Nu) (sl':List af) (lh':List ar) (nV' nS':Nat),ν.sub ν'->gX w0 ν' Qo e' sl'->HR w0 ν' nV' nS' h' lh'->bR LP (dG cf l R6 rest e' h' g' K) Qe->cO w0 S1 l YS rest sl' lh' g' KA :=
    λe' h' g' ν' sl' lh' nV' nS' g1 k1 k2 k3=>iG SB hY rest e' h' g' ν' nV' nS' sl' lh' K KA hd.2 k1 (hx.step (F3.of g1 _)) k2 k3 λe2 N g2 ν2 TX lh2 nV2 nS2 q0=>h4 e2 N g2 ν2 TX lh2 nV2 nS2 ((F3.of g1 _).trans q0)
   have go:∀ {e0:bZ},gX w0 ν Qo e0 sl->bR LP (Lj l R6 t dst xs e0 h g λe h g=>dG cf l R6 rest e h g K) Qe->g=none/\sl.getD t .any=kj l/\YS (xs.map (arg sl)) lh (Yw (λsl lh g=>cO w0 S1 l YS rest sl lh g KA) sl dst) :=
    λub hs=>ic16 hY T4 ub hx N hs next
   have skip:∀ {e0:bZ},gX w0 ν Qo e0 sl->bR LP (dG cf l R6 rest (eE e0 dst (.tup [])) h g K) Qe->cO w0 S1 l YS rest (fv sl dst (.tup [])) lh g KA :=
    λub hs=>next _ _ _ ν _ _ nV nS (Nu.sub_refl ν) (ub.put dst T4 Bi) N hs
   simp[dG]at h3;simp[cO];have RL:=M.at' d;split at h3
   ·rename_i b hb
    rw[hb]at RL;simp[vr]at RL;rw[RL];dsimp only
    split at h3
    ·rename_i he _;subst he;exact⟨λ_=>by rw[cY RL av];exact go M h3,λe=>by cases b<;>cases e⟩
    ·rename_i he _;exact⟨λe=>(he e).elim,λe=>by rw[← e,cY RL av];exact skip M h3⟩
   ·rename_i l1 hb
    rw[hb]at RL;simp[vr]at RL
    let ⟨az,RL,_⟩:=RL
    rw[RL];dsimp only
    rw[cY RL av];exact skip M h3
   ·rename_i k n hb;rw[hb]at RL;simp[vr]at RL;rw[RL];exact skip M h3
   ·rename_i b hb
    rw[hb]at RL;simp[vr]at RL;rw[RL];dsimp only
    simp[bR]at h3;refine⟨λe1=>?_,λe1=>?_⟩
    ·rw[← e1,cY RL av];exact go (M.know (by simp[vr];rw[RL,e1])) (h3.1 (vG e1))
    ·rw[← e1,cY RL av];exact skip (M.know (by simp[vr];rw[RL,e1])) (h3.2 (y4 e1))
   ·rename_i c v hb
    rw[hb]at RL;simp[vr]at RL;split at h3
    ·exact h3.elim
    ·rename_i b YR
     simp only[bR]at h3;cases c with
     |false=>
       let ⟨l1,hl⟩:=RL.2 rfl
       rw[hl];dsimp only
       rw[cY hl av];exact skip M (h3.2 rfl)
     |true=>
       have RL:=oW (RL.1 rfl) YR;rw[RL];dsimp only
       refine⟨λe1=>?_,λe1=>?_⟩
       ·rw[← e1,cY RL av];exact go (M.know (by simp[vr];rw[RL,e1])) (h3.1 (by rw[vG e1];rfl))
       ·rw[← e1,cY RL av];exact skip M (h3.2 (by rw[y4 e1];rfl))
   ·exact h3.elim
structure Kj (w0:World) (LP:fK) (Qe:α->Prop) (nb Qo N0:Nat) (e0:bZ) (Sf:List af) (ev:bZ->List A7->Option Ex->(Ex->bZ->List A7->Option Ex->BO α)->BO α) (K:Ex->bZ->List A7->Option Ex->BO α) (ν0:Nu) where
 n:Nat
 e:bZ
 h:List A7
 g:Option Ex
 ν:Nu
 nV:Nat
 nS:Nat
 sl:List af
 lh:List ar
 hs:gX w0 ν Qo e sl
 hx:LH w0 nb N0 e0 Sf ν
 hh:HR w0 ν nV nS h lh
 hn:F3 nb ν0 ν
 st:bR LP (Xq ev n e h g K) Qe
theorem C78 (SB:tR w0 (QZ lv) (dz w0 QZ) false cf) (Su:xf w0 (QZ lv) (dz w0 QZ) cp) (eL:wZ N0 rd.ps=true) (eU:gr N0 rd.asg=true) (ee:gr N0 rd.body=true) (hYS:YS=YA w0 (QZ lv) rd.ps rd.asg rd.body Sf) (hY:PL w0 (dz w0 QZ) Qe nb N0 rd.e0 Sf R6 YS):∀ (c:jv) (bi:Nat) (e:bZ) (h:List A7) (g:Option Ex) (ν:Nu) (nV nS:Nat) (sl:List af) (lh:List ar) (K:Ex->bZ->List A7->Option Ex->BO α) (KA:IQ),
 sX Qo c=true->gX w0 ν Qo e sl->LH w0 nb N0 rd.e0 Sf ν->HR w0 ν nV nS h lh->bR (dz w0 QZ) (oa cf cp un (lv,nb) rd R6 bi c e h g K) Qe ->
 (∀x e' h' g' ν' sl' lh' nV' nS',F3 nb ν ν'->gX w0 ν' Qo e' sl'->HR w0 ν' nV' nS' h' lh'->bR (dz w0 QZ) (K x e' h' g') Qe->KA x sl' lh' g')->lJ w0 (QZ lv) rd.l YS c sl lh g KA:=by
 intro c;induction c with
 |skip=>intro bi e h g ν nV nS sl lh K KA _ M _ N h3 h4;exact h4 .normal _ _ _ _ _ _ _ _ (F3.refl _ _) M N h3
 |reg ops=>intro bi e h g ν nV nS sl lh K KA hd M hx N h3 h4;exact iG SB hY ops e h g ν nV nS sl lh _ _ hd M hx N h3 λe' h' g' ν' sl' lh' nV' nS' k0 k1 k2 k3=>h4 .normal _ _ _ _ _ _ _ _ k0 k1 k2 k3
 |draw ds=>intro bi e h g ν nV nS sl lh K KA hd M hx N h3 h4;exact uo Su hd M N h3 λe' h' ν' sl' lh' _ _ k0 g1 g2 g3=>h4 .normal _ _ _ _ _ _ _ _ (F3.of k0 _) g1 g2 g3
 |drawY ds xs=>intro bi e h g ν nV nS sl lh K KA hd M hx N h3 h4;simp[sX,Eg]at hd;exact uo Su hd.1 M N h3 λe1 h1' ν1 TB lh1 _ _ k0 g1 g2 g3=>iG SB hY xs e1 h1' g ν1 _ _ TB lh1 _ _ hd.2 g1 (hx.step (F3.of k0 _)) g2 g3 λe' h' g' ν' sl' lh' nV' nS' nza5 j1 j2 j3=>h4 .normal _ _ _ _ _ _ _ _ ((F3.of k0 _).trans nza5) j1 j2 j3
 |seq a b iha ihb=>
   intro bi e h g ν nV nS sl lh K KA hd M hx N h3 h4;simp[sX,Eg]at hd;refine iha bi e h g ν nV nS sl lh _ _ hd.1 M hx N h3 λx e' h' g' ν' sl' lh' nV' nS' g0 g1 g2 g3=>?_;cases x with
   |normal=>exact ihb bi e' h' g' ν' nV' nS' sl' lh' K KA hd.2 g1 (hx.step g0) g2 g3 λx e2 N g2 ν2 TX lh2 nV2 nS2 q0=>h4 x e2 N g2 ν2 TX lh2 nV2 nS2 (g0.trans q0)
   |exit i=>exact h4 _ _ _ _ _ _ _ _ _ g0 g1 g2 g3|ret=>exact h4 _ _ _ _ _ _ _ _ _ g0 g1 g2 g3
 |cond c a b iha ihb=>
   intro bi e h g ν nV nS sl lh K KA hd M hx N h3 h4;simp[sX,Eg]at hd;simp[oa]at h3;have ha:=M.arg c;simp[lJ];split at h3
   ·rename_i hc;rw[hc]at ha;simp[vr]at ha;rw[ha];exact⟨λ_=>iha bi e h g ν nV nS sl lh K KA hd.1 M hx N h3 h4,(λhe=>by cases he)⟩
   ·rename_i hc;rw[hc]at ha;simp[vr]at ha;rw[ha];exact⟨(λhe=>by cases he),λ_=>ihb bi e h g ν nV nS sl lh K KA hd.2 M hx N h3 h4⟩
   ·rename_i t hc
    rw[hc]at ha;simp[vr]at ha;rw[ha];split at h3
    ·rename_i s;simp[bR]at h3;simp[arg]at ha;exact⟨λet=>iha bi _ h g ν nV nS sl lh K KA hd.1 (M.know (by simp[vr];rw[ha,et])) hx N (h3.1 et) h4,λet=>ihb bi _ h g ν nV nS sl lh K KA hd.2 (M.know (by simp[vr];rw[ha,et])) hx N (h3.2 et) h4⟩
    ·simp[bR]at h3;exact⟨λet=>iha bi _ h g ν nV nS sl lh K KA hd.1 M hx N (h3.1 et) h4,λet=>ihb bi _ h g ν nV nS sl lh K KA hd.2 M hx N (h3.2 et) h4⟩
   ·exact h3.elim
 |block id b ih=>
   intro bi e h g ν nV nS sl lh K KA hd M hx N h3 h4;refine ih id e h g ν nV nS sl lh _ _ hd M hx N h3 λx e' h' g' ν' sl' lh' nV' nS' g0 g1 g2 g3=>?_;cases x with
   |normal=>exact h4 _ _ _ _ _ _ _ _ _ g0 g1 g2 g3|ret=>exact h4 _ _ _ _ _ _ _ _ _ g0 g1 g2 g3
   |exit i=>
     simp[xz];by_cases hi:i=id
     ·subst hi;rw[E5 rfl];simp[Nat.beq_refl,cond]at g3;exact h4 _ _ _ _ _ _ _ _ _ g0 g1 g2 g3
     ·rw[DX hi]
      have:Nat.beq i id=false:=by cases hb:Nat.beq i id with|false=>rfl|true=>exact(hi (FF hb)).elim
      simp[this,cond]at g3;exact h4 _ _ _ _ _ _ _ _ _ g0 g1 g2 g3
 |loop b ih=>
   intro bi e h g ν nV nS sl lh K KA hd M hx N h3 h4;simp[oa]at h3;split at h3
   ·subst hYS;exact h3 Qo N0 ν nV nS sl Sf lh KA hd eL eU ee M hx N h4
   ·rename_i n hn
    simp[lJ];refine⟨Kj w0 (dz w0 QZ) Qe nb Qo N0 rd.e0 Sf (oa cf cp un (lv,nb) rd R6 bi b) K ν,Kj.sl,Kj.lh,Kj.g,Kj.n,⟨n+1,e,h,g,ν,nV,nS,sl,lh,M,hx,N,F3.refl _ _,h3⟩,rfl,rfl,rfl,λs=>?_⟩;have RX:=s.st;have X9:=s.hn
    match hm:s.n,RX with
    |0,RX=>exact RX.elim
    |k+1,RX=>
      simp[Xq]at RX;refine ih bi s.e s.h s.g s.ν s.nV s.nS s.sl s.lh _ _ hd s.hs s.hx s.hh RX λx e' h' g' ν' sl' lh' nV' nS' g0 g1 g2 g3=>?_;cases x with
      |normal=>exact⟨⟨k,e',h',g',ν',nV',nS',sl',lh',g1,s.hx.step g0,g2,X9.trans g0,g3⟩,rfl,rfl,rfl,Nat.lt_succ_self k⟩|exit i=>exact h4 _ _ _ _ _ _ _ _ _ (X9.trans g0) g1 g2 g3|ret=>exact h4 _ _ _ _ _ _ _ _ _ (X9.trans g0) g1 g2 g3
 |exit i=>intro bi e h g ν nV nS sl lh K KA _ M _ N h3 h4;exact h4 _ _ _ _ _ _ _ _ _ (F3.refl _ _) M N h3|ret=>intro bi e h g ν nV nS sl lh K KA _ M _ N h3 h4;exact h4 _ _ _ _ _ _ _ _ _ (F3.refl _ _) M N h3|scope b ih=>intro bi e h g ν nV nS sl lh K KA hd M hx N h3 h4;exact ih bi e h g ν nV nS sl lh K KA hd M hx N h3 h4
end it
structure MI (w0:World) (LP:fK) (Qe:α->Prop) (nb Qo:Nat) (ev:bZ->List A7->(Ex->bZ->List A7->BO α)->BO α) (K:Ex->bZ->List A7->BO α) (ν0:Nu) where
 n:Nat
 e:bZ
 h:List A7
 ν:Nu
 nV:Nat
 nS:Nat
 sl:List af
 lh:List ar
 hs:gX w0 ν Qo e sl
 hh:HR w0 ν nV nS h lh
 hn:F3 nb ν0 ν
 st:bR LP (Ml ev n e h K) Qe
theorem lA:∀ l:List af,mY l l
 |[]=>by simp[mY]
 |a::l=>by unfold mY;exact⟨.inr rfl,lA l⟩
theorem hl0:∀ {D7:List jc} {it:jc},Cb D7=true->it∈D7->sX it.ntmps it.body=true
 |[],_,_,h=>by cases h
 |x::l,it,h,hm=>by
   simp[Cb,Eg]at h;rcases List.mem_cons.1 hm with rfl|hm
   ·exact h.1
   ·exact hl0 h.2 hm
theorem By {lh:List ar} {ν:Nu}:∀ {us:List V} {az rest:List af} {j i:Nat},bC w0 lh ν us az->(∀ a,a∈rest->True)->vr w0 lh ν (kg (Lr us j) (j+i)) ((az++rest).getD i .any)
 |[],az,rest,j,i,h,_=>by simp[Lr,kg,vr]
 |u::us,az,rest,j,i,h,hr=>by
   simp[bC]at h;obtain⟨x,xs,rfl,M,N⟩:=h;simp[Lr];rw[mU];cases i with
   |zero=>rw[E5 E];simpa using M
   |succ i=>rw[DX E];have:=By (j:=j+1) (i:=i) (rest:=rest) N hr;rw[show j+1+i=j+(i+1) by omega]at this;simpa using this
theorem sB {S1:FuncId->b6} {LP:fK} {Qo:Nat} (SB:tR w0 S1 LP false cf):∀ (t:OT) (e:bZ) (h:List A7) (ν:Nu) (nV nS:Nat) (sl:List af) (lh:List ar) (K:bZ->List A7->BO α) (KA:List af->List ar->Prop),uS Qo t=true ->
 gX w0 ν Qo e sl->HR w0 ν nV nS h lh->bR LP (EP cf t e h K) Qe->(∀e' h' ν' sl' lh',ν.sub ν'->gX w0 ν' Qo e' sl'->HR w0 ν' nV nS h' lh'->bR LP (K e' h') Qe->KA sl' lh')->qp w0 S1 t sl lh KA
 |.done,e,h,ν,nV,nS,sl,lh,K,KA,_,M,N,h3,h4=>h4 _ _ _ _ _ (Nu.sub_refl ν) M N h3
 |.op o r,e,h,ν,nV,nS,sl,lh,K,KA,hd,M,N,h3,h4=>by simp[uS,Eg]at hd;simp[EP]at h3;simp[qp];exact lH SB [o] e h ν sl lh _ _ hd.1 M N h3 λe' h' ν' sl' lh' k0 k1 k2 k3=>sB SB r e' h' ν' nV nS sl' lh' K KA hd.2 k1 k2 k3 λe2 N ν2 TX lh2 q0=>h4 e2 N ν2 TX lh2 (Nu.sub_trans k0 q0)
 |.alt a b,e,h,ν,nV,nS,sl,lh,K,KA,hd,M,N,h3,h4=>by simp[uS,Eg]at hd;simp[EP,bR]at h3;exact⟨sB SB a e h ν nV nS sl lh K KA hd.1 M N h3.1 h4,sB SB b e h ν nV nS sl lh K KA hd.2 M N h3.2 h4⟩
theorem CG {lv:Nat} (SB:tR w0 (QZ lv) (dz w0 QZ) false cf) (Su:xf w0 (QZ lv) (dz w0 QZ) cp) {un:l8} {Qo:Nat}:∀ (c:il) (nb nbS bi:Nat) (e:bZ) (h:List A7) (ν:Nu) (nV nS:Nat) (sl:List af) (lh:List ar) (K:Ex->bZ->List A7->BO α) (KA:Ex->List af->List ar->Prop),
 gr Qo c=true->gX w0 ν Qo e sl->HR w0 ν nV nS h lh->bR (dz w0 QZ) (uL cf cp un (lv,nb) bi c e h K) Qe ->
 (∀x e' h' ν' sl' lh' nV' nS',F3 nb ν ν'->gX w0 ν' Qo e' sl'->HR w0 ν' nV' nS' h' lh'->bR (dz w0 QZ) (K x e' h') Qe->KA x sl' lh')->cI w0 (QZ lv) nbS c sl lh KA:=by
 intro c;induction c with
 |skip=>intro nb nbS bi e h ν nV nS sl lh K KA _ M N h3 h4;exact h4 .normal _ _ _ _ _ _ _ (F3.refl _ _) M N h3
 |reg ops=>intro nb nbS bi e h ν nV nS sl lh K KA hd M N h3 h4;exact lH SB ops e h ν sl lh _ _ hd M N h3 λe' h' ν' sl' lh' g0 g1 g2 g3=>h4 .normal _ _ _ _ _ _ _ (F3.of g0 _) g1 g2 g3
 |allo t=>intro nb nbS bi e h ν nV nS sl lh K KA hd M N h3 h4;exact sB SB t e h ν nV nS sl lh _ _ hd M N h3 λe' h' ν' sl' lh' g0 g1 g2 g3=>h4 .normal _ _ _ _ _ _ _ (F3.of g0 _) g1 g2 g3
 |alloq t=>intro nb nbS bi e h ν nV nS sl lh K KA hd M N h3 h4;exact sB Su.2 t e h ν nV nS sl lh _ _ hd M N h3 λe' h' ν' sl' lh' g0 g1 g2 g3=>h4 .normal _ _ _ _ _ _ _ (F3.of g0 _) g1 g2 g3
 |draw ds=>intro nb nbS bi e h ν nV nS sl lh K KA hd M N h3 h4;exact uo Su hd M N h3 λe' h' ν' sl' lh' _ _ g0 g1 g2 g3=>h4 .normal _ _ _ _ _ _ _ (F3.of g0 _) g1 g2 g3
 |seq a b iha ihb=>
   intro nb nbS bi e h ν nV nS sl lh K KA hd M N h3 h4;simp[gr,Eg]at hd;refine iha nb nbS bi e h ν nV nS sl lh _ _ hd.1 M N h3 λx e' h' ν' sl' lh' nV' nS' g0 g1 g2 g3=>?_;cases x with
   |normal=>exact ihb nb nbS bi e' h' ν' nV' nS' sl' lh' K KA hd.2 g1 g2 g3 λx e2 N ν2 TX lh2 nV2 nS2 q0=>h4 x e2 N ν2 TX lh2 nV2 nS2 (g0.trans q0)
   |exit i=>exact h4 _ _ _ _ _ _ _ _ g0 g1 g2 g3|ret=>exact h4 _ _ _ _ _ _ _ _ g0 g1 g2 g3
 |cond c a b iha ihb=>
   intro nb nbS bi e h ν nV nS sl lh K KA hd M N h3 h4;simp[gr,Eg]at hd;simp[uL]at h3;have ha:=M.arg c;simp[cI];split at h3
   ·rename_i hc;rw[hc]at ha;simp[vr]at ha;rw[ha];exact⟨λ_=>iha nb nbS bi e h ν nV nS sl lh K KA hd.1 M N h3 h4,(λhe=>by cases he)⟩
   ·rename_i hc;rw[hc]at ha;simp[vr]at ha;rw[ha];exact⟨(λhe=>by cases he),λ_=>ihb nb nbS bi e h ν nV nS sl lh K KA hd.2 M N h3 h4⟩
   ·rename_i t hc
    rw[hc]at ha;simp[vr]at ha;rw[ha];split at h3
    ·rename_i s;simp[bR]at h3;simp[arg]at ha;exact⟨λet=>iha nb nbS bi _ h ν nV nS sl lh K KA hd.1 (M.know (by simp[vr];rw[ha,et])) N (h3.1 et) h4,λet=>ihb nb nbS bi _ h ν nV nS sl lh K KA hd.2 (M.know (by simp[vr];rw[ha,et])) N (h3.2 et) h4⟩
    ·simp[bR]at h3;exact⟨λet=>iha nb nbS bi _ h ν nV nS sl lh K KA hd.1 M N (h3.1 et) h4,λet=>ihb nb nbS bi _ h ν nV nS sl lh K KA hd.2 M N (h3.2 et) h4⟩
   ·exact h3.elim
 |block id b ih=>
   intro nb nbS bi e h ν nV nS sl lh K KA hd M N h3 h4;refine ih nb nbS id e h ν nV nS sl lh _ _ hd M N h3 λx e' h' ν' sl' lh' nV' nS' g0 g1 g2 g3=>?_;cases x with
   |normal=>exact h4 _ _ _ _ _ _ _ _ g0 g1 g2 g3|ret=>exact h4 _ _ _ _ _ _ _ _ g0 g1 g2 g3
   |exit i=>
     simp[xc];by_cases hi:i=id
     ·subst hi;rw[E5 rfl];simp[Nat.beq_refl,cond]at g3;exact h4 _ _ _ _ _ _ _ _ g0 g1 g2 g3
     ·rw[DX hi]
      have:Nat.beq i id=false:=by cases hb:Nat.beq i id with|false=>rfl|true=>exact(hi (FF hb)).elim
      simp[this,cond]at g3;exact h4 _ _ _ _ _ _ _ _ g0 g1 g2 g3
 |loop b ih=>
   intro nb nbS bi e h ν nV nS sl lh K KA hd M N h3 h4;simp[uL]at h3;split at h3
   ·exact h3 Qo nbS ν nV nS sl lh KA hd M N h4
   ·rename_i n hn
    simp only[cI];refine⟨MI w0 (dz w0 QZ) Qe nb Qo (uL cf cp un (lv,nb) bi b) K ν,MI.sl,MI.lh,MI.n,⟨n+1,e,h,ν,nV,nS,sl,lh,M,N,F3.refl _ _,h3⟩,.inl ⟨rfl,lA _⟩,λs=>?_⟩;have RX:=s.st;have X9:=s.hn
    match hm:s.n,RX with
    |0,RX=>exact RX.elim
    |k+1,RX=>
      simp[Ml]at RX;refine ih nb nbS bi s.e s.h s.ν s.nV s.nS s.sl s.lh _ _ hd s.hs s.hh RX λx e' h' ν' sl' lh' nV' nS' g0 g1 g2 g3=>?_;cases x with
      |normal=>exact⟨⟨k,e',h',ν',nV',nS',sl',lh',g1,g2,X9.trans g0,g3⟩,.inl ⟨rfl,lA _⟩,Nat.lt_succ_self k⟩|exit i=>exact h4 _ _ _ _ _ _ _ _ (X9.trans g0) g1 g2 g3|ret=>exact h4 _ _ _ _ _ _ _ _ (X9.trans g0) g1 g2 g3
 |exit i=>intro nb nbS bi e h ν nV nS sl lh K KA _ M N h3 h4;exact h4 _ _ _ _ _ _ _ _ (F3.refl _ _) M N h3|ret=>intro nb nbS bi e h ν nV nS sl lh K KA _ M N h3 h4;exact h4 _ _ _ _ _ _ _ _ (F3.refl _ _) M N h3|scope b ih=>intro nb nbS bi e h ν nV nS sl lh K KA hd M N h3 h4;exact ih nb nbS bi e h ν nV nS sl lh K KA hd M N h3 h4
 |range gop ps asg body D7 iha ihb=>
   intro nb nbS bi e h ν nV nS sl lh K KA hd M N h3 h4;simp[gr,Eg]at hd;simp[uL]at h3;have ha:=M.arg gop;simp[cI];split at h3
   ·rename_i f ys hg
    rw[hg]at ha;simp[vr,bC]at ha;obtain⟨us,vs,ig10,rfl,Ym⟩:=ha;rw[ig10];dsimp only
    split at h3
    ·rename_i it hit
     try rw[hit]
     try dsimp only
     cases hb:Nat.ble (b7 ys+1) it.ntmps with
     |false=>rw[hb]at h3;exact h3.elim
     |true=>
       rw[hb]at h3;simp[cond,bR]at h3;have Rb:=G2 hb;rw[b5]at Rb;have hl:=bV Ym;intro l;have hdom:∀ k,b7 h<=k->ν k=none:=λk W=>N.dom k (by rw[← b5];exact W);have hctx:LH w0 (b7 h) Qo e sl ν:=⟨ν,hdom,M,Nu.sub_refl ν⟩;have hY:PL w0 (dz w0 QZ) Qe (b7 h) Qo e sl (λvs h K=>cond (Nat.beq (b7 vs) (b7 ps)) (uL cf cp un (lv,b7 h) bi asg (rf e ps vs) h λx e1 M=>match x with
        |.normal=>uL cf cp un (lv,b7 h) bi body e1 M λx _ N=>K x N
        |_=>.fail 94) (.fail 95)) (YA w0 (QZ lv) ps asg body sl):=by
        intro vs h ν nV nS args lh K KA hx hh U hs hK;dsimp only at hs;cases hb:Nat.beq (b7 vs) (b7 ps) with
        |false=>rw[hb]at hs;exact hs.elim
        |true=>
          rw[hb]at hs;simp[cond]at hs;have hlen:=FF hb;rw[b5,b5]at hlen;have hdom:∀k,b7 h<=k->ν k=none:=λk W=>hh.dom k (by rw[← b5];exact W);refine⟨by rw[bV U];exact hlen,?_⟩;refine iha (b7 h) _ bi _ h ν nV nS _ lh _ _ hd.2.1 (uw ps e sl vs args hd.1 hx.get U hlen) hh hs λx e' h' ν' sl' lh' nV' nS' g0 g1 g2 g3=>?_;cases x with
          |normal=>exact ihb (b7 h) _ bi _ h' ν' nV' nS' _ lh' _ _ hd.2.2.1 g1 g2 g3 λx e2 N ν2 TX lh2 nV2 nS2 q0 q1 q2 q3=>hK x N ν2 nV2 nS2 lh2 ((g0.trans q0).sub hdom) q2 q3
          |exit i=>exact g3.elim|ret=>exact g3.elim
       refine C78 (rd:=⟨ps,asg,body,e,l⟩) (R6:=_) (Sf:=sl) (nb:=b7 h) SB Su hd.1 hd.2.1 hd.2.2.1 rfl hY it.body 0 _ h none ν nV nS _ lh _ _ (hl0 hd.2.2.2 (pJ hit).1) ⟨by simp;omega,λi=>?_⟩ hctx N (h3 l) λx e' h' g' ν' sl' lh' nV' nS' g0 g1 g2 g3=>?_
       ·rw [mU]
        cases i with
        |zero=>simp[vr]
        |succ i=>rw[DX E];have:=By (j:=1) (i:=i) (rest:=List.replicate (it.ntmps-(vs.length+1)) .any) Ym (λ_ _=>trivial);rw[show 1+i=i+1 by omega]at this;simpa using this
       ·have hsub:=g0.sub hdom
        cases x with
        |exit i=>exact g3.elim
        |normal=>
          cases g' with
          |none=>exact h4 .normal e h' ν' sl lh' nV' nS' (F3.of hsub _) (M.mono hsub) g2 g3|some x=>exact h4 x e h' ν' sl lh' nV' nS' (F3.of hsub _) (M.mono hsub) g2 g3
        |ret=>
          cases g' with
          |none=>exact h4 .normal e h' ν' sl lh' nV' nS' (F3.of hsub _) (M.mono hsub) g2 g3|some x=>exact h4 x e h' ν' sl lh' nV' nS' (F3.of hsub _) (M.mono hsub) g2 g3
    ·exact h3.elim
   ·exact h3.elim
theorem po {LP:fK} {ν:Nu} {nV nS Qo:Nat} {e:bZ} {h:List A7} {sl:List af} {lh:List ar} (M:gX w0 ν Qo e sl) (N:HR w0 ν nV nS h lh):∀ (rs:List Cv) (K:List V->BO α) (KA:List af->Prop),bR LP (uK e h rs K) Qe ->
 (∀us az,bC w0 ν.z ν us az->bR LP (K us) Qe->KA az)->j8 w0 sl lh rs KA
 |[],K,KA,hs,hK=>hK [] [] (by simp[bC]) hs
 |.tmp t::l,K,KA,hs,hK=>by
   simp[uK]at hs
   let ⟨u,g1,g2⟩:=E1 rfl (M.at' t) hs
   exact po M N l _ _ g2 λus az g3 g4=>hK (u::us) _ (by simp only[bC];exact⟨_,_,rfl,g1,g3⟩) g4
 |.cell t n::l,K,KA,hs,hK=>by
   cases n with
   |none=>
     simp[uK]at hs
     let ⟨g0,hs⟩:=wH rfl hs
     split at hs
     ·rename_i v U
      let ⟨p,x,e1,e2,e3⟩:=FJ N (M.at' t) U g0
      simp only[j8,e1];exact⟨x,e2,po M N l _ _ hs λus az g3 g4=>hK (v::us) _ (by simp only[bC];exact⟨_,_,rfl,e3,g3⟩) g4⟩
     ·exact hs.elim
   |some n=>
     simp[uK]at hs
     let ⟨g0,hs⟩:=wH rfl hs
     split at hs
     ·rename_i cs U
      let ⟨p,x,e1,e2,e3⟩:=ahX N (M.at' t) U g0
      simp only[j8,e1];exact⟨x,e2,po M N l _ _ hs λus az g3 g4=>hK (.agg cs::us) _ (by simp only[bC];exact⟨_,_,rfl,by simp only[vr];exact⟨_,rfl,e3⟩,g3⟩) g4⟩
     ·exact hs.elim
theorem C54 {lh:List ar} {ν:Nu}:∀ {us:List V} {az:List af},bC w0 lh ν us az->vr w0 lh ν (uh us) (rI az)
 |[],az,h=>by simp only[bC]at h;subst h;simp only[uh,rI,vr];exact⟨_,rfl,by simp only[bC]⟩
 |[u],az,h=>by simp only[bC]at h;obtain⟨x,xs,rfl,M,rfl⟩:=h;exact M
 |u::v::us,az,h=>by have h':=h;simp only[bC]at h;obtain⟨x,xs,rfl,M,y,ys,rfl,N⟩:=h;simp only[uh,rI,vr];exact⟨_,rfl,h'⟩
theorem HR.none (w0:World):HR w0 Nu.nil 0 0 [] []:=⟨(λk o h=>by simp at h),(λk k' x x' _ _ h=>by cases h),(λ_ _=>rfl),(λk x h=>by cases h),ahg _,(λk x _ h=>by cases h)⟩
theorem r7 {lv:Nat} (SB:tR w0 (QZ lv) (dz w0 QZ) false cf) (Su:xf w0 (QZ lv) (dz w0 QZ) cp) {un:l8} {sf:aO} {args:List V} {az:List af} {h:List A7} {lh:List ar} {ν:Nu} {nV nS:Nat} {K:V->List A7->BO α} {KA:af->List ar->Prop} (hd:gr sf.ntmps sf.body=true)
 (ha:bC w0 ν.z ν args az) (hh:HR w0 ν nV nS h lh) (hs:bR (dz w0 QZ) (oE cf cp un lv sf args h K) Qe)
 (hK:∀v h' ν' a lh',ν.sub ν'->(∀nV nS,HR w0 ν' nV nS h' lh')->vr w0 ν'.z ν' v a->bR (dz w0 QZ) (K v h') Qe->KA a lh'):IH w0 (QZ lv) sf az lh KA:=by
 unfold oE at hs;cases hb:Nat.ble (b7 args) sf.ntmps with
 |false=>rw[hb]at hs;exact hs.elim
 |true=>
   rw[hb]at hs;simp[cond]at hs;have Rb:=G2 hb;rw[b5]at Rb;have hl:=bV ha;have hdom:∀k,b7 h<=k->ν k=none:=λk W=>hh.dom k (by rw[← b5];exact W);unfold IH;refine CG SB Su sf.body (b7 h) _ 0 _ h ν nV nS _ lh _ _ hd ⟨by simp;omega,λi=>?_⟩ hh hs λx e' h' ν' sl' lh' nV' nS' g0 g1 g2 g3=>?_
   ·have:=By (j:=0) (i:=i) (rest:=List.replicate (sf.ntmps-az.length) .any) ha (λ_ _=>trivial);rwa [Gh]at this
   ·cases x with
    |exit i=>exact g3.elim|normal=>exact po g1 g2 _ _ _ g3 λus vs k1 k2=>hK _ _ ν' _ _ (g0.sub hdom) (λa b=>g2.undead a b) (C54 k1) k2
    |ret=>exact po g1 g2 _ _ _ g3 λus vs k1 k2=>hK _ _ ν' _ _ (g0.sub hdom) (λa b=>g2.undead a b) (C54 k1) k2
def lC (w0:World) (nb:Nat) (e:bZ) (h:List A7) (e1:bZ) (M:List A7):Prop :=
 ∀(Qo:Nat) (ν:Nu) (nV nS:Nat) (sl:List af) (lh:List ar),gX w0 ν Qo e sl->HR w0 ν nV nS h lh->∃ν1 nV1 nS1,F3 nb ν ν1/\gX w0 ν1 Qo e1 sl/\HR w0 ν1 nV1 nS1 M lh
structure LSt (w0:World) (nb Qo:Nat) (RR:Type) (inv:RR->bZ×List A7) (ν0:Nu) where
 i:RR
 ν:Nu
 nV:Nat
 nS:Nat
 sl:List af
 lh:List ar
 hs:gX w0 ν Qo (inv i).1 sl
 hh:HR w0 ν nV nS (inv i).2 lh
 hn:F3 nb ν0 ν
theorem smT {fr:Nat×Nat} {cf:CF (Ex×bZ×List A7)} {cp:CP (Ex×bZ×List A7)} (SB:tR w0 (QZ fr.1) (dz w0 QZ) false cf) (Su:xf w0 (QZ fr.1) (dz w0 QZ) cp) {un:l8} {bi:Nat} {body:il} {e:bZ} {h:List A7} {El:Ex->bZ->List A7->Option Ex->Prop}
 (RR:Type) (inv:RR->bZ×List A7) (μ:RR->Nat) (h0:∃i,lC w0 fr.2 e h (inv i).1 (inv i).2)
 (round:∀i,bR (dz w0 QZ) (uL cf cp un fr bi body (inv i).1 (inv i).2 λx e h=>.ret (x,e,h)) λr=>match r.1 with|.normal=>∃i',lC w0 fr.2 r.2.1 r.2.2 (inv i').1 (inv i').2/\μ i'<μ i|x=>El x r.2.1 r.2.2 none):dz w0 QZ fr (.s body) e h none El:=by
 intro Qo nbS ν nV nS sl lh QA hd M N hQ
 let ⟨i0,sa⟩:=h0
 let ⟨ν1,nV1,nS1,g0,g1,g2⟩:=sa Qo ν nV nS sl lh M N
 simp only[cI];refine⟨LSt w0 fr.2 Qo RR inv ν,λs=>s.sl,λs=>s.lh,λs=>μ s.i,⟨i0,ν1,nV1,nS1,sl,lh,g1,g2,g0⟩,.inl ⟨rfl,lA _⟩,λs=>?_⟩;refine CG SB Su body fr.2 nbS bi _ _ s.ν s.nV s.nS s.sl s.lh _ _ hd s.hs s.hh (round s.i) λx e' h' ν' sl' lh' nV' nS' k0 k1 k2 k3=>?_;simp[bR]at k3;cases x with
 |normal=>
   let ⟨i',k4,k5⟩:=k3
   let ⟨ν2,nV2,nS2,k8,k6,k7⟩:=k4 Qo ν' nV' nS' sl' lh' k1 k2
   exact⟨⟨i',ν2,nV2,nS2,sl',lh',k6,k7,(s.hn.trans k0).trans k8⟩,.inl ⟨rfl,lA _⟩,k5⟩
 |exit i=>exact hQ _ _ _ _ _ _ _ _ (s.hn.trans k0) k1 k2 k3|ret=>exact hQ _ _ _ _ _ _ _ _ (s.hn.trans k0) k1 k2 k3
structure arX (w0:World) (nb Qo:Nat) (RR:Type) (inv:RR->bZ×List A7×Option Ex) (ν0:Nu) where
 i:RR
 ν:Nu
 nV:Nat
 nS:Nat
 sl:List af
 lh:List ar
 hs:gX w0 ν Qo (inv i).1 sl
 hh:HR w0 ν nV nS (inv i).2.1 lh
 hn:F3 nb ν0 ν
def Ka (cf:CF α) (cp:CP α) (un:l8) (lv bi:Nat) (rd:RD):YV α:=λvs h K=>cond (Nat.beq (b7 vs) (b7 rd.ps)) (uL cf cp un (lv,b7 h) bi rd.asg (rf rd.e0 rd.ps vs) h λx e1 M=>match x with
 |.normal=>uL cf cp un (lv,b7 h) bi rd.body e1 M λx _ N=>K x N
 |_=>.fail 94) (.fail 95)
theorem ags {lv bi:Nat} {un:l8} {rd:RD} {nb Qo:Nat} {sl:List af} (SB:tR w0 (QZ lv) (dz w0 QZ) false cf) (Su:xf w0 (QZ lv) (dz w0 QZ) cp) (h0:wZ Qo rd.ps=true) (M:gr Qo rd.asg=true) (N:gr Qo rd.body=true) :
 PL w0 (dz w0 QZ) Qe nb Qo rd.e0 sl (Ka cf cp un lv bi rd) (YA w0 (QZ lv) rd.ps rd.asg rd.body sl):=by
 intro vs h ν nV nS args lh K KA hx hh U hs hK;unfold Ka at hs;cases hb:Nat.beq (b7 vs) (b7 rd.ps) with
 |false=>rw[hb]at hs;exact hs.elim
 |true=>
   rw[hb]at hs;simp[cond]at hs;have hlen:=FF hb;rw[b5,b5]at hlen;have hdom:∀k,b7 h<=k->ν k=none:=λk W=>hh.dom k (by rw[← b5];exact W);refine⟨by rw[bV U];exact hlen,?_⟩;refine CG SB Su rd.asg (b7 h) _ bi _ h ν nV nS _ lh _ _ M (uw rd.ps rd.e0 sl vs args h0 hx.get U hlen) hh hs λx e' h' ν' sl' lh' nV' nS' g0 g1 g2 g3=>?_;cases x with
   |normal=>exact CG SB Su rd.body (b7 h) _ bi _ h' ν' nV' nS' _ lh' _ _ N g1 g2 g3 λx e2 N ν2 TX lh2 nV2 nS2 q0 q1 q2 q3=>hK x N ν2 nV2 nS2 lh2 ((g0.trans q0).sub hdom) q2 q3
   |exit i=>exact g3.elim|ret=>exact g3.elim
theorem hsr {fr:Nat×Nat} {cf:CF (Ex×bZ×List A7×Option Ex)} {cp:CP (Ex×bZ×List A7×Option Ex)} (SB:tR w0 (QZ fr.1) (dz w0 QZ) false cf) (Su:xf w0 (QZ fr.1) (dz w0 QZ) cp) {un:l8} {bi bi':Nat} {body:jv} {rd:RD} {e:bZ} {h:List A7} {g:Option Ex} {El:Ex->bZ->List A7->Option Ex->Prop}
 (RR:Type) (inv:RR->bZ×List A7×Option Ex) (μ:RR->Nat) (h0:∃i,g=(inv i).2.2/\lC w0 fr.2 e h (inv i).1 (inv i).2.1)
 (round:∀i,bR (dz w0 QZ) (oa cf cp un fr rd (Ka cf cp un fr.1 bi' rd) bi body (inv i).1 (inv i).2.1 (inv i).2.2 λx e h g=>.ret (x,e,h,g)) λr=>match r.1 with|.normal=>∃i',r.2.2.2=(inv i').2.2/\lC w0 fr.2 r.2.1 r.2.2.1 (inv i').1 (inv i').2.1/\μ i'<μ i|x=>El x r.2.1 r.2.2.1 r.2.2.2):dz w0 QZ fr (.i body rd) e h g El:=by
 intro Qo N0 ν nV nS sl Sf lh QA hd eL eU ee M hx N hQ;obtain⟨i0,rfl,sa⟩:=h0
 let ⟨ν1,nV1,nS1,g0,g1,g2⟩:=sa Qo ν nV nS sl lh M N
 simp[lJ];refine⟨arX w0 fr.2 Qo RR inv ν,λs=>s.sl,λs=>s.lh,λs=>(inv s.i).2.2,λs=>μ s.i,⟨i0,ν1,nV1,nS1,sl,lh,g1,g2,g0⟩,rfl,rfl,rfl,λs=>?_⟩;refine C78 (R6:=Ka cf cp un fr.1 bi' rd) (Sf:=Sf) SB Su eL eU ee rfl (ags SB Su eL eU ee) body bi _ _ _ s.ν s.nV s.nS s.sl s.lh _ _ hd s.hs (hx.step s.hn) s.hh (round s.i) λx e' h' g' ν' sl' lh' nV' nS' k0 k1 k2 k3=>?_;simp[bR]at k3;cases x with
 |normal=>
   let ⟨i',nzb2,k4,k5⟩:=k3
   let ⟨ν2,nV2,nS2,k8,k6,k7⟩:=k4 Qo ν' nV' nS' sl' lh' k1 k2
   exact⟨⟨i',ν2,nV2,nS2,sl',lh',k6,k7,(s.hn.trans k0).trans k8⟩,rfl,rfl,nzb2,k5⟩
 |exit i=>exact hQ _ _ _ _ _ _ _ _ _ (s.hn.trans k0) k1 k2 k3|ret=>exact hQ _ _ _ _ _ _ _ _ _ (s.hn.trans k0) k1 k2 k3
end
section
variable {B:dB} {m:aH} {lh:List ar} {w:World}
mutual
theorem d8 (h:bf B m lh w):∀ (d:V) (x:af) (u:Value),d.fc=true->vr B.w0 lh Nu.nil d x->Dy m x u->vr w [] Nu.nil d (bS u)
 |.int ..,x,u,_,hd,U=>by simp only[vr]at hd;subst hd;simp only[Dy]at U;subst U;simp only[bS,vr]
 |.bool _,x,u,_,hd,U=>by simp only[vr]at hd;subst hd;simp only[Dy]at U;subst U;simp only[bS,vr]
 |.kb _,x,u,_,hd,U=>by simp only[vr]at hd;subst hd;simp only[Dy]at U;subst U;simp only[bS,vr]
 |.str _,x,u,_,hd,U=>by simp only[vr]at hd;subst hd;simp only[Dy]at U;subst U;simp only[bS,vr]
 |.agg _,_,_,hc,_,_=>by cases hc
 |.tup _,_,_,hc,_,_=>by cases hc
 |.fn ..,_,_,hc,_,_=>by cases hc
 |.gd ..,_,_,hc,_,_=>by cases hc
 |.yl _,_,_,hc,_,_=>by cases hc
 |.sl n f,x,u,_,hd,U=>by
   simp only[vr]at hd ⊢;obtain⟨p,c,esz,rfl,N,h3,h4,h5⟩:=hd;simp only[Dy]at U;obtain⟨At,rfl,hq⟩:=U;refine⟨At.map .g,c,esz,by cases At<;>rfl,N,h3,by cases At<;>trivial,λi hi=>?_⟩;obtain⟨p',az,rfl,g2,g3,g4⟩:=h5 i hi;obtain⟨a,us,X5,k1,k2⟩:=yK (At:=At.map λa=>a.add (i*esz)) h (by
    cases p' with
    |g a=>simp only[d6]at hq;subst hq;simp[d6,jp.add]|l k off=>simp only[d6]at hq;obtain⟨b,e1,rfl⟩:=hq;simp only[d6,jp.add];exact⟨b,e1,by simp[Addr.add]⟩) g2
   cases At with
   |none=>cases X5
   |some a0=>simp at X5;subst X5;exact⟨.g a0,_,rfl,k1,pH h (f i) az us g4 g3 k2,g4⟩
 |.sq n m f,x,u,_,hd,U=>by
   simp only[vr]at hd ⊢;obtain⟨p,c,esz,rfl,N,h3,h4,h5⟩:=hd;simp only[Dy]at U;obtain⟨At,rfl,hq⟩:=U;refine⟨At.map .g,c,esz,by cases At<;>rfl,N,h3,by cases At<;>trivial,λi hi=>?_⟩;obtain⟨p',az,rfl,g2,g3,g4⟩:=h5 i hi;obtain⟨a,us,X5,k1,k2⟩:=yK (At:=At.map λa=>a.add (i*esz)) h (by
    cases p' with
    |g a=>simp only[d6]at hq;subst hq;simp[d6,jp.add]|l k off=>simp only[d6]at hq;obtain⟨b,e1,rfl⟩:=hq;simp only[d6,jp.add];exact⟨b,e1,by simp[Addr.add]⟩) g2
   cases At with
   |none=>cases X5
   |some a0=>simp at X5;subst X5;exact⟨.g a0,_,rfl,k1,pH h (f i) az us g4 g3 k2,g4⟩
 |.pd cs,x,u,_,hd,U=>by simp only[vr]at hd ⊢;obtain⟨p,az,rfl,_,h3,h4,h5⟩:=hd;simp only[Dy]at U;obtain⟨At,rfl,hq⟩:=U;obtain⟨a,us,rfl,k1,k2⟩:=yK h hq h3;exact⟨.g a,_,rfl,trivial,k1,pH h cs az us h5 h4 k2,h5⟩
 |.pl k off,x,u,_,hd,U=>by simp only[vr]at hd;obtain⟨b,c,e,M,N⟩:=hd;cases M
 |.pe k i j,x,u,_,hd,U=>by simp only[vr]at hd;obtain⟨b,c,e,M,N⟩:=hd;cases M
 |.ss k off n c,x,u,_,hd,U=>by simp only[vr]at hd;obtain⟨b,c,e,M,N⟩:=hd;cases M
 |.gs k n,x,u,_,hd,U=>by simp only[vr]at hd;rcases hd with ⟨M,_⟩|⟨b,c,e,M,_⟩<;>cases M
 |.go k off n,x,u,_,hd,U=>by simp only[vr]at hd;rcases hd with ⟨M,_⟩|⟨b,c,e,o,M,_⟩<;>cases M
 |.ns,x,u,_,hd,U=>by simp only[vr]at hd;subst hd;simp only[Dy,d6]at U;obtain⟨At,rfl,rfl⟩:=U;simp only[bS,vr]
 |.np,x,u,_,hd,U=>by simp only[vr]at hd;subst hd;simp only[Dy,d6]at U;obtain⟨At,rfl,rfl⟩:=U;simp only[bS,vr]
 |.any,x,u,_,hd,U=>by simp only[vr]
theorem pH (h:bf B m lh w):∀ (ds:List V) (xs:List af) (us:List Value),ds.all V.fc=true->bC B.w0 lh Nu.nil ds xs->aB m xs us->bC w [] Nu.nil ds (us.map bS)
 |[],xs,us,_,hd,U=>by simp[bC]at hd;subst hd;simp[aB]at U;subst U;simp[bC,Ia]
 |d::ds,xs,us,hc,hd,U=>by simp only[Gw,Eg]at hc;simp only[bC]at hd;obtain⟨x,xs',rfl,N,h3⟩:=hd;simp only[aB]at U;obtain⟨u,us',rfl,h4,h5⟩:=U;simp only[GZ,bC];exact⟨_,_,rfl,d8 h d x u hc.1 N h4,pH h ds xs' us' hc.2 h3 h5⟩
end
mutual
theorem ahY (h:bf B m lh w):∀ (d:V) (x:af) (u:Value),vr B.w0 lh Nu.nil d x->Dy m x u->∃ x',Dy (λ_=>none) x' u/\vr w [] Nu.nil d x'
 |.agg cs,x,u,hd,U=>by simp[vr]at hd;obtain⟨az,rfl,M⟩:=hd;simp[Dy]at U;obtain⟨us,rfl,N⟩:=U;obtain⟨xs',g1,g2⟩:=lg h cs az us.toList M N;exact⟨.agg xs',by simp only[Dy];exact⟨us,rfl,g1⟩,by simp only[vr];exact⟨_,rfl,g2⟩⟩
 |.tup cs,x,u,hd,U=>by simp[vr]at hd;obtain⟨az,rfl,M⟩:=hd;simp[Dy]at U;obtain⟨us,rfl,N⟩:=U;obtain⟨xs',g1,g2⟩:=lg h cs az us.toList M N;exact⟨.tup xs',by simp only[Dy];exact⟨us,rfl,g1⟩,by simp only[vr];exact⟨_,rfl,g2⟩⟩
 |.fn f xs ys,x,u,hd,U=>by simp[vr]at hd;obtain⟨us,vs,rfl,M,N⟩:=hd;simp[Dy]at U;obtain⟨us',vs',rfl,h3,h4⟩:=U;obtain⟨az,g1,g2⟩:=lg h xs us us'.toList M h3;obtain⟨bs,g3,g4⟩:=lg h ys vs vs'.toList N h4;exact⟨.fn (.func f) az bs,by simp only[Dy];exact⟨us',vs',rfl,g1,g3⟩,by simp only[vr];exact⟨az,bs,rfl,g2,g4⟩⟩
 |.gd b v,x,u,hd,U=>by
   simp[vr]at hd;cases b with
   |true=>obtain⟨x',g1,g2⟩:=ahY h v x u (hd.1 rfl) U;exact⟨x',g1,by simp only[vr];exact⟨λ_=>g2,λe=>by cases e⟩⟩
   |false=>obtain⟨l,rfl⟩:=hd.2 rfl;simp[Dy]at U;obtain⟨vs,rfl,_⟩:=U;exact⟨.tup (vs.toList.map bS),by simp only[Dy];exact⟨vs,rfl,cw _ _⟩,by simp only[vr];exact⟨(λe=>by cases e),λ_=>⟨_,rfl⟩⟩⟩
 |.int k n,x,u,hd,U=>⟨bS u,cJ _ u,d8 h (.int k n) x u rfl hd U⟩|.bool b,x,u,hd,U=>⟨bS u,cJ _ u,d8 h (.bool b) x u rfl hd U⟩|.kb b,x,u,hd,U=>⟨bS u,cJ _ u,d8 h (.kb b) x u rfl hd U⟩|.str b,x,u,hd,U=>⟨bS u,cJ _ u,d8 h (.str b) x u rfl hd U⟩|.sl n f,x,u,hd,U=>⟨bS u,cJ _ u,d8 h (.sl n f) x u rfl hd U⟩|.sq n m f,x,u,hd,U=>⟨bS u,cJ _ u,d8 h (.sq n m f) x u rfl hd U⟩|.pd b,x,u,hd,U=>⟨bS u,cJ _ u,d8 h (.pd b) x u rfl hd U⟩|.pl k off,x,u,hd,U=>⟨bS u,cJ _ u,d8 h (.pl k off) x u rfl hd U⟩|.pe k i j,x,u,hd,U=>⟨bS u,cJ _ u,d8 h (.pe k i j) x u rfl hd U⟩|.ss k off n c,x,u,hd,U=>⟨bS u,cJ _ u,d8 h (.ss k off n c) x u rfl hd U⟩|.gs k n,x,u,hd,U=>⟨bS u,cJ _ u,d8 h (.gs k n) x u rfl hd U⟩|.ns,x,u,hd,U=>⟨bS u,cJ _ u,d8 h .ns x u rfl hd U⟩|.np,x,u,hd,U=>⟨bS u,cJ _ u,d8 h .np x u rfl hd U⟩|.any,x,u,hd,U=>⟨bS u,cJ _ u,d8 h .any x u rfl hd U⟩|.go k off n,x,u,hd,U=>⟨bS u,cJ _ u,d8 h (.go k off n) x u rfl hd U⟩|.yl l,x,u,hd,U=>⟨kj l,by simp[vr]at hd;subst hd;simp[kj,Dy]at U ⊢;exact U,by simp[vr]⟩
theorem lg (h:bf B m lh w):∀ (ds:List V) (xs:List af) (us:List Value),bC B.w0 lh Nu.nil ds xs->aB m xs us->∃ xs',aB (λ_=>none) xs' us/\bC w [] Nu.nil ds xs'
 |[],xs,us,hd,U=>by simp[bC]at hd;subst hd;simp[aB]at U;subst U;exact⟨[],by simp[aB],by simp[bC]⟩
 |d::ds,xs,us,hd,U=>by
   simp[bC]at hd;obtain⟨x,xs',rfl,N,h3⟩:=hd;simp[aB]at U;obtain⟨u,us',rfl,h4,h5⟩:=U
   let ⟨a,g1,g2⟩:=ahY h d x u N h4
   let ⟨az,g3,g4⟩:=lg h ds xs' us' h3 h5
   exact⟨a::az,by simp only[aB];exact⟨_,_,rfl,g1,g3⟩,by simp only[bC];exact⟨_,_,rfl,g2,g4⟩⟩
end
end
section
variable {w0:World} {ν:Nu} {nV nS:Nat} {h:List A7} {lh:List ar}
theorem id5 (v:V):(Ib v).fc=true:=by
 unfold Ib;cases U:v.fc with
 |true=>simpa using U|false=>rfl
theorem i18 {v:V} {a:af} (U:vr w0 lh Nu.nil v a):vr w0 lh Nu.nil (Ib v) a:=by
 unfold Ib;cases v.fc with
 |true=>exact U|false=>simp[cond,vr]
theorem tO (g:V->V) (l:List V):(l.map λv=>Ib (g v)).all V.fc=true:=by rw[JF];intro x hx;rw[List.mem_map]at hx;obtain⟨v,_,rfl⟩:=hx;exact id5 _
theorem vM {lh':List ar} {ν':Nu} {g:V->V} (hg:∀ v a,vr w0 lh ν v a->vr w0 lh' ν' (g v) a):∀ {vs:List V} {az:List af},bC w0 lh ν vs az->bC w0 lh' ν' (vs.map g) az
 |[],az,U=>by simp[bC]at U ⊢;subst U;simp[Ia,bC]
 |v::vs,az,U=>by simp only[bC]at U;obtain⟨x,xs,rfl,M,N⟩:=U;simp only[GZ,bC];exact⟨_,_,rfl,hg v x M,vM hg N⟩
theorem o4 (hh:HR w0 ν nV nS h lh):∀ (fu:Nat) (v:V) (a:af),vr w0 ν.z ν v a->vr w0 lh Nu.nil (mj h fu v) a
 |0,v,a,_=>by simp only[mj,vr]
 |fu+1,v,a,U=>by
   have ih:∀{vs:List V} {az:List af},bC w0 ν.z ν vs az->bC w0 lh Nu.nil (vs.map (mj h fu)) az:=λRZ=>vM (λv a=>o4 hh fu v a) RZ;have ihc:∀{vs:List V} {az:List af},bC w0 ν.z ν vs az->bC w0 lh Nu.nil (vs.map λv=>Ib (mj h fu v)) az:=λRZ=>vM (λv a U=>i18 (o4 hh fu v a U)) RZ;unfold mj;split
   ·simp only[vr]at U ⊢;exact U
   ·simp only[vr]at U ⊢;exact U
   ·simp only[vr]at U ⊢;exact U
   ·simp only[vr]at U ⊢;exact U
   ·rename_i n f;exact nh hh.zl _ _ (by simp only[vr]at U ⊢;exact U)
   ·rename_i n m f;exact nh hh.zl _ _ (by simp only[vr]at U ⊢;exact U)
   ·rename_i cs;exact nh hh.zl _ _ (by simp only[vr]at U ⊢;exact U)
   ·simp only[vr]at U ⊢;subst U;exact⟨none,0,0,rfl,Em _,E,trivial,λi hi=>by omega⟩
   ·simp only[vr]at U ⊢;let ⟨az,M,N⟩:=U;exact⟨az,M,ih N⟩
   ·simp only[vr]at U ⊢;let ⟨us,vs,M,N,h3⟩:=U;exact⟨us,vs,M,ih N,ih h3⟩
   ·rename_i k off
    rw[bq];split
    ·rename_i cs ty W
     rw[b5];cases hb:Nat.ble off cs.length with
     |false=>simp only[cond,vr]
     |true=>
       have Rb:=G2 hb;simp only[cond]
       let ⟨b,c0,e0,az,M,N,h3⟩:=hh.blk k _ W
       simp only[vr]at U ⊢;obtain⟨b',c',e',g1,rfl⟩:=U;rw[M]at g1;obtain⟨rfl,rfl,rfl⟩:b=b'/\c0=c'/\e0=e':=by simpa using g1
       have hl:=bV h3;refine⟨.l b off,az.drop off,rfl,by simp[Zo,N,isCells],?_,ihc (gZ _ h3),tO _ _⟩;simp only[lds,N,List.length_map,Jx];rw[E5 E,J7 (by simp;omega)]
    ·simp only[vr]
   ·rename_i k n
    rw[bq];split
    ·rename_i e n' f ty W
     cases hb:Nat.ble n n' with
     |false=>simp only[cond,vr]
     |true=>
       have Rb:=G2 hb;simp only[cond];have hb:=hh.blk k _ W;simp only[vr]at U ⊢;rcases hb with ⟨M,N⟩|⟨b,c,az,M,N,h3,h4,h5⟩
       ·rcases U with ⟨_,g2,rfl⟩|⟨b,c,e,g1,_⟩
        ·subst g2;exact⟨none,0,0,rfl,Em _,E,trivial,λi hi=>by omega⟩
        ·rw[M]at g1;cases g1
       ·rcases U with ⟨g1,_⟩|⟨b',c',e',g1,rfl,g3⟩
        ·rw[M]at g1;cases g1
        ·rw [M]at g1
         obtain⟨rfl,rfl,rfl⟩:b=b'/\c=c'/\e=e':=by simpa using g1
         refine⟨some (.l b 0),c,e,rfl,g3,E,⟨az,ty,N,GG _⟩,λi hi=>?_⟩;have Rk:i*e+e<=az.length:=by rw[h3,← GW];exact Ga e E
         refine⟨_,_,rfl,?_,ihc (h5 i E).2,tO _ _⟩;simp only[jp.add,lds,N,Gh];rw[E5 E]
    ·simp only[vr]
   ·rename_i k off n c
    rw[bq];split
    ·rename_i cs ty W
     rw[b5];cases hb:(Nat.ble n 9223372036854775807&&(Nat.ble n c&&Nat.ble (off+n*((cs.length-off) / c)) cs.length)) with
     |false=>simp only[cond,vr]
     |true=>
       simp only[Eg]at hb;have b1:=G2 hb.1;have b2:=G2 hb.2.1;have b3:=G2 hb.2.2;simp only[cond]
       let ⟨b,c0,e0,az,M,N,h3⟩:=hh.blk k _ W
       simp only[vr]at U ⊢;obtain⟨b',c',e',g1,rfl⟩:=U;rw[M]at g1;obtain⟨rfl,rfl,rfl⟩:b=b'/\c0=c'/\e0=e':=by simpa using g1
       have hl:=bV h3;refine⟨some (.l b off),c,(cs.length-off) / c,rfl,⟨b2,b2⟩,b1,⟨az,ty,N,E⟩,λi hi=>?_⟩;have Rk:off+i*((cs.length-off) / c)+(cs.length-off) / c<=cs.length:=by have:(i+1)*((cs.length-off) / c)<=n*((cs.length-off) / c):=Ga _ E;rw[GW]at this;omega
       refine⟨_,_,rfl,?_,jh _ (gZ _ (ihc h3)),R49 _ _ (tO _ _)⟩;simp only[jp.add,lds,N];rw[E5 E]
    ·simp only[vr]
   ·simp only[vr]
theorem ia0 (hz:wz ν.z lh) {v:V} {a:af} (U:vr w0 ν.z ν v a):vr w0 lh Nu.nil (Eb v) a:=by
 unfold Eb;split
 ·simp[vr]at U ⊢;exact U
 ·simp[vr]at U ⊢;exact U
 ·simp[vr]at U ⊢;exact U
 ·simp[vr]at U ⊢;exact U
 ·exact nh hz _ _ (by simp[vr]at U ⊢;exact U)
 ·exact nh hz _ _ (by simp[vr]at U ⊢;exact U)
 ·simp[vr]
theorem i10 (v:V):(Eb v).fc=true:=by cases v<;>rfl
theorem hsc (l:List V):(l.map Eb).all V.fc=true:=by rw[JF];intro x hx;rw[List.mem_map]at hx;obtain⟨v,_,rfl⟩:=hx;exact i10 _
def Ts (l:List (Nat×Nat)):Prop:=∀p,p∈l->p.1<=p.2
theorem ahl {a b:List (Nat×Nat)} (h:Ts (yx a b)):Ts a/\Ts b:=by rw[mt]at h;exact⟨λp hp=>h p (Kv _ hp),λp hp=>h p (List.mem_append_right _ hp)⟩
theorem yk {α:Type} {LP:fK} {Qe:α->Prop}:∀ {l:List (Nat×Nat)} {x:BO α},bR LP (JX l x) Qe->Ts l/\bR LP x Qe
 |[],x,h=>⟨(λp hp=>by cases hp),h⟩
 |p::l,x,h=>by
   simp only[JX,bR]at h
   let ⟨M,N⟩:=yk h.2
   refine⟨λAt hq=>?_,N⟩;rcases List.mem_cons.1 hq with rfl|hq
   ·exact G2 h.1
   ·exact M At hq
theorem D4 (hh:HR w0 ν nV nS h lh) {k n:Nat} {a:af} (hm:Ts (IE h k n)) (U:vr w0 ν.z ν (.gs k n) a):vr w0 lh Nu.nil (H9 h k n) a:=by
 unfold IE at hm;unfold H9;rw[bq]at hm ⊢;split
 ·rename_i e n' f ty W
  rw[W]at hm;have Rb:n<=n':=hm (n,n') Hw;have hb:=hh.blk k _ W;cases Nat.beq e 6 with
  |true=>exact o4 hh 11 _ a U|false=>
  show vr w0 lh Nu.nil (.sl n (Ac f)) a;simp only[vr]at U ⊢;rcases hb with ⟨M,N⟩|⟨b,c,az,M,N,h3,h4,h5⟩
  ·rcases U with ⟨_,g2,rfl⟩|⟨b,c,e,g1,_⟩
   ·subst g2;exact⟨none,0,0,rfl,Em _,E,trivial,λi hi=>by omega⟩
   ·rw[M]at g1;cases g1
  ·rcases U with ⟨g1,_⟩|⟨b',c',e',g1,rfl,g3⟩
   ·rw[M]at g1;cases g1
   ·rw [M]at g1
    obtain⟨rfl,rfl,rfl⟩:b=b'/\c=c'/\e=e':=by simpa using g1
    refine⟨some (.l b 0),c,e,rfl,g3,E,⟨az,ty,N,GG _⟩,λi hi=>?_⟩;have Rk:i*e+e<=az.length:=by rw[h3,← GW];exact Ga e E
    refine⟨_,_,rfl,?_,vM (λv a U=>ia0 hh.zl U) (h5 i E).2,hsc _⟩;simp only[jp.add,lds,N,Gh];rw[E5 E]
 ·simp[vr]
theorem i24 (hh:HR w0 ν nV nS h lh) {v:V} {a:af} (hb:Ts (aaq h v)) (U:vr w0 ν.z ν v a):vr w0 lh Nu.nil (Ih h v) a:=by
 unfold Ih;split
 ·exact D4 hh hb U
 ·exact o4 hh 11 _ a U
theorem hmn (hh:HR w0 ν nV nS h lh):∀ {vs:List V} {az:List af},Ts (FX h vs)->bC w0 ν.z ν vs az->bC w0 lh Nu.nil (vs.map (Ih h)) az
 |[],az,_,U=>by simp[bC,Ia]at U ⊢;exact U
 |v::vs,az,hb,U=>by have hb:=ahl hb;simp[bC]at U;obtain⟨x,xs,rfl,M,N⟩:=U;simp only[GZ,bC];exact⟨_,_,rfl,i24 hh hb.1 M,hmn hh hb.2 N⟩
theorem hwl (hh:HR w0 ν nV nS h lh) {v:V} {a:af} (hb:Ts (aco h v)) (U:vr w0 ν.z ν v a):vr w0 lh Nu.nil (td h v) a:=by
 unfold td;split
 ·exact D4 hh hb U
 ·simp[vr]at U ⊢
  let ⟨az,M,N⟩:=U
  exact⟨az,M,hmn hh hb N⟩
 ·exact o4 hh 12 _ a U
theorem sJ (hh:HR w0 ν nV nS h lh):∀ {vs:List V} {az:List af},Ts (re h vs)->bC w0 ν.z ν vs az->bC w0 lh Nu.nil (vs.map (td h)) az
 |[],az,_,U=>by simp[bC,Ia]at U ⊢;exact U
 |v::vs,az,hb,U=>by have hb:=ahl hb;simp[bC]at U;obtain⟨x,xs,rfl,M,N⟩:=U;simp only[GZ,bC];exact⟨_,_,rfl,hwl hh hb.1 M,sJ hh hb.2 N⟩
end
end Go.Dx
namespace Go.Sx
section
variable {P:Program} {QZ:FuncId->b6} {w0:World}
theorem iC (hS:∀ f,(QZ f).Ok P f):∀ (ops:List jq) (sl:List af) (lh:List ar) {K K':List af->List ar->Prop},(∀ s l,K s l->K' s l)->fN w0 QZ ops sl lh K->fN w0 QZ ops sl lh K'
 |[],_,_,_,_,W,h=>W _ _ h
 |o::rest,sl,lh,K,K',W,h=>by
   have ih:=λsl lh=>iC hS rest sl lh W;simp[fN]at h ⊢;split at h
   ·exact dO hS (λ_ _=>ih _ _) h
   ·split at h
    ·exact⟨λe=>dO hS (λ_ _=>ih _ _) (h.1 e),λe=>ih _ _ (h.2 e)⟩
    ·exact ih _ _ h
    ·exact ih _ _ h
    ·exact h.elim
theorem kG (hS:∀ f,(QZ f).Ok P f) {Qe:Prop}:∀ (ops:List jq) (sl:List af) (lh:List ar),fN w0 QZ ops sl lh (λ_ _=>Qe)->Qe
 |[],_,_,h=>h
 |o::rest,sl,lh,h=>by
   have ih:=λsl lh=>kG hS (Qe:=Qe) rest sl lh;simp[fN]at h;split at h
   ·exact ow hS (dO hS (λ_ _=>ih _ _) h)
   ·rename_i d want _
    split at h
    ·rename_i b _
     by_cases e:b=want
     ·exact ow hS (dO hS (λ_ _=>ih _ _) (h.1 e))
     ·exact ih _ _ (h.2 (by cases b<;>cases want<;>simp_all))
    ·exact ih _ _ h
    ·exact ih _ _ h
    ·exact h.elim
theorem hhi (hS:∀ f,(QZ f).Ok P f) {Ws:List (List Nat)} {H:Nat} {K K':List af->List ar->Prop} (W:∀ s l,K s l->K' s l):∀ (ds:List jn) (i:Nat) (sl:List af) (lh:List ar),km w0 QZ Ws H K ds i sl lh->km w0 QZ Ws H K' ds i sl lh
 |[],_,_,_,h=>W _ _ h|d::rest,i,sl,lh,h=>w8 hS (λs l=>hhi hS W rest (i+1) s l) h
theorem hez (hS:∀ f,(QZ f).Ok P f) {Ws:List (List Nat)} {H:Nat} {Qe:Prop}:∀ (ds:List jn) (i:Nat) (sl:List af) (lh:List ar),km w0 QZ Ws H (λ_ _=>Qe) ds i sl lh->Qe
 |[],_,_,_,h=>h|d::rest,i,sl,lh,h=>oO hS (nl hS (λ_=>hez hS rest (i+1) _ _) h)
theorem iL (hS:∀f,(QZ f).Ok P f) {ds:List jn} {sl:List af} {lh:List ar} {K K':List af->List ar->Prop} (W:∀s l,K s l->K' s l) (h:nP w0 QZ ds sl lh K):nP w0 QZ ds sl lh K':=⟨h.1,hhi hS W ds 0 _ _ h.2⟩
theorem mK (hS:∀f,(QZ f).Ok P f) {ds:List jn} {sl:List af} {lh:List ar} {Qe:Prop} (h:nP w0 QZ ds sl lh (λ_ _=>Qe)):Qe:=hez hS ds 0 _ _ h.2
section it
variable {l:Nat} {R6:YH}
theorem dF (hS:∀ f,(QZ f).Ok P f) (hY:∀ xs lh K K',(∀ x l,K x l->K' x l)->R6 xs lh K->R6 xs lh K'):∀ (ops:List oF) (sl:List af) (lh:List ar) (g:Option Ex) {K K':List af->List ar->Option Ex->Prop},(∀ s l g,K s l g->K' s l g)->cO w0 QZ l R6 ops sl lh g K->cO w0 QZ l R6 ops sl lh g K'
 |[],_,_,_,_,_,W,h=>W _ _ _ h
 |.op o::rest,sl,lh,g,_,_,W,h=>by simp[cO]at h ⊢;exact iC hS _ _ _ (λ_ _=>dF hS hY rest _ _ g W) h
 |.yld t d xs::rest,sl,lh,g,_,_,W,h=>by simp[cO]at h ⊢;refine⟨h.1,h.2.1,hY _ _ _ _ (λx l hx=>?_) h.2.2⟩;cases x<;>exact dF hS hY rest _ _ _ W hx
 |.yldG d want t dst xs::rest,sl,lh,g,_,_,W,h=>by
   simp only[cO]at h ⊢;cases hx:sl.getD d .any with
   |bool b=>
     simp only[hx]at h ⊢;refine⟨λe=>?_,λe=>dF hS hY rest _ _ g W (h.2 e)⟩
     let ⟨M,N,h3⟩:=h.1 e
     refine⟨M,N,hY _ _ _ _ (λx l hx=>?_) h3⟩;cases x<;>exact dF hS hY rest _ _ _ W hx
   |tup vs=>simp only[hx]at h ⊢;exact dF hS hY rest _ _ g W h|int k n=>simp only[hx]at h ⊢;exact dF hS hY rest _ _ g W h|_=>simp only[hx]at h
theorem dN (hS:∀ f,(QZ f).Ok P f) (hY:∀ xs lh K K',(∀ x l,K x l->K' x l)->R6 xs lh K->R6 xs lh K') (UT:∀ xs lh (Qe:Prop),R6 xs lh (λ_ _=>Qe)->Qe) {Qe:Prop}:∀ (ops:List oF) (sl:List af) (lh:List ar) (g:Option Ex),cO w0 QZ l R6 ops sl lh g (λ_ _ _=>Qe)->Qe
 |[],_,_,_,h=>h
 |.op o::rest,sl,lh,g,h=>by simp[cO]at h;exact kG hS _ _ _ (iC hS _ _ _ (λ_ _=>dN hS hY UT rest _ _ g) h)
 |.yld t d xs::rest,sl,lh,g,h=>by simp[cO]at h;refine UT _ _ _ (hY _ _ _ _ (λx l hx=>?_) h.2.2);cases x<;>exact dN hS hY UT rest _ _ _ hx
 |.yldG d want t dst xs::rest,sl,lh,g,h=>by
   simp only[cO]at h;cases hx:sl.getD d .any with
   |bool b=>
     simp only[hx]at h;by_cases e:b=want
     ·let ⟨M,N,h3⟩:=h.1 e
      refine UT _ _ _ (hY _ _ _ _ (λx l hx=>?_) h3);cases x<;>exact dN hS hY UT rest _ _ _ hx
     ·exact dN hS hY UT rest _ _ _ (h.2 (by cases b<;>cases want<;>simp_all))
   |tup vs=>simp only[hx]at h;exact dN hS hY UT rest _ _ _ h|int k n=>simp only[hx]at h;exact dN hS hY UT rest _ _ _ h|_=>simp only[hx]at h
theorem hs4 (hS:∀ f,(QZ f).Ok P f) (hY:∀ xs lh K K',(∀ x l,K x l->K' x l)->R6 xs lh K->R6 xs lh K'):∀ (c:jv) (sl:List af) (lh:List ar) (g:Option Ex) {Qe Q':IQ},(∀ x s l g,Qe x s l g->Q' x s l g)->lJ w0 QZ l R6 c sl lh g Qe->lJ w0 QZ l R6 c sl lh g Q':=by
 intro c;induction c with
 |reg ops=>intro sl lh g Qe Q' hq h;exact dF hS hY ops sl lh g (λ_ _ _=>hq _ _ _ _) h|draw ds=>intro sl lh g Qe Q' hq h;exact iL hS (λ_ _=>hq _ _ _ _) h|drawY ds xs=>intro sl lh g Qe Q' hq h;exact iL hS (λ_ _ h=>dF hS hY xs _ _ g (λ_ _ _=>hq _ _ _ _) h) h
 |seq a b iha ihb=>
   intro sl lh g Qe Q' hq h;refine iha sl lh g (λx s l g hx=>?_) h;cases x with
   |normal=>exact ihb _ _ _ hq hx|exit i=>exact hq _ _ _ _ hx|ret=>exact hq _ _ _ _ hx
 |cond c a b iha ihb=>
   intro sl lh g Qe Q' hq h;simp[lJ]at h ⊢;split at h
   ·exact⟨λe=>iha _ _ _ hq (h.1 e),λe=>ihb _ _ _ hq (h.2 e)⟩
   ·exact h.elim
 |block id b ih=>
   intro sl lh g Qe Q' hq h;refine ih sl lh g (λx s l g hx=>?_) h;cases x with
   |normal=>exact hq _ _ _ _ hx|ret=>exact hq _ _ _ _ hx|exit i=>simp[xz]at hx ⊢;split at hx<;>rename_i e<;>simp[e,H2,Gq]<;>exact hq _ _ _ _ hx
 |loop b ih=>
   intro sl lh g Qe Q' hq h;simp[lJ]at h ⊢
   let ⟨ι,shs,shl,shg,μ,i0,M,N,h3,hr⟩:=h
   refine⟨ι,shs,shl,shg,μ,i0,M,N,h3,λi=>ih _ _ _ (λx s l g hx=>?_) (hr i)⟩;cases x with
   |normal=>exact hx|exit i=>exact hq _ _ _ _ hx|ret=>exact hq _ _ _ _ hx
 |scope b ih=>intro sl lh g Qe Q' hq h;exact ih sl lh g hq h|skip=>intro sl lh g Qe Q' hq h;exact hq _ _ _ _ h|exit i=>intro sl lh g Qe Q' hq h;exact hq _ _ _ _ h|ret=>intro sl lh g Qe Q' hq h;exact hq _ _ _ _ h
theorem hoj (hS:∀ f,(QZ f).Ok P f) (hY:∀ xs lh K K',(∀ x l,K x l->K' x l)->R6 xs lh K->R6 xs lh K') (UT:∀ xs lh (Qe:Prop),R6 xs lh (λ_ _=>Qe)->Qe) {RJ:Prop}:∀ (c:jv) (sl:List af) (lh:List ar) (g:Option Ex) {Qe:IQ},(∀ x s l g,Qe x s l g->RJ)->lJ w0 QZ l R6 c sl lh g Qe->RJ:=by
 intro c;induction c with
 |reg ops=>intro sl lh g Qe hq h;exact dN hS hY UT ops sl lh g (dF hS hY ops sl lh g (λ_ _ _=>hq _ _ _ _) h)|draw ds=>intro sl lh g Qe hq h;exact mK hS (iL hS (K':=λ_ _=>RJ) (λ_ _=>hq _ _ _ _) h)|drawY ds xs=>intro sl lh g Qe hq h;exact mK hS (iL hS (K':=λ_ _=>RJ) (λ_ _ h=>dN hS hY UT xs _ _ g (dF hS hY xs _ _ g (λ_ _ _=>hq _ _ _ _) h)) h)
 |seq a b iha ihb=>
   intro sl lh g Qe hq h;refine iha sl lh g (λx s l g hx=>?_) h;cases x with
   |normal=>exact ihb _ _ _ hq hx|exit i=>exact hq _ _ _ _ hx|ret=>exact hq _ _ _ _ hx
 |cond c a b iha ihb=>
   intro sl lh g Qe hq h;simp[lJ]at h;split at h
   ·rename_i t _
    cases t with
    |true=>exact iha _ _ _ hq (h.1 rfl)|false=>exact ihb _ _ _ hq (h.2 rfl)
   ·exact h.elim
 |block id b ih=>
   intro sl lh g Qe hq h;refine ih sl lh g (λx s l g hx=>?_) h;cases x with
   |normal=>exact hq _ _ _ _ hx|ret=>exact hq _ _ _ _ hx|exit i=>simp[xz]at hx;split at hx<;>exact hq _ _ _ _ hx
 |loop b ih=>
   intro sl lh g Qe hq h;simp[lJ]at h
   let ⟨ι,shs,shl,shg,μ,i0,M,N,h3,hr⟩:=h
   have key:∀ k i,μ i=k->RJ:=λk=>by
    induction k using Nat.strongRecOn with
    |_ k ihk=>
      intro i hi;refine ih _ _ _ (λx s l g hx=>?_) (hr i);cases x with
      |normal=>let ⟨i',_,_,_,Qw⟩:=hx;exact ihk _ (by rw[← hi];exact Qw) i' rfl
      |exit i=>exact hq _ _ _ _ hx|ret=>exact hq _ _ _ _ hx
   exact key _ i0 rfl
 |scope b ih=>intro sl lh g Qe hq h;exact ih sl lh g hq h|skip=>intro sl lh g Qe hq h;exact hq _ _ _ _ h|exit i=>intro sl lh g Qe hq h;exact hq _ _ _ _ h|ret=>intro sl lh g Qe hq h;exact hq _ _ _ _ h
end it
theorem jy (hS:∀ f,(QZ f).Ok P f):∀ (t:OT) (sl:List af) (lh:List ar) {K K':List af->List ar->Prop},(∀ s l,K s l->K' s l)->qp w0 QZ t sl lh K->qp w0 QZ t sl lh K'
 |.done,sl,lh,K,K',W,h=>W _ _ h|.op o r,sl,lh,K,K',W,h=>iC hS [o] sl lh (λs l h=>jy hS r s l W h) h|.alt a b,sl,lh,K,K',W,h=>⟨jy hS a sl lh W h.1,jy hS b sl lh W h.2⟩
theorem lT (hS:∀ f,(QZ f).Ok P f):∀ (t:OT) (sl:List af) (lh:List ar) {RJ:Prop},qp w0 QZ t sl lh (λ_ _=>RJ)->RJ
 |.done,sl,lh,RJ,h=>h|.op o r,sl,lh,RJ,h=>kG hS [o] sl lh (iC hS [o] sl lh (K':=λ_ _=>RJ) (λs l h=>lT hS r s l h) h)|.alt a b,sl,lh,RJ,h=>lT hS a sl lh h.1
theorem hnc (hS:∀ f,(QZ f).Ok P f):∀ (c:il),(∀ (nb:Nat) (sl:List af) (lh:List ar) {Qe Q':Ex->List af->List ar->Prop},(∀ x s l,Qe x s l->Q' x s l)->cI w0 QZ nb c sl lh Qe->cI w0 QZ nb c sl lh Q') /\
 ∀(nb:Nat) (sl:List af) (lh:List ar) {Qe:Ex->List af->List ar->Prop} {RJ:Prop},(∀x s l,Qe x s l->RJ)->cI w0 QZ nb c sl lh Qe->RJ:=by
 intro c;induction c with
 |reg ops=>exact⟨λnb sl lh Qe Q' hq h=>iC hS ops sl lh (λ_ _=>hq _ _ _) h,λnb sl lh Qe RJ hq h=>kG hS ops sl lh (iC hS ops sl lh (λ_ _=>hq _ _ _) h)⟩|allo t=>exact⟨λnb sl lh Qe Q' hq h=>jy hS t sl lh (λ_ _=>hq _ _ _) h,λnb sl lh Qe RJ hq h=>lT hS t sl lh (jy hS t sl lh (K':=λ_ _=>RJ) (λ_ _=>hq _ _ _) h)⟩|alloq t=>exact⟨λnb sl lh Qe Q' hq h=>jy (rx hS) t sl lh (λ_ _=>hq _ _ _) h,λnb sl lh Qe RJ hq h=>lT (rx hS) t sl lh (jy (rx hS) t sl lh (K':=λ_ _=>RJ) (λ_ _=>hq _ _ _) h)⟩|draw ds=>exact⟨λnb sl lh Qe Q' hq h=>iL hS (λ_ _=>hq _ _ _) h,λnb sl lh Qe RJ hq h=>mK hS (iL hS (K':=λ_ _=>RJ) (λ_ _=>hq _ _ _) h)⟩
 |seq a b iha ihb=>
   refine⟨λnb sl lh Qe Q' hq h=>iha.1 nb sl lh (λx s l hx=>?_) h,λnb sl lh Qe RJ hq h=>iha.2 nb sl lh (λx s l hx=>?_) h⟩
   ·cases x with|normal=>exact ihb.1 nb _ _ hq hx|exit i=>exact hq _ _ _ hx|ret=>exact hq _ _ _ hx
   ·cases x with|normal=>exact ihb.2 nb _ _ hq hx|exit i=>exact hq _ _ _ hx|ret=>exact hq _ _ _ hx
 |cond c a b iha ihb=>
   refine⟨λnb sl lh Qe Q' hq h=>?_,λnb sl lh Qe RJ hq h=>?_⟩
   ·simp[cI]at h ⊢
    split at h
    ·exact⟨λe=>iha.1 nb _ _ hq (h.1 e),λe=>ihb.1 nb _ _ hq (h.2 e)⟩
    ·exact h.elim
   ·simp [cI]at h
    split at h
    ·rename_i t _
     cases t with
     |true=>exact iha.2 nb _ _ hq (h.1 rfl)|false=>exact ihb.2 nb _ _ hq (h.2 rfl)
    ·exact h.elim
 |block id b ih=>
   refine⟨λnb sl lh Qe Q' hq h=>ih.1 nb sl lh (λx s l hx=>?_) h,λnb sl lh Qe RJ hq h=>ih.2 nb sl lh (λx s l hx=>?_) h⟩
   ·cases x with|normal=>exact hq _ _ _ hx|ret=>exact hq _ _ _ hx|exit i=>simp[xc]at hx ⊢;split at hx<;>rename_i e<;>simp[e,H2,Gq]<;>exact hq _ _ _ hx
   ·cases x with|normal=>exact hq _ _ _ hx|ret=>exact hq _ _ _ hx|exit i=>simp[xc]at hx;split at hx<;>exact hq _ _ _ hx
 |loop b ih=>
   refine⟨λnb sl lh Qe Q' hq h=>?_,λnb sl lh Qe RJ hq h=>?_⟩
   ·simp only[cI]at h ⊢
    let ⟨ι,shs,shl,μ,i0,M,hr⟩:=h
    refine⟨ι,shs,shl,μ,i0,M,λi=>ih.1 nb _ _ (λx s l hx=>?_) (hr i)⟩;cases x with
    |normal=>exact hx|exit i=>exact hq _ _ _ hx|ret=>exact hq _ _ _ hx
   ·simp only [cI]at h
    let ⟨ι,shs,shl,μ,i0,M,hr⟩:=h
    have key:∀ k i,μ i=k->RJ:=λk=>by
     induction k using Nat.strongRecOn with
     |_ k ihk=>
       intro i hi;refine ih.2 nb _ _ (λx s l hx=>?_) (hr i);cases x with
       |normal=>let ⟨i',_,Qw⟩:=hx;exact ihk _ (by rw[← hi];exact Qw) i' rfl
       |exit i=>exact hq _ _ _ hx|ret=>exact hq _ _ _ hx
    exact key _ i0 rfl
 |scope b ih=>exact⟨λnb sl lh Qe Q' hq h=>ih.1 nb sl lh hq h,λnb sl lh Qe RJ hq h=>ih.2 nb sl lh hq h⟩|skip=>exact⟨λnb sl lh Qe Q' hq h=>hq _ _ _ h,λnb sl lh Qe RJ hq h=>hq _ _ _ h⟩|exit i=>exact⟨λnb sl lh Qe Q' hq h=>hq _ _ _ h,λnb sl lh Qe RJ hq h=>hq _ _ _ h⟩|ret=>exact⟨λnb sl lh Qe Q' hq h=>hq _ _ _ h,λnb sl lh Qe RJ hq h=>hq _ _ _ h⟩
 |range g ps asg body D7 iha ihb=>
   have hY:∀ (sl xs:List af) (lh:List ar) (K K':Ex->List ar->Prop),(∀ x l,K x l->K' x l)->(xs.length=ps.length/\cI w0 QZ lh.length asg (l9 sl ps xs) lh (vt (λsl lh'=>cI w0 QZ lh.length body sl lh' λx _ lh=>K x lh) λ_ _ _=>False))->(xs.length=ps.length/\cI w0 QZ lh.length asg (l9 sl ps xs) lh (vt (λsl lh'=>cI w0 QZ lh.length body sl lh' λx _ lh=>K' x lh) λ_ _ _=>False)):=λsl xs lh K K' W h=>by
    refine⟨h.1,iha.1 _ _ _ (λx s l hx=>?_) h.2⟩;cases x with
    |normal=>exact ihb.1 _ _ _ (λ_ _ _=>W _ _) hx|exit i=>exact hx|ret=>exact hx
   have UT:∀ (sl xs:List af) (lh:List ar) (Qe:Prop),(xs.length=ps.length/\cI w0 QZ lh.length asg (l9 sl ps xs) lh (vt (λsl lh'=>cI w0 QZ lh.length body sl lh' λ_ _ _=>Qe) λ_ _ _=>False))->Qe:=λsl xs lh Qe h=>by
    refine iha.2 _ _ _ (λx s l hx=>?_) h.2;cases x with
    |normal=>exact ihb.2 _ _ _ (λ_ _ _ h=>h) hx|exit i=>exact hx.elim|ret=>exact hx.elim
   refine⟨λnb sl lh Qe Q' hq h=>?_,λnb sl lh Qe RJ hq h=>?_⟩
   ·simp [cI]at h ⊢
    split at h
    ·split at h
     ·exact λl=>hs4 hS (λxs lh K K'=>hY sl xs lh K K') _ _ _ _ (λx s l g hx=>by cases x<;>cases g<;>first|exact hx|exact hq _ _ _ hx) (h l)
     ·exact h.elim
    ·exact h.elim
   ·simp [cI]at h
    split at h
    ·split at h
     ·exact hoj hS (λxs lh K K'=>hY sl xs lh K K') (λxs lh Qe=>UT sl xs lh Qe) _ _ _ _ (λx s l g hx=>by cases x<;>cases g<;>first|exact hx.elim|exact hq _ _ _ hx) (h 0)
     ·exact h.elim
    ·exact h.elim
theorem nL:∀ (rs:List Cv) (sl:List af) (lh:List ar) {K K':List af->Prop},(∀ vs,K vs->K' vs)->j8 w0 sl lh rs K->j8 w0 sl lh rs K'
 |[],_,_,_,_,W,h=>W _ h|.tmp t::l,sl,lh,_,_,W,h=>nL l sl lh (λ_=>W _) h
 |.cell t n::l,sl,lh,_,_,W,h=>by
   simp[j8]at h ⊢;split at h
   ·split at h
    ·let ⟨v,M,N⟩:=h;exact⟨v,M,nL l sl lh (λ_=>W _) N⟩
    ·let ⟨v,M,N⟩:=h;exact⟨v,M,nL l sl lh (λ_=>W _) N⟩
   ·exact h.elim
theorem kE {RJ:Prop}:∀ (rs:List Cv) (sl:List af) (lh:List ar),j8 w0 sl lh rs (λ_=>RJ)->RJ
 |[],_,_,h=>h|.tmp t::l,sl,lh,h=>kE l sl lh h
 |.cell t n::l,sl,lh,h=>by
   simp only[j8]at h;split at h
   ·split at h
    ·let ⟨v,M,N⟩:=h;exact kE l sl lh N
    ·let ⟨v,M,N⟩:=h;exact kE l sl lh N
   ·exact h.elim
def O3 (QZ:FuncId->b6) (sf:aO):b6:=λw0 args lh K=>IH w0 QZ sf args lh K
theorem yaC {BN : List TypeId} {D7 : List jc} {f : FuncId} {fn : Func} {sf : aO} (hS : ∀ g, (QZ g).Ok P g) (hE : ∀ t ∈ BN, dw P t) (hI : mi P BN D7) (hf : P.funcs[f]? = some fn) (hn : (fn.name == "runtime.NumGoroutine") = false) (hc : eN P BN D7 fn = some sf) : (O3 QZ sf).Ok P f := by
 have mono:∀ w0 args lh K K',(∀ r l,K r l->K' r l)->O3 QZ sf w0 args lh K->O3 QZ sf w0 args lh K':=λw0 args lh K K' W h=>
  (hnc hS sf.body).1 _ _ _ (λx s l hx=>by cases x<;>first|exact hx|exact nL _ _ _ (λ_=>W _ _) hx) h
 refine⟨pX hS hE hI hf hn hc λw0 args lh K _ _ h=>?_,mono,λw0 args lh Qe h=>(hnc hS sf.body).2 _ _ _ (λx s l hx=>by cases x<;>first|exact hx.elim|exact kE _ _ _ hx) h⟩
 exact mono w0 args lh K _ (λr l W=>⟨r,l,.inl ⟨rfl,by unfold mY;exact⟨.inr rfl,by simp[mY]⟩⟩,W⟩) h
end
end Go.Sx
namespace Go.Dx
open Go.Sx
mutual
def dc:V->af
 |.int k n=>.int k n|.bool b=>.bool b|.kb b=>.bool b|.str s=>.str s|.agg cs=>.agg (dj cs)|.tup cs=>.tup (dj cs)|.sl n f=>.fn (.func 0) [] ((List.range n).map λi=>.agg (dj (f i)))|_=>.any
def dj:List V->List af
 |[]=>[]|v::vs=>dc v::dj vs
end
section
variable {w0:World} {lh:List ar} {ν:Nu}
theorem nE:∀ {v:V},bO (dc v)=true->∀ a,vr w0 lh ν v a↔a=dc v
 |.int ..,_,a=>by simp[vr,dc]
 |.bool _,_,a=>by simp[vr,dc]
 |.kb _,_,a=>by simp[vr,dc]
 |.str _,_,a=>by simp[vr,dc]
 |.agg _,h,_=>by simp[dc,bO]at h
 |.tup _,h,_=>by simp[dc,bO]at h
 |.fn ..,h,_=>by simp[dc,bO]at h
 |.sl ..,h,_=>by simp[dc,bO]at h
 |.pd ..,h,_=>by simp[dc,bO]at h
 |.pl ..,h,_=>by simp[dc,bO]at h
 |.pe ..,h,_=>by simp[dc,bO]at h
 |.ss ..,h,_=>by simp[dc,bO]at h
 |.gs ..,h,_=>by simp[dc,bO]at h
 |.ns,h,_=>by simp[dc,bO]at h
 |.np,h,_=>by simp[dc,bO]at h
 |.any,h,_=>by simp[dc,bO]at h
 |.gd ..,h,_=>by simp[dc,bO]at h
 |.yl _,h,_=>by simp[dc,bO]at h
 |.go ..,h,_=>by simp[dc,bO]at h
 |.sq ..,h,_=>by simp[dc,bO]at h
theorem fP:∀ {vs:List V},(dj vs).all bO=true->∀ az,bC w0 lh ν vs az↔az=dj vs
 |[],_,az=>by simp[bC,dj]
 |v::vs,h,az=>by
   simp only[dj,Gw,Eg]at h;simp only[bC,dj];constructor
   ·rintro⟨x,xs,rfl,M,N⟩;rw[(nE h.1 x).1 M,(fP h.2 xs).1 N]
   ·rintro rfl;exact⟨_,_,rfl,(nE h.1 _).2 rfl,(fP h.2 _).2 rfl⟩
theorem rb {v:V} (h:(match dc v with|.agg ds=>ds.all bO|a=>bO a)=true) (a:af):vr w0 lh ν v a↔a=dc v:=by
 cases v with
 |agg cs=>
   simp only[dc]at h;simp only[vr,dc];constructor
   ·rintro⟨az,rfl,M⟩;rw[(fP h az).1 M]
   ·rintro rfl;exact⟨_,rfl,(fP h _).2 rfl⟩
 |_=>first|exact nE (by simpa[dc] using h) a|(simp[dc,bO]at h)
theorem oq:∀ {vs:List V},((dj vs).all λ|.agg ds=>ds.all bO|a=>bO a)=true->∀ az,bC w0 lh ν vs az↔az=dj vs
 |[],_,az=>by simp[bC,dj]
 |v::vs,h,az=>by
   simp only[dj,Gw,Eg]at h;simp only[bC,dj];constructor
   ·rintro⟨x,xs,rfl,M,N⟩;rw[(rb h.1 x).1 M,(oq h.2 xs).1 N]
   ·rintro rfl;exact⟨_,_,rfl,(rb h.1 _).2 rfl,(oq h.2 _).2 rfl⟩
theorem Ap {v:V} (h:plain (dc v)=true) (a:af):vr w0 lh ν v a↔a=dc v:=by
 cases v with
 |tup cs=>
   simp only[dc,plain]at h;simp only[vr,dc];constructor
   ·rintro⟨az,rfl,M⟩;rw[(oq h az).1 M]
   ·rintro rfl;exact⟨_,rfl,(oq h _).2 rfl⟩
 |agg cs=>exact rb (by simpa[dc,plain] using h) a|_=>first|exact nE (by simpa[dc,plain] using h) a|(simp[dc,plain,bO]at h)
end
theorem xu:∀ vs:List V,(dj vs).length=vs.length
 |[]=>by simp[dj]
 |v::vs=>by simp[dj,xu vs]
theorem GJ {n m:Nat} {f g:bk} (h:dc (.sl n f)=dc (.sl m g)):n=m/\∀i,i<n->dj (f i)=dj (g i):=by simp[dc,af.fn.injEq,GQ]at h;have hl:=congrArg List.length h;simp[List.length_map,List.length_range]at hl;subst hl;refine⟨rfl,λi hi=>?_⟩;have:=congrArg (λl=>l[i]?) h;simpa[hi] using this
def qL:V->Option (Nat×(Nat->List V))
 |.sl n f=>some (n,f)|.tup (.sl n f::_)=>some (n,f)|_=>none
def FC:V->List V
 |.tup (_::vs)=>vs|_=>[]
def iza21 (v:V):V->V
 |.tup (_::vs)=>.tup (v::vs)|_=>v
def qN (a:af):V->af
 |.tup (_::vs)=>.tup (a::dj vs)|_=>a
theorem hi' {r:V} {n:Nat} {f:bk} (h:qL r=some (n,f)):r=.sl n f∨∃ vs,r=.tup (.sl n f::vs):=by
 unfold qL at h;split at h
 ·cases h;exact .inl rfl
 ·cases h;exact .inr ⟨_,rfl⟩
 ·cases h
def WX (e:Nat) (r:V):Prop:=∃n f,qL r=some (n,f)/\n<=9223372036854775807/\(∀i,i<n->nM e (f i)=true/\(dj (f i)).all bO=true)/\(dj (FC r)).all bO=true
def KF (e:Nat) (ty:TypeId) (nb:Nat) (lh:List ar) (n:Nat) (f:bk) (x:af):Prop :=
 (n=0/\x=.slice none 0 0)∨∃b c az,nb<=b/\lh[b]? = some (.cells az ty)/\x=.slice (some (.l b 0)) n c/\az.length=c*e/\n<=c/\∀i,i<n->(az.drop (i*e)).take e=dj (f i)
theorem Aq {m m':aH} {x x':af} {r:V} {n:Nat} {f:bk} {v:Value} (hr:qL r=some (n,f)) (hs:(dj (FC r)).all bO=true) (hx:∀ u,Dy m x u->Dy m' x' u) (h:Dy m (qN x r) v):Dy m' (qN x' r) v:=by
 rcases hi' hr with rfl|⟨vs,rfl⟩
 ·exact hx v h
 ·simp[qN,Dy]at h ⊢
  obtain⟨us,rfl,N⟩:=h;refine⟨us,rfl,?_⟩;simp[aB]at N ⊢
  let ⟨u,us',e,h3,h4⟩:=N
  exact⟨u,us',e,hx u h3,kc hs h4⟩
theorem A4 {e:Nat} {f:bk}:∀ {n:Nat},(∀ i,i<n->(dj (f i)).length=e)->((List.range n).flatMap λi=>dj (f i)).length=n*e/\∀ i,i<n->(((List.range n).flatMap λi=>dj (f i)).drop (i*e)).take e=dj (f i)
 |0,_=>⟨av,λi hi=>by omega⟩
 |n+1,h=>by
   let ⟨M,N⟩:=A4 (n:=n) λi hi=>h i E
   rw[List.range_succ,List.flatMap_append];simp only[List.flatMap_cons,List.flatMap_nil,LK];have hn:=h n E;refine⟨by rw[HP,M,hn,GW],λi hi=>?_⟩;by_cases e1:i=n
   ·subst e1;rw[MM E,List.drop_of_length_le E,List.nil_append,J7 E]
   ·have Rb:i*e+e<=n*e:=by rw[← GW];exact Ga e E
    rw[MM E,Jg (by rw[Jx];omega)];exact N i E
theorem hnp {α:Type} {l l':List α} {Qo a e:Nat} (h:l.take Qo=l'.take Qo) (ha:a+e<=Qo):(l.drop a).take e=(l'.drop a).take e:=by
 have key:∀l:List α,(l.drop a).take e=((l.take Qo).drop a).take e:=λl=>by rw[KH,IW,JG E]
 rw[key l,key l',h]
theorem hfl {az:List af} {e:Nat}:∀ {n:Nat},(∀ i,i<n->((az.drop (i*e)).take e).all bO=true)->(az.take (n*e)).all bO=true
 |0,_=>by simp
 |n+1,h=>by rw[GW,List.take_add,List.all_append,hfl λi hi=>h i E,h n E];rfl
theorem hjp {m:aH}:∀ vs:List Value,aB m (List.replicate vs.length .any) vs
 |[]=>by simp[aB]
 |v::vs=>by simp only[HC,J8,aB];exact⟨v,vs,rfl,trivial,hjp vs⟩
theorem hs3 {B:dB} {m:aH} {lh:List ar} {w:World} (h:bf B m lh w) {b:Nat} {az:List af} {vs:Array Value} {ty:TypeId} (hb:w.heap[b]? = some (.cells vs ty (0,0)))
 (hs:aB (λk=>if k=lh.length then some b else m k) az vs.toList) (h0:B.w0.heap.size<=b) (M:B.wf.heap.size<=b) (hn:∀k b',m k=some b'->b'≠b):bf B (λk=>if k=lh.length then some b else m k) (lh++[.cells az ty]) w/\m.le (λk=>if k=lh.length then some b else m k):=by
 have Rb:m.le (λk=>if k=lh.length then some b else m k):=λk x W=>by
  have:k≠lh.length:=λe=>by rw[e,h.dom _ (Em _)]at W;cases W
  simp[DX this];exact W
 have hget:∀ k cs ty',(lh++[ar.cells az ty])[k]? = some (.cells cs ty')->(k=lh.length/\cs=az/\ty'=ty)∨(k<lh.length/\lh[k]? = some (.cells cs ty')):=λk cs ty' W=>by
  rw[HO]at W;split at W
  ·rename_i Qw;exact .inr ⟨Qw,W⟩
  ·rename_i Ta
   have:k-lh.length=0:=by apply Classical.byContradiction;intro SQ;rw[GE (by simp;omega)]at W;cases W
   rw[this]at W;simp[Hc,Et,ar.cells.injEq]at W;exact .inl ⟨E,W.1.symm,W.2.symm⟩
 refine⟨⟨h.os,h.tape,h.output,h.size,h.old,h.fsize,h.kept,λk cs ty' W=>?_,λk k' b' cs cs' ty1 En W SP hm Uq=>?_,λk W=>?_,λk W=>?_,λk b' W=>?_⟩,Rb⟩
 ·rcases hget k cs ty' W with ⟨rfl,rfl,rfl⟩|⟨Qw,W⟩
  ·exact⟨b,vs,av,hs,hb,h0,.inl M⟩
  ·let ⟨b',vs',g1,g2,g3,g4,g5⟩:=h.loc k cs ty' W
   exact⟨b',vs',Rb _ _ g1,cW Rb _ _ g2,g3,g4,g5⟩
 ·rcases hget k cs ty1 W with ⟨e1,_,_⟩|⟨l1,g1⟩<;>rcases hget k' cs' En SP with ⟨e2,_,_⟩|⟨l2,g2⟩
  ·omega
  ·simp[e1,H2]at hm;simp[DX (JI l2)]at Uq;cases hm;exact(hn _ _ Uq rfl).elim
  ·simp[e2,H2]at Uq;simp[DX (JI l1)]at hm;cases Uq;exact(hn _ _ hm rfl).elim
  ·simp[DX (JI l1)]at hm;simp[DX (JI l2)]at Uq;exact h.inj k k' b' cs cs' ty1 En g1 g2 hm Uq
 ·simp[HP,HC,Hs]at W;simp[DX (show k≠lh.length by omega)];exact h.dom k E
 ·rw [HO]at W
  split at W
  ·rename_i Qw;simp[DX (JI Qw)];exact h.dead k W
  ·rename_i Ta
   have:k-lh.length=0:=by apply Classical.byContradiction;intro SQ;rw[GE (by simp;omega)]at W;cases W
   rw[this]at W;simp at W
 ·by_cases e1:k=lh.length
  ·simp[e1,H2,Et]at W;subst W;exact(Array.getElem?_eq_some_iff.1 hb).1
  ·simp[DX e1]at W;exact h.rng k b' W
abbrev aD:=List V->Option ((List V×List V)×Prop×V)
def JY (r:V):Prop:=∀(w0:World) (lh:List ar),∃x new,vr w0 (List.replicate lh.length .dead++new) Nu.nil r x
inductive NA where|con (C:aD)|conN (C:aD) (h:∀ds d p r,C ds=some (d,p,r)->d.1=d.2->p->JY r)|conZ (C:aD) (h:∀ds d p r,C ds=some (d,p,r)->d.1=d.2->p->∀w0 lh args,bC w0 lh Nu.nil ds args->∃x new,vr w0 (lh++new) Nu.nil r x)|inl (sf:aO) (un:l8)
abbrev bm:=List (FuncId×NA)
def kA:bm->FuncId->Option NA
 |[],_=>none|(k,c)::l,f=>cond (Nat.beq f k) (some c) (kA l f)
def vP (C:aD):b6:=λw0 args lh K=>∃ds d p r,bC w0 lh Nu.nil ds args/\C ds=some (d,p,r)/\(d.1=d.2/\p)/\plain (dc r)=true/\K (dc r) lh
def vL (e:Nat) (ty:TypeId) (C:aD):b6:=λw0 args lh K=>∃ds d p r n f,bC w0 lh Nu.nil ds args/\C ds=some (d,p,r)/\(d.1=d.2/\p)/\qL r=some (n,f)/\WX e r/\∀x new,KF e ty lh.length (lh++new) n f x->K (qN x r) (lh++new)
def vN (C:aD):b6:=λw0 args lh K=>∃ds d p r,bC w0 lh Nu.nil ds args/\C ds=some (d,p,r)/\(d.1=d.2/\p)/\JY r/\∀x new,vr w0 (List.replicate lh.length .dead++new) Nu.nil r x->K x (lh++new)
def vZ (C:aD):b6:=λw0 args lh K=>∃ds d p r X,bC w0 (hide X lh) Nu.nil ds args/\(∀k,k∉X->isCells lh[k]? = true∨lh.length<=k)/\C ds=some (d,p,r)/\(d.1=d.2/\p)/\(∃x new,vr w0 (hide X lh++new) Nu.nil r x)/\∀x new,vr w0 (hide X lh++new) Nu.nil r x->K x (lh++new)
def SV (ct:bm):DK
 |0,f=>match kA ct f with|some (.con C)=>vP C|some (.conN C _)=>vN C|some (.conZ C _)=>vZ C|_=>Nr
 |n+1,f=>match kA ct f with|some (.con C)=>vP C|some (.conN C _)=>vN C|some (.conZ C _)=>vZ C|some (.inl sf _)=>O3 (SV ct n) sf|none=>Nr
section
variable {α:Type}
def Dh (C:aD) (vs:List V) (h:List A7) (K:V->BO α):BO α:=match C (vs.map (td h)) with|none=>.fail 81|some (d,p,r)=>.obq d.1 d.2 (.obp p (.ob (plain (dc r)) (JX (re h vs) (K r))))
def xp (C:aD) (vs:List V) (h:List A7) (K:V->BO α):BO α:=match C (vs.map (td h)) with|none=>.fail 86|some (d,p,r)=>.obq d.1 d.2 (.obp p (JX (re h vs) (K r)))
mutual
def oz:V->Bool
 |.int ..|.bool _|.kb _|.str _|.sl ..|.sq ..|.pd _|.ns|.np|.any=>true|.agg cs|.tup cs=>xQ cs|_=>false
def xQ:List V->Bool
 |[]=>true|v::vs=>oz v&&xQ vs
end
def xT (C:aD) (vs:List V) (h:List A7) (K:V->BO α):BO α:=match C vs with|none=>.fail 87|some (d,p,r)=>.obq d.1 d.2 (.obp p (.ob (xQ vs) (K r)))
def nN (ct:bm):CP α:=λAt f vs h K=>match kA ct f with|some (.con C)=>Dh C vs h K|some (.conN C _)=>cond At (xp C vs h K) (.fail 80)|some (.conZ C _)=>cond At (xT C vs h K) (.fail 80)|_=>.fail 80
def oy (ct:bm):Nat->CF α
 |0,f,vs,h,K=>match kA ct f with
   |some (.con C)=>Dh C vs h λv=>K v h
   |some (.conN C _)=>xp C vs h λv=>K v h
   |some (.conZ C _)=>xT C vs h λv=>K v h
   |_=>.fail 82
 |n+1,f,vs,h,K=>match kA ct f with
   |some (.con C)=>Dh C vs h λv=>K v h
   |some (.conN C _)=>xp C vs h λv=>K v h
   |some (.conZ C _)=>xT C vs h λv=>K v h
   |some (.inl sf un)=>oE (oy ct n) (nN ct) un n sf vs h K|none=>.fail 83
theorem sj {w0:World} {LP:fK} {C:aD} {vs:List V} {h:List A7} {K:V->BO α} {Qe:α->Prop} {ν:Nu} {nV nS:Nat} {args:List af} {lh:List ar} {KA:af->List ar->Prop} (U:bC w0 ν.z ν vs args) (hh:HR w0 ν nV nS h lh) (hs:bR LP (Dh C vs h K) Qe)
 (hK:∀v a,vr w0 ν.z ν v a->bR LP (K v) Qe->KA a lh):vP C w0 args lh KA:=by
 unfold Dh at hs;split at hs
 ·exact hs.elim
 ·rename_i d p r hr
  simp[bR]at hs
  let ⟨hb,Yj⟩:=yk hs.2.2.2
  exact⟨_,d,p,r,sJ hh hb U,hr,⟨hs.1,hs.2.1⟩,hs.2.2.1,hK r (dc r) ((Ap hs.2.2.1 _).2 rfl) Yj⟩
theorem tY {w0:World} {LP:fK} {C:aD} (hC:∀ ds d p r,C ds=some (d,p,r)->d.1=d.2->p->JY r) {vs:List V} {h:List A7} {K:V->BO α} {Qe:α->Prop} {ν:Nu} {nV nS:Nat} {args:List af} {lh:List ar} {KA:af->List ar->Prop} (U:bC w0 ν.z ν vs args) (hh:HR w0 ν nV nS h lh) (hs:bR LP (xp C vs h K) Qe)
 (hK:∀v ν' a lh',(∃t,lh'=lh++t)->ν.sub ν'->HR w0 ν' nV nS h lh'->vr w0 ν'.z ν' v a->bR LP (K v) Qe->KA a lh'):vN C w0 args lh KA:=by
 unfold xp at hs;split at hs
 ·exact hs.elim
 ·rename_i d p r hr
  simp[bR]at hs
  let ⟨hb,Yj⟩:=yk hs.2.2
  refine⟨_,d,p,r,sJ hh hb U,hr,⟨hs.1,hs.2.1⟩,hC _ _ _ _ hr hs.1 hs.2.1,λx new hx=>?_⟩;have hz:∀k,k<lh.length->((List.range lh.length).map (λk=>(ν.z[k]?).getD ar.dead)++new)[k]? = some ((ν.z[k]?).getD .dead):=λk W=>by rw[Fp (by simpa using W)];simp[W]
  have Wc:∀k,lh.length<=k->((List.range lh.length).map (λk=>(ν.z[k]?).getD ar.dead)++new)[k]? = new[k-lh.length]? := λk W=>by rw[GY (by simpa using W)];simp
  have hsub:ν.sub ⟨ν.m,(List.range lh.length).map (λk=>(ν.z[k]?).getD ar.dead)++new⟩:=⟨λ_ _ h=>h,λk az ty W=>by have g:=hh.zl k az ty W;have Qw:=(List.getElem?_eq_some_iff.1 g).1;show((List.range lh.length).map (λk=>(ν.z[k]?).getD ar.dead)++new)[k]? = _;rw[hz k Qw,W];rfl⟩;refine hK r _ x _ ⟨new,rfl⟩ hsub ⟨λk o W=>?_,hh.inj,hh.dom,λk S W=>by rw[HP];exact Ho (hh.rng k S W) E,λj az ty hj=>?_,λk S hl W=>?_⟩ ?_ Yj
  ·by_cases hd:o=.dead
   ·subst hd
    let ⟨g1,g2,g3⟩:=hh.blk k _ W
    exact⟨g1,g2,by rw[Fp (List.getElem?_eq_some_iff.1 g3).1];exact g3⟩
   ·exact dT hsub hd (λb az ty' g1 _=>by rw[Fp (List.getElem?_eq_some_iff.1 g1).1];exact g1) (hh.blk k _ W)
  ·by_cases Qw:j<lh.length
   ·rw [hz j Qw]at hj
    cases hg:ν.z[j]? with
    |none=>rw[hg]at hj;cases hj
    |some o=>rw[hg]at hj;simp[LX,Et]at hj;subst hj;rw[Fp Qw];exact hh.zl j az ty hg
   ·rw[Wc j E]at hj;rw[GY E];exact hj
  ·have Qw:=hh.rng k S W
   have:=hh.zn k S hl W;show isCells ((List.range lh.length).map (λk=>(ν.z[k]?).getD ar.dead)++new)[S.1]? = false;rw[hz _ Qw];cases hg:ν.z[S.1]? with
   |none=>rfl|some o=>rw[hg]at this;exact this
  ·refine pB (λk x h=>by cases h) r x (nh (λk az ty W=>?_) r x hx)
   by_cases Qw:k<lh.length
   ·rw[Fp (by simpa using Qw)]at W;simp[Qw]at W
   ·rw[GY (by simp;omega)]at W;rw[Wc k E];simpa using W
mutual
theorem hv0 {w0:World} {lh:List ar} {ν:Nu}:∀ (v:V) (a:af),oz v=true->vr w0 lh ν v a->vr w0 lh Nu.nil v a
 |.int ..,a,_,h=>by simp[vr]at h ⊢;exact h
 |.bool _,a,_,h=>by simp[vr]at h ⊢;exact h
 |.kb _,a,_,h=>by simp[vr]at h ⊢;exact h
 |.str _,a,_,h=>by simp[vr]at h ⊢;exact h
 |.sl ..,a,_,h=>by simp[vr]at h ⊢;exact h
 |.sq ..,a,_,h=>by simp[vr]at h ⊢;exact h
 |.pd _,a,_,h=>by simp[vr]at h ⊢;exact h
 |.ns,a,_,h=>by simp[vr]at h ⊢;exact h
 |.np,a,_,h=>by simp[vr]at h ⊢;exact h
 |.any,a,_,h=>by simp[vr]
 |.agg cs,a,hn,h=>by simp[vr]at h ⊢;let ⟨az,e,h⟩:=h;exact⟨az,e,qo cs az (by simpa[oz] using hn) h⟩
 |.tup cs,a,hn,h=>by simp[vr]at h ⊢;let ⟨az,e,h⟩:=h;exact⟨az,e,qo cs az (by simpa[oz] using hn) h⟩
 |.fn ..,a,hn,h=>by simp[oz]at hn
 |.pl ..,a,hn,h=>by simp[oz]at hn
 |.pe ..,a,hn,h=>by simp[oz]at hn
 |.ss ..,a,hn,h=>by simp[oz]at hn
 |.gs ..,a,hn,h=>by simp[oz]at hn
 |.gd ..,a,hn,h=>by simp[oz]at hn
 |.yl ..,a,hn,h=>by simp[oz]at hn
 |.go ..,a,hn,h=>by simp[oz]at hn
theorem qo {w0:World} {lh:List ar} {ν:Nu}:∀ (vs:List V) (az:List af),xQ vs=true->bC w0 lh ν vs az->bC w0 lh Nu.nil vs az
 |[],az,_,h=>by simp[bC]at h ⊢;exact h
 |v::vs,az,hn,h=>by
   simp[xQ,Eg]at hn;simp[bC]at h ⊢
   let ⟨x,xs,e,M,N⟩:=h
   exact⟨x,xs,e,hv0 v x hn.1 M,qo vs xs hn.2 N⟩
end
theorem tu {w0:World} {LP:fK} {C:aD} (hC:∀ ds d p r,C ds=some (d,p,r)->d.1=d.2->p->∀ w0 lh args,bC w0 lh Nu.nil ds args->∃ x new,vr w0 (lh++new) Nu.nil r x) {vs:List V} {h:List A7} {K:V->BO α} {Qe:α->Prop} {ν:Nu} {nV nS:Nat} {args:List af} {lh:List ar} {KA:af->List ar->Prop} (U:bC w0 ν.z ν vs args) (hh:HR w0 ν nV nS h lh) (hs:bR LP (xT C vs h K) Qe)
 (hK:∀v ν' a lh',(∃t,lh'=lh++t)->ν.sub ν'->HR w0 ν' nV nS h lh'->vr w0 ν'.z ν' v a->bR LP (K v) Qe->KA a lh'):vZ C w0 args lh KA:=by
 unfold xT at hs;split at hs
 ·exact hs.elim
 ·rename_i d p r hr
  simp[bR]at hs
  let ⟨UL,UM,Xf,Yj⟩:=hs
  have hX:∀k,k∈((List.range lh.length).filter λk=>!isCells ν.z[k]?)↔k<lh.length/\isCells ν.z[k]? = false:=λk=>by simp
  have Xh:wz ν.z (hide ((List.range lh.length).filter λk=>!isCells ν.z[k]?) lh):=λk az ty W=>by rw[Go.Sx.hide_get,DX (λhm=>by have:=((hX k).1 hm).2;rw[W]at this;simp[isCells]at this)];exact hh.zl k az ty W
  have ha:bC w0 (hide ((List.range lh.length).filter λk=>!isCells ν.z[k]?) lh) Nu.nil vs args:=lB Xh vs args (qo vs args Xf U);refine⟨vs,d,p,r,_,ha,λk W=>?_,hr,⟨UL,UM⟩,hC _ _ _ _ hr UL UM _ _ _ ha,λx new hx=>?_⟩
  ·rcases Hl k lh.length with Qw|Ta
   ·left
    cases hi:isCells ν.z[k]? with
    |false=>exact(W ((hX k).2 ⟨Qw,hi⟩)).elim
    |true=>
      cases hz:ν.z[k]? with
      |none=>rw[hz]at hi;cases hi
      |some o=>
        rw[hz]at hi;cases o with
        |cells az ty=>rw[hh.zl k az ty hz];rfl|_=>cases hi
   ·exact .inr Ta
  have hz:∀k,k<lh.length->((List.range lh.length).map (λk=>(ν.z[k]?).getD ar.dead)++new)[k]? = some ((ν.z[k]?).getD .dead):=λk W=>by rw[Fp (by simpa using W)];simp[W]
  have Wc:∀k,lh.length<=k->((List.range lh.length).map (λk=>(ν.z[k]?).getD ar.dead)++new)[k]? = new[k-lh.length]? := λk W=>by rw[GY (by simpa using W)];simp
  have hsub:ν.sub ⟨ν.m,(List.range lh.length).map (λk=>(ν.z[k]?).getD ar.dead)++new⟩:=⟨λ_ _ h=>h,λk az ty W=>by have g:=hh.zl k az ty W;have Qw:=(List.getElem?_eq_some_iff.1 g).1;show((List.range lh.length).map (λk=>(ν.z[k]?).getD ar.dead)++new)[k]? = _;rw[hz k Qw,W];rfl⟩;refine hK r _ x _ ⟨new,rfl⟩ hsub ⟨λk o W=>?_,hh.inj,hh.dom,λk S W=>by rw[HP];exact Ho (hh.rng k S W) E,λj az ty hj=>?_,λk S hl W=>?_⟩ ?_ Yj
  ·by_cases hd:o=.dead
   ·subst hd
    let ⟨g1,g2,g3⟩:=hh.blk k _ W
    exact⟨g1,g2,by rw[Fp (List.getElem?_eq_some_iff.1 g3).1];exact g3⟩
   ·exact dT hsub hd (λb az ty' g1 _=>by rw[Fp (List.getElem?_eq_some_iff.1 g1).1];exact g1) (hh.blk k _ W)
  ·by_cases Qw:j<lh.length
   ·rw [hz j Qw]at hj
    cases hg:ν.z[j]? with
    |none=>rw[hg]at hj;cases hj
    |some o=>rw[hg]at hj;simp[LX,Et]at hj;subst hj;rw[Fp Qw];exact hh.zl j az ty hg
   ·rw[Wc j E]at hj;rw[GY E];exact hj
  ·have Qw:=hh.rng k S W
   have:=hh.zn k S hl W;show isCells ((List.range lh.length).map (λk=>(ν.z[k]?).getD ar.dead)++new)[S.1]? = false;rw[hz _ Qw];cases hg:ν.z[S.1]? with
   |none=>rfl|some o=>rw[hg]at this;exact this
  ·refine pB (λk x h=>by cases h) r x (nh (λk az ty W=>?_) r x hx)
   by_cases Qw:k<lh.length
   ·rw [Fp (by rw[Go.Sx.hide_length];exact Qw),Go.Sx.hide_get]at W
    split at W
    ·cases hg:lh[k]? <;> rw[hg]at W<;>cases W
    ·rename_i hm
     rw[hz k Qw];cases hi:isCells ν.z[k]? with
     |false=>exact(hm ((hX k).2 ⟨Qw,hi⟩)).elim
     |true=>
       cases hg:ν.z[k]? with
       |none=>rw[hg]at hi;cases hi
       |some o=>
         rw[hg]at hi;cases o with
         |cells as' ty'=>have:=hh.zl k as' ty' hg;rw[W]at this;cases this;rfl|_=>cases hi
   ·rw[GY (by rw[Go.Sx.hide_length];omega),Go.Sx.hide_length]at W;rw[Wc k E];exact W
theorem fh1 {ct:bm} {lv:Nat} {f:FuncId} {C:aD} (hC:kA ct f=some (.con C)):SV ct lv f=vP C:=by cases lv<;>simp[SV,hC]
theorem smL {ct:bm} {lv:Nat} {f:FuncId} {C:aD} {h} (hC:kA ct f=some (.conN C h)):SV ct lv f=vN C:=by cases lv<;>simp[SV,hC]
theorem sho {ct:bm} {lv:Nat} {f:FuncId} {C:aD} {h} (hC:kA ct f=some (.conZ C h)):SV ct lv f=vZ C:=by cases lv<;>simp[SV,hC]
theorem qi (w0:World) (ct:bm) (LP:fK) (lv:Nat):xf w0 (SV ct lv) LP (nN (α:=α) ct):=by
 refine⟨?_,?_⟩
 ·intro f vs h K Qe ν nV nS args lh KA U hh hs hK
  unfold nN at hs;split at hs
  ·rename_i C hC;rw[fh1 hC];exact sj U hh hs hK
  ·exact hs.elim
  ·exact hs.elim
  ·exact hs.elim
 ·intro f vs h K Qe ν nV nS args lh KA U hh hs hK
  unfold nN at hs;unfold yS;dsimp only at hs;split at hs
  ·rename_i C hC;rw[fh1 hC];exact sj U hh hs λv a M N=>⟨⟨[],av⟩,hK v h ν a lh (λe=>by cases e) (Nu.sub_refl ν) hh M N⟩
  ·rename_i C qw hC;rw[smL hC];exact tY qw U hh hs λv ν' a lh' h0 M N h3 h4=>⟨h0,hK v h ν' a lh' (λe=>by cases e) M N h3 h4⟩
  ·rename_i C qw hC;rw[sho hC];exact tu qw U hh hs λv ν' a lh' h0 M N h3 h4=>⟨h0,hK v h ν' a lh' (λe=>by cases e) M N h3 h4⟩
  ·exact hs.elim
def qq:bm->Bool
 |[]=>true|(_,.con _)::l=>qq l|(_,.conN ..)::l=>qq l|(_,.conZ ..)::l=>qq l|(_,.inl sf _)::l=>gr sf.ntmps sf.body&&qq l
theorem Ax:∀ {ct:bm} {f:FuncId} {sf:aO} {un:l8},qq ct=true->kA ct f=some (.inl sf un)->gr sf.ntmps sf.body=true
 |[],_,_,_,_,h=>by cases h
 |(k,c)::l,f,sf,un,hd,h=>by
   simp[kA]at h;cases hb:Nat.beq f k with
   |true=>rw[hb]at h;simp[cond]at h;cases h;simp[qq,Eg]at hd;exact hd.1
   |false=>
     rw[hb]at h;simp[cond]at h;refine Ax (ct:=l) ?_ h;cases c with
     |con C=>exact hd|conN C h=>exact hd|conZ C h=>exact hd|inl sf' un'=>simp[qq,Eg]at hd;exact hd.2
theorem pS (w0:World) (ct:bm) (hd:qq ct=true):∀ (lv:Nat),tR w0 (SV ct lv) (dz w0 (SV ct)) false (oy (α:=α) ct lv)
 |0=>by
   intro f vs h K Qe ν nV nS args lh KA U hh hs hK;simp[oy]at hs;split at hs
   ·rename_i C hC
    have:SV ct 0 f=vP C:=by simp[SV,hC]
    rw[this];exact sj U hh hs λv a U hs=>hK v h ν a lh (λe=>by cases e) (Nu.sub_refl ν) hh U hs
   ·rename_i C hC0 hC
    have:SV ct 0 f=vN C:=by simp[SV,hC]
    rw[this];exact tY hC0 U hh hs λv ν' a lh' _ g0 g1 g2 g3=>hK v h ν' a lh' (λe=>by cases e) g0 g1 g2 g3
   ·rename_i C hC0 hC
    have:SV ct 0 f=vZ C:=by simp[SV,hC]
    rw[this];exact tu hC0 U hh hs λv ν' a lh' _ g0 g1 g2 g3=>hK v h ν' a lh' (λe=>by cases e) g0 g1 g2 g3
   ·exact hs.elim
 |n+1=>by
   intro f vs h K Qe ν nV nS args lh KA U hh hs hK;simp[oy]at hs;split at hs
   ·rename_i C hC
    have:SV ct (n+1) f=vP C:=by simp[SV,hC]
    rw[this];exact sj U hh hs λv a U hs=>hK v h ν a lh (λe=>by cases e) (Nu.sub_refl ν) hh U hs
   ·rename_i C hC0 hC
    have:SV ct (n+1) f=vN C:=by simp[SV,hC]
    rw[this];exact tY hC0 U hh hs λv ν' a lh' _ g0 g1 g2 g3=>hK v h ν' a lh' (λe=>by cases e) g0 g1 g2 g3
   ·rename_i C hC0 hC
    have:SV ct (n+1) f=vZ C:=by simp[SV,hC]
    rw[this];exact tu hC0 U hh hs λv ν' a lh' _ g0 g1 g2 g3=>hK v h ν' a lh' (λe=>by cases e) g0 g1 g2 g3
   ·rename_i sf un hC
    have:SV ct (n+1) f=O3 (SV ct n) sf:=by simp[SV,hC]
    rw[this];exact r7 (pS w0 ct hd n) (qi w0 ct _ n) (Ax hd hC) U hh hs λv h' ν' a lh' g0 g1 g2 g3=>hK v h' ν' a lh' (λe=>by cases e) g0 (g1 nV nS) g2 g3
   ·exact hs.elim
end
inductive aV (P:Program) (BN:List TypeId) (D7:List jc):bm->Prop
 |nil:aV P BN D7 []
 |con {f:FuncId} {C:aD} {ct:bm} (h:(vP C).Ok P f) (hl:aV P BN D7 ct):aV P BN D7 ((f,.con C)::ct)
 |conN {f:FuncId} {C:aD} {hC:∀ds d p r,C ds=some (d,p,r)->d.1=d.2->p->JY r} {ct:bm} (h:(vN C).Ok P f) (hl:aV P BN D7 ct):aV P BN D7 ((f,.conN C hC)::ct)
 |conZ {f:FuncId} {C:aD} {hC:∀ds d p r,C ds=some (d,p,r)->d.1=d.2->p->∀w0 lh args,bC w0 lh Nu.nil ds args->∃x new,vr w0 (lh++new) Nu.nil r x} {ct:bm} (h:(vZ C).Ok P f) (hl:aV P BN D7 ct):aV P BN D7 ((f,.conZ C hC)::ct)
 |inl {f : FuncId} {fn : Func} {sf : aO} {un : l8} {ct : bm} (hf : P.funcs[f]? = some fn) (hn : (fn.name == "runtime.NumGoroutine") = false) (hc : eN P BN D7 fn = some sf) (hd : gr sf.ntmps sf.body = true) (hl : aV P BN D7 ct) : aV P BN D7 ((f, .inl sf un) :: ct)
theorem aV.look {P:Program} {BN:List TypeId} {D7:List jc} {ct:bm} (h:aV P BN D7 ct):∀ {f:FuncId} {x:NA},kA ct f=some x->match x with
 |.con C=>(vP C).Ok P f
 |.conN C _=>(vN C).Ok P f
 |.conZ C _=>(vZ C).Ok P f
 |.inl sf _ => ∃ fn, P.funcs[f]? = some fn /\ (fn.name == "runtime.NumGoroutine") = false /\ eN P BN D7 fn = some sf := by
 induction h with
 |nil=>intro f x h;cases h
 | @con k C ct h hl ih=>
   intro f x hx
   simp[kA]at hx
   cases hb:Nat.beq f k with
   |true=>rw[hb]at hx;simp[cond]at hx;cases hx;have:=FF hb;subst this;exact h
   |false=>rw[hb]at hx;simp[cond]at hx;exact ih hx
 | @conN k C hC ct h hl ih=>
   intro f x hx
   simp[kA]at hx
   cases hb:Nat.beq f k with
   |true=>rw[hb]at hx;simp[cond]at hx;cases hx;have:=FF hb;subst this;exact h
   |false=>rw[hb]at hx;simp[cond]at hx;exact ih hx
 | @conZ k C hC ct h hl ih=>
   intro f x hx
   simp[kA]at hx
   cases hb:Nat.beq f k with
   |true=>rw[hb]at hx;simp[cond]at hx;cases hx;have:=FF hb;subst this;exact h
   |false=>rw[hb]at hx;simp[cond]at hx;exact ih hx
 | @inl k fn sf un ct hf hn hc hd hl ih=>
   intro f x hx
   simp[kA]at hx
   cases hb:Nat.beq f k with
   |true=>rw[hb]at hx;simp[cond]at hx;cases hx;have:=FF hb;subst this;exact⟨fn,hf,hn,hc⟩
   |false=>rw[hb]at hx;simp[cond]at hx;exact ih hx
theorem aV.dst {P:Program} {BN:List TypeId} {D7:List jc} {ct:bm} (h:aV P BN D7 ct):qq ct=true:=by
 induction h with
 |nil=>rfl|con h hl ih=>exact ih|conN h hl ih=>exact ih|conZ h hl ih=>exact ih|inl hf hn hc hd hl ih=>simp[qq,hd,ih,Bool.and_self]
theorem aV.ok {P:Program} {BN:List TypeId} {D7:List jc} {ct:bm} (h:aV P BN D7 ct) (hE:∀ t∈BN,dw P t) (hI:mi P BN D7):∀ (lv:Nat) (g:FuncId),(SV ct lv g).Ok P g
 |0,g=>by
   simp[SV];split
   ·rename_i C hC;exact h.look hC
   ·rename_i C hC0 hC;exact h.look hC
   ·rename_i C hC0 hC;exact h.look hC
   ·exact b10 g
 |n+1,g=>by
   simp[SV];split
   ·rename_i C hC;exact h.look hC
   ·rename_i C hC0 hC;exact h.look hC
   ·rename_i C hC0 hC;exact h.look hC
   ·rename_i sf un hC
    let ⟨fn,M,N,h3⟩:=h.look hC
    exact yaC (h.ok hE hI n) hE hI M N h3
   ·exact b10 g
def LV:Nat:=12
def run (ct:bm) (un:l8) (sf:aO) (ds:List V):BO V:=oE (oy ct LV) (nN ct) un LV sf ds [] λv _=>.ret v
theorem ahA {α:Type} {P:Program} {BN:List TypeId} {D7:List jc} {ct:bm} {f:FuncId} {fn:Func} {sf:aO} {un:l8} {C:aD} {K0:V->BO α} {Q0:V->α->Prop} (hK0:∀ w0 r v,bR (dz w0 (SV ct)) (K0 v) (Q0 r)->dc v=dc r) (hT:aV P BN D7 ct) (hE:∀ t∈BN,dw P t) (hI:mi P BN D7) (hf:P.funcs[f]? = some fn)
 (hn : (fn.name == "runtime.NumGoroutine") = false) (hc : eN P BN D7 fn = some sf) (hd : gr sf.ntmps sf.body = true)
 (h:∀w0 ds d p r,C ds=some (d,p,r)->d.1=d.2->p->plain (dc r)=true->bR (dz w0 (SV ct)) (oE (oy ct LV) (nN ct) un LV sf ds [] λv _=>K0 v) (Q0 r)):(vP C).Ok P f:=by
 refine⟨λB m lh w args vs K hrel hargs SY=>?_,λ_ _ _ _ _ W ⟨ds,d,p,r,M,N,h3,h4,h5⟩=>⟨ds,d,p,r,M,N,h3,h4,W _ _ h5⟩,λ_ _ _ _ ⟨_,_,_,_,_,_,_,_,h⟩=>h⟩
 let ⟨ds,d,p,r,M,N,⟨TK,h3⟩,h4,h5⟩:=SY
 let ⟨args',g1,g2⟩:=lg hrel ds args vs M hargs
 have hs:=pX (Sp:=λw0 args lh K=>lh=[]/\∃ ds d p r,bC w0 [] Nu.nil ds args/\C ds=some (d,p,r)/\(d.1=d.2/\p)/\plain (dc r)=true/\K (dc r) []) (hT.ok hE hI LV) hE hI hf hn hc (λw0 args lh K hw ha ⟨e,ds,d,p,r,k1,k2,⟨k30,k3⟩,k4,k5⟩=>by
  subst e
  refine r7 (pS w0 ct hT.dst LV) (qi w0 ct _ LV) hd k1 (HR.none w0) (h w0 ds d p r k2 k30 k3 k4) λv h' ν' a lh' _ q1 q2 q3=>?_
  have q3:=hK0 _ _ _ q3
  have:=(Ap (by rw[q3];exact k4) a).1 q2
  rw[q3]at this
  subst this
  exact hvx (lh:=[]) (l:=lh') (hzs k4) hw k5)
 let ⟨e1,e2⟩:=hs ⟨w,w,λ_=>False,[]⟩ (λ_=>none) [] w args' vs (λr' _=>r'=dc r) (bf.start w) g1 ⟨rfl,ds,d,p,r,g2,N,⟨TK,h3⟩,h4,rfl⟩
 refine⟨e1,e2.mono λe w' ⟨v,r',m1,lh1,he,U,_,hr,W⟩=>?_⟩
 subst W
 exact⟨v,_,m,lh,he,hpq h4 U,jB.refl _ _,hrel.back hr,h5⟩
def Gr (e:Nat) (ty:TypeId) (h:List A7):V->V
 |.gs k n=>match gY h k with|some (.gl e' _ f ty')=>cond (Nat.beq e' e&&Nat.beq ty' ty) (.sl n f) .any|_=>.any
 |.ns=>.sl 0 λ_=>[]
 |_=>.any
def Iu (h:List A7):V->Bool
 |.gs k n=>match gY h k with|some (.gl _ n' _ _)=>decide (n<=n')|_=>true
 |_=>true
def KY (h:List A7):V->Bool
 |.tup (v::_)=>Iu h v|v=>Iu h v
def Ll (e:Nat) (ty:TypeId) (h:List A7):V->V
 |.tup (v::vs)=>.tup (Gr e ty h v::vs)|v=>Gr e ty h v
section
variable {w0:World} {ν:Nu} {nV nS:Nat} {h:List A7} {lh:List ar}
theorem R23 (hh:HR w0 ν nV nS h lh) {e:Nat} {ty:TypeId} {v:V} {a:af} {n:Nat} {f:bk} (U:vr w0 ν.z ν v a) (hs:∀ i,i<n->(dj (f i)).all bO=true) (hc:Iu h v=true) (ht:dc (Gr e ty h v)=dc (.sl n f)):KF e ty 0 lh n f a:=by
 unfold Gr at ht;split at ht
 ·rename_i k n1
  unfold Iu at hc;dsimp only at hc;rw[bq]at ht hc;split at ht
  ·rename_i e' n' g ty' W
   cases hb:(Nat.beq e' e&&Nat.beq ty' ty) with
   |false=>rw[hb]at ht;simp[dc]at ht
   |true=>
     rw[hb]at ht;simp only[Eg]at hb;have e1:=FF hb.1;have e2:=FF hb.2;rw[W]at hc;have e3:=Fv hc;subst e1;subst e2
     let ⟨rfl,Ri⟩:=GJ ht
     simp only[vr]at U;rcases U with ⟨g1,rfl,rfl⟩|⟨b,c,e2,g1,rfl,g3⟩
     ·exact .inl ⟨rfl,rfl⟩
     ·rcases hh.blk k _ W with ⟨M,N⟩|⟨b',c',az,M,N,h3,h4,h5⟩
      ·rw[M]at g1;cases g1
      ·rw[M]at g1
       obtain⟨rfl,rfl,rfl⟩:b'=b/\c'=c/\e'=e2:=by simpa using g1
       refine .inr ⟨b',c',az,GG _,N,rfl,h3,g3,λi hi=>?_⟩;have:=(fP (by rw[Ri i hi];exact hs i hi) _).1 (h5 i E).2;rw[this,Ri i hi]
  ·simp[dc]at ht
 ·simp only[vr]at U
  let ⟨rfl,_⟩:=GJ ht
  exact .inl ⟨rfl,U⟩
 ·simp[dc]at ht
theorem nf1 (hh:HR w0 ν nV nS h lh) {e:Nat} {ty:TypeId} {v r:V} {a:af} {n:Nat} {f:bk} (U:vr w0 ν.z ν v a) (hr:qL r=some (n,f)) (ho:WX e r) (hc:KY h v=true) (ht:dc (Ll e ty h v)=dc r):∃ x,KF e ty 0 lh n f x/\a=qN x r:=by
 let ⟨n',f',hl,_,Ri,Xe⟩:=ho
 rw[hr]at hl;cases hl;have hs:=λi hi=>(Ri i hi).2;unfold Ll at ht;rcases hi' hr with rfl|⟨us,rfl⟩
 ·split at ht
  ·simp[dc]at ht
  ·rename_i vS;exact⟨a,R23 hh U hs (by unfold KY at hc;split at hc<;>first|exact(vS _ _ rfl).elim|exact hc) ht,rfl⟩
 ·split at ht
  ·rename_i u vs
   have nu10:dc (Gr e ty h u)=dc (.sl n f):=by simp[dc,dj,af.tup.injEq,G5]at ht ⊢;exact ht.1
   have ht2:dj vs=dj us:=by simp[dc,dj,af.tup.injEq,G5]at ht;exact ht.2
   simp[vr]at U;obtain⟨az,rfl,U⟩:=U;simp[bC]at U;obtain⟨x,xs,rfl,M,N⟩:=U;refine⟨x,R23 hh M hs hc nu10,?_⟩;simp[qN];rw[(fP (by rw[ht2];exact Xe) _).1 N,ht2]
  ·have:∀ u,dc (Gr e ty h u)≠.tup (dj (.sl n f::us)):=λu=>by
    unfold Gr;split
    ·split
     ·rename_i e' n' g ty' _;cases (Nat.beq e' e&&Nat.beq ty' ty)<;>simp[dc]
     ·simp[dc]
    ·simp[dc]
    ·simp[dc]
   exact(this _ (by rw[ht];simp[dc])).elim
end
theorem exL {e:Nat} {ty:TypeId} {r:V} {n:Nat} {f:bk} (hr:qL r=some (n,f)) (ho:WX e r) (lh:List ar):∃ x new,KF e ty lh.length (lh++new) n f x:=by
 let ⟨n',f',hl,_,Ri,_⟩:=ho
 rw[hr]at hl;cases hl
 let ⟨M,N⟩:=A4 (e:=e) (f:=f) (n:=n) λi hi=>by rw[xu];exact(nT (Ri i hi).1).1
 exact⟨_,[.cells ((List.range n).flatMap λi=>dj (f i)) ty],.inr ⟨lh.length,n,(List.range n).flatMap λi=>dj (f i),Em _,av,rfl,M,Em _,N⟩⟩
theorem ahc {α:Type} {P:Program} {BN:List TypeId} {D7:List jc} {ct:bm} {f:FuncId} {fn:Func} {sf:aO} {un:l8} {e:Nat} {ty:TypeId} {C:aD} {K0:V->List A7->BO α} {Q0:V->α->Prop} (hK0:∀ w0 r v h,bR (dz w0 (SV ct)) (K0 v h) (Q0 r)->KY h v=true/\dc (Ll e ty h v)=dc r) (hT:aV P BN D7 ct) (hE:∀ t∈BN,dw P t) (hI:mi P BN D7) (hf:P.funcs[f]? = some fn)
 (hn : (fn.name == "runtime.NumGoroutine") = false) (hc : eN P BN D7 fn = some sf) (hd : gr sf.ntmps sf.body = true)
 (h:∀w0 ds d p r,C ds=some (d,p,r)->d.1=d.2->p->bR (dz w0 (SV ct)) (oE (oy ct LV) (nN ct) un LV sf ds [] K0) (Q0 r)):(vL e ty C).Ok P f:=by
 refine⟨λB m lh w args vs K hrel hargs SY=>?_,λ_ _ _ _ _ W ⟨ds,d,p,r,n,g,M,N,h3,h4,h5,h6⟩=>⟨ds,d,p,r,n,g,M,N,h3,h4,h5,λx new hx=>W _ _ (h6 x new hx)⟩,λ_ _ lh _ ⟨_,_,_,_,_,_,_,_,_,h4,h5,h6⟩=>let ⟨x,new,hx⟩:=exL (ty:=ty) h4 h5 lh;h6 x new hx⟩
 let ⟨ds,d,p,r,n,g,M,N,⟨TK,h3⟩,h4,h5,h6⟩:=SY
 let ⟨args',g1,g2⟩:=lg hrel ds args vs M hargs
 have hs:=pX (Sp:=λw0 args lh K=>lh=[]/\∃ ds d p r n g,bC w0 [] Nu.nil ds args/\C ds=some (d,p,r)/\(d.1=d.2/\p)/\qL r=some (n,g)/\WX e r/\∀ x lh1,KF e ty 0 lh1 n g x->K (qN x r) lh1) (hT.ok hE hI LV) hE hI hf hn hc (λw0 args lh K hw ha ⟨e,ds,d,p,r,n,g,k1,k2,⟨k30,k3⟩,k4,k5,k6⟩=>by
  subst e
  refine r7 (pS w0 ct hT.dst LV) (qi w0 ct _ LV) hd k1 (HR.none w0) (h w0 ds d p r k2 k30 k3) λv h' ν' a lh' _ q1 q2 q3=>?_
  have q3:=hK0 _ _ _ _ q3
  obtain⟨x,hx,rfl⟩:=nf1 (q1 0 0) q2 k4 k5 q3.1 q3.2
  exact⟨_,lh',.inl ⟨rfl,(⟨.inr rfl,trivial⟩:mY [_] [_])⟩,k6 x lh' hx⟩)
 let ⟨e1,e2⟩:=hs ⟨w,w,λ_=>False,[]⟩ (λ_=>none) [] w args' vs (λr' lh1=>∃x,KF e ty 0 lh1 n g x/\r'=qN x r) (bf.start w) g1 ⟨rfl,ds,d,p,r,n,g,g2,N,⟨TK,h3⟩,h4,h5,λx lh1 hx=>⟨x,hx,rfl⟩⟩
 refine⟨e1,e2.mono λyav w' ⟨v,r',m1,lh1,he,U,_,hr,⟨x,hx,W⟩⟩=>?_⟩
 subst W
 let ⟨n',g',hl,hmax,Ri,Xe⟩:=h5
 have SJ:=hl
 rw[h4]at SJ;cases SJ
 have hback:=hrel.back hr
 rcases hx with ⟨rfl,rfl⟩|⟨b,c,az,_,TE,rfl,ce,UI,hall⟩
 ·refine ⟨v,qN (.slice none 0 0) r,m,lh,he,Aq h4 Xe (λu hu=>?_) U,jB.refl _ _,hback,?_⟩
  ·simp[Dy]at hu ⊢;exact hu
  ·have:=h6 (.slice none 0 0) [] (.inl ⟨rfl,rfl⟩)
   rwa [LK]at this
 ·let ⟨b0,us,m1b,Td,hheap,Ta,_⟩:=hr.loc b az ty TE
  have Rb:n*e<=az.length:=by rw[ce];exact Ga e UI
  have hlen:=cU Td
  have hnew:∀ k b',m k=some b'->b'≠b0:=λk b' W e0=>by
   have:=hrel.rng k b' W;simp only at Ta;omega
  have notf:(az.take (n*e)).all bO=true:=hfl λi hi=>by rw[hall i hi];exact(Ri i hi).2
  have RZ:aB (λk=>if k=lh.length then some b0 else m k) (az.take (n*e)++List.replicate (us.toList.drop (n*e)).length .any) us.toList:=by
   have:=ef (kc (m':=λk=>if k=lh.length then some b0 else m k) notf (fT (n*e) Td)) (hjp (us.toList.drop (n*e)))
   rwa [MY]at this
  let ⟨hH,hle'⟩:=hs3 hback (b:=b0) (ty:=ty) hheap RZ (HQ hrel.size Ta) (HQ hrel.fsize Ta) hnew
  refine⟨v,qN (.slice (some (.l lh.length 0)) n c) r,_,_,he,Aq h4 Xe (λu hu=>?_) U,⟨hle',λk W=>⟨?_,?_⟩⟩,hH,h6 _ _ (.inr ⟨lh.length,c,az.take (n*e)++List.replicate (us.toList.drop (n*e)).length .any,Em _,by rw[GY (Em _),Nat.sub_self];rfl,rfl,?_,UI,λi hi=>?_⟩)⟩
  ·simp only[Dy,d6]at hu ⊢
   obtain⟨At,rfl,b',RQ,rfl⟩:=hu
   rw[m1b]at RQ;cases RQ
   exact⟨_,rfl,b0,av,rfl⟩
  ·rw[Fp (List.getElem?_eq_some_iff.1 W).1];exact W
  ·have:=(List.getElem?_eq_some_iff.1 W).1
   simp[DX (JI this)]
  ·simp only[HP,MV,List.length_replicate,Jx];omega
  ·rw[← hall i hi]
   refine hnp (Qo:=n*e) ?_ (by rw[← GW];exact Ga e E)
   rw[Jg (by simp;omega),IW,Nat.min_self]
inductive Ty where|int (k:IntKind)|bool|str|agg (ts:List Ty)|sl (ts:List Ty)|fn (f:FuncId) (xs ys:List Ty)|pd (ts:List Ty)
def iv:V->Int
 |.int _ n=>n|_=>0
def bv:V->Bool
 |.bool b=>b|.kb b=>b|_=>false
def sv:V->ByteArray
 |.str s=>s|_=>ByteArray.empty
def aU:V->Nat
 |.sl n _=>n|.sq n _ _=>n|_=>0
def KT:V->Nat
 |.sl n _=>n|.sq _ m _=>m|_=>0
def du:V->Nat->List V
 |.sl _ f,i=>f i|.sq _ _ f,i=>f i|_,_=>[]
def Gu:V->List V
 |.agg cs=>cs|_=>[]
def JO:V->List V
 |.fn _ xs _=>xs|_=>[]
def Jz:V->List V
 |.fn _ _ ys=>ys|_=>[]
def HE:V->List V
 |.pd cs=>cs|_=>[]
def aM:List V->V
 |v::_=>v|[]=>.any
def ap:List V->List V
 |_::vs=>vs|[]=>[]
def cz:Ty->Bool
 |.agg _=>false|.fn ..=>false|.pd _=>false|_=>true
mutual
def dk:Ty->V->V
 |.int k,v=>.int k (iv v)|.bool,v=>.bool (bv v)|.str,v=>.str (sv v)|.agg ts,v=>.agg (au ts (Gu v))|.sl ts,v=>.sl (aU v) λi=>au ts (du v i)
 |.fn f xs ys,v=>.fn f (au xs (JO v)) (au ys (Jz v))|.pd ts,v=>.pd (au ts (HE v))
def au:List Ty->List V->List V
 |[],_=>[]|t::ts,vs=>dk t (aM vs)::au ts (ap vs)
end
mutual
def dp:Ty->V->Prop
 |.int k,v=>v=.int k (iv v)|.bool,v=>v=.bool (bv v)∨v=.kb (bv v)|.str,v=>v=.str (sv v)|.agg ts,v=>v=.agg (Gu v)/\bN ts (Gu v)|.sl ts,v=>(v=.sl (aU v) (du v)∨v=.sq (aU v) (KT v) (du v))/\ts.all cz=true/\∀i,i<KT v->bN ts (du v i)|.fn f xs ys,v=>v=.fn f (JO v) (Jz v)/\bN xs (JO v)/\bN ys (Jz v)|.pd ts,v=>v=.pd (HE v)/\ts.all cz=true/\bN ts (HE v)
def bN:List Ty->List V->Prop
 |[],vs=>vs=[]|t::ts,vs=>vs=aM vs::ap vs/\dp t (aM vs)/\bN ts (ap vs)
end
theorem pf:∀ (ts:List Ty) (vs:List V),ts.all cz=true->(au ts vs).all V.fc=true
 |[],_,_=>by simp[au]
 |t::ts,vs,h=>by simp only[Gw,Eg]at h;simp only[au,Gw,Eg];refine⟨?_,pf ts _ h.2⟩;cases t<;>first|rfl|(simp[cz]at h)|(simp[dk];rfl)
theorem hj0:∀ {ts:List Ty} {vs:List V},bN ts vs->vs.length=ts.length
 |[],vs,h=>by simp[bN]at h;subst h;rfl
 |t::ts,vs,h=>by simp[bN]at h;rw[h.1];simp[hj0 h.2.2]
section
variable {w0:World} {lh:List ar}
theorem Pn:∀ (ts:List Ty) (vs:List V),(au ts vs).length=ts.length
 |[],_=>by simp[au]
 |t::ts,vs=>by simp[au,Pn ts]
mutual
theorem ns3:∀ (t:Ty) (v:V) (a:af),dp t v->vr w0 lh Nu.nil v a->vr w0 lh Nu.nil (dk t v) a
 |.int k,v,a,h,U=>by simp[dp]at h;simp[dk];rw[h]at U;exact U
 |.bool,v,a,h,U=>by simp[dp]at h;simp[dk,vr];rcases h with h|h<;>(rw[h]at U;simp[vr]at U;exact U)
 |.str,v,a,h,U=>by simp[dp]at h;simp[dk];rw[h]at U;exact U
 |.agg ts,v,a,h,U=>by
   simp[dp]at h;rw[h.1]at U;simp[dk,vr]at U ⊢
   let ⟨az,M,N⟩:=U
   exact⟨az,M,gg ts _ az h.2 N⟩
 |.sl ts,v,a,h,U=>by
   simp only[dp]at h;rcases h.1 with h0|h0
   ·have hb:KT v=aU v:=by rw[h0];rfl
    rw[h0]at U;simp only[dk,vr]at U ⊢
    let ⟨p,c,esz,M,N,h3,h4,h5⟩:=U
    exact⟨p,c,esz,M,N,h3,h4,λi hi=>let ⟨At,az,g1,g2,g3,g4⟩:=h5 i hi;⟨At,az,g1,g2,gg ts _ az (h.2.2 i E) g3,pf ts _ h.2.1⟩⟩
   ·rw[h0]at U
    simp only[dk,vr]at U ⊢
    let ⟨p,c,esz,M,⟨N,h2'⟩,h3,h4,h5⟩:=U
    exact⟨p,c,esz,M,N,h3,h4,λi hi=>let ⟨At,az,g1,g2,g3,g4⟩:=h5 i hi;⟨At,az,g1,g2,gg ts _ az (h.2.2 i E) g3,pf ts _ h.2.1⟩⟩
 |.fn f xs ys,v,a,h,U=>by
   simp[dp]at h;rw[h.1]at U;simp[dk,vr]at U ⊢
   let ⟨us,vs,M,N,h3⟩:=U
   exact⟨us,vs,M,gg xs _ us h.2.1 N,gg ys _ vs h.2.2 h3⟩
 |.pd ts,v,a,h,U=>by
   simp only[dp]at h;rw[h.1]at U;simp only[dk,vr]at U ⊢
   let ⟨p,az,M,N,h3,h4,h5⟩:=U
   have hl:=hj0 h.2.2;refine⟨p,az,M,N,by rw[Pn,← hl];exact h3,gg ts _ az h.2.2 h4,pf ts _ h.2.1⟩
theorem gg:∀ (ts:List Ty) (vs:List V) (az:List af),bN ts vs->bC w0 lh Nu.nil vs az->bC w0 lh Nu.nil (au ts vs) az
 |[],vs,az,h,U=>by simp[bN]at h;subst h;simpa[au] using U
 |t::ts,vs,az,h,U=>by simp[bN]at h;rw[h.1]at U;simp[bC]at U;obtain⟨x,xs,rfl,M,N⟩:=U;simp only[au,bC];exact⟨x,xs,rfl,ns3 t _ x h.2.1 M,gg ts _ xs h.2.2 N⟩
end
end
mutual
def xS:Ty->Bool
 |.agg ts=>gS ts|.sl ts=>ts.all cz&&gS ts|.fn _ xs ys=>gS xs&&gS ys|.pd ts=>ts.all cz&&gS ts|_=>true
def gS:List Ty->Bool
 |[]=>true|t::ts=>xS t&&gS ts
end
def La:Nat->(Nat->List V->List V)->List V->List V
 |0,_,k=>k|j+1,g,k=>g j (La j g k)
mutual
def uk:Ty->V->List V->List V
 |.agg ts,v,k=>.agg (Gu v)::mQ ts (Gu v) k
 |.sl ts,v,k=>match v with|.sq _ m f=>La m (λj k=>mQ ts (f j) k) k|v=>dk (.sl ts) v::k
 |.fn f xs ys,v,k=>.fn f (JO v) (Jz v)::mQ xs (JO v) (mQ ys (Jz v) k)|.pd ts,v,k=>.pd (HE v)::mQ ts (HE v) k|t,v,k=>dk t v::k
def mQ:List Ty->List V->List V->List V
 |[],_,k=>.agg []::k|t::ts,vs,k=>.agg (aM vs::ap vs)::uk t (aM vs) (mQ ts (ap vs) k)
end
mutual
def tT:Ty->V->List V->List V
 |.agg ts,v,k=>v::mT ts (Gu v) k
 |.sl ts,v,k=>match v with|.sq _ m f=>La m (λj k=>mT ts (f j) k) k|v=>v::k
 |.fn _ xs ys,v,k=>v::mT xs (JO v) (mT ys (Jz v) k)|.pd ts,v,k=>v::mT ts (HE v) k|_,v,k=>v::k
def mT:List Ty->List V->List V->List V
 |[],vs,k=>.agg vs::k|t::ts,vs,k=>.agg vs::tT t (aM vs) (mT ts (ap vs) k)
end
theorem Bn {P:Nat->Prop} {g g':Nat->List V->List V} (hg:∀ j k k',g j k=g' j k'->P j/\k=k'):∀ (m:Nat) (k k':List V),La m g k=La m g' k'->(∀ j,j<m->P j)/\k=k'
 |0,k,k',h=>⟨λj hj=>by omega,h⟩
 |m+1,k,k',h=>by
   simp[La]at h
   let ⟨M,N⟩:=hg m _ _ h
   let ⟨h3,h4⟩:=Bn hg m k k' N
   exact⟨λj hj=>by
    by_cases e:j=m
    ·subst e;exact M
    ·exact h3 j E,h4⟩
theorem hnn:∀(ts:List Ty) (vs:List V),gS ts=true->au ts vs=vs->bN ts vs:=by have key:∀(ts:List Ty),gS ts=true->∀vs,au ts vs=vs->bN ts vs:=λts ho vs h=>hasTys_of' ts vs ho h;exact λts vs ho h=>key ts ho vs h
 where
 hasTy_of':∀(t:Ty) (v:V),xS t=true->dk t v=v->dp t v
 |.int k,v,_,h=>by simp[dk]at h;simp[dp];exact h.symm
 |.bool,v,_,h=>by simp[dk]at h;simp[dp];exact .inl h.symm
 |.str,v,_,h=>by simp[dk]at h;simp[dp];exact h.symm
 |.agg ts,v,ho,h=>by
   simp[dk]at h;simp[xS]at ho;have N:au ts (Gu v)=Gu v:=by have:=congrArg Gu h;simpa[Gu] using this
   simp[dp];exact⟨by rw[N]at h;exact h.symm,hasTys_of' ts _ ho N⟩
 |.sl ts,v,ho,h=>by
   simp[dk]at h;simp[xS,Eg]at ho;have N:∀i,au ts (du v i)=du v i:=λi=>by have:=congrArg (λu=>du u i) h;simpa[du] using this
   simp[dp];refine⟨.inl ?_,ho.1,λi _=>hasTys_of' ts _ ho.2 (N i)⟩;have h3:(λi=>au ts (du v i))=du v:=funext N;rw[h3]at h;exact h.symm
 |.fn f xs ys,v,ho,h=>by
   simp[dk]at h;simp[xS,Eg]at ho;have N:au xs (JO v)=JO v:=by have:=congrArg JO h;simpa[JO] using this
   have h3:au ys (Jz v)=Jz v:=by have:=congrArg Jz h;simpa[Jz] using this
   simp[dp];exact⟨by rw[N,h3]at h;exact h.symm,hasTys_of' xs _ ho.1 N,hasTys_of' ys _ ho.2 h3⟩
 |.pd ts,v,ho,h=>by
   simp[dk]at h;simp[xS,Eg]at ho;have N:au ts (HE v)=HE v:=by have:=congrArg HE h;simpa[HE] using this
   simp[dp];exact⟨by rw[N]at h;exact h.symm,ho.1,hasTys_of' ts _ ho.2 N⟩
 hasTys_of':∀(ts:List Ty) (vs:List V),gS ts=true->au ts vs=vs->bN ts vs
 |[],vs,_,h=>by simp only[au]at h;simp only[bN];exact h.symm
 |t::ts,vs,ho,h=>by
   simp[au]at h;simp[gS,Eg]at ho;have N:dk t (aM vs)=aM vs:=by have:=congrArg aM h;simpa[aM] using this
   have h3:au ts (ap vs)=ap vs:=by have:=congrArg ap h;simpa[ap] using this
   simp[bN];exact⟨by rw[N,h3]at h;exact h.symm,hasTy_of' t _ ho.1 N,hasTys_of' ts _ ho.2 h3⟩
def A (ts:List Ty) (f:bk):Nat->List V:=λi=>au ts (f i)
mutual
def R7:Ty->V->V
 |.agg ts,v=>match v with|.agg cs=>.agg (lD ts cs)|v=>v
 |.sl ts,v=>match v with|.sq n _ f=>.sl n (A ts f)|v=>v
 |.fn _ xs ys,v=>match v with|.fn f us vs=>.fn f (lD xs us) (lD ys vs)|v=>v
 |.pd ts,v=>match v with|.pd cs=>.pd (lD ts cs)|v=>v
 |_,v=>v
def lD:List Ty->List V->List V
 |[],_=>[]
 |t::ts,vs=>match vs with|v::vs=>R7 t v::lD ts vs|[]=>[]
end
mutual
theorem adC:∀ (t:Ty) (v:V) (k k':List V),uk t v k=tT t v k'->R7 t v=dk t v/\k=k'
 |.int _,v,k,k',h=>by simp[uk,tT,G5]at h;simp[R7];exact⟨h.1.symm,h.2⟩
 |.bool,v,k,k',h=>by simp[uk,tT,G5]at h;simp[R7];exact⟨h.1.symm,h.2⟩
 |.str,v,k,k',h=>by simp[uk,tT,G5]at h;simp[R7];exact⟨h.1.symm,h.2⟩
 |.agg ts,v,k,k',h=>by
   simp[uk,tT,G5]at h
   let ⟨M,N⟩:=im ts _ k k' h.2
   obtain⟨cs,rfl⟩:∃cs,v=.agg cs:=⟨_,h.1.symm⟩;simp[Gu]at M;simp only[R7,dk,Gu,M];exact⟨trivial,N⟩
 |.sl ts,v,k,k',h=>by
   by_cases U:∃n m f,v=.sq n m f
   ·obtain⟨n,m,f,rfl⟩:=U
    simp[uk,tT]at h
    let ⟨_,N⟩:=Bn (P:=λ_=>True) (λj k k' hj=>⟨trivial,(im ts (f j) k k' hj).2⟩) m k k' h
    exact⟨rfl,N⟩
   ·cases v<;>first|exact(U ⟨_,_,_,rfl⟩).elim|(simp[uk,tT,G5]at h;simp[R7];exact⟨h.1.symm,h.2⟩)
 |.fn f xs ys,v,k,k',h=>by
   simp[uk,tT,G5]at h
   let ⟨M,N⟩:=im xs _ _ _ h.2
   let ⟨h3,h4⟩:=im ys _ _ _ N
   obtain⟨us,vs,rfl⟩:∃us vs,v=.fn f us vs:=⟨_,_,h.1.symm⟩;simp[JO]at M;simp[Jz]at h3;simp only[R7,dk,JO,Jz,M,h3];exact⟨trivial,h4⟩
 |.pd ts,v,k,k',h=>by
   simp[uk,tT,G5]at h
   let ⟨M,N⟩:=im ts _ k k' h.2
   obtain⟨cs,rfl⟩:∃cs,v=.pd cs:=⟨_,h.1.symm⟩;simp[HE]at M;simp only[R7,dk,HE,M];exact⟨trivial,N⟩
theorem im:∀ (ts:List Ty) (vs:List V) (k k':List V),mQ ts vs k=mT ts vs k'->lD ts vs=au ts vs/\k=k'
 |[],vs,k,k',h=>by simp[mQ,mT,G5,V.agg.injEq]at h;simp only[lD,au];exact⟨trivial,h.2⟩
 |t::ts,vs,k,k',h=>by
   simp[mQ,mT,G5,V.agg.injEq]at h
   let ⟨M,N⟩:=adC t _ _ _ h.2
   let ⟨h3,h4⟩:=im ts _ _ _ N
   have h0:=h.1;cases vs with
   |nil=>cases h0
   |cons v vs=>simp[aM,ap]at M h3;simp only[lD,au,aM,ap,M,h3];exact⟨trivial,h4⟩
end
mutual
theorem akE:∀ (t:Ty) (v:V) (k k':List V),xS t=true->uk t v k=tT t v k'->dp t v/\k=k'
 |.int _,v,k,k',_,h=>by simp[uk,tT,G5]at h;simp[dk]at h;simp[dp];exact⟨h.1.symm,h.2⟩
 |.bool,v,k,k',_,h=>by simp[uk,tT,G5,dk]at h;simp[dp];exact⟨.inl h.1.symm,h.2⟩
 |.str,v,k,k',_,h=>by simp[uk,tT,G5]at h;simp[dk]at h;simp[dp];exact⟨h.1.symm,h.2⟩
 |.agg ts,v,k,k',ho,h=>by
   simp[uk,tT,G5]at h;simp[xS]at ho
   let ⟨M,N⟩:=kl ts _ k k' ho h.2
   simp[dp];exact⟨⟨h.1.symm,M⟩,N⟩
 |.sl ts,v,k,k',ho,h=>by
   have Ur:=ho;simp only[xS,Eg]at ho;by_cases U:∃n m f,v=.sq n m f
   ·obtain⟨n,m,f,rfl⟩:=U
    simp only[uk,tT]at h
    let ⟨M,N⟩:=Bn (P:=λj=>bN ts (f j)) (λj k k' hj=>kl ts (f j) k k' ho.2 hj) m k k' h
    simp only[dp,aU,du,KT];exact⟨⟨.inr rfl,ho.1,M⟩,N⟩
   ·have h':dk (.sl ts) v=v/\k=k':=by
     cases v<;>first|exact(U ⟨_,_,_,rfl⟩).elim|(simp[uk,tT,G5]at h;exact h)
    have:=hnn [.sl ts] [v] (by simp[gS,Ur,Bool.and_true]) (by simp[au,aM,ap,h'.1]);simp[bN,aM]at this;exact⟨this.2.1,h'.2⟩
 |.fn f xs ys,v,k,k',ho,h=>by
   simp[uk,tT,G5]at h;simp[xS,Eg]at ho
   let ⟨M,N⟩:=kl xs _ _ _ ho.1 h.2
   let ⟨h3,h4⟩:=kl ys _ _ _ ho.2 N
   simp[dp];exact⟨⟨h.1.symm,M,h3⟩,h4⟩
 |.pd ts,v,k,k',ho,h=>by
   simp[uk,tT,G5]at h;simp[xS,Eg]at ho
   let ⟨M,N⟩:=kl ts _ k k' ho.2 h.2
   simp[dp];exact⟨⟨h.1.symm,ho.1,M⟩,N⟩
theorem kl:∀ (ts:List Ty) (vs:List V) (k k':List V),gS ts=true->mQ ts vs k=mT ts vs k'->bN ts vs/\k=k'
 |[],vs,k,k',_,h=>by simp only[mQ,mT,G5,V.agg.injEq]at h;simp only[bN];exact⟨h.1.symm,h.2⟩
 |t::ts,vs,k,k',ho,h=>by
   simp[mQ,mT,G5,V.agg.injEq]at h;simp[gS,Eg]at ho
   let ⟨M,N⟩:=akE t _ _ _ ho.1 h.2
   let ⟨h3,h4⟩:=kl ts _ _ _ ho.2 N
   simp[bN];exact⟨⟨h.1.symm,M,h3⟩,h4⟩
end
def cK (ts:List Ty) (pre:List V->Prop) (r:List V->V):aD:=λds=>some ((mQ ts ds [],mT ts ds []),pre (lD ts ds),r (lD ts ds))
theorem mrg {α:Type} {P:Program} {BN:List TypeId} {D7:List jc} {ct:bm} {f:FuncId} {fn:Func} {sf:aO} {un:l8} {ts:List Ty} {pre:List V->Prop} {r:List V->V} {K0:V->BO α} {Q0:V->α->Prop} (hK0:∀ w0 r v,bR (dz w0 (SV ct)) (K0 v) (Q0 r)->dc v=dc r) (hT:aV P BN D7 ct) (hE:∀ t∈BN,dw P t) (hI:mi P BN D7) (hf:P.funcs[f]? = some fn)
 (hn : (fn.name == "runtime.NumGoroutine") = false) (hc : eN P BN D7 fn = some sf) (hd : gr sf.ntmps sf.body = true) (ho : gS ts = true)
 (h:∀w0 ds,pre (au ts ds)->bR (dz w0 (SV ct)) (oE (oy ct LV) (nN ct) un LV sf (au ts ds) [] λv _=>K0 v) (Q0 (r (au ts ds)))):(vP (cK ts pre r)).Ok P f:=by
 refine⟨λB m lh w args vs K hrel hargs SY=>?_,λ_ _ _ _ _ W ⟨ds,d,p,r,M,N,h3,h4,h5⟩=>⟨ds,d,p,r,M,N,h3,h4,W _ _ h5⟩,λ_ _ _ _ ⟨_,_,_,_,_,_,_,_,h⟩=>h⟩
 let ⟨ds,d,p,r',M,N,⟨TK,h3⟩,h4,h5⟩:=SY
 simp only[cK,Et,Prod.mk.injEq]at N
 let ⟨rfl,rfl,rfl⟩:=N
 have TG:=(kl ts ds [] [] ho TK).1
 rw[(im ts ds [] [] TK).1]at h3 h4 h5
 have key2:=ahA (C:=λds'=>some ((ds',au ts ds),pre (au ts ds),r (au ts ds))) (P:=P) (f:=f) hK0 hT hE hI hf hn hc hd (λw0 ds' d' p' r' e he hp _=>by
  simp only[Et,Prod.mk.injEq]at e
  let ⟨rfl,rfl,rfl⟩:=e
  simp only at he
  subst he
  exact h w0 ds hp)
 exact key2.sound B m lh w args vs K hrel hargs ⟨au ts ds,_,_,_,gg ts ds args TG M,rfl,⟨rfl,h3⟩,h4,h5⟩
theorem id7 {α:Type} {P:Program} {BN:List TypeId} {D7:List jc} {ct:bm} {f:FuncId} {fn:Func} {sf:aO} {un:l8} {e:Nat} {ty:TypeId} {ts:List Ty} {pre:List V->Prop} {r:List V->V} {K0:V->List A7->BO α} {Q0:V->α->Prop} (hK0:∀ w0 r v h,bR (dz w0 (SV ct)) (K0 v h) (Q0 r)->KY h v=true/\dc (Ll e ty h v)=dc r) (hT:aV P BN D7 ct) (hE:∀ t∈BN,dw P t) (hI:mi P BN D7) (hf:P.funcs[f]? = some fn)
 (hn : (fn.name == "runtime.NumGoroutine") = false) (hc : eN P BN D7 fn = some sf) (hd : gr sf.ntmps sf.body = true) (ho : gS ts = true)
 (h:∀w0 ds,pre (au ts ds)->bR (dz w0 (SV ct)) (oE (oy ct LV) (nN ct) un LV sf (au ts ds) [] K0) (Q0 (r (au ts ds)))):(vL e ty (cK ts pre r)).Ok P f:=by
 refine⟨λB m lh w args vs K hrel hargs SY=>?_,λ_ _ _ _ _ W ⟨ds,d,p,r,n,g,M,N,h3,h4,h5,h6⟩=>⟨ds,d,p,r,n,g,M,N,h3,h4,h5,λx new hx=>W _ _ (h6 x new hx)⟩,λ_ _ lh _ ⟨_,_,_,_,_,_,_,_,_,h4,h5,h6⟩=>let ⟨x,new,hx⟩:=exL (ty:=ty) h4 h5 lh;h6 x new hx⟩
 let ⟨ds,d,p,r',n,g,M,N,⟨TK,h3⟩,h4,h5,h6⟩:=SY
 simp only[cK,Et,Prod.mk.injEq]at N
 let ⟨rfl,rfl,rfl⟩:=N
 have TG:=(kl ts ds [] [] ho TK).1
 rw[(im ts ds [] [] TK).1]at h3 h4 h5 h6
 have key2:=ahc (e:=e) (ty:=ty) (C:=λds'=>some ((ds',au ts ds),pre (au ts ds),r (au ts ds))) (P:=P) (f:=f) hK0 hT hE hI hf hn hc hd (λw0 ds' d' p' r' e he hp=>by
  simp only[Et,Prod.mk.injEq]at e
  let ⟨rfl,rfl,rfl⟩:=e
  simp only at he
  subst he
  exact h w0 ds hp)
 exact key2.sound B m lh w args vs K hrel hargs ⟨au ts ds,_,_,_,n,g,gg ts ds args TG M,rfl,⟨rfl,h3⟩,h4,h5,h6⟩
abbrev oK:=List (Option (Option Nat))
def d4 (ρ:oK) (k:Nat):Option (Option Nat):=match gY ρ k with|some x=>x|none=>none
mutual
def cV (ρ:oK):V->V->Prop
 |v,.any=>True∨v=.any|.int k a,.int k' b=>k=k'/\a=b|.bool a,.bool b=>a=b|.kb a,.bool b=>a=b|.kb a,.kb b=>a=b|.str a,.str b=>a=b|.agg xs,.agg ys=>fR ρ xs ys|.tup xs,.tup ys=>fR ρ xs ys|.fn f xs ys,.fn g us vs=>f=g/\fR ρ xs us/\fR ρ ys vs|.sl n f,.sl m g=>n=m/\f=g|.pd cs,.pd ds=>cs=ds|.pl k o,.pl k1 o1=>d4 ρ k1=some (some k)/\o=o1|.pe k i j,.pe k1 i1 j1=>d4 ρ k1=some (some k)/\i=i1/\j=j1|.ss k o n c,.ss k1 o1 n1 c1=>d4 ρ k1=some (some k)/\o=o1/\n=n1/\c=c1|.gs k n,.gs k1 n1=>d4 ρ k1=some (some k)/\n=n1|.ns,.gs k1 n1=>d4 ρ k1=some none/\n1=0|.ns,.ns=>True|.np,.np=>True|.yl l,.yl l1=>l=l1|.go k o n,.go k1 o1 n1=>d4 ρ k1=some (some k)/\o=o1/\n=n1|_,_=>False
def fR (ρ:oK):List V->List V->Prop
 |[],[]=>True|x::xs,y::ys=>cV ρ x y/\fR ρ xs ys|_,_=>False
end
def wJ (ρ:oK) (e:bZ):bZ->Prop
 |[]=>True|(s,v)::l=>cV ρ (kg e s) v/\wJ ρ e l
def E8 (ρ:oK) (h:List A7) (k:Nat):A7->Prop
 |.cells cs ty=>∃j ds,d4 ρ k=some (some j)/\gY h j=some (.cells ds ty)/\fR ρ ds cs|.gl e n f ty=>(d4 ρ k=some none/\n=0)∨∃j m g,d4 ρ k=some (some j)/\gY h j=some (.gl e m g ty)/\n<=m/\∀i,i<n->nM e (f i)=true/\fR ρ (g i) (f i)|.dead=>False|.hid=>True
def wE (ρ:oK) (h:List A7):Nat->List A7->Prop
 |_,[]=>True|k,o::l=>E8 ρ h k o/\wE ρ h (k+1) l
def sF (x:Option (Option Nat)):oK->Bool
 |[]=>true
 |y::l=>(match x,y with|some (some a),some (some b)=>!Nat.beq a b|_,_=>true)&&sF x l
def Gj:oK->Bool
 |[]=>true|x::l=>sF x l&&Gj l
def QL (ρ:oK):Nat->Bool
 |0=>true
 |k+1=>(match d4 ρ k with|some (some j)=>Nat.beq j k|_=>false)&&QL ρ k
def nn (ρ:oK) (ν:Nu):Nu:=⟨λk=>match d4 ρ k with|some (some j)=>ν j|some none=>some none|none=>none,ν.z⟩
section
variable {w0:World} {ν:Nu} {ρ:oK} {lh:List ar}
mutual
theorem alB:∀ (v v1:V) (a:af),cV ρ v v1->vr w0 ν.z ν v a->vr w0 ν.z (nn ρ ν) v1 a
 |.int k n,v1,a,h,U=>by
   cases v1<;>simp[cV]at h
   case int=>let ⟨rfl,rfl⟩:=h;simp[vr]at U ⊢;exact U
   case any=>simp[vr]
 |.bool b,v1,a,h,U=>by
   cases v1<;>simp[cV]at h
   case bool=>subst h;simp[vr]at U ⊢;exact U
   case any=>simp[vr]
 |.kb b,v1,a,h,U=>by
   cases v1<;>simp[cV]at h
   case bool=>subst h;simp[vr]at U ⊢;exact U
   case kb=>subst h;simp[vr]at U ⊢;exact U
   case any=>simp[vr]
 |.str b,v1,a,h,U=>by
   cases v1<;>simp[cV]at h
   case str=>subst h;simp[vr]at U ⊢;exact U
   case any=>simp[vr]
 |.agg xs,v1,a,h,U=>by
   cases v1<;>simp[cV]at h
   case agg=>simp[vr]at U ⊢;let ⟨az,M,N⟩:=U;exact⟨az,M,kf xs _ az h N⟩
   case any=>simp[vr]
 |.tup xs,v1,a,h,U=>by
   cases v1<;>simp[cV]at h
   case tup=>simp[vr]at U ⊢;let ⟨az,M,N⟩:=U;exact⟨az,M,kf xs _ az h N⟩
   case any=>simp[vr]
 |.fn f xs ys,v1,a,h,U=>by
   cases v1<;>simp[cV]at h
   case fn=>let ⟨rfl,g1,g2⟩:=h;simp[vr]at U ⊢;let ⟨az,bs,M,N,h3⟩:=U;exact⟨az,bs,M,kf xs _ az g1 N,kf ys _ bs g2 h3⟩
   case any=>simp[vr]
 |.sl n f,v1,a,h,U=>by
   cases v1<;>simp[cV]at h
   case sl=>let ⟨rfl,rfl⟩:=h;simp[vr]at U ⊢;exact U
   case any=>simp[vr]
 |.pd cs,v1,a,h,U=>by
   cases v1<;>simp[cV]at h
   case pd=>subst h;simp[vr]at U ⊢;exact U
   case any=>simp[vr]
 |.pl k o,v1,a,h,U=>by
   cases v1<;>simp[cV]at h
   case pl=>let ⟨M,rfl⟩:=h;simp[vr]at U ⊢;simp[nn,M];exact U
   case any=>simp[vr]
 |.pe k i j,v1,a,h,U=>by
   cases v1<;>simp[cV]at h
   case pe=>let ⟨M,rfl,rfl⟩:=h;simp[vr]at U ⊢;simp[nn,M];exact U
   case any=>simp[vr]
 |.ss k o n c,v1,a,h,U=>by
   cases v1<;>simp[cV]at h
   case ss=>let ⟨M,rfl,rfl,rfl⟩:=h;simp[vr]at U ⊢;simp[nn,M];exact U
   case any=>simp[vr]
 |.gs k n,v1,a,h,U=>by
   cases v1<;>simp[cV]at h
   case gs=>let ⟨M,rfl⟩:=h;simp[vr]at U ⊢;simp[nn,M];exact U
   case any=>simp[vr]
 |.ns,v1,a,h,U=>by
   cases v1<;>simp[cV]at h
   case gs=>obtain⟨M,rfl⟩:=h;simp only[vr]at U ⊢;simp only[nn,M];exact .inl ⟨trivial,trivial,U⟩
   case ns=>simp[vr]at U ⊢;exact U
   case any=>simp[vr]
 |.np,v1,a,h,U=>by
   cases v1<;>simp[cV]at h
   case np=>simp[vr]at U ⊢;exact U
   case any=>simp[vr]
 |.any,v1,a,h,U=>by
   cases v1<;>simp[cV]at h
   case any=>simp[vr]
 |.gd b v,v1,a,h,U=>by
   cases v1<;>simp[cV]at h
   case any=>simp[vr]
 |.yl l,v1,a,h,U=>by
   cases v1<;>simp[cV]at h
   case yl=>subst h;simp[vr]at U ⊢;exact U
   case any=>simp[vr]
 |.go k o n,v1,a,h,U=>by
   cases v1<;>simp[cV]at h
   case go=>let ⟨M,rfl,rfl⟩:=h;simp[vr]at U ⊢;simp[nn,M];exact U
   case any=>simp[vr]
 |.sq n m f,v1,a,h,U=>by
   cases v1<;>simp[cV]at h
   case any=>simp[vr]
theorem kf:∀ (vs us:List V) (az:List af),fR ρ vs us->bC w0 ν.z ν vs az->bC w0 ν.z (nn ρ ν) us az
 |[],[],az,_,U=>by simp[bC]at U ⊢;exact U
 |v::vs,u::us,az,h,U=>by
   simp[fR]at h;simp[bC]at U ⊢
   let ⟨x,xs,M,N,h3⟩:=U
   exact⟨x,xs,M,alB v u x h.1 N,kf vs us xs h.2 h3⟩
 |[],_::_,_,h,_=>by simp[fR]at h
 |_::_,[],_,h,_=>by simp[fR]at h
end
theorem hn0:∀ {e e1:bZ} (s:Nat),wJ ρ e e1->kg e1 s=.any∨cV ρ (kg e s) (kg e1 s)
 |e,[],s,_=>.inl rfl
 |e,(d,v)::l,s,h=>by
   simp[wJ]at h;rw[mU];by_cases hd:s=d
   ·subst hd;rw[E5 rfl];exact .inr h.1
   ·rw[DX hd];exact hn0 s h.2
theorem od {h:List A7}:∀ {l:List A7} {k i:Nat} {o:A7},wE ρ h k l->l[i]? = some o->E8 ρ h (k+i) o
 |[],_,_,_,_,hi=>by simp at hi
 |x::l,k,0,o,hh,hi=>by simp at hi;subst hi;exact hh.1
 |x::l,k,i+1,o,hh,hi=>by have:=od (i:=i) hh.2 (by simpa using hi);rwa [show k+1+i=k+(i+1) by omega]at this
theorem qQ:∀ {l:oK} {a i:Nat},sF (some (some a)) l=true->gY l i=some (some (some a))->False
 |[],_,_,_,h=>by cases h
 |y::l,a,0,h,hi=>by simp[gY,Et]at hi;subst hi;simp[sF]at h
 |y::l,a,i+1,h,hi=>by simp[sF,Eg]at h;exact qQ h.2 hi
theorem R45:∀ {l:oK} {a i j:Nat},Gj l=true->gY l i=some (some (some a))->gY l j=some (some (some a))->i=j
 |[],_,_,_,_,h,_=>by cases h
 |x::l,a,0,0,_,_,_=>rfl
 |x::l,a,i+1,0,h,hi,hj=>by simp[Gj,Eg]at h;simp[gY,Et]at hj;subst hj;exact(qQ h.1 hi).elim
 |x::l,a,0,j+1,h,hi,hj=>by simp[Gj,Eg]at h;simp[gY,Et]at hi;subst hi;exact(qQ h.1 hj).elim
 |x::l,a,i+1,j+1,h,hi,hj=>by simp[Gj,Eg]at h;rw[R45 h.2 hi hj]
theorem C65:∀ {n k:Nat},QL ρ n=true->k<n->d4 ρ k=some (some k)
 |n+1,k,h,W=>by
   simp[QL,Eg]at h;rcases Nat.lt_succ_iff_lt_or_eq.1 W with W|rfl
   ·exact C65 h.2 W
   ·have M:=h.1
    split at M
    ·rename_i j hj;rw[hj,FF M]
    ·cases M
theorem hjy {k j:Nat} (h:d4 ρ k=some (some j)):gY ρ k=some (some (some j)):=by
 unfold d4 at h;split at h
 ·rename_i x hx;rw[hx,h]
 ·cases h
theorem lC.ren (w0:World) {nb:Nat} {e e1:bZ} {h M:List A7} (ρ:oK) (hl:Nat.beq (b7 ρ) (b7 M)=true) (hi:Gj ρ=true) (hid:QL ρ nb=true) (he:wJ ρ e e1) (hh:wE ρ h 0 M):lC w0 nb e h e1 M:=by
 intro Qo ν nV nS sl lh hs hr;have hlen:ρ.length=M.length:=by have:=FF hl;rwa [b5,b5]at this
 have hlive:∀ k,bj M k->∀ x,nn ρ ν k=some (some x)->∃ j,d4 ρ k=some (some j)/\bj h j/\ν j=some (some x):=λk W x hx=>by
  have TI:=hx;simp[nn]at hx;split at hx
  ·rename_i j hj
   refine⟨j,hj,?_,hx⟩;rcases gD W with ⟨cs,ty,hc⟩|⟨e',n,f,ty,hc⟩
   ·let ⟨j',ds,g1,g2,g3⟩:=od (k:=0) (i:=k) hh hc
    rw[Gh,hj]at g1;cases g1;exact eC (by rwa [bq]at g2)
   ·rcases od (k:=0) (i:=k) hh hc with ⟨g1,_⟩|⟨j',m,g,g1,g2,_⟩
    ·rw[Gh,hj]at g1;cases g1
    ·rw[Gh,hj]at g1;cases g1;exact iw (by rwa [bq]at g2)
  ·cases hx
  ·cases hx
 refine⟨nn ρ ν,0,0,⟨λk x W hx=>by simp[nn,C65 hid W];exact hx,mS _⟩,⟨hs.len,λi=>?_⟩,⟨λk o W=>?_,λk k' x x' W SP hx TI UA=>?_,λk W=>?_,λk x hx=>?_,hr.zl,λk x W hx=>let ⟨j,_,g2,g3⟩:=hlive k W x hx;hr.zn j x g2 g3⟩⟩
 ·rcases hn0 i he with h0|h0
  ·rw[h0];simp[vr]
  ·exact alB _ _ _ h0 (hs.at' i)
 ·have hb:=od (k:=0) (i:=k) hh W
  rw[Gh]at hb;cases o with
  |cells cs ty=>
    let ⟨j,ds,g1,g2,g3⟩:=hb
    rw[bq]at g2
    let ⟨b,c,e',az,k1,k2,k3⟩:=hr.blk j _ g2
    exact⟨b,c,e',az,by simp[nn,g1];exact k1,k2,kf _ _ _ g3 k3⟩
  |gl e' n f ty=>
    rcases hb with ⟨g1,rfl⟩|⟨j,m,g,g1,g2,g3,g4⟩
    ·exact .inl ⟨by simp[nn,g1],rfl⟩
    ·rw[bq]at g2
     rcases hr.blk j _ g2 with ⟨k1,k2⟩|⟨b,c,az,k1,k2,k3,k4,k5⟩
     ·exact .inl ⟨by simp[nn,g1];exact k1,E⟩
     ·exact .inr ⟨b,c,az,by simp[nn,g1];exact k1,k2,k3,⟨E,E⟩,λi hi=>⟨(g4 i hi).1,kf _ _ _ (g4 i hi).2 (k5 i E).2⟩⟩
  |dead=>exact hb.elim|hid=>trivial
 ·let ⟨j,g1,g2,g3⟩:=hlive k W x hx
  let ⟨j',g1',g2',g3'⟩:=hlive k' SP x' TI
  have:=hr.inj j j' x x' g2 g2' g3 g3' UA;subst this;exact R45 hi (hjy g1) (hjy g1')
 ·simp[nn,d4,bq];rw[GE E]
 ·simp[nn]at hx
  split at hx
  ·exact hr.rng _ x hx
  ·cases hx
  ·cases hx
theorem lC.refl (w0:World) (nb:Nat) (e:bZ) (h:List A7):lC w0 nb e h e h:=λQo ν nV nS sl lh hs hr=>⟨ν,nV,nS,F3.refl _ _,hs,hr⟩
theorem lC.trans {w0:World} {nb:Nat} {e e1 e2:bZ} {h M N:List A7} (a:lC w0 nb e h e1 M) (b:lC w0 nb e1 M e2 N):lC w0 nb e h e2 N:=λQo ν nV nS sl lh hs hr=>by
 let ⟨ν1,nV1,nS1,g0,g1,g2⟩:=a Qo ν nV nS sl lh hs hr
 let ⟨ν2,nV2,nS2,k0,k1,k2⟩:=b Qo ν1 nV1 nS1 sl lh g1 g2
 exact⟨ν2,nV2,nS2,g0.trans k0,k1,k2⟩
end
def y6 {α:Type}:BO α->List Bool->BO α
 |t,[]=>t|.br _ x y,p::ps=>cond p (y6 x ps) (y6 y ps)|.und x y,p::ps=>cond p (y6 x ps) (y6 y ps)|.asm _ x,ps=>y6 x ps|.ob _ x,ps=>y6 x ps|.obi _ _ x,ps=>y6 x ps|.obp _ x,ps=>y6 x ps|.obq _ _ x,ps=>y6 x ps|t,_=>t
def z6 {α:Type}:BO α->BO α
 |.ob _ x=>z6 x|.obi _ _ x=>z6 x|.obp _ x=>z6 x|.obq _ _ x=>z6 x|.asm _ x=>z6 x|t=>t
def eT:BO (Ex×bZ×List A7)->bZ
 |.ret r=>r.2.1|_=>[]
def hT:BO (Ex×bZ×List A7)->List A7
 |.ret r=>r.2.2|_=>[]
def rB:Al->RD
 |.i _ r=>r|_=>⟨[],.skip,.skip,[],0⟩
def Je {α:Type}:BO α->Nat->BO α
 |.all f=>f|_=>λ_=>.fail 0
def ik {α:Type} (t:BO α) (p:List Bool):BO α:=z6 (y6 t p)
theorem ajZ {ct:bm} {w0:World} (hd:qq ct=true) {lv nb:Nat} {un:l8} {body:il} {e:bZ} {h:List A7} {El:Ex->bZ->List A7->Option Ex->Prop} (bi:Nat)
 (RR:Type) (inv:RR->bZ×List A7) (μ:RR->Nat) (h0:∃i,lC w0 nb e h (inv i).1 (inv i).2)
 (round:∀i,bR (dz w0 (SV ct)) (uL (oy ct lv) (nN ct) un (lv,nb) bi body (inv i).1 (inv i).2 λx e h=>.ret (x,e,h)) λr=>match r.1 with|.normal=>∃i',lC w0 nb r.2.1 r.2.2 (inv i').1 (inv i').2/\μ i'<μ i|x=>El x r.2.1 r.2.2 none):dz w0 (SV ct) (lv,nb) (.s body) e h none El :=
 smT (fr:=(lv,nb)) (pS w0 ct hd lv) (qi w0 ct _ lv) RR inv μ h0 round
theorem afe {ct:bm} {w0:World} (hd:qq ct=true) {lv nb:Nat} {un:l8} {body:jv} {rd:RD} {e:bZ} {h:List A7} {g:Option Ex} {El:Ex->bZ->List A7->Option Ex->Prop} (bi bi':Nat)
 (RR:Type) (inv:RR->bZ×List A7×Option Ex) (μ:RR->Nat) (h0:∃i,g=(inv i).2.2/\lC w0 nb e h (inv i).1 (inv i).2.1)
 (round:∀i,bR (dz w0 (SV ct)) (oa (oy ct lv) (nN ct) un (lv,nb) rd (Ka (oy ct lv) (nN ct) un lv bi' rd) bi body (inv i).1 (inv i).2.1 (inv i).2.2 λx e h g=>.ret (x,e,h,g)) λr=>match r.1 with|.normal=>∃i',r.2.2.2=(inv i').2.2/\lC w0 nb r.2.1 r.2.2.1 (inv i').1 (inv i').2.1/\μ i'<μ i|x=>El x r.2.1 r.2.2.1 r.2.2.2):dz w0 (SV ct) (lv,nb) (.i body rd) e h g El :=
 hsr (fr:=(lv,nb)) (pS w0 ct hd lv) (qi w0 ct _ lv) RR inv μ h0 round
def iK (P:Program) (rec:TypeId->Option (List Ty)):List Field->Nat->Option (List Ty×Nat)
 |[],off=>some ([],off)
 |f::l,off=>match rec f.type,iK P rec l (off+P.cellsOf f.type) with
   |some ts,some (us,n)=>if f.offset=off/\ts.length=P.cellsOf f.type then some (ts++us,n) else none
   |_,_=>none
def kM (P:Program):Nat->TypeId->Option (List Ty)
 |0,_=>none
 |fu+1,t=>match P.underlying t with
   |some .bool=>some [.bool]|some (.int k)=>some [.int k]|some .string=>some [.str]
   |some (.slice e)=>match kM P fu e with
     |some ts=>if ts.length=P.cellsOf e then some [.sl ts] else none
     |none=>none
   |some (.struct fs)=>match iK P (kM P fu) fs.toList 0 with
     |some (ts,n)=>if n=P.cellsOf t then some ts else none
     |none=>none
   |some (.array n e)=>match kM P fu e with
     |some ts=>if ts.length=P.cellsOf e/\P.cellsOf t=n*P.cellsOf e then some (List.replicate n ts).flatten else none
     |none=>none
   |_=>none
def rgI:IntKind->Int->Prop
 |.u8,n=>0<=n/\n<=255|_,_=>True
theorem fc7 {k:IntKind} {n:Int} (h:(Lit.int k n).wf=true):rgI k n:=by have M:(decide (k.min<=n)&&decide (n<=k.max))=true:=h;rw[Eg,GV,GV]at M;cases k<;>first|trivial|exact⟨M.1,M.2⟩
mutual
def y9:Ty->V->Prop
 |.int k,v=>rgI k (iv v)|.str,v=>(sv v).size<=9223372036854775807|.agg ts,v=>iP ts (Gu v)|.sl ts,v=>∀i,i<aU v->iP ts (du v i)|_,_=>True
def iP:List Ty->List V->Prop
 |[],_=>True|t::ts,vs=>y9 t (aM vs)/\iP ts (ap vs)
end
mutual
theorem hpp:∀ (t:Ty) (v:V),y9 t v->y9 t (dk t v)
 |.int k,v,h=>by simp[dk,y9,iv]at h ⊢;exact h
 |.bool,_,_=>trivial|.str,v,h=>by simp[dk,y9,sv]at h ⊢;exact h
 |.agg ts,v,h=>by simp[dk,y9,Gu]at h ⊢;exact jR ts _ h
 |.sl ts,v,h=>by simp[dk,y9,aU,du]at h ⊢;exact λi hi=>jR ts _ (h i hi)
 |.fn ..,_,_=>trivial|.pd _,_,_=>trivial
theorem jR:∀ (ts:List Ty) (vs:List V),iP ts vs->iP ts (au ts vs)
 |[],_,_=>trivial|t::ts,vs,h=>by simp[iP,au,aM,ap]at h ⊢;exact⟨hpp t _ h.1,jR ts _ h.2⟩
end
section
variable {w:World}
theorem nG:∀ {ts us:List Ty} {vs xs:List V},bN ts vs->iP ts vs->iP us xs->iP (ts++us) (vs++xs)
 |[],_,_,_,h,_,k=>by simp[bN]at h;subst h;simpa using k
 |t::ts,us,vs,xs,h,hz,k=>by simp[bN]at h;rw[h.1];simp[iP]at hz;simp[Jy,iP,aM,ap];exact⟨hz.1,nG h.2.2 hz.2 k⟩
theorem mM:∀ {ts us:List Ty} {vs xs:List V},bN ts vs->bN us xs->bN (ts++us) (vs++xs)
 |[],_,_,_,h,k=>by simp[bN]at h;subst h;simpa using k
 |t::ts,us,vs,xs,h,k=>by simp[bN]at h;rw[h.1];simp only[Jy,bN,aM,ap];exact⟨trivial,h.2.1,mM h.2.2 k⟩
theorem kO {w:World} {a:Addr}:∀ (n i:Nat) (cs:List Value),(List.range' i n).mapM (λj=>w.cell? (a.add j))=some cs->gT w a i n=some (cs.map bS):=by
 intro n;induction n with
 |zero=>intro i cs h;simp at h;subst h;rfl
 |succ n ih=>
   intro i cs h;simp[JC,KG]at h;cases hc:w.cell? (a.add i) with
   |none=>simp[hc]at h
   |some v=>
     cases hr:(List.range' (i+1) n).mapM (λj=>w.cell? (a.add j)) with
     |none=>simp[hc,hr]at h
     |some l=>simp[hc,hr]at h;subst h;simp[gT,hc,ih (i+1) l hr]
theorem ig7 {a:Addr} {n c esz:Nat} {ts:List Ty} (hn:n<=c) (hc:c<=maxLen) (hcell:ts.all cz=true)
 (h:∀i,i<n->∃cs:List Value,gT w (a.add (i*esz)) 0 esz=some (cs.map bS)/\∃vs,bC w [] Nu.nil vs (cs.map bS)/\(bN ts vs/\iP ts vs)/\vs.all V.fc=true) :
 ∃v,vr w [] Nu.nil v (.slice (some (.g a)) n c)/\(dp (.sl ts) v/\y9 (.sl ts) v)/\v.fc=true:=by
 classical
 refine⟨.sl n λi=>if hi:i<n then(Classical.choose (Classical.choose_spec (h i hi)).2) else [],?_,?_,rfl⟩
 ·simp only[vr]
  refine⟨some (.g a),c,esz,rfl,hn,by unfold maxLen at hc;omega,trivial,λi hi=>?_⟩;have M:=Classical.choose_spec (h i hi);have N:=Classical.choose_spec M.2;refine⟨.g a,(Classical.choose (h i hi)).map bS,rfl,?_,?_,?_⟩
  ·simp only[jp.add,lds];exact M.1
  ·simp only[hi,dite_true];exact N.1
  ·simp only[hi,dite_true];exact N.2.2
 ·simp only [dp,y9,aU,du,KT]
  refine⟨⟨.inl rfl,hcell,λi hi=>?_⟩,λi hi=>?_⟩
  ·simp only[hi,dite_true];exact(Classical.choose_spec (Classical.choose_spec (h i hi)).2).2.1.1
  ·simp only[hi,dite_true];exact(Classical.choose_spec (Classical.choose_spec (h i hi)).2).2.1.2
end
theorem hfr:∀ {ts:List Ty} {vs:List V},bN ts vs->ts.all cz=true->vs.all V.fc=true
 |[],vs,h,_=>by simp[bN]at h;subst h;rfl
 |t::ts,vs,h,ho=>by
   simp[bN]at h;simp only[Gw,Eg]at ho;rw[h.1];simp only[Gw,Eg];refine⟨?_,hfr h.2.2 ho.2⟩;have M:=h.2.1;cases t<;>simp[dp]at M
   case int=>rw[M];rfl
   case bool=>rcases M with M|M<;>(rw[M];rfl)
   case str=>rw[M];rfl
   case sl=>rcases M.1 with h0|h0<;>(rw[h0];rfl)
   all_goals simp[cz]at ho
section
variable {P:Program}
theorem hev {rec:TypeId->Option (List Ty)} (hr:∀ t ts,rec t=some ts->ts.all cz=true):∀ {fs:List Field} {off n:Nat} {ts:List Ty},iK P rec fs off=some (ts,n)->ts.all cz=true
 |[],off,n,ts,h=>by simp[iK]at h;rw[h.1];rfl
 |f::l,off,n,ts,h=>by
   simp[iK]at h;split at h
   ·rename_i us vs m M N
    split at h
    ·cases h;rw[List.all_append,hr _ _ M,hev hr N];rfl
    ·cases h
   ·cases h
theorem jM:∀ {fu:Nat} {t:TypeId} {ts:List Ty},kM P fu t=some ts->ts.all cz=true
 |0,_,_,h=>by cases h
 |fu+1,t,ts,h=>by
   simp[kM]at h;split at h
   ·cases h;rfl
   ·cases h;rfl
   ·cases h;rfl
   ·split at h
    ·split at h
     ·cases h;rfl
     ·cases h
    ·cases h
   ·split at h
    ·rename_i us n hf
     split at h
     ·cases h;exact hev (λt ts=>jM (fu:=fu)) hf
     ·cases h
    ·cases h
   ·split at h
    ·rename_i us hu
     split at h
     ·cases h
      rw[JF];intro x hx
      let ⟨l,hl,hx⟩:=List.mem_flatten.1 hx
      rw[(List.mem_replicate.1 hl).2]at hx;exact List.all_eq_true.1 (jM hu) x hx
     ·cases h
    ·cases h
   ·cases h
variable {Qa:Type} {enc:TypeId×Value->Qa} {w:World} {base:Nat} {spare:Nat->Bool} {held:Bool}
theorem hi0 {rec:TypeId->Option (List Ty)} {fuel:Nat} (hr:∀ t ts cs d ps,rec t=some ts->DataW.trod enc P w base spare held fuel t cs=some (d,ps)->∃ vs,bC w [] Nu.nil vs (cs.map bS)/\bN ts vs/\iP ts vs) (cs:List Value) :
 ∀{fs:List Field} {off n:Nat} {ts:List Ty},iK P rec fs off=some (ts,n)->(∀f∈fs,∃x,DataW.trod enc P w base spare held fuel f.type ((cs.drop f.offset).take (P.cellsOf f.type))=some x)->cs.length=n ->
 ∃vs,bC w [] Nu.nil vs ((cs.drop off).map bS)/\bN ts vs/\iP ts vs
 |[],off,n,ts,h,_,hl=>by simp[iK]at h;obtain⟨rfl,rfl⟩:=h;exact⟨[],by rw[List.drop_eq_nil_of_le E];simp[bC],by simp[bN],trivial⟩
 |f::l,off,n,ts,h,hx,hl=>by
   simp[iK]at h;split at h
   ·rename_i us vs m M N
    split at h
    ·rename_i hc
     cases h
     let ⟨rfl,hlen⟩:=hc
     let ⟨⟨d,ps⟩,ha⟩:=hx f Hw
     let ⟨v1,g1,g2,z1⟩:=hr _ _ _ _ _ M ha
     let ⟨v2,g3,g4,z2⟩:=hi0 hr cs N (λg hg=>hx g (HA _ hg)) hl
     refine⟨v1++v2,?_,mM g2 g4,nG g2 z1 z2⟩;have e:cs.drop f.offset=(cs.drop f.offset).take (P.cellsOf f.type)++cs.drop (f.offset+P.cellsOf f.type):=by rw[← IK];exact(MY _ _).symm
     rw[e,List.map_append];exact lM g1 g3
    ·cases h
   ·cases h
theorem hpk {fuel k:Nat} {e:TypeId} {us:List Ty} (hr:∀ cs d ps,DataW.trod enc P w base spare held fuel e cs=some (d,ps)->∃ vs,bC w [] Nu.nil vs (cs.map bS)/\bN us vs/\iP us vs) (cs:List Value) :
 ∀(n m:Nat),cs.length=(m+n)*k->(∀i,m<=i->i<m+n->∃x,DataW.trod enc P w base spare held fuel e ((cs.drop (i*k)).take k)=some x)->∃vs,bC w [] Nu.nil vs ((cs.drop (m*k)).map bS)/\bN (List.replicate n us).flatten vs/\iP (List.replicate n us).flatten vs:=by
 intro n;induction n with
 |zero=>intro m hl _;exact⟨[],by rw[List.drop_eq_nil_of_le (by simp at hl;omega)];simp[bC],by simp[bN],trivial⟩
 |succ n ih=>
   intro m hl h
   let ⟨x,hx⟩:=h m (Em _) E
   let ⟨d,ps⟩:=x
   let ⟨v1,g1,g2,z1⟩:=hr _ _ _ hx
   let ⟨v2,g3,g4,z2⟩:=ih (m+1) (by rw[hl];congr 1;omega) (λi M N=>h i E E)
   refine⟨v1++v2,?_,by rw[J8,LW];exact mM g2 g4,by rw[J8,LW];exact nG g2 z1 z2⟩;have e:cs.drop (m*k)=(cs.drop (m*k)).take k++cs.drop ((m+1)*k):=by rw[GW,← IK];exact(MY _ _).symm
   rw[e,List.map_append];exact lM g1 g3
theorem bx0:∀ (fuel fu:Nat) (t:TypeId) (ts:List Ty) (cs:List Value) (d:DataW Qa) (ps:List MemPlace),kM P fu t=some ts->DataW.trod enc P w base spare held fuel t cs=some (d,ps)->∃ vs,bC w [] Nu.nil vs (cs.map bS)/\bN ts vs/\iP ts vs:=by
 intro fuel;induction fuel with
 |zero=>intro fu t ts cs d ps _ h;cases h
 |succ fuel ih=>
   intro fu t ts cs d ps ht h;cases fu with
   |zero=>cases ht
   |succ fu=>
     have Tb:=jM ht;simp[kM]at ht;split at ht
     ·rename_i hu;cases ht;obtain⟨b,rfl,_⟩:=DataW.trod_bool hu h;exact⟨[.bool b],by simp[bC,vr,bS],by simp[bN,dp,aM,ap,bv],trivial,trivial⟩
     ·rename_i k hu;cases ht;obtain⟨n,rfl,_,vg⟩:=DataW.trod_int hu h;exact⟨[.int k n],by simp[bC,vr,bS],by simp[bN,dp,aM,ap,iv],fc7 vg,trivial⟩
     ·rename_i hu;cases ht;obtain⟨b,rfl,_,hb⟩:=DataW.trod_string hu h;exact⟨[.str b],by simp[bC,vr,bS],by simp[bN,dp,aM,ap,sv],(show b.size<=9223372036854775807 by unfold maxLen at hb;omega),trivial⟩
     ·rename_i e hu
      split at ht
      ·rename_i us Td
       split at ht
       ·rename_i hlen
        cases ht;have hcell:=jM Td;rcases DataW.trod_slice hu h with ⟨rfl,_⟩|⟨a,len,cap,elems,rest,n,hn,rfl,_,_,h3,h4,h5,h6,_⟩
        ·exact⟨[.sl 0 λ_=>[]],by simp only[GZ,Ia,bS,bC,vr];exact⟨_,_,rfl,⟨none,0,0,rfl,Em _,E,trivial,λi hi=>by omega⟩,rfl⟩,by simp only[bN,dp,aM,ap,aU,KT];exact⟨trivial,⟨.inl rfl,hcell,λi hi=>by omega⟩,trivial⟩,(λi hi=>by simp[aU,aM]at hi),trivial⟩
        ·cases hn
         let ⟨v,g1,g2,_⟩:=ig7 (w:=w) (a:=a) (n:=len) (c:=cap) (esz:=P.cellsOf e) (ts:=us) h3 h4 hcell (λi hi=>by
          have h7:=h6 i hi;rw[HU E]at h7;cases V9:w.cells? base (a.add (i*P.cellsOf e)) (P.cellsOf e) with
          |none=>rw[V9]at h7;cases h7
          |some cs'=>
            rw[V9]at h7
            let ⟨vs,g1,g2,z2⟩:=ih fu e us cs' elems[i].1 elems[i].2 Td h7
            unfold World.cells? at V9;split at V9
            ·rw[MZ]at V9;exact⟨cs',kO _ 0 cs' V9,vs,g1,⟨g2,z2⟩,hfr g2 hcell⟩
            ·cases V9)
         exact⟨[v],by simp only[GZ,Ia,bS,bC];exact⟨_,_,rfl,g1,rfl⟩,by simp only[bN,aM,ap];exact⟨trivial,g2.1,trivial⟩,g2.2,trivial⟩
       ·cases ht
      ·cases ht
     ·rename_i fs hu
      split at ht
      ·rename_i us n hf
       split at ht
       ·rename_i hn
        cases ht
        let ⟨xs,m,hm,_,h3,h4,h5⟩:=DataW.trod_struct hu h
        cases hm;have:=hi0 (off:=0) (λt ts cs d ps=>ih fu t ts cs d ps) cs hf (λf cn=>by obtain⟨i,hi,rfl⟩:=List.getElem_of_mem cn;simp at hi;have h6:=h5 i fs[i] (by simp[hi]);rw[HU E]at h6;exact⟨_,by simpa using h6⟩) (by rw[h3,hn]);simpa using this
       ·cases ht
      ·cases ht
     ·rename_i n e hu
      split at ht
      ·rename_i us Td
       split at ht
       ·rename_i hc
        cases ht
        let ⟨xs,m,hm,_,h3,h4,h5⟩:=DataW.trod_array hu h
        cases hm;have:=hpk (k:=P.cellsOf e) (λcs d ps=>ih fu e us cs d ps Td) cs n 0 (by rw[h3,hc.2];simp) (λi _ hi=>by have h6:=h5 i E;rw[HU E]at h6;exact⟨_,h6⟩);simpa using this
       ·cases ht
      ·cases ht
     ·cases ht
end
end Go.Dx
namespace Go.Dx
open Go.Sx Go.RowKit
def qO:Value->af
 |.agg cs=>.agg (cs.toList.map bS)|v=>bS v
theorem hoo (v:Value):Dy (λ_=>none) (qO v) v:=by
 unfold qO;split
 ·rename_i cs;simp only[Dy];exact⟨cs,rfl,cw _ _⟩
 ·exact cJ _ _
theorem hh1:∀ vs:List Value,aB (λ_=>none) (vs.map qO) vs
 |[]=>by simp[aB]
 |v::vs=>by simp only[GZ,aB];exact⟨_,_,rfl,hoo v,hh1 vs⟩
def M7 (P:Program) (fu:Nat) (t:TypeId):Option Ty:=match P.underlying t with|some (.struct _)=>(kM P fu t).map .agg|some (.array _ _)=>(kM P fu t).map .agg|some (.int k)=>some (.int k)|some .bool=>some .bool|_=>none
def argTys (P:Program) (fu:Nat):List TypeId->Option (List Ty)
 |[]=>some []
 |t::ts=>match M7 P fu t,argTys P fu ts with|some x,some xs=>some (x::xs)|_,_=>none
section
variable {P:Program} {Qa:Type} {enc:TypeId×Value->Qa} {R2:World} {base:Nat}
theorem aoa {fu:Nat} {t:TypeId} {ty:Ty} {v:Value} {d:DataW Qa} {ps:List MemPlace} {b:Nat} {spare:Nat->Bool} {held:Bool} (ht:M7 P fu t=some ty) (U:Value.okWide P R2 .any base t v) (h:DataW.Trod enc P R2 b spare held t v d ps) :
 ∃x,vr R2 [] Nu.nil x (qO v)/\dp ty x/\y9 ty x:=by
 let ⟨fuel,h⟩:=h
 unfold M7 at ht;unfold Value.okWide at U;split at ht
 ·rename_i fs hu
  rw[hu]at U;obtain⟨cs,rfl,_,_⟩:=U;simp[Fy]at ht;obtain⟨ts,Yk,rfl⟩:=ht
  let ⟨vs,g1,g2,z2⟩:=bx0 fuel fu t ts _ d ps Yk h
  exact⟨.agg vs,by simp only[qO,vr];exact⟨_,rfl,g1⟩,by simp only[dp,Gu];exact⟨trivial,g2⟩,z2⟩
 ·rename_i n e hu
  rw[hu]at U;obtain⟨cs,rfl,_,_⟩:=U;simp[Fy]at ht;obtain⟨ts,Yk,rfl⟩:=ht
  let ⟨vs,g1,g2,z2⟩:=bx0 fuel fu t ts _ d ps Yk h
  exact⟨.agg vs,by simp only[qO,vr];exact⟨_,rfl,g1⟩,by simp only[dp,Gu];exact⟨trivial,g2⟩,z2⟩
 ·rename_i k hu
  cases ht
  let ⟨n,hc,_,vg⟩:=DataW.trod_int hu h
  have:v=.int k n:=by rw[hu]at U;unfold Cell.okWide at U;rw[hu]at U;cases v<;>simp_all [Value.cells,Cell.ok]
  subst this;exact⟨.int k n,by simp[qO,bS,vr],by simp[dp,iv],fc7 vg⟩
 ·rename_i hu
  cases ht
  let ⟨n,hc,_⟩:=DataW.trod_bool hu h
  have:v=.bool n:=by rw[hu]at U;unfold Cell.okWide at U;rw[hu]at U;cases v<;>simp_all [Value.cells,Cell.ok]
  subst this;exact⟨.bool n,by simp[qO,bS,vr],by simp[dp,bv],trivial⟩
 ·cases ht
theorem asv {fu:Nat} {b:Nat} {spare:Nat->Bool} {held:Bool}:∀ {ts:List TypeId} {tys:List Ty} {vs:List Value} {ds:List (DataW Qa)} {ps:List MemPlace},argTys P fu ts=some tys->(∀ (j:Nat) t v,ts[j]? = some t->vs[j]? = some v->Value.okWide P R2 .any base t v)->DataW.TrodAll enc P R2 b spare held ts vs ds ps ->
 ∃xs,bC R2 [] Nu.nil xs (vs.map qO)/\bN tys xs/\iP tys xs
 |[],tys,[],[],ps,ht,_,h=>by simp[argTys,Et]at ht;subst ht;exact⟨[],by simp[bC],by simp[bN],trivial⟩
 |t::ts,tys,v::vs,d::ds,ps,ht,U,h=>by
   simp[argTys]at ht;split at ht
   ·rename_i x xs hx TS
    cases ht
    let ⟨p,At,M,N,_⟩:=h
    let ⟨y,g1,g2,z1⟩:=aoa hx (U 0 t v rfl rfl) M
    let ⟨ys,g3,g4,z2⟩:=asv TS (λj t v hj va=>U (j+1) t v (by simpa using hj) (by simpa using va)) N
    exact⟨y::ys,by simp only[GZ,bC];exact⟨_,_,rfl,g1,g3⟩,by simp only[bN,aM,ap];exact⟨trivial,g2,g4⟩,z1,z2⟩
   ·cases ht
 |[],_,_::_,_,_,_,_,h=>by simp[DataW.TrodAll]at h
 |[],_,[],_::_,_,_,_,h=>by simp[DataW.TrodAll]at h
 |_::_,_,[],_,_,_,_,h=>by simp[DataW.TrodAll]at h
 |_::_,_,_::_,[],_,_,_,h=>by simp[DataW.TrodAll]at h
mutual
theorem hm1:∀ (t:Ty) (v:V),dk t (dk t v)=dk t v
 |.int k,v=>by simp[dk,iv]
 |.bool,v=>by simp[dk,bv]
 |.str,v=>by simp[dk,sv]
 |.agg ts,v=>by simp[dk,Gu];rw[fq ts]
 |.sl ts,v=>by simp[dk,aU,du];congr 1;funext i;exact fq ts _
 |.fn f xs ys,v=>by simp only[dk,JO,Jz];rw[fq xs,fq ys]
 |.pd ts,v=>by simp[dk,HE];rw[fq ts]
theorem fq:∀ (ts:List Ty) (vs:List V),au ts (au ts vs)=au ts vs
 |[],vs=>by simp[au]
 |t::ts,vs=>by simp only[au,aM,ap];rw[hm1 t,fq ts]
end
mutual
theorem hys:∀ (t:Ty) (v:V) (k:List V),uk t (dk t v) k=tT t (dk t v) k
 |.int k,v,_=>by simp[dk,uk,tT,iv]
 |.bool,v,_=>by simp[dk,uk,tT,bv]
 |.str,v,_=>by simp[dk,uk,tT,sv]
 |.agg ts,v,k=>by simp[dk,uk,tT,Gu];rw[iI ts]
 |.sl ts,v,k=>by have:=hm1 (.sl ts) v;simp[dk]at this ⊢;simp[uk,tT,dk,this]
 |.fn f xs ys,v,k=>by simp[dk,uk,tT,JO,Jz];rw[iI ys,iI xs]
 |.pd ts,v,k=>by simp[dk,uk,tT,HE];rw[iI ts]
theorem iI:∀ (ts:List Ty) (vs:List V) (k:List V),mQ ts (au ts vs) k=mT ts (au ts vs) k
 |[],vs,k=>by simp[au,mQ,mT]
 |t::ts,vs,k=>by simp[au,mQ,mT,aM,ap];rw[iI ts,hys t]
end
def lawC (tys:List Ty):aD:=cK tys (iP tys) λ_=>.bool true
theorem law_calls {f:FuncId} {fu b:Nat} {spare:Nat->Bool} {held:Bool} {tys:List Ty} {ts:List TypeId} {args:Array Value} {ds:List (DataW Qa)} {ps:List MemPlace} (hOk:(vP (lawC tys)).Ok P f) (ht:argTys P fu ts=some tys)
 (U:∀(j:Nat) t v,ts[j]? = some t->args[j]? = some v->Value.okWide P R2 .any base t v) (hA:DataW.TrodAll enc P R2 b spare held ts args.toList ds ps) :
 Calls P f args R2 λe W'=>e=.returned (.bool true)/\Below R2.heap.size R2 W':=by
 let ⟨xs,g1,g2,z2⟩:=asv (vs:=args.toList) ht (λj t v hj va=>U j t v hj (by simpa using va)) hA
 let ⟨_,hc⟩:=hOk.sound ⟨R2,R2,λ_=>False,[]⟩ (λ_=>none) [] R2 (args.toList.map qO) args.toList (λr _=>r=.bool true) (bf.start R2) (hh1 _)
  ⟨au tys xs,_,_,_,gg tys xs _ g2 g1,rfl,⟨iI tys xs [],by rw[(im tys _ [] [] (iI tys xs [])).1];exact jR tys _ (jR tys xs z2)⟩,rfl,rfl⟩
 refine hc.mono λe w' ⟨v,r,m',lh',he,hr,_,hh,W⟩=>?_;subst W;simp[Dy]at hr;subst hr;exact⟨he,hh.os,hh.tape,hh.output,hh.fsize,hh.old⟩
end
end Go.Dx
