/- Part 3 of a proof. No conditions. -/
import Derived.Test.YtefgedeiipggkaaGreatDoorLb2
import Derived.KernelRfl
import Derived.OpenShut
import Derived.ChangeArms
import Derived.Below
import Derived.ChangeSame
import Derived.Carry
set_option maxRecDepth 100000
set_option linter.unusedVariables false
set_option linter.unusedSimpArgs false
namespace Go.Dx
open Go.Sx
section
variable {w0:World} {ν ν':Nu} {nV nS Pn:Nat} {h h':List AD} {lh lh':List ar} {α:Type} {LP:fE} {Pg:α->Prop} {e:bT} {sl:List ak} {ctx:Bool} {Pe:FuncId->ci}
theorem bZ {v:V} {PR:V->AN α} (hs:bU LP (jA ctx v PR) Pg):∃ u,bU LP (PR u) Pg:=by
 unfold jA at hs;split at hs
 ·simp[bU]at hs;exact⟨_,hs.2⟩
 ·exact⟨_,hs⟩
theorem tP:∀ {xs:List gn} {PR:List V->AN α},bU LP (wd ctx e xs PR) Pg->∃ us,bU LP (PR us) Pg
 |[],PR,hs=>⟨[],hs⟩
 |x::xs,PR,hs=>by
   simp[wd]at hs
   let ⟨u,M⟩:=bZ hs
   let ⟨us,Q⟩:=tP M
   exact⟨_,Q⟩
theorem ki {x:Option gn} {PR:Option V->AN α} (hs:bU LP (wb ctx e x PR) Pg):∃ u,bU LP (PR u) Pg:=by
 cases x with
 |none=>exact⟨none,hs⟩|some x=>simp[wb]at hs;let ⟨u,M⟩:=bZ hs;exact⟨_,M⟩
theorem fP {p:Prop} [Decidable p] {x:AN α} (hs:bU LP (zH ctx p x) Pg):bU LP x Pg:=by simp[zH,bU]at hs;exact hs.2
theorem eO {x:Option V} {y d:Nat} {PR:Nat->AN α} (hs:bU LP (oh ctx x y d PR) Pg):∃ n,bU LP (PR n) Pg:=by
 unfold oh at hs;split at hs
 ·exact⟨_,hs⟩
 ·exact⟨_,fP hs⟩
 ·exact hs.elim
theorem hmj:∀ {ps:List (Nat×Nat×gn)} {z:List V} {PR:List V->AN α},bU LP (rU ctx e ps z PR) Pg->∃ cs,bU LP (PR cs) Pg
 |[],z,PR,hs=>⟨_,hs⟩
 |(off,n,x)::ps,z,PR,hs=>by
   simp[rU]at hs
   let ⟨v,Q⟩:=bZ hs
   cases hf:(v.flat&&Nat.beq (cj v.cells) n) with
   |false=>rw[hf]at Q;exact Q.elim
   |true=>
     rw[hf]at Q;simp[cond_true]at Q;split at Q
     ·exact hmj Q
     ·exact Q.elim
theorem ame {v:V} {x:AN α} (hs:bU LP (XH ctx h v x) Pg):bU LP x Pg:=by
 unfold XH at hs;split at hs
 ·split at hs
  ·exact fP hs
  ·exact hs.elim
 ·exact hs
theorem hux {op:BinOp} {k:IntKind} {x y:Int} {PR:V->AN α} (hs:bU LP (SB ctx op k x y PR) Pg):∃v,bU LP (PR v) Pg:=by cases op<;>simp[SB]at hs<;>first|exact hs.elim|exact⟨_,hs⟩|exact⟨_,fP hs⟩
theorem hpt {op:BinOp} {x y:V} {PR:V->AN α} (hs:bU LP (Dz ctx op x y PR) Pg):∃ v,bU LP (PR v) Pg:=by
 unfold Dz at hs;split at hs
 ·split at hs
  ·exact hux hs
  ·exact hs.elim
 ·split at hs
  ·exact⟨_,hs⟩
  ·exact⟨_,hs⟩
  ·exact⟨_,fP hs⟩
  ·exact hs.elim
 ·exact hs.elim
theorem ayI {cf:CF α} {op:lZ} {PR:V->List AD->AN α} (Zi:ctx=false) (Qe:mB op=true) (hs:bU LP (C0 cf ctx none op e h PR) Pg):∃ v,bU LP (PR v h) Pg:=by
 cases op<;>simp[mB]at Qe<;>simp[C0]at hs<;>try (cases Qe;done)
 case mov x=>let ⟨u,M⟩:=bZ hs;exact⟨_,M⟩
 case pick c a b=>
  let ⟨u,M⟩:=bZ hs
  split at M
  ·let ⟨u,M⟩:=bZ M;exact⟨_,M⟩
  ·let ⟨u,M⟩:=bZ M;exact⟨_,M⟩
  ·let ⟨u,M⟩:=bZ M
   let ⟨u,M⟩:=bZ M
   split at M
   ·exact⟨_,M⟩
   ·simp[bU]at M
    rcases Bool.eq_false_or_eq_true (b:=_) with hb|hb
    ·exact⟨_,M.1 hb⟩
    ·exact⟨_,M.2 hb⟩
  ·simp[bU]at M
   exact⟨_,M.2⟩
  ·exact M.elim
 case agg z ps=>let ⟨cs,M⟩:=hmj hs;exact⟨_,M⟩
 case ld a=>
  let ⟨u,M⟩:=bZ hs
  have M:=ame M
  split at M
  ·exact⟨_,M⟩
  ·exact M.elim
 case lds n a=>
  let ⟨u,M⟩:=bZ hs
  have M:=ame M
  split at M
  ·exact⟨_,M⟩
  ·exact M.elim
 case nz x=>
  let ⟨u,M⟩:=bZ hs
  split at M<;>first|exact⟨_,M⟩|exact M.elim
 case bin op x y=>
  let ⟨u,M⟩:=bZ hs
  let ⟨v,Q⟩:=bZ M
  exact hpt Q
 case eqa neg n x y=>
  let ⟨u,M⟩:=bZ hs
  let ⟨v,Q⟩:=bZ M
  split at Q
  ·rename_i xs ys
   split at Q
   ·rename_i b hb
    cases hn:Nat.beq (cj xs) n with
    |false=>rw[hn]at Q;exact Q.elim
    |true=>rw[hn]at Q;exact⟨_,Q⟩
   ·exact Q.elim
  ·exact Q.elim
 case eqb neg x y=>
  let ⟨u,M⟩:=bZ hs
  let ⟨v,Q⟩:=bZ M
  split at Q
  ·exact⟨_,Q⟩
  ·exact Q.elim
 case un op x=>
  let ⟨u,M⟩:=bZ hs
  split at M<;>first|exact⟨_,M⟩|exact M.elim
 case conv k x=>
  let ⟨u,M⟩:=bZ hs
  split at M<;>first|exact⟨_,M⟩|exact M.elim
 case mkf f xs ys=>
  split at hs
  ·let ⟨us,g1⟩:=tP hs
   let ⟨vs,g2⟩:=tP g1
   exact⟨_,g2⟩
  ·exact hs.elim
 case fa off x=>
  let ⟨u,M⟩:=bZ hs
  split at M
  ·exact⟨_,M⟩
  ·exact⟨_,M⟩
  ·split at M
   ·exact⟨_,M⟩
   ·exact M.elim
  ·exact M.elim
 case fld off n x=>
  let ⟨u,M⟩:=bZ hs
  split at M
  ·split at M
   ·split at M
    ·exact⟨_,M⟩
    ·exact M.elim
   ·split at M
    ·exact⟨_,M⟩
    ·exact M.elim
  ·exact M.elim
 case iaA n esz x ix=>
  let ⟨u,M⟩:=bZ hs
  let ⟨v,Q⟩:=bZ M
  split at Q
  ·exact⟨_,fP Q⟩
  ·exact⟨_,fP Q⟩
  ·split at Q
   ·exact⟨_,fP Q⟩
   ·exact Q.elim
  ·exact Q.elim
 case iaS esz x ix=>
  let ⟨u,M⟩:=bZ hs
  let ⟨v,Q⟩:=bZ M
  split at Q
  ·rename_i n f _ i
   cases hn:Nat.beq (cj (f i.toNat)) esz with
   |false=>rw[hn]at Q;exact Q.elim
   |true=>rw[hn]at Q;exact⟨_,fP Q⟩
  ·exact⟨_,fP Q⟩
  ·split at Q
   ·rename_i ez n' f ty hk
    cases hn:Nat.beq ez esz with
    |false=>rw[hn]at Q;exact Q.elim
    |true=>rw[hn]at Q;exact⟨_,fP Q⟩
   ·exact Q.elim
  ·split at Q
   ·rename_i ez n' f ty hk
    cases hn:Nat.beq ez esz with
    |false=>rw[hn]at Q;exact Q.elim
    |true=>rw[hn]at Q;exact⟨_,fP Q⟩
   ·exact Q.elim
  ·exact⟨_,fP Q⟩
  ·exact Q.elim
 case ixA n esz sz x ix=>
  let ⟨u,M⟩:=bZ hs
  let ⟨v,Q⟩:=bZ M
  split at Q
  ·split at Q
   ·split at Q
    ·exact⟨_,fP Q⟩
    ·exact Q.elim
   ·split at Q
    ·exact⟨_,fP Q⟩
    ·exact Q.elim
  ·exact Q.elim
 case ixS x ix=>
  let ⟨u,M⟩:=bZ hs
  let ⟨v,Q⟩:=bZ M
  split at Q
  ·exact⟨_,fP Q⟩
  ·exact Q.elim
 case len x=>
  let ⟨u,M⟩:=bZ hs
  split at M<;>first|exact⟨_,M λe=>by rw[Zi]at e;cases e⟩|exact⟨_,M⟩|exact M.elim
 case lenT x=>
  let ⟨u,M⟩:=bZ hs
  split at M<;>first|exact⟨_,M⟩|exact M.elim
 case lenA n=>exact⟨_,hs⟩
 case mm b x xs=>
  let ⟨u,M⟩:=bZ hs
  let ⟨us,Q⟩:=tP M
  split at Q
  ·exact⟨_,Q⟩
  ·exact Q.elim
 case ext x i=>
  let ⟨u,M⟩:=bZ hs
  split at M
  ·split at M
   ·exact⟨_,M⟩
   ·exact M.elim
  ·exact M.elim
 case slS esz x lo hi mx=>
  let ⟨u,M⟩:=bZ hs
  let ⟨lo',Q⟩:=ki M
  let ⟨RI,h3⟩:=ki Q
  let ⟨mx',h4⟩:=ki h3
  split at h4
  ·rename_i n f
   split at h4
   ·cases hz:Nat.beq (cj (f 0)) esz with
    |false=>rw[hz]at h4;exact h4.elim
    |true=>
      rw[hz]at h4
      simp[cond_true]at h4
      let ⟨_,h5⟩:=eO h4
      let ⟨_,h6⟩:=eO h5
      exact⟨_,h6⟩
   ·exact h4.elim
  ·split at h4
   ·let ⟨_,h5⟩:=eO h4
    exact⟨_,h5⟩
   ·split at h4
    ·rename_i ez n' f ty hk
     cases hn:Nat.beq ez esz with
     |false=>rw[hn]at h4;exact h4.elim
     |true=>
       rw[hn]at h4
       simp[cond_true]at h4
       let ⟨_,h5⟩:=eO h4
       let ⟨_,h6⟩:=eO h5
       exact⟨_,h6⟩
    ·exact h4.elim
   ·exact h4.elim
  ·let ⟨_,h5⟩:=eO h4
   let ⟨_,h6⟩:=eO h5
   let ⟨_,h7⟩:=eO h6
   exact⟨_,h7⟩
  ·split at h4
   ·let ⟨_,h5⟩:=eO h4
    let ⟨_,h6⟩:=eO h5
    exact⟨_,h6⟩
   ·exact h4.elim
  ·exact h4.elim
 case isn neg x=>
  let ⟨u,M⟩:=bZ hs
  split at M
  ·exact⟨_,M⟩
  ·exact⟨_,M⟩
  ·exact⟨_,M.2⟩
  ·exact⟨_,M.2⟩
  ·exact M.elim
 case slA n esz x lo hi mx=>
  let ⟨u,M⟩:=bZ hs
  let ⟨lo',Q⟩:=ki M
  let ⟨RI,h3⟩:=ki Q
  let ⟨mx',h4⟩:=ki h3
  split at h4
  ·let ⟨_,h5⟩:=eO h4
   let ⟨_,h6⟩:=eO h5
   let ⟨_,h7⟩:=eO h6
   exact⟨_,h7⟩
  ·exact h4.elim
 case slT x lo hi=>
  let ⟨u,M⟩:=bZ hs
  let ⟨lo',Q⟩:=ki M
  let ⟨RI,h3⟩:=ki Q
  split at h3
  ·let ⟨_,h5⟩:=eO h3
   let ⟨_,h6⟩:=eO h5
   exact⟨_,h6⟩
  ·exact h3.elim
def pw (Pn:Nat):List jt->Bool
 |[]=>true|o::l=>(match o.dst with|some d=>Nat.blt d Pn|none=>true)&&pw Pn l
theorem amD {Pn:Nat} {o:jt} {l:List jt} (hd:pw Pn (o::l)=true):(∀i,o.dst=some i->i<Pn)/\pw Pn l=true:=by simp[pw,Ae]at hd;refine⟨λi hi=>?_,hd.2⟩;rw[hi]at hd;exact Bf hd.1
theorem dq {l:List ak} {d:Nat} {a:ak} (hd:l.getD d .any=a) (ha:a≠.any):l.set d a=l:=by
 apply ED;intro i;rw[Be];split
 ·rename_i e;subst e
  split
  ·rename_i Pj;simp[List.getD,Ds Pj]at hd;simp[hd,Ds Pj]
  ·rename_i Pj;simp[List.getD,D1 (Nat.le_of_not_lt Pj)]at hd;exact(ha hd.symm).elim
 ·rfl
theorem Bz {b:Bool} {v:V} {a:ak} (hb:b=true) (hv:vr w0 lh ν v a):vr w0 lh ν (.gd b v) a:=by simp[vr];exact⟨λ_=>hv,λe=>by rw[hb]at e;cases e⟩
theorem akF {b:Bool} {v:V} {l:List ak} (hb:b=false):vr w0 lh ν (.gd b v) (.tup l):=by simp only[vr];exact⟨(λe=>by rw[hb]at e;cases e),λ_=>⟨l,rfl⟩⟩
theorem BP:vr w0 lh ν (.tup []) (.tup []):=by simp only[vr,bK];exact⟨[],rfl,rfl⟩
theorem wh {b want:Bool} (e:b=want):gB b want=true:=by subst e;cases b<;>rfl
theorem zQ {b want:Bool} (e:b=!want):gB b want=false:=by subst e;cases want<;>rfl
theorem lU {cf:CF α} (RB:uz w0 Pe LP false cf):∀ (ops:List jt) (e:bT) (h:List AD) (ν:Nu) (sl:List ak) (lh:List ar) (PR:bT->List AD->AN α) (KA:List ak->List ar->Prop),pw Pn ops=true ->
 gY w0 ν Pn e sl->HR w0 ν nV nS h lh->bU LP (hJ cf ops e h PR) Pg->(∀e' h' ν' sl' lh',ν.sub ν'->gY w0 ν' Pn e' sl'->HR w0 ν' nV nS h' lh'->bU LP (PR e' h') Pg->KA sl' lh')->fH w0 Pe ops sl lh KA
 |[],e,h,ν,sl,lh,PR,KA,hd,QM,hh,hs,hK=>hK e h ν sl lh (Nu.sub_refl ν) QM hh hs
 |o::rest,e,h,ν,sl,lh,PR,KA,hd,QM,hh,hs,hK=>by
   let ⟨T8,T9⟩:=amD hd
   have go:∀{e0:bT},gY w0 ν Pn e0 sl->bU LP (C0 cf true none o.op e0 h λv h=>hJ cf rest (eN e0 o.dst v) h PR) Pg->dK w0 Pe sl lh none (λv lh'=>fH w0 Pe rest (fl sl o.dst v) lh' KA) o.op:=by intro e0 Tw hs;refine Cw (md:=false) (wn:=[]) Tw hh rfl RB (.inl ⟨rfl,rfl⟩) (λe=>by cases e) hs λv h' ν' a lh' _ _ g1 g2 g3 g4=>?_;exact lU RB rest _ h' ν' _ lh' PR KA T9 ((Tw.mono g1).put o.dst T8 g3) g2 g4 λe' h' ν'' sl' lh' k1=>hK e' h' ν'' sl' lh' (Nu.sub_trans g1 k1)
   have skip:∀{e0:bT},gY w0 ν Pn e0 sl->bU LP (hJ cf rest (eN e0 o.dst (.tup [])) h PR) Pg->fH w0 Pe rest (fl sl o.dst (.tup [])) lh KA:=by intro e0 Tw hs;exact lU RB rest _ h ν _ lh PR KA T9 (Tw.put o.dst T8 BP) hh hs hK
   have goS:∀ {b:Bool},mB o.op=true->b=true->bU LP (C0 cf b none o.op e h λv _=>hJ cf rest (eN e o.dst (.gd b v)) h PR) Pg->dK w0 Pe sl lh none (λv lh'=>fH w0 Pe rest (fl sl o.dst v) lh' KA) o.op:=by
    intro b Qe hb hs;refine Cw (md:=false) (wn:=[]) QM hh hb RB (.inl ⟨rfl,rfl⟩) (λe=>by cases e) hs λv h' ν' a lh' _ PX g1 g2 g3 g4=>?_
    let ⟨rfl,rfl,rfl⟩:=PX Qe
    exact lU RB rest _ _ _ _ _ PR KA T9 (QM.put o.dst T8 (Bz hb g3)) g2 g4 hK
   have skipS:∀ {b:Bool},mB o.op=true->b=false->bU LP (C0 cf b none o.op e h λv _=>hJ cf rest (eN e o.dst (.gd b v)) h PR) Pg->fH w0 Pe rest (fl sl o.dst (.tup [])) lh KA:=by
    intro b Qe hb hs
    let ⟨v,g⟩:=ayI hb Qe hs
    exact lU RB rest _ h ν _ lh PR KA T9 (QM.put o.dst T8 (akF hb)) hh g hK
   simp only[hJ]at hs;simp only[fH];split at hs
   ·rename_i hg;rw[hg];exact go QM hs
   ·rename_i d want hg
    rw[hg];dsimp only
    have QP:=QM.at' d;split at hs
    ·rename_i b hb
     rw[hb]at QP;simp only[vr]at QP;rw[QP];dsimp only
     split at hs
     ·rename_i he _;subst he;exact⟨λ_=>by rw[dq QP au];exact go QM hs,λe=>by cases b<;>cases e⟩
     ·rename_i he _;exact⟨λe=>(he e).elim,λe=>by rw[← e,dq QP au];exact skip QM hs⟩
    ·rename_i l hb
     rw[hb]at QP;simp only[vr]at QP
     let ⟨az,QP,_⟩:=QP
     rw[QP];dsimp only
     rw[dq QP au];exact skip QM hs
    ·rename_i k n hb;rw[hb]at QP;simp only[vr]at QP;rw[QP];exact skip QM hs
    ·rename_i b hb
     rw[hb]at QP;simp only[vr]at QP;rw[QP];dsimp only
     split at hs
     ·rename_i Qe;exact⟨λe1=>by rw[← e1,dq QP au];exact goS Qe (wh e1) hs,λe1=>by rw[← e1,dq QP au];exact skipS Qe (zQ e1) hs⟩
     ·simp only [bU]at hs
      refine⟨λe1=>?_,λe1=>?_⟩
      ·rw[← e1,dq QP au];exact go (QM.know (by simp only[vr];rw[QP,e1])) (hs.1 (wh e1))
      ·rw[← e1,dq QP au];exact skip (QM.know (by simp only[vr];rw[QP,e1])) (hs.2 (zQ e1))
    ·rename_i c v hb
     rw[hb]at QP;simp only[vr]at QP;split at hs
     ·split at hs
      ·have hl:∃ l,sl.getD d .any=.tup l:=by
        cases c with
        |false=>exact QP.2 rfl|true=>have:=QP.1 rfl;simp only[vr]at this;let ⟨l,e,_⟩:=this;exact⟨l,e⟩
       let ⟨l,hl⟩:=hl
       rw[hl];dsimp only
       rw[dq hl au];exact skip QM hs
      ·exact hs.elim
     ·rename_i b Xr
      cases c with
      |false=>
        let ⟨l,hl⟩:=QP.2 rfl
        rw[hl];dsimp only
        rw[dq hl au];split at hs
        ·rename_i Qe;exact skipS Qe rfl hs
        ·simp only[bU]at hs;exact skip QM (hs.2 rfl)
      |true=>
        have QP:=pu (QP.1 rfl) Xr;rw[QP];dsimp only
        split at hs
        ·rename_i Qe;exact⟨λe1=>by rw[← e1,dq QP au];exact goS Qe (by rw[wh e1];rfl) hs,λe1=>by rw[← e1,dq QP au];exact skipS Qe (by rw[zQ e1];rfl) hs⟩
        ·simp only [bU]at hs
         refine⟨λe1=>?_,λe1=>?_⟩
         ·rw[← e1,dq QP au];exact go (QM.know (by simp only[vr];rw[QP,e1])) (hs.1 (by rw[wh e1];rfl))
         ·rw[← e1,dq QP au];exact skip QM (hs.2 (by rw[zQ e1];rfl))
    ·exact hs.elim
end
theorem kn {k:Nat}:∀ {l:List Nat},ze k l=true↔k∈l
 |[]=>by simp[ze]
 |x::l=>by
   simp only[ze,Dq];by_cases h:k=x
   ·subst h;simp
   ·have:Nat.beq k x=false:=by
     cases hb:Nat.beq k x with
     |false=>rfl|true=>exact(h (Ap hb)).elim
    rw[this,cond_false,kn];simp[h]
theorem yj:∀ {l Q8:List Nat},Hm l Q8=true↔∀ k,k∈l->k∈Q8
 |[],Q8=>by simp[Hm]
 |x::l,Q8=>by simp[Hm,Ae,kn,yj,Dq,Ka]
theorem xk:∀ {l Q8:List Nat},MI l Q8=true↔∀ k,k∈l->k∉Q8
 |[],Q8=>by simp[MI]
 |x::l,Q8=>by
   simp only[MI,Ae,xk,Dq,Ka];refine and_congr ?_ Iff.rfl;cases hm:ze x Q8 with
   |false=>simp;intro h;rw[kn.2 h]at hm;cases hm|true=>simp;exact kn.1 hm
theorem nF {Ws:List (List Nat)} {k:Nat}:∀ {un:List Nat},k∈o3 Ws un↔∃ u,u∈un/\k∈d4 Ws u
 |[]=>by simp[o3]
 |u::un=>by
   simp only[o3,mJ,IC,nF,Dq];constructor
   ·rintro (h|⟨v,M,Q⟩)
    ·exact⟨u,.inl rfl,h⟩
    ·exact⟨v,.inr M,Q⟩
   ·rintro⟨v,rfl|M,Q⟩
    ·exact .inl Q
    ·exact .inr ⟨v,M,Q⟩
theorem his (X:List Nat):∀ (h:List AD) (b k:Nat),(kr X h b)[k]? = (h[k]?).map λo=>if b+k∈X then AD.hid else o
 |[],b,k=>by simp[kr]
 |o::h,b,0=>by
   simp only[kr,E9,DK,Ej];cases hm:ze b X with
   |false=>rw[cond_false,AU (λh=>by rw[kn.2 h]at hm;cases hm)]|true=>rw[cond_true,Ad (kn.1 hm)]
 |o::h,b,k+1=>by simp[kr,EA];rw[his X h (b+1) k,show b+1+k=b+(k+1) by omega]
theorem AB (X:List Nat) (h:List AD) (k:Nat):(kC X h)[k]? = (h[k]?).map λo=>if k∈X then AD.hid else o:=by
 unfold kC;split
 ·cases h[k]? <;> simp
 ·rw[his];simp
theorem R84 (X:List Nat) (h:List AD):(kC X h).length=h.length:=by
 have gen:∀ (h:List AD) (b:Nat),(kr X h b).length=h.length:=λh=>by
  induction h with
  |nil=>intro b;rfl|cons o h ih=>intro b;simp[kr,ih]
 unfold kC;split
 ·rfl
 ·exact gen h 0
theorem hj3 (Q8:List Nat) (l:List AD):∀ (h:List AD) (b k:Nat),(mK Q8 l h b)[k]? = (h[k]?).map λo=>if b+k∈Q8 then l.getD (b+k) o else o
 |[],b,k=>by simp[mK]
 |o::h,b,0=>by
   simp only[mK,E9,DK,Ej];cases hm:ze b Q8 with
   |false=>rw[cond_false,AU (λh=>by rw[kn.2 h]at hm;cases hm)]
   |true=>rw[cond_true,Ad (kn.1 hm),bw];simp only[List.getD];cases l[b]? <;> rfl
 |o::h,b,k+1=>by simp only[mK,EA];rw[hj3 Q8 l h (b+1) k,show b+1+k=b+(k+1) by omega]
theorem xc (Q8:List Nat) (h l:List AD) (k:Nat):(Hy Q8 h l)[k]? = (h[k]?).map λo=>if k∈Q8 then l.getD k o else o:=by unfold Hy;rw[hj3];simp
theorem hz2 (Q8:List Nat) (h l:List AD):(Hy Q8 h l).length=h.length:=by
 have gen:∀ (h:List AD) (b:Nat),(mK Q8 l h b).length=h.length:=λh=>by
  induction h with
  |nil=>intro b;rfl|cons o h ih=>intro b;simp[mK,ih]
 exact gen h 0
theorem hlx:∀ (h:List AD) (k:Nat),(undead h)[k]? = (h[k]?).map λo=>match o with|.dead=>AD.hid|o=>o
 |[],k=>by simp[undead]
 |o::h,0=>by cases o<;>rfl
 |o::h,k+1=>by simp[undead,EA];exact hlx h k
theorem rD:∀ (h:List AD),(undead h).length=h.length
 |[]=>rfl|o::h=>by simp[undead,rD h]
theorem qG:∀ (n k:Nat),(deads n)[k]? = if k<n then some AD.dead else none
 |0,k=>by simp[deads]
 |n+1,0=>by simp[deads]
 |n+1,k+1=>by simp[deads,qG n k]
theorem qp (X:List Nat) (lh:List ar) (k:Nat):(hide X lh)[k]? = (lh[k]?).map λo=>if k∈X then ar.hid else o:=by unfold hide;rw[Jf]
theorem xm (Q8:List Nat) (lh l:List ar) (k:Nat):(mix Q8 lh l)[k]? = (lh[k]?).map λo=>if k∈Q8 then l.getD k o else o:=by unfold mix;rw[Jf]
section
variable {w0:World} {ν ν' ν0:Nu} {nV nS Pn:Nat} {h h' h0:List AD} {lh lh' lh0:List ar} {α:Type} {LP:fE} {Pg:α->Prop} {e:bT} {sl:List ak} {ctx:Bool} {Pe:FuncId->ci}
theorem HR.undead {a b:Nat} (hh:HR w0 ν a b h lh) (nV nS:Nat):HR w0 ν nV nS (undead h) lh:=by
 have hl:∀ k (o:AD),(Dx.undead h)[k]? = some o->o≠.hid->h[k]? = some o/\o≠.dead:=λk o hk ho=>by
  rw[hlx]at hk;cases hg:h[k]? with
  |none=>rw[hg]at hk;cases hk
  |some o'=>rw[hg]at hk;simp[DK,Ak]at hk;cases o'<;>simp at hk<;>subst hk<;>first|exact(ho rfl).elim|exact⟨rfl,au⟩
 have hlive:∀ k,bp (Dx.undead h) k->bp h k:=λk hk=>by
  rcases gz hk with ⟨_,_,g⟩|⟨_,_,_,_,g⟩
  ·exact eJ (hl k _ g au).1
  ·exact iq (hl k _ g au).1
 refine⟨λk o hk=>?_,λk k' x x' M Q=>hh.inj k k' x x' (hlive k M) (hlive k' Q),λk hk=>hh.dom k (by rw[rD]at hk;exact hk),hh.rng,hh.zl,λk x hk hx=>hh.zn k x (hlive k hk) hx⟩;by_cases ho:o=.hid
 ·subst ho;trivial
 ·let ⟨g1,g2⟩:=hl k o hk ho
  have:=hh.blk k o g1;cases o with
  |dead=>exact(g2 rfl).elim|hid=>trivial|cells cs ty=>exact this|gl esz n f ty=>exact this
theorem HR.deads (hh:HR w0 ν nV nS h lh) (hV:nV=h.length) (hS:nS=lh.length) (m:Nat):HR w0 ν nV nS (h++deads m) (lh++List.replicate m .dead):=by
 subst hV hS;have hl:∀ k,bp (h++Dx.deads m) k->bp h k:=λk hk=>by
  unfold bp fk at *
  rw[bw]at *
  rw[E1]at hk;split at hk
  ·rename_i PX hq
   split at hq
   ·rw[hq]
   ·rw[qG]at hq;split at hq<;>cases hq
  ·rename_i PX hq
   split at hq
   ·rw[hq]
   ·rw[qG]at hq;split at hq<;>cases hq
  ·cases hk
 refine⟨λk o hk=>?_,λk k' x x' M Q=>hh.inj k k' x x' (hl k M) (hl k' Q),λk hk=>hh.dom k (by simp at hk;omega),λk x hx=>by have:=hh.rng k x hx;simp;omega,λj az ty hj=>by have PX:=hh.zl j az ty hj;rw[BF (List.getElem?_eq_some_iff.1 PX).1];exact PX,λk x hk hx=>hh.zn k x (hl k hk) hx⟩;rw[E1]at hk;split at hk
 ·rename_i Pj
  have:=hh.blk k o hk;cases o with
  |dead=>let ⟨g1,g2,g3⟩:=this;omega
  |hid=>trivial|cells cs ty=>exact d8 (Nu.sub_refl ν) au (λb az ty' PX _=>by rw[BF (List.getElem?_eq_some_iff.1 PX).1];exact PX) this|gl esz n f ty=>exact d8 (Nu.sub_refl ν) au (λb az ty' PX _=>by rw[BF (List.getElem?_eq_some_iff.1 PX).1];exact PX) this
 ·rename_i Sf
  rw[qG]at hk;split at hk
  ·rename_i Pj;cases hk;refine⟨hh.dom k K,K,?_⟩;rw[DD K,List.getElem?_replicate,Ad K]
  ·cases hk
def ua (ν0:Nu) (nV nS k:Nat):Option Nat:=if k<nV then(match ν0 k with|some (some x)=>some x.1|_=>none) else some (nS+(k-nV))
structure WR (ν0:Nu) (nV nS:Nat) (h0:List AD) (Ws WsS:List (List Nat)):Prop where
 rel:∀i j,j∈Cl WsS i↔∃k,k∈d4 Ws i/\ua ν0 nV nS k=some j
 live:∀i k,k∈d4 Ws i->k<nV->bp h0 k
structure DI (w0:World) (ν0:Nu) (h0:List AD) (nV nS:Nat) (Ws:List (List Nat)) (rk:Nat->Bool) (cur:Nat) (ν:Nu) (h:List AD) (lh:List ar):Prop where
 hr:HR w0 ν nV nS h lh
 old:∀k,k<nV->ν k=ν0 k
 zc:ν.z=ν0.z
 liv:∀k,k<nV->bp h k->bp h0 k
 nw:∀k x,nV<=k->ν k=some (some x)->x.1=nS+(k-nV)∨∃i k0,rk i=true/\i<cur/\k∈d4 Ws i/\k0∈d4 Ws i/\ua ν0 nV nS k0=some x.1
def GX (Ws:List (List Nat)) (rk:Nat->Bool) (cur:Nat) (QE:List Nat):Prop:=∀i,i<cur->rk i=true->(∀k,k∈d4 Ws i->k∉QE)∨∀k,k∈d4 Ws i->k∈QE
theorem wK (H0:HR w0 ν0 nV nS h0 lh0) (hS:nS=lh0.length) {k k' j:Nat} (hk:k<nV->bp h0 k) (RX:k'<nV->bp h0 k') (M:ua ν0 nV nS k=some j) (Q:ua ν0 nV nS k'=some j):k=k':=by
 unfold ua at M Q;split at M
 ·rename_i l1
  split at M
  ·rename_i x hx
   have e1:x.1=j:=by simpa using M
   split at Q
   ·rename_i l2
    split at Q
    ·rename_i x' SP
     have e2:x'.1=j:=by simpa using Q
     exact H0.inj k k' x x' (hk l1) (RX l2) hx SP (by rw[e1,e2])
    ·cases Q
   ·have e2:nS+(k'-nV)=j:=by simpa using Q
    have:=H0.rng k x hx;omega
  ·cases M
 ·rename_i l1
  have e1:nS+(k-nV)=j:=by simpa using M
  split at Q
  ·split at Q
   ·rename_i x' SP
    have e2:x'.1=j:=by simpa using Q
    have:=H0.rng k' x' SP;omega
   ·cases Q
  ·have e2:nS+(k'-nV)=j:=by simpa using Q
   omega
section
variable {Ws WsS:List (List Nat)} {rk:Nat->Bool} {cur:Nat}
theorem DI.nmu_of (hd:DI w0 ν0 h0 nV nS Ws rk cur ν h lh) {k:Nat} {x:Nat×Nat×Nat} (hx:ν k=some (some x)):ua ν0 nV nS k=some x.1∨∃ i k0,rk i=true/\i<cur/\k∈d4 Ws i/\k0∈d4 Ws i/\ua ν0 nV nS k0=some x.1:=by
 by_cases hk:k<nV
 ·left;unfold ua;rw[Ad hk,← hd.old k hk,hx]
 ·rcases hd.nw k x K hx with M|M
  ·left;unfold ua;rw[AU hk,M]
  ·exact .inr M
theorem DI.into (hd:DI w0 ν0 h0 nV nS Ws rk cur ν h lh) (H0:HR w0 ν0 nV nS h0 lh0) (hS:nS=lh0.length) (hw:WR ν0 nV nS h0 Ws WsS) {QE:List Nat} (hY:GX Ws rk cur QE) (hYw:∀ k,k∈QE->∃ u,k∈d4 Ws u)
 {k k':Nat} {x:Nat×Nat×Nat} (hl:bp h k) (hx:ν k=some (some x)) (RX:k'∈QE) (hm:ua ν0 nV nS k'=some x.1):k∈QE:=by
 let ⟨u,hu⟩:=hYw k' RX
 rcases hd.nmu_of hx with M|⟨i,k0,g1,g2,g3,g4,g5⟩
 ·have:=wK H0 hS (λPj=>hd.liv k Pj hl) (λPj=>hw.live u k' hu Pj) M hm;rw[this];exact RX
 ·have:=wK H0 hS (λPj=>hw.live i k0 g4 Pj) (λPj=>hw.live u k' hu Pj) g5 hm
  subst this;rcases hY i g2 g1 with PX|PX
  ·exact absurd RX (PX k0 g4)
  ·exact PX k g3
theorem DI.outof (hd:DI w0 ν0 h0 nV nS Ws rk cur ν h lh) {QE:List Nat} (hY:GX Ws rk cur QE) {k:Nat} {x:Nat×Nat×Nat} (hx:ν k=some (some x)) (hk:k∈QE):∃ k',k'∈QE/\ua ν0 nV nS k'=some x.1:=by
 rcases hd.nmu_of hx with M|⟨i,k0,g1,g2,g3,g4,g5⟩
 ·exact⟨k,hk,M⟩
 ·rcases hY i g2 g1 with PX|PX
  ·exact absurd hk (PX k g3)
  ·exact⟨k0,PX k0 g4,g5⟩
theorem aAs (H0:HR w0 ν0 nV nS h0 lh0) (hS:nS=lh0.length) {k k':Nat} (hk:nV<=k) (hm:ua ν0 nV nS k'=some (nS+(k-nV))):k'=k:=by
 unfold ua at hm;split at hm
 ·split at hm
  ·rename_i x hx
   have:=H0.rng k' x hx;have e1:x.1=nS+(k-nV):=by simpa using hm
   omega
  ·cases hm
 ·have e1:nS+(k'-nV)=nS+(k-nV):=by simpa using hm
  omega
theorem ad9 (H0:HR w0 ν0 nV nS h0 lh0) (hS:nS=lh0.length) {k j:Nat} (hk:k<nV->bp h0 k) (M:ua ν0 nV nS k=some j):isCells ν0.z[j]? = false:=by
 unfold ua at M;split at M
 ·rename_i l1
  split at M
  ·rename_i x hx
   have e1:x.1=j:=by simpa using M
   rw[← e1];exact H0.zn k x (hk l1) hx
  ·cases M
 ·have e1:nS+(k-nV)=j:=by simpa using M
  refine aaz H0.zl ?_;rw[D1 K];rfl
theorem DI.hide (hd:DI w0 ν0 h0 nV nS Ws rk cur ν h lh) (H0:HR w0 ν0 nV nS h0 lh0) (hS:nS=lh0.length) (hw:WR ν0 nV nS h0 Ws WsS) {X XS:List Nat} (hX:GX Ws rk cur X) (hXw:∀ k,k∈X->∃ u,k∈d4 Ws u)
 (hXS:∀j,j∈XS↔∃k,k∈X/\ua ν0 nV nS k=some j):HR w0 ν nV nS (kC X h) (Sx.hide XS lh):=by
 have hl:∀ k (o:AD),(kC X h)[k]? = some o->o≠.hid->h[k]? = some o/\k∉X:=λk o hk ho=>by
  rw[AB]at hk;cases hg:h[k]? with
  |none=>rw[hg]at hk;cases hk
  |some o'=>
    rw[hg]at hk;simp[DK,Ak]at hk;split at hk
    ·exact(ho hk.symm).elim
    ·rename_i hn;subst hk;exact⟨rfl,hn⟩
 have hlive:∀ k,bp (kC X h) k->bp h k:=λk hk=>by
  rcases gz hk with ⟨_,_,g⟩|⟨_,_,_,_,g⟩
  ·exact eJ (hl k _ g au).1
  ·exact iq (hl k _ g au).1
 refine⟨λk o hk=>?_,λk k' x x' M Q=>hd.hr.inj k k' x x' (hlive k M) (hlive k' Q),λk hk=>hd.hr.dom k (by rw[R84]at hk;exact hk),λk x hx=>by have:=hd.hr.rng k x hx;unfold Sx.hide;simpa using this,λj az ty hj=>?_,λk x hk hx=>hd.hr.zn k x (hlive k hk) hx⟩
 case refine_2=>
  rw[qp,hd.hr.zl j az ty hj];simp only[DK];rw[AU];intro hm
  let ⟨k',e1,e2⟩:=(hXS _).1 hm
  let ⟨u,hu⟩:=hXw k' e1
  have:=ad9 H0 hS (λPj=>hw.live u k' hu Pj) e2;rw[← hd.zc]at this;exact nl this _ _ hj
 by_cases ho:o=.hid
 ·subst ho;trivial
 ·let ⟨g1,g2⟩:=hl k o hk ho
  have hb:=hd.hr.blk k o g1;by_cases S5:o=.dead
  ·subst S5
   let ⟨q1,q2,q3⟩:=hb
   refine⟨q1,q2,?_⟩;rw[qp,q3];simp only[DK];rw[AU];intro hm
   let ⟨k',e1,e2⟩:=(hXS _).1 hm
   rw[aAs H0 hS q2 e2]at e1;exact g2 e1
  ·have S6:bp h k:=by
    unfold bp fk;rw[bw,g1];cases o<;>first|rfl|exact(S5 rfl).elim|exact(ho rfl).elim
   refine d8 (Nu.sub_refl ν) S5 (λb az ty q1 q2=>?_) hb
   let ⟨c,ez,q3⟩:=q2
   rw[qp,q1];simp only[DK];rw[AU];intro hm
   let ⟨k',e1,e2⟩:=(hXS _).1 hm
   exact g2 (hd.into H0 hS hw hX hXw S6 q3 e1 e2)
theorem DI.mix (hd : DI w0 ν0 h0 nV nS Ws rk cur ν h lh) (H0:HR w0 ν0 nV nS h0 lh0) (hS:nS=lh0.length) (hw:WR ν0 nV nS h0 Ws WsS) {X XS:List Nat} (hX:GX Ws rk cur X)
 (hW:GX Ws rk cur (d4 Ws cur)) (hdis:∀k,k∈d4 Ws cur->k∉X) (hhid:HR w0 ν nV nS (kC X h) (Sx.hide XS lh)) {pl plA:Option Nat} (S7:∀p,pl=some p->p∈d4 Ws cur/\nV<=p/\plA=some (nS+(p-nV))/\rk cur=true) (hpl0:pl=none->plA=none)
 {M:List AD} {l1:List ar} (hsub:ν.sub ν') (hr:HR w0 ν' nV nS M l1) (hm:zZ ν ν' (d4 Ws cur) pl plA (kC X h) M (Sx.hide XS lh) l1) :
 kT (Cl WsS cur) l1 (Sx.hide XS lh)/\DI w0 ν0 h0 nV nS Ws rk (cur+1) ν' (Hy (d4 Ws cur) h M) (mix (Cl WsS cur) lh l1):=by
 have hlenl:l1.length=lh.length:=by rw[hm.len];simp[Sx.hide]
 have hlenh:M.length=h.length:=by rw[hm.hlen,R84]
 have hplS:∀ j,plA=some j->j∈Cl WsS cur:=λj hj=>by
  cases hp:pl with
  |none=>rw[hpl0 hp]at hj;cases hj
  |some p=>
    let ⟨q1,q2,q3,_⟩:=S7 p hp
    rw[q3]at hj;cases hj;exact(hw.rel cur _).2 ⟨p,q1,by unfold ua;rw[AU K]⟩
 have hWS:∀ k x,k∈d4 Ws cur->ν k=some (some x)->x.1∈Cl WsS cur:=λk x hk hx=>by
  let ⟨k',e1,e2⟩:=hd.outof hW hx hk
  exact(hw.rel cur _).2 ⟨k',e1,e2⟩
 have hold:∀ k,k<nV->ν' k=ν0 k:=λk hk=>by
  cases hv:ν k with
  |some x=>rw[hsub.1 k x hv,← hd.old k hk,hv]
  |none=>
    rw[← hd.old k hk,hv];cases X7:ν' k with
    |none=>rfl
    |some x=>
      rcases hm.nw k x X7 with PX|⟨PX,_⟩
      ·rw[hv]at PX;cases PX
      ·have:=(S7 k PX).2.1;omega
 have Y7:∀ k x,nV<=k->ν' k=some (some x)->x.1=nS+(k-nV)∨∃ i k0,rk i=true/\i<cur+1/\k∈d4 Ws i/\k0∈d4 Ws i/\ua ν0 nV nS k0=some x.1:=λk x hk hx=>by
  rcases hm.nw k _ hx with PX|⟨q1,q2⟩
  ·rcases hd.nw k x hk PX with g|⟨i,k0,g1,g2,g3⟩
   ·exact .inl g
   ·exact .inr ⟨i,k0,g1,K,g3⟩
  ·let ⟨p1, p2, p3, p4⟩ := S7 k q1
   rcases q2 x rfl with g|⟨k0,z,g1,g2,g3⟩
   ·rw [p3] at g; exact .inl (by have:nS+(k-nV)=x.1:=by simpa using g
                                 omega)
   ·let ⟨k',e1,e2⟩:=hd.outof hW g2 g1
    exact .inr ⟨cur,k',p4,K,p1,e1,by rw[← g3];exact e2⟩
 have hsame:∀ j,j∉Cl WsS cur->l1[j]? = (Sx.hide XS lh)[j]? := λj hj=>hm.chg j (λe=>hj (hplS j e)) (λk x hk hx e=>hj (by rw[← e];exact hWS k x hk hx));refine⟨⟨hm.len,hsame⟩,?_⟩;have hlive:∀ k,bp (Hy (d4 Ws cur) h M) k->(k∉d4 Ws cur/\bp h k)∨(k∈d4 Ws cur/\bp M k):=λk hk=>by
  by_cases Vb:k∈d4 Ws cur
  ·right
   refine⟨Vb,?_⟩;unfold bp fk at *
   rw[bw]at *
   rw[xc]at hk;cases hg:h[k]? with
   |none=>rw[hg]at hk;cases hk
   |some o=>
     rw[hg]at hk;simp[DK,Ad Vb,List.getD]at hk;have Pj:k<M.length:=by rw[hlenh];exact(List.getElem?_eq_some_iff.1 hg).1
     rw[Ds Pj]at hk ⊢;exact hk
  ·left
   refine⟨Vb,?_⟩;unfold bp fk at *
   rw[bw]at *
   rw[xc]at hk;cases hg:h[k]? with
   |none=>rw[hg]at hk;cases hk|some o=>rw[hg]at hk;simp[DK,AU Vb]at hk;exact hk
 have hget:∀ k o,(Hy (d4 Ws cur) h M)[k]? = some o->(k∉d4 Ws cur/\h[k]? = some o)∨(k∈d4 Ws cur/\M[k]? = some o):=λk o hk=>by
  rw[xc]at hk;cases hg:h[k]? with
  |none=>rw[hg]at hk;cases hk
  |some o'=>
    rw[hg]at hk;simp only[DK]at hk;by_cases Vb:k∈d4 Ws cur
    ·right
     refine⟨Vb,?_⟩;have Pj:k<M.length:=by rw[hlenh];exact(List.getElem?_eq_some_iff.1 hg).1
     rw[Ad Vb]at hk;simp only[List.getD,Ds Pj]at hk ⊢;exact hk
    ·left;rw[AU Vb]at hk;exact⟨Vb,hk⟩
 have hmixin:∀ b,b∈Cl WsS cur->(Sx.mix (Cl WsS cur) lh l1)[b]? = l1[b]? := λb hb=>by
  rw[xm];cases hg:lh[b]? with
  |none=>have:=List.getElem?_eq_none_iff.1 hg;rw[D1 K];rfl
  |some o=>
    have Pj:b<l1.length:=by rw[hlenl];exact(List.getElem?_eq_some_iff.1 hg).1
    simp only[DK,Ad hb,List.getD,Ds Pj];rfl
 have hmixout:∀b,b∉Cl WsS cur->(Sx.mix (Cl WsS cur) lh l1)[b]? = lh[b]? := λb hb=>by rw[xm];cases hg:lh[b]? <;> simp[hb]
 have hout:∀ k x,k∉d4 Ws cur->bp h k->ν k=some (some x)->x.1∉Cl WsS cur:=λk x hk hl hx hmem=>by
  let ⟨k',e1,e2⟩:=(hw.rel cur _).1 hmem
  exact hk (hd.into H0 hS hw hW (λk hk=>⟨cur,hk⟩) hl hx e1 e2)
 have RV:∀ k x,k∈d4 Ws cur->ν' k=some (some x)->x.1∈Cl WsS cur:=λk x hk hx=>by
  rcases hm.nw k _ hx with PX|⟨q1,q2⟩
  ·exact hWS k x hk PX
  ·rcases q2 x rfl with g|⟨k0,z,g1,g2,g3⟩
   ·exact hplS _ g
   ·rw[← g3];exact hWS k0 z g1 g2
 have hν:∀ k,k∉d4 Ws cur->ν' k=ν k:=λk hk=>by
  cases hv:ν k with
  |some x=>exact hsub.1 k x hv
  |none=>
    cases X7:ν' k with
    |none=>rfl
    |some x=>
      rcases hm.nw k x X7 with PX|⟨PX,_⟩
      ·rw[hv]at PX;cases PX
      ·exact absurd (S7 k PX).1 hk
 refine⟨⟨λk o hk=>?_,λk k' x x' g1 g2 hx SP he=>?_,λk hk=>?_,λk x hx=>?_,λj az ty hj=>?_,λk x hl hx=>?_⟩,hold,hm.zz.trans hd.zc,λk hk hl=>?_,Y7⟩
 ·rcases hget k o hk with ⟨q1,q2⟩|⟨q1,q2⟩
  ·have hb:=hd.hr.blk k o q2
   by_cases ho:o=.hid
   ·subst ho;trivial
   ·by_cases S5:o=.dead
    ·subst S5
     let ⟨e1,e2,e3⟩:=hb
     refine⟨by rw[hν k q1];exact e1,e2,?_⟩;rw[hmixout]
     ·exact e3
     ·intro hmem
      let ⟨k',f1,N⟩:=(hw.rel cur _).1 hmem
      rw[aAs H0 hS e2 N]at f1;exact q1 f1
    ·have S6:bp h k:=by
      unfold bp fk;rw[bw,q2];cases o<;>first|rfl|exact(S5 rfl).elim|exact(ho rfl).elim
     refine d8 hsub S5 (λb az ty e1 e2=>?_) hb
     let ⟨c,ez,e3⟩:=e2
     rw[hmixout b (hout k _ q1 S6 e3)];exact e1
  ·have hb:=hr.blk k o q2
   by_cases ho:o=.hid
   ·subst ho;trivial
   ·by_cases S5:o=.dead
    ·subst S5
     let ⟨e1,e2,e3⟩:=hb
     refine⟨e1,e2,?_⟩;rw[hmixin]
     ·exact e3
     ·exact(hw.rel cur _).2 ⟨k,q1,by unfold ua;rw[AU K]⟩
    ·refine d8 (Nu.sub_refl ν') S5 (λb az ty e1 e2=>?_) hb
     let ⟨c,ez,e3⟩:=e2
     rw[hmixin b (RV k _ q1 e3)];exact e1
 ·rcases hlive k g1 with ⟨a1,a2⟩|⟨a1,a2⟩<;>rcases hlive k' g2 with ⟨b1,b2⟩|⟨b1,b2⟩
  ·rw[hν k a1]at hx;rw[hν k' b1]at SP;exact hd.hr.inj k k' x x' a2 b2 hx SP he
  ·rw[hν k a1]at hx;exact absurd (by rw[he];exact RV k' x' b1 SP) (hout k x a1 a2 hx)
  ·rw[hν k' b1]at SP;exact absurd (by rw[← he];exact RV k x a1 hx) (hout k' x' b1 b2 SP)
  ·exact hr.inj k k' x x' a2 b2 hx SP he
 ·exact hr.dom k (by rw[hz2]at hk;omega)
 ·have:=hr.rng k x hx;unfold Sx.mix;simp;omega
 ·rw [hm.zz]at hj
  rw[hmixout j λhmem=>?_]
  ·exact hd.hr.zl j az ty hj
  ·let ⟨k',e1,e2⟩:=(hw.rel cur _).1 hmem
   have:=ad9 H0 hS (λPj=>hw.live cur k' e1 Pj) e2;rw[← hd.zc]at this;exact nl this _ _ hj
 ·rcases hlive k hl with ⟨a1,a2⟩|⟨a1,a2⟩
  ·rw[hν k a1]at hx;rw[hm.zz];exact hd.hr.zn k x a2 hx
  ·exact hr.zn k x a2 hx
 ·rcases hlive k hl with ⟨_,a2⟩|⟨_,a2⟩
  ·exact hd.liv k hk a2
  ·rcases hm.liv k a2 with PX|PX
   ·refine hd.liv k hk ?_
    unfold bp fk at *
    rw[bw]at *
    rw[AB]at PX;cases hg:h[k]? with
    |none=>rw[hg]at PX;cases PX
    |some o=>
      rw[hg]at PX;simp[DK]at PX;split at PX
      ·rename_i hq
       split at hq
       ·cases hq
       ·cases hq;rfl
      ·rename_i hq
       split at hq
       ·cases hq
       ·cases hq;rfl
      ·cases PX
   ·have:=(S7 k PX).2.1;omega
end
end
section
variable {w0:World} {ν ν' ν0:Nu} {nV nS Pn:Nat} {h h' h0:List AD} {lh lh' lh0:List ar} {α:Type} {LP:fE} {Pg:α->Prop} {e:bT} {sl:List ak} {ctx:Bool} {Pe:FuncId->ci}
theorem anR {k:Nat} (hl:bp h k):k<h.length:=by rcases gz hl with ⟨_,_,g⟩|⟨_,_,_,_,g⟩<;>exact(List.getElem?_eq_some_iff.1 g).1
theorem aBj (hV:nV=h.length) {v:V} {a:ak} {l:List Nat} (hv:vr w0 ν.z ν v a) (hn:kI h v=some l) :
 (∀j,j∈yP a↔∃k,k∈l/\ua ν nV nS k=some j)/\∀k,k∈l->k<nV->bp h k:=by
 have one:∀ {k b:Nat} {x:Nat×Nat},bp h k->ν k=some (some (b,x))->∀ j,j∈[b]↔∃ k',k'∈[k]/\ua ν nV nS k'=some j:=λ{k b x} hl hk j=>by
  have Pj:k<nV:=by rw[hV];exact anR hl
  simp only[I9,exists_eq_left];unfold ua;rw[Ad Pj,hk];simp[eq_comm]
 have lv:∀{k:Nat},bp h k->∀k',k'∈[k]->k'<nV->bp h k':=λhl k' RX _=>by rw[List.mem_singleton.1 RX];exact hl
 cases v<;>simp only[kI]at hn<;>try cases hn
 case pl k off=>
  cases hl:fk h k with
  |false=>rw[hl]at hn;cases hn
  |true=>rw[hl]at hn;cases hn;simp only[vr]at hv;obtain⟨b,c,ez,g1,rfl⟩:=hv;exact⟨one hl g1,lv hl⟩
 case pe k i j=>
  cases hl:fk h k with
  |false=>rw[hl]at hn;cases hn
  |true=>rw[hl]at hn;cases hn;simp only[vr]at hv;obtain⟨b,c,ez,g1,rfl⟩:=hv;exact⟨one hl g1,lv hl⟩
 case ss k off n c=>
  cases hl:fk h k with
  |false=>rw[hl]at hn;cases hn
  |true=>rw[hl]at hn;cases hn;simp only[vr]at hv;obtain⟨b,c,ez,g1,rfl⟩:=hv;exact⟨one hl g1,lv hl⟩
 case gs k n=>
  cases hl:fk h k with
  |false=>rw[hl]at hn;cases hn
  |true=>
    rw[hl]at hn;cases hn;simp only[vr]at hv;rcases hv with ⟨g1,g2,rfl⟩|⟨b,c,ez,g1,rfl,_⟩
    ·refine⟨λj=>?_,lv hl⟩
     have Pj:k<nV:=by rw[hV];exact anR hl
     simp only[yP,H8,false_iff,not_exists,not_and];intro k' RX;rw[List.mem_singleton.1 RX];unfold ua;rw[Ad Pj,g1];simp
    ·exact⟨one hl g1,lv hl⟩
 case ns=>simp only[vr]at hv;subst hv;exact⟨λj=>by simp[yP],λk hk=>by cases hk⟩
theorem ib3 (hh:HR w0 ν nV nS h lh) (hV:nV=h.length) (QM:gY w0 ν Pn e sl) {s:EK} {l:List Nat} (hn:I3 h e nV s=some l) :
 (∀j,j∈V8 w0 lh sl nS s↔∃k,k∈l/\ua ν nV nS k=some j)/\∀k,k∈l->k<nV->bp h k:=by
 cases s with
 |fresh r=>
   simp[I3]at hn;cases hn;refine⟨λj=>?_,λk hk Pj=>?_⟩
   ·simp[V8,I9,exists_eq_left];unfold ua;rw[AU K,show nS+(nV+r-nV)=nS+r by omega];simp[eq_comm]
   ·rw[List.mem_singleton.1 hk]at Pj;omega
 |slot s=>exact aBj hV (QM.at' s) hn
 |load s off=>
   have QP:=QM.at' s;simp[I3]at hn;split at hn
   ·rename_i k o hk
    rw[hk]at QP;simp only[vr]at QP
    let ⟨b,c,ez,g1,g2⟩:=QP
    split at hn
    ·rename_i v hv
     let ⟨p,x,e1,e2,e3⟩:=GI hh (v:=.pl k (o+off)) (a:=.ptr (some (.l b (o+off)))) (by simp only[vr];exact⟨b,c,ez,g1,rfl⟩) hv (λ_ _ _ he=>by cases he)
     cases e1;have:=aBj (nS:=nS) hV e3 hn;simp only[V8,g2,js.add,e2];exact this
    ·cases hn
   ·cases hn
theorem R56 (hh:HR w0 ν nV nS h lh) (hV:nV=h.length) (QM:gY w0 ν Pn e sl):∀ {ss:List EK} {l:List Nat},uY h e nV ss=some l ->
 (∀j,j∈ve w0 lh sl nS ss↔∃k,k∈l/\ua ν nV nS k=some j)/\∀k,k∈l->k<nV->bp h k
 |[],l,hn=>by simp[uY]at hn;cases hn;exact⟨λj=>by simp[ve],λk hk=>by cases hk⟩
 |s::ss,l,hn=>by
   simp[uY]at hn;split at hn
   ·rename_i a b ha hb
    cases hn
    let ⟨g1,g2⟩:=ib3 hh hV QM ha
    let ⟨g3,g4⟩:=R56 hh hV QM hb
    refine⟨λj=>?_,λk hk=>?_⟩
    ·simp [ve,IC,mJ,g1 j,g3 j]
     constructor
     ·rintro (⟨k,M,Q⟩|⟨k,M,Q⟩)
      ·exact⟨k,.inl M,Q⟩
      ·exact⟨k,.inr M,Q⟩
     ·rintro⟨k,M|M,Q⟩
      ·exact .inl ⟨k,M,Q⟩
      ·exact .inr ⟨k,M,Q⟩
    ·rw[mJ,IC]at hk
     rcases hk with hk|hk
     ·exact g2 k hk
     ·exact g4 k hk
   ·cases hn
theorem hl2 {h:List AD} {e:bT} {H:Nat}:∀ {ds:List jq} {Ws:List (List Nat)},va h e H ds=some Ws->∀ i,match ds[i]? with|some d=>uY h e H d.ws=some (d4 Ws i)|none=>d4 Ws i=[]
 |[],Ws,hn,i=>by simp[va]at hn;cases hn;simp[d4,gZ]
 |d::ds,Ws,hn,i=>by
   simp[va]at hn;split at hn
   ·rename_i a b ha hb
    cases hn;cases i with
    |zero=>simp[d4,gZ,ha]|succ i=>simpa[d4,gZ] using hl2 hb i
   ·cases hn
theorem aqg (hh:HR w0 ν nV nS h lh) (hV:nV=h.length) (QM:gY w0 ν Pn e sl) {ds:List jq} {Ws:List (List Nat)} (hn:va h e nV ds=some Ws):WR ν nV nS h Ws (mA w0 lh sl nS ds):=by
 have key:∀ i,(∀ j,j∈Cl (mA w0 lh sl nS ds) i↔∃ k,k∈d4 Ws i/\ua ν nV nS k=some j)/\∀ k,k∈d4 Ws i->k<nV->bp h k:=λi=>by
  have M:=hl2 hn i;have Q:=qv w0 lh sl nS ds i;unfold Cl;rw[Q];cases hd:ds[i]? with
  |none=>rw[hd]at M;dsimp only at M ⊢;rw[M];exact⟨λj=>by simp,λk hk=>by cases hk⟩|some d=>rw[hd]at M;exact R56 hh hV QM M
 exact⟨λi=>(key i).1,λi=>(key i).2⟩
theorem atV {WsS:List (List Nat)} {un:List Nat} {j:Nat}:j∈H4 WsS un↔∃u,u∈un/\j∈Cl WsS u:=by unfold H4;simp[List.mem_flatMap]
def as4 (w0:World) (Pe:FuncId->ci) (LP:fE) (cp:FuncId->List V->List AD->(V->AN α)->AN α):Prop:=∀ (f:FuncId) (vs:List V) (h:List AD) (PR:V->AN α) (Pg:α->Prop) (ν:Nu) (nV nS:Nat) (args:List ak) (lh:List ar) (KA:ak->List ar->Prop),
 bK w0 ν.z ν vs args->HR w0 ν nV nS h lh->bU LP (cp f vs h PR) Pg->(∀v a,vr w0 ν.z ν v a->bU LP (PR v) Pg->KA a lh)->Pe f w0 args lh KA
def xM (w0:World) (Pe:FuncId->ci) (LP:fE) (cp:CP α):Prop:=as4 w0 Pe LP (cp false)/\uz w0 (zI Pe) LP false (λf vs h PR=>cp true f vs h λv=>PR v h)
theorem xM.cf {cp:CP α} (hc:xM w0 Pe LP cp) (md:Bool):uz w0 Pe LP md (λf vs h PR=>cp false f vs h λv=>PR v h):=λf vs h PR Pg ν nV nS args lh KA M Q h3 h4=>
 hc.1 f vs h _ Pg ν nV nS args lh KA M Q h3 λv a hv hs=>h4 v h ν a lh (λ_=>⟨rfl,rfl,rfl⟩) (Nu.sub_refl ν) Q hv hs
theorem ht1 {op:lZ} {pl:Option Nat} {KA:ak->List ar->Prop} (Qe:mB op=true) (hv:dK w0 Pe sl lh none KA op):dK w0 Pe sl lh pl KA op:=by cases op<;>first|exact hv|cases Qe
def Ce (Pn:Nat):List jq->Bool
 |[]=>true|d::l=>(match d.o.dst with|some d=>Nat.blt d Pn|none=>true)&&Ce Pn l
theorem ptL {Pn:Nat} {d:jq} {l:List jq} (hd:Ce Pn (d::l)=true):(∀i,d.o.dst=some i->i<Pn)/\Ce Pn l=true:=by simp[Ce,Ae]at hd;refine⟨λi hi=>?_,hd.2⟩;rw[hi]at hd;exact Bf hd.1
theorem xy {Ws:List (List Nat)} {QE:List Nat} {all:List jq} {j:Nat}:∀ {l:List jq} {i:Nat},(∀ t,l[t]? = all[i+t]?)->yg Ws QE l i j=true->∀ i',i<=i'->i'<j->(match all[i']? with|some d=>d.rk.isSome|none=>false)=true ->
 (∀k,k∈d4 Ws i'->k∉QE)∨∀k,k∈d4 Ws i'->k∈QE
 |[],i,hl,hc,i',M,Q,h3=>by have:=hl (i'-i);rw[show i+(i'-i)=i' by omega]at this;rw[← this]at h3;simp at h3
 |d::l,i,hl,hc,i',M,Q,h3=>by
   simp[yg]at hc;have hb:Nat.blt i j=true:=EC (by omega:i+1<=j);rw[hb]at hc;simp[cond_true,Ae]at hc;have h0:=hl 0;simp[E9,Ej]at h0;by_cases e1:i'=i
   ·subst e1
    rw[← h0]at h3;dsimp only at h3;cases hr:d.rk with
    |none=>rw[hr]at h3;cases h3
    |some r=>
      have Sz:=hc.1;rw[hr]at Sz;simp[F9]at Sz;rcases Sz with PX|PX
      ·exact .inl (xk.1 PX)
      ·exact .inr (yj.1 PX)
   ·exact xy (λt=>by have:=hl (t+1);rw[EA]at this;rw[this,show i+(t+1)=i+1+t by omega]) hc.2 i' K Q h3
theorem aba {Ws:List (List Nat)} {all:List jq}:∀ {l:List jq} {j:Nat},(∀ t,l[t]? = all[j+t]?)->Al Ws all l j=true->∀ j' d,j<=j'->all[j']? = some d->yg Ws (d4 Ws j') all 0 j'=true/\yg Ws (o3 Ws d.un) all 0 j'=true
 |[],j,hl,hc,j',d,M,Q=>by have:=hl (j'-j);rw[show j+(j'-j)=j' by omega,Q]at this;simp at this
 |d::l,j,hl,hc,j',d',M,Q=>by
   simp[Al,Ae]at hc;have h0:=hl 0;simp[E9,Ej]at h0;by_cases e1:j'=j
   ·subst e1;rw[← h0]at Q;cases Q;exact hc.1
   ·exact aba (λt=>by have:=hl (t+1);rw[EA]at this;rw[this,show j+(t+1)=j+1+t by omega]) hc.2 j' d' K Q
theorem uL {Ws:List (List Nat)} {all:List jq}:∀ {l:List jq} {j:Nat},(∀ t,l[t]? = all[j+t]?)->vb Ws l j=true->∀ j' d,j<=j'->all[j']? = some d->∀ k,k∈d4 Ws j'->k∉o3 Ws d.un
 |[],j,hl,hc,j',d,M,Q=>by have:=hl (j'-j);rw[show j+(j'-j)=j' by omega,Q]at this;simp at this
 |d::l,j,hl,hc,j',d',M,Q=>by
   simp[vb,Ae]at hc;have h0:=hl 0;simp[E9,Ej]at h0;by_cases e1:j'=j
   ·subst e1;rw[← h0]at Q;cases Q;exact xk.1 hc.1
   ·exact uL (λt=>by have:=hl (t+1);rw[EA]at this;rw[this,show j+(t+1)=j+1+t by omega]) hc.2 j' d' K Q
def K2 (ds:List jq) (i:Nat):Bool:=match ds[i]? with|some d=>d.rk.isSome|none=>false
theorem nG {cp:CP α} (Rx:xM w0 Pe LP cp) {ds:List jq} {Ws WsS:List (List Nat)} (H0:HR w0 ν0 nV nS h0 lh0) (hS:nS=lh0.length) (hw:WR ν0 nV nS h0 Ws WsS) (hcons:Al Ws ds ds 0=true) (hall:vb Ws ds 0=true) :
 ∀(rest:List jq) (i:Nat) (e:bT) (h:List AD) (ν:Nu) (sl:List ak) (lh:List ar) (PR:bT->List AD->AN α) (KA:List ak->List ar->Prop),(∀t,rest[t]? = ds[i+t]?)->Ce Pn rest=true ->
 DI w0 ν0 h0 nV nS Ws (K2 ds) i ν h lh->gY w0 ν Pn e sl->bU LP (fW cp Ws nV rest i e h PR) Pg ->
 (∀e' h' ν' sl' lh',ν.sub ν'->gY w0 ν' Pn e' sl'->HR w0 ν' nV nS h' lh'->bU LP (PR e' h') Pg->KA sl' lh')->kA w0 Pe WsS nS KA rest i sl lh
 |[],i,e,h,ν,sl,lh,PR,KA,hr,hd,Rr,QM,hs,hK=>hK e h ν sl lh (Nu.sub_refl ν) QM Rr.hr hs
 |d::rest,i,e,h,ν,sl,lh,PR,KA,hr,hd,Rr,QM,hs,hK=>by
   let ⟨T8,T9⟩:=ptL hd
   have hdsi:ds[i]? = some d:=by have:=hr 0;simpa using this.symm
   have Vg:∀t,rest[t]? = ds[i+1+t]? := λt=>by have:=hr (t+1);rw[EA]at this;rw[this,show i+(t+1)=i+1+t by omega]
   let ⟨Sz,Uc⟩:=aba (j:=0) (λt=>by simp) hcons i d (Bc _) hdsi
   have hdis:=uL (j:=0) (λt=>by simp) hall i d (Bc _) hdsi;have hCW:GX Ws (K2 ds) i (d4 Ws i):=λi' M Q=>xy (i:=0) (λt=>by simp) Sz i' (Bc _) M Q;have hCX:GX Ws (K2 ds) i (o3 Ws d.un):=λi' M Q=>xy (i:=0) (λt=>by simp) Uc i' (Bc _) M Q;have hXw:∀k,k∈o3 Ws d.un->∃u,k∈d4 Ws u:=λk hk=>by let ⟨u,_,g⟩:=nF.1 hk;exact⟨u,g⟩
   have hXS:∀ j,j∈H4 WsS d.un↔∃ k,k∈o3 Ws d.un/\ua ν0 nV nS k=some j:=λj=>by
    rw[atV];constructor
    ·rintro⟨u,M,Q⟩
     let ⟨k,g1,g2⟩:=(hw.rel u j).1 Q
     exact⟨k,nF.2 ⟨u,M,g1⟩,g2⟩
    ·rintro⟨k,M,Q⟩
     let ⟨u,g1,g2⟩:=nF.1 M
     exact⟨u,g1,(hw.rel u j).2 ⟨k,g2,Q⟩⟩
   have hhid:=Rr.hide H0 hS hw hCX hXw hXS;have hsucc:DI w0 ν0 h0 nV nS Ws (K2 ds) (i+1) ν h lh:=⟨Rr.hr,Rr.old,Rr.zc,Rr.liv,λk x M Q=>by
    rcases Rr.nw k x M Q with g|⟨a,b,g1,g2,g3⟩
    ·exact .inl g
    ·exact .inr ⟨a,b,g1,K,g3⟩⟩
   have hmixid:mix (Cl WsS i) lh (hide (H4 WsS d.un) lh)=lh:=by
    apply ED;intro j;rw[xm];cases hg:lh[j]? with
    |none=>rfl
    |some o=>
      simp only[DK];by_cases hj:j∈Cl WsS i
      ·rw[Ad hj]
       simp only[List.getD,qp,hg,DK,Jo];rw[AU];intro hx
       let ⟨k,g1,g2⟩:=(hw.rel i j).1 hj
       let ⟨k',g3,g4⟩:=(hXS j).1 hx
       let ⟨u,_,g5⟩:=nF.1 g3
       have:=wK H0 hS (λPj=>hw.live i k g1 Pj) (λPj=>hw.live u k' g5 Pj) g2 g4;subst this;exact hdis k g1 g3
      ·rw[AU hj]
   have run:∀ {e0:bT} {ctx:Bool} {Q8:V->V},ctx=true->(∀ v a,vr w0 ν.z ν v a->vr w0 ν.z ν (Q8 v) a)->mB d.o.op=true->gY w0 ν Pn e0 sl ->
    bU LP (C0 (λf vs h PR=>cp false f vs h λv=>PR v h) ctx none d.o.op e0 (kC (o3 Ws d.un) h) λv _=>fW cp Ws nV rest (i+1) (eN e0 d.o.dst (Q8 v)) h PR) Pg ->
    dK w0 Pe sl (hide (H4 WsS d.un) lh) (d.rk.map (nS+·)) (λv l=>kT (Cl WsS i) l (hide (H4 WsS d.un) lh)/\kA w0 Pe WsS nS KA rest (i+1) (fl sl d.o.dst v) (mix (Cl WsS i) lh l)) d.o.op:=by
    intro e0 ctx Q8 hc hWv Qe Tw hs;refine ht1 Qe (Cw (md:=false) (wn:=[]) Tw hhid hc (Rx.cf false) (.inl ⟨rfl,rfl⟩) (λe=>by cases e) hs λv h' ν' a lh' _ PX g1 g2 g3 g4=>?_);obtain⟨rfl,rfl,rfl⟩:=PX Qe;refine⟨⟨rfl,λ_ _=>rfl⟩,?_⟩;rw[hmixid];exact nG Rx H0 hS hw hcons hall rest (i+1) _ _ _ _ _ PR KA Vg T9 hsucc (Tw.put d.o.dst T8 (hWv _ _ g3)) g4 hK
   have runM:∀ {e0:bT},gY w0 ν Pn e0 sl->bU LP (JD cp Ws nV d i e0 h λv h=>fW cp Ws nV rest (i+1) (eN e0 d.o.dst v) h PR) Pg ->
    dK w0 Pe sl (hide (H4 WsS d.un) lh) (d.rk.map (nS+·)) (λv l=>kT (Cl WsS i) l (hide (H4 WsS d.un) lh)/\kA w0 Pe WsS nS KA rest (i+1) (fl sl d.o.dst v) (mix (Cl WsS i) lh l)) d.o.op:=by
    intro e0 Tw hs;unfold JD at hs;split at hs
    ·rename_i Qe;exact run (Q8:=id) rfl (λ_ _ h=>h) Qe Tw hs
    ·rename_i Qe
     split at hs
     ·exact hs.elim
     ·rename_i l hl
      cases W7:Hm (L9 (d.rk.map (nV+·)) l) (d4 Ws i) with
      |false=>rw[W7]at hs;exact hs.elim
      |true=>
        rw[W7]at hs;simp only[cond_true]at hs;have W7:=yj.1 W7;have iz11:∀ k,k∈l->k∈d4 Ws i:=λk hk=>W7 k (by unfold L9;split<;>simp[hk]);have izb1:K1 nV nS (d.rk.map (nV+·)) (d.rk.map (nS+·)):=by
         cases hr:d.rk with
         |none=>exact .inl ⟨rfl,rfl⟩|some r=>exact .inr ⟨nV+r,rfl,au⟩
        refine Cw (md:=true) (wn:=d4 Ws i) Tw hhid rfl (Rx.cf true) izb1 (λ_=>⟨l,hl,iz11⟩) hs λv h' ν' a lh' hm _ g1 g2 g3 g4=>?_
        let ⟨q1,q2⟩:=Rr.mix H0 hS hw hCX hCW hdis hhid (pl:=d.rk.map (nV+·)) (plA:=d.rk.map (nS+·)) (λp hp=>by
         cases hr:d.rk with
         |none=>rw[hr]at hp;cases hp
         |some r=>rw[hr]at hp;simp only[DK,Ak]at hp;subst hp;refine⟨W7 _ (by rw[hr];simp[L9]),K,au,?_⟩;unfold K2;rw[hdsi];dsimp only;rw[hr];rfl) (λhp=>by
         cases hr:d.rk with
         |none=>rfl|some r=>rw[hr]at hp;cases hp) g1 g2 (hm rfl)
        exact⟨q1,nG Rx H0 hS hw hcons hall rest (i+1) _ _ _ _ _ PR KA Vg T9 q2 ((Tw.mono g1).put d.o.dst T8 g3) g4 λe' h' ν'' sl' lh' k1=>hK e' h' ν'' sl' lh' (Nu.sub_trans g1 k1)⟩
   have skip:∀{e0:bT},gY w0 ν Pn e0 sl->bU LP (fW cp Ws nV rest (i+1) (eN e0 d.o.dst (.tup [])) h PR) Pg->kA w0 Pe WsS nS KA rest (i+1) (fl sl d.o.dst (.tup [])) lh:=by intro e0 Tw hs;exact nG Rx H0 hS hw hcons hall rest (i+1) _ _ _ _ _ PR KA Vg T9 hsucc (Tw.put d.o.dst T8 BP) hs hK
   have skipS:∀ {b:Bool},mB d.o.op=true->b=false->bU LP (C0 (λf vs h PR=>cp false f vs h λv=>PR v h) b none d.o.op e (kC (o3 Ws d.un) h) λv _=>fW cp Ws nV rest (i+1) (eN e d.o.dst (.gd b v)) h PR) Pg->kA w0 Pe WsS nS KA rest (i+1) (fl sl d.o.dst (.tup [])) lh:=by
    intro b Qe hb hs
    let ⟨v,g⟩:=ayI hb Qe hs
    exact nG Rx H0 hS hw hcons hall rest (i+1) _ _ _ _ _ PR KA Vg T9 hsucc (QM.put d.o.dst T8 (akF hb)) g hK
   simp only[fW]at hs;simp only[kA,MU,pW];split at hs
   ·rename_i hg;rw[hg];exact runM QM hs
   ·rename_i g want hg
    rw[hg];dsimp only
    have QP:=QM.at' g;split at hs
    ·rename_i b hb
     rw[hb]at QP;simp only[vr]at QP;rw[QP];dsimp only
     split at hs
     ·rename_i he _;subst he;exact⟨λ_=>runM QM hs,λe=>by cases b<;>cases e⟩
     ·rename_i he _;exact⟨λe=>(he e).elim,λe=>skip QM hs⟩
    ·rename_i l hb
     rw[hb]at QP;simp only[vr]at QP
     let ⟨az,QP,_⟩:=QP
     rw[QP];exact skip QM hs
    ·rename_i k n hb;rw[hb]at QP;simp only[vr]at QP;rw[QP];exact skip QM hs
    ·rename_i b hb
     rw[hb]at QP;simp only[vr]at QP;rw[QP];dsimp only
     split at hs
     ·rename_i Qe;exact⟨λe1=>run (wh e1) (λ_ _ hv=>Bz (wh e1) hv) Qe QM hs,λe1=>skipS Qe (zQ e1) hs⟩
     ·simp only[bU]at hs;exact⟨λe1=>runM (QM.know (by simp only[vr];rw[QP,e1])) (hs.1 (wh e1)),λe1=>skip (QM.know (by simp only[vr];rw[QP,e1])) (hs.2 (zQ e1))⟩
    ·rename_i c v hb
     rw[hb]at QP;simp only[vr]at QP;split at hs
     ·split at hs
      ·have hl:∃ l,sl.getD g .any=.tup l:=by
        cases c with
        |false=>exact QP.2 rfl|true=>have:=QP.1 rfl;simp only[vr]at this;let ⟨l,e,_⟩:=this;exact⟨l,e⟩
       let ⟨l,hl⟩:=hl
       rw[hl];exact skip QM hs
      ·exact hs.elim
     ·rename_i b Xr
      cases c with
      |false=>
        let ⟨l,hl⟩:=QP.2 rfl
        rw[hl];dsimp only
        split at hs
        ·rename_i Qe;exact skipS Qe rfl hs
        ·simp only[bU]at hs;exact skip QM (hs.2 rfl)
      |true=>
        have QP:=pu (QP.1 rfl) Xr;rw[QP];dsimp only
        split at hs
        ·rename_i Qe;exact⟨λe1=>run (by rw[wh e1];rfl) (λ_ _ hv=>Bz (by rw[wh e1];rfl) hv) Qe QM hs,λe1=>skipS Qe (by rw[zQ e1];rfl) hs⟩
        ·simp only[bU]at hs;exact⟨λe1=>runM (QM.know (by simp only[vr];rw[QP,e1])) (hs.1 (by rw[wh e1];rfl)),λe1=>skip QM (hs.2 (by rw[zQ e1];rfl))⟩
    ·exact hs.elim
theorem uT {cp:CP α} (Rx:xM w0 Pe LP cp) {ds:List jq} {a b:Nat} {PR:bT->List AD->AN α} {KA:List ak->List ar->Prop} (hd:Ce Pn ds=true) (QM:gY w0 ν Pn e sl) (hh:HR w0 ν a b h lh)
 (hs:bU LP (xp cp ds e h PR) Pg) (hK:∀e' h' ν' sl' lh' nV nS,ν.sub ν'->gY w0 ν' Pn e' sl'->HR w0 ν' nV nS h' lh'->bU LP (PR e' h') Pg->KA sl' lh'):ow w0 Pe ds sl lh KA:=by
 unfold xp at hs;split at hs
 ·exact hs.elim
 ·rename_i Ws hW
  cases hc:(vb Ws ds 0&&Al Ws ds ds 0) with
  |false=>rw[hc]at hs;exact hs.elim
  |true=>
    rw[hc]at hs;simp[cond_true]at hs;simp[Ae]at hc;have hlen:cj h=(undead h).length:=by rw[ca,rD]
    rw[hlen]at hs hW;have H0:=hh.undead (undead h).length lh.length;have hw:=aqg H0 rfl QM hW;have yav:=H0.deads rfl rfl (RF ds);rw[mJ]at hs;refine⟨?_,?_⟩
    ·-- the sets are apart there,too
     have gen:∀ (l:List jq) (j:Nat),(∀ t,l[t]? = ds[j+t]?)->Fg (mA w0 lh sl lh.length ds) l j:=by
      intro l;induction l with
      |nil=>intro j _;trivial
      |cons d l ih=>
        intro j hl;have io13:ds[j]? = some d:=by have:=hl 0;simpa using this.symm
        have hdis:=uL (j:=0) (λt=>by simp) hc.1 j d (Bc _) io13;refine⟨?_,ih (j+1) λt=>by have:=hl (t+1);rw[EA]at this;rw[this,show j+(t+1)=j+1+t by omega]⟩;have disj_of:∀ (QG B:List Nat),(∀ k,k∈QG->k∉B)->SY QG B:=by
         intro QG B hAB;induction QG with
         |nil=>trivial
         |cons x QG ihA=>
           refine⟨?_,ihA λk hk=>hAB k (Do _ hk)⟩;have hx:=hAB x Eh;clear ihA hAB;induction B with
           |nil=>trivial|cons y B ihB=>exact⟨λe=>hx (by rw[e];exact Eh),ihB λhm=>hx (Do _ hm)⟩
        refine disj_of _ _ λs TW TX=>?_
        let ⟨k,g1,g2⟩:=(hw.rel j s).1 TW
        let ⟨u,g3,g4⟩:=atV.1 TX
        let ⟨k',g5,g6⟩:=(hw.rel u s).1 g4
        have:=wK H0 rfl (λPj=>hw.live j k g1 Pj) (λPj=>hw.live u k' g5 Pj) g2 g6;subst this;exact hdis k g1 (nF.2 ⟨u,g3,g5⟩)
     exact gen ds 0 λt=>by simp
    ·refine nG Rx H0 rfl hw hc.2 hc.1 ds 0 e _ ν sl _ PR KA (λt=>by simp) hd ⟨yav,λ_ _=>rfl,rfl,λk hk hl=>?_,λk x hk hx=>?_⟩ QM hs λe' h' ν' sl' lh'=>hK e' h' ν' sl' lh' _ _
     ·unfold bp fk at *
      rw[bw]at *
      rw[BF hk]at hl;exact hl
     ·rw[H0.dom k hk]at hx;cases hx
end
def jn (Pn:Nat):List o0->Bool
 |[]=>true|.op o::l=>pw Pn [o]&&jn Pn l|.yld _ d _::l=>(match d with|some d=>Nat.blt d Pn|none=>true)&&jn Pn l|.yldG _ _ _ d _::l=>(match d with|some d=>Nat.blt d Pn|none=>true)&&jn Pn l
def tv (Pn:Nat):jB->Bool
 |.reg ops=>jn Pn ops|.draw ds=>Ce Pn ds|.drawY ds xs=>Ce Pn ds&&jn Pn xs|.seq a b=>tv Pn a&&tv Pn b|.cond _ a b=>tv Pn a&&tv Pn b|.block _ b=>tv Pn b|.loop b=>tv Pn b|.scope b=>tv Pn b|_=>true
def CE:List jc->Bool
 |[]=>true|it::l=>tv it.ntmps it.body&&CE l
def xA (Pn:Nat):List Nat->Bool
 |[]=>true|p::l=>Nat.blt p Pn&&xA Pn l
def vq (Pn:Nat):OT->Bool
 |.done=>true|.op o r=>pw Pn [o]&&vq Pn r|.alt a b=>vq Pn a&&vq Pn b
def gp (Pn:Nat):hU->Bool
 |.reg ops=>pw Pn ops|.draw ds=>Ce Pn ds|.allo t=>vq Pn t|.alloq t=>vq Pn t|.seq a b=>gp Pn a&&gp Pn b|.cond _ a b=>gp Pn a&&gp Pn b|.block _ b=>gp Pn b|.loop b=>gp Pn b|.scope b=>gp Pn b|.range _ ps a b AS=>xA Pn ps&&(gp Pn a&&(gp Pn b&&CE AS))|_=>true
def Ao (nb:Nat) (ν ν':Nu):Prop:=(∀k x,k<nb->ν k=some x->ν' k=some x)/\w6 ν.z ν'.z
theorem Ao.refl (nb:Nat) (ν:Nu):Ao nb ν ν:=⟨λ_ _ _ h=>h,ni _⟩
theorem Ao.trans {nb:Nat} {a b c:Nu} (h:Ao nb a b) (k:Ao nb b c):Ao nb a c:=⟨λi x hi hx=>k.1 i x hi (h.1 i x hi hx),qq h.2 k.2⟩
theorem Ao.of {ν ν':Nu} (h:ν.sub ν') (nb:Nat):Ao nb ν ν':=⟨λk x _ hx=>h.1 k x hx,h.2⟩
theorem Ao.sub {ν ν':Nu} {nb:Nat} (h:Ao nb ν ν') (hd:∀ k,nb<=k->ν k=none):ν.sub ν':=⟨λk x hx=>(by
 rcases EM k nb with hk|hk
 ·exact h.1 k x hk hx
 ·rw[hd k hk]at hx;exact absurd hx au),h.2⟩
def MX (w0:World) (nb N0:Nat) (e0:bT) (Rk:List ak) (ν:Nu):Prop:=∃ν0:Nu,(∀k,nb<=k->ν0 k=none)/\gY w0 ν0 N0 e0 Rk/\ν0.sub ν
theorem MX.step {w0:World} {nb N0:Nat} {e0:bT} {Rk:List ak} {ν ν':Nu} (h:MX w0 nb N0 e0 Rk ν) (hn:Ao nb ν ν'):MX w0 nb N0 e0 Rk ν':=by
 let ⟨ν0,M,Q,h3⟩:=h
 exact⟨ν0,M,Q,Ao.sub ⟨λk x hk hx=>hn.1 k x hk (h3.1 k x hx),qq h3.2 hn.2⟩ M⟩
theorem MX.get {w0:World} {nb N0:Nat} {e0:bT} {Rk:List ak} {ν:Nu} (h:MX w0 nb N0 e0 Rk ν):gY w0 ν N0 e0 Rk:=let ⟨_,_,Q,h3⟩:=h;Q.mono h3
def YA (w0:World) (Pe:FuncId->ci) (ps:List Nat) (asg body:hU) (Rk:List ak):YH:=λxs lh PR=>xs.length=ps.length/\cK w0 Pe lh.length asg (mw Rk ps xs) lh (v6 (λsl lh'=>cK w0 Pe lh.length body sl lh' λx _ lh=>PR x lh) λ_ _ _=>False)
abbrev Ep:=Nat->FuncId->ci
def dM (w0:World) (Pe:Ep):fE:=λfr b e h g Ag=>match b with
 | .s body=>∀ (Pn nbS:Nat) (ν:Nu) (nV nS:Nat) (sl:List ak) (lh:List ar) (QA:Ex->List ak->List ar->Prop),gp Pn body=true->gY w0 ν Pn e sl->HR w0 ν nV nS h lh ->
   (∀ex e' h' ν' sl' lh' nV' nS',Ao fr.2 ν ν'->gY w0 ν' Pn e' sl'->HR w0 ν' nV' nS' h' lh'->Ag ex e' h' none->QA ex sl' lh')->cK w0 (Pe fr.1) nbS (.loop body) sl lh QA
 | .i body rd=>∀ (Pn N0:Nat) (ν:Nu) (nV nS:Nat) (sl Rk:List ak) (lh:List ar) (QA:IQ),tv Pn body=true->xA N0 rd.ps=true->gp N0 rd.asg=true->gp N0 rd.body=true->gY w0 ν Pn e sl->MX w0 fr.2 N0 rd.e0 Rk ν->HR w0 ν nV nS h lh ->
   (∀ex e' h' g' ν' sl' lh' nV' nS',Ao fr.2 ν ν'->gY w0 ν' Pn e' sl'->HR w0 ν' nV' nS' h' lh'->Ag ex e' h' g'->QA ex sl' lh' g')->lW w0 (Pe fr.1) rd.l (YA w0 (Pe fr.1) rd.ps rd.asg rd.body Rk) (.loop body) sl lh g QA
section
variable {w0:World} {Pe:Ep} {α:Type} {Pg:α->Prop} {cf:CF α} {cp:CP α}
theorem u3 {ν:Nu} {Pn:Nat}:∀ (ps:List Nat) (e:bT) (sl:List ak) (vs:List V) (az:List ak),xA Pn ps=true->gY w0 ν Pn e sl->bK w0 ν.z ν vs az->vs.length=ps.length->gY w0 ν Pn (rR e ps vs) (mw sl ps az)
 |[],e,sl,vs,az,_,h,_,_=>by cases vs<;>simpa[rR,mw] using h
 |p::ps,e,sl,[],az,_,_,_,hl=>by cases hl
 |p::ps,e,sl,v::vs,az,hp,h,hv,hl=>by simp[bK]at hv;obtain⟨x,xs,rfl,M,Q⟩:=hv;simp[xA,Ae]at hp;simp[rR,mw];exact u3 ps _ _ vs xs hp.2 (h.set (by simpa[Nat.blt_eq] using hp.1) M) Q (by simpa using hl)
def QK (w0:World) (LP:fE) (Pg:α->Prop) (nb N0:Nat) (e0:bT) (Rk:List ak) (QE:YV α) (YS:YH):Prop :=
 ∀ (vs:List V) (h:List AD) (ν:Nu) (nV nS:Nat) (args:List ak) (lh:List ar) (PR:Ex->List AD->AN α) (KA:Ex->List ar->Prop),MX w0 nb N0 e0 Rk ν->HR w0 ν nV nS h lh->bK w0 ν.z ν vs args->bU LP (QE vs h PR) Pg ->
  (∀x h' ν' nV' nS' lh',ν.sub ν'->HR w0 ν' nV' nS' h' lh'->bU LP (PR x h') Pg->KA x lh')->YS args lh KA
section it
variable {LP:fE} {nb Pn N0 lv:Nat} {rd:RD} {QE:YV α} {YS:YH} {Rk:List ak} {un:l7}
theorem nd2 {l:Nat} (hY:QK w0 LP Pg nb N0 rd.e0 Rk QE YS) {t:Nat} {d:Option Nat} {xs:List gn} {e:bT} {h:List AD} {g:Option Ex} {ν:Nu} {nV nS:Nat} {sl:List ak} {lh:List ar} {QW:bT->List AD->Option Ex->AN α} {KA:List ak->List ar->Option Ex->Prop} (S5:∀ i,d=some i->i<Pn)
 (M:gY w0 ν Pn e sl) (hx:MX w0 nb N0 rd.e0 Rk ν) (Q:HR w0 ν nV nS h lh) (h3:bU LP (MA l QE t d xs e h g QW) Pg)
 (h4:∀e' h' g' ν' sl' lh' nV' nS',ν.sub ν'->gY w0 ν' Pn e' sl'->HR w0 ν' nV' nS' h' lh'->bU LP (QW e' h' g') Pg->KA sl' lh' g'):g=none/\sl.getD t .any=kw l/\YS (xs.map (arg sl)) lh (Kc KA sl d):=by
 unfold MA at h3
 let ⟨u,hu,h3⟩:=FU rfl (M.at' t) h3
 split at h3
 ·rename_i l'
  simp only[bU]at h3;obtain⟨he,h3⟩:=h3;simp only[Cc,V.yl.injEq,and_true]at he;subst he;obtain⟨us,k1,k2⟩:=mC M rfl h3;have h0:=hu;simp[vr]at h0;refine⟨rfl,h0,?_⟩;refine hY us h ν nV nS _ lh _ _ hx Q k1 k2 λx h' ν' nV' nS' lh' g1 g2 g3=>?_;have hp:∀b,gY w0 ν' Pn (eN e d (.kb b)) (fl sl d (.bool b)):=λb=>(M.mono g1).put d S5 (by simp[vr]);cases x with
  |normal=>exact h4 _ _ _ _ _ _ _ _ g1 (hp true) g2 g3|exit i=>exact h4 _ _ _ _ _ _ _ _ g1 (hp false) g2 g3|ret=>exact h4 _ _ _ _ _ _ _ _ g1 (hp false) g2 g3
 ·exact h3.elim
theorem iF {S1:FuncId->ci} {l:Nat} (RB:uz w0 S1 LP false cf) (hY:QK w0 LP Pg nb N0 rd.e0 Rk QE YS):∀ (ops:List o0) (e:bT) (h:List AD) (g:Option Ex) (ν:Nu) (nV nS:Nat) (sl:List ak) (lh:List ar) (PR:bT->List AD->Option Ex->AN α) (KA:List ak->List ar->Option Ex->Prop),jn Pn ops=true ->
 gY w0 ν Pn e sl->MX w0 nb N0 rd.e0 Rk ν->HR w0 ν nV nS h lh->bU LP (dP cf l QE ops e h g PR) Pg->(∀e' h' g' ν' sl' lh' nV' nS',Ao nb ν ν'->gY w0 ν' Pn e' sl'->HR w0 ν' nV' nS' h' lh'->bU LP (PR e' h' g') Pg->KA sl' lh' g')->cP w0 S1 l YS ops sl lh g KA
 |[],e,h,g,ν,nV,nS,sl,lh,PR,KA,_,M,_,Q,h3,h4=>h4 _ _ _ _ _ _ _ _ (Ao.refl _ _) M Q h3
 |.op o::rest,e,h,g,ν,nV,nS,sl,lh,PR,KA,hd,M,hx,Q,h3,h4=>by simp[jn,Ae]at hd;simp[dP]at h3;simp[cP];exact lU RB [o] e h ν sl lh _ _ hd.1 M Q h3 λe' h' ν' sl' lh' k0 k1 k2 k3=>iF RB hY rest e' h' g ν' nV nS sl' lh' PR KA hd.2 k1 (hx.step (Ao.of k0 _)) k2 k3 λe2 Q g2 ν2 Sc lh2 nV2 nS2 q0=>h4 e2 Q g2 ν2 Sc lh2 nV2 nS2 ((Ao.of k0 _).trans q0)
 |.yld t d xs::rest,e,h,g,ν,nV,nS,sl,lh,PR,KA,hd,M,hx,Q,h3,h4=>by
   simp[jn,Ae]at hd;simp[dP]at h3;split at h3
   ·rename_i l' hy
    simp only[bU]at h3
    let ⟨he,h3⟩:=h3
    simp only[Cc,V.yl.injEq,and_true]at he;subst he
    let ⟨us,k1,k2⟩:=mC M rfl h3
    have h0:=M.at' t;rw[hy]at h0;simp[vr]at h0;simp only[cP];refine⟨trivial,h0,?_⟩;have S5:∀i,d=some i->i<Pn:=λi hi=>by subst hi;simpa[Nat.blt_eq] using hd.1
    refine hY us h ν nV nS _ lh _ _ hx Q k1 k2 λx h' ν' nV' nS' lh' g1 g2 g3=>?_;have hp:∀b,gY w0 ν' Pn (eN e d (.kb b)) (fl sl d (.bool b)):=λb=>(M.mono g1).put d S5 (by simp[vr]);cases x with
    |normal=>exact iF RB hY rest _ h' none ν' nV' nS' _ lh' PR KA hd.2 (hp true) (hx.step (Ao.of g1 _)) g2 g3 λe2 Q g2 ν2 Sc lh2 nV2 nS2 q0=>h4 e2 Q g2 ν2 Sc lh2 nV2 nS2 ((Ao.of g1 _).trans q0)
    |exit i=>exact iF RB hY rest _ h' _ ν' nV' nS' _ lh' PR KA hd.2 (hp false) (hx.step (Ao.of g1 _)) g2 g3 λe2 Q g2 ν2 Sc lh2 nV2 nS2 q0=>h4 e2 Q g2 ν2 Sc lh2 nV2 nS2 ((Ao.of g1 _).trans q0)
    |ret=>exact iF RB hY rest _ h' _ ν' nV' nS' _ lh' PR KA hd.2 (hp false) (hx.step (Ao.of g1 _)) g2 g3 λe2 Q g2 ν2 Sc lh2 nV2 nS2 q0=>h4 e2 Q g2 ν2 Sc lh2 nV2 nS2 ((Ao.of g1 _).trans q0)
   ·exact h3.elim
 |.yldG d want t dst xs::rest,e,h,g,ν,nV,nS,sl,lh,PR,KA,hd,M,hx,Q,h3,h4=>by
   simp[jn,Ae]at hd;have S5:∀i,dst=some i->i<Pn:=λi hi=>by have:=hd.1;subst hi;simpa[Nat.blt_eq] using this
   have next:∀ (e':bT) (h':List AD) (g':Option Ex) (ν':Nu) (sl':List ak) (lh':List ar) (nV' nS':Nat),ν.sub ν'->gY w0 ν' Pn e' sl'->HR w0 ν' nV' nS' h' lh'->bU LP (dP cf l QE rest e' h' g' PR) Pg->cP w0 S1 l YS rest sl' lh' g' KA :=
    λe' h' g' ν' sl' lh' nV' nS' g1 k1 k2 k3=>iF RB hY rest e' h' g' ν' nV' nS' sl' lh' PR KA hd.2 k1 (hx.step (Ao.of g1 _)) k2 k3 λe2 Q g2 ν2 Sc lh2 nV2 nS2 q0=>h4 e2 Q g2 ν2 Sc lh2 nV2 nS2 ((Ao.of g1 _).trans q0)
   have go:∀ {e0:bT},gY w0 ν Pn e0 sl->bU LP (MA l QE t dst xs e0 h g λe h g=>dP cf l QE rest e h g PR) Pg->g=none/\sl.getD t .any=kw l/\YS (xs.map (arg sl)) lh (Kc (λsl lh g=>cP w0 S1 l YS rest sl lh g KA) sl dst) :=
    λsb hs=>nd2 hY S5 sb hx Q hs next
   have skip:∀ {e0:bT},gY w0 ν Pn e0 sl->bU LP (dP cf l QE rest (eN e0 dst (.tup [])) h g PR) Pg->cP w0 S1 l YS rest (fl sl dst (.tup [])) lh g KA :=
    λsb hs=>next _ _ _ ν _ _ nV nS (Nu.sub_refl ν) (sb.put dst S5 BP) Q hs
   simp[dP]at h3;simp[cP];have QP:=M.at' d;split at h3
   ·rename_i b hb
    rw[hb]at QP;simp[vr]at QP;rw[QP];dsimp only
    split at h3
    ·rename_i he _;subst he;exact⟨λ_=>by rw[dq QP au];exact go M h3,λe=>by cases b<;>cases e⟩
    ·rename_i he _;exact⟨λe=>(he e).elim,λe=>by rw[← e,dq QP au];exact skip M h3⟩
   ·rename_i l1 hb
    rw[hb]at QP;simp[vr]at QP
    let ⟨az,QP,_⟩:=QP
    rw[QP];dsimp only
    rw[dq QP au];exact skip M h3
   ·rename_i k n hb;rw[hb]at QP;simp[vr]at QP;rw[QP];exact skip M h3
   ·rename_i b hb
    rw[hb]at QP;simp[vr]at QP;rw[QP];dsimp only
    simp[bU]at h3;refine⟨λe1=>?_,λe1=>?_⟩
    ·rw[← e1,dq QP au];exact go (M.know (by simp[vr];rw[QP,e1])) (h3.1 (wh e1))
    ·rw[← e1,dq QP au];exact skip (M.know (by simp[vr];rw[QP,e1])) (h3.2 (zQ e1))
   ·rename_i c v hb
    rw[hb]at QP;simp[vr]at QP;split at h3
    ·exact h3.elim
    ·rename_i b Xr
     simp only[bU]at h3;cases c with
     |false=>
       let ⟨l1,hl⟩:=QP.2 rfl
       rw[hl];dsimp only
       rw[dq hl au];exact skip M (h3.2 rfl)
     |true=>
       have QP:=pu (QP.1 rfl) Xr;rw[QP];dsimp only
       refine⟨λe1=>?_,λe1=>?_⟩
       ·rw[← e1,dq QP au];exact go (M.know (by simp[vr];rw[QP,e1])) (h3.1 (by rw[wh e1];rfl))
       ·rw[← e1,dq QP au];exact skip M (h3.2 (by rw[zQ e1];rfl))
   ·exact h3.elim
structure JX (w0:World) (LP:fE) (Pg:α->Prop) (nb Pn N0:Nat) (e0:bT) (Rk:List ak) (ev:bT->List AD->Option Ex->(Ex->bT->List AD->Option Ex->AN α)->AN α) (PR:Ex->bT->List AD->Option Ex->AN α) (ν0:Nu) where
 n:Nat
 e:bT
 h:List AD
 g:Option Ex
 ν:Nu
 nV:Nat
 nS:Nat
 sl:List ak
 lh:List ar
 hs:gY w0 ν Pn e sl
 hx:MX w0 nb N0 e0 Rk ν
 hh:HR w0 ν nV nS h lh
 hn:Ao nb ν0 ν
 st:bU LP (YY ev n e h g PR) Pg
theorem agP (RB:uz w0 (Pe lv) (dM w0 Pe) false cf) (Rx:xM w0 (Pe lv) (dM w0 Pe) cp) (Zo:xA N0 rd.ps=true) (Zp:gp N0 rd.asg=true) (Zq:gp N0 rd.body=true) (hYS:YS=YA w0 (Pe lv) rd.ps rd.asg rd.body Rk) (hY:QK w0 (dM w0 Pe) Pg nb N0 rd.e0 Rk QE YS):∀ (c:jB) (bi:Nat) (e:bT) (h:List AD) (g:Option Ex) (ν:Nu) (nV nS:Nat) (sl:List ak) (lh:List ar) (PR:Ex->bT->List AD->Option Ex->AN α) (KA:IQ),
 tv Pn c=true->gY w0 ν Pn e sl->MX w0 nb N0 rd.e0 Rk ν->HR w0 ν nV nS h lh->bU (dM w0 Pe) (oE cf cp un (lv,nb) rd QE bi c e h g PR) Pg ->
 (∀x e' h' g' ν' sl' lh' nV' nS',Ao nb ν ν'->gY w0 ν' Pn e' sl'->HR w0 ν' nV' nS' h' lh'->bU (dM w0 Pe) (PR x e' h' g') Pg->KA x sl' lh' g')->lW w0 (Pe lv) rd.l YS c sl lh g KA:=by
 intro c;induction c with
 |skip=>intro bi e h g ν nV nS sl lh PR KA _ M _ Q h3 h4;exact h4 .normal _ _ _ _ _ _ _ _ (Ao.refl _ _) M Q h3
 |reg ops=>intro bi e h g ν nV nS sl lh PR KA hd M hx Q h3 h4;exact iF RB hY ops e h g ν nV nS sl lh _ _ hd M hx Q h3 λe' h' g' ν' sl' lh' nV' nS' k0 k1 k2 k3=>h4 .normal _ _ _ _ _ _ _ _ k0 k1 k2 k3
 |draw ds=>intro bi e h g ν nV nS sl lh PR KA hd M hx Q h3 h4;exact uT Rx hd M Q h3 λe' h' ν' sl' lh' _ _ k0 g1 g2 g3=>h4 .normal _ _ _ _ _ _ _ _ (Ao.of k0 _) g1 g2 g3
 |drawY ds xs=>intro bi e h g ν nV nS sl lh PR KA hd M hx Q h3 h4;simp[tv,Ae]at hd;exact uT Rx hd.1 M Q h3 λe1 h1' ν1 SD lh1 _ _ k0 g1 g2 g3=>iF RB hY xs e1 h1' g ν1 _ _ SD lh1 _ _ hd.2 g1 (hx.step (Ao.of k0 _)) g2 g3 λe' h' g' ν' sl' lh' nV' nS' nza5 j1 j2 j3=>h4 .normal _ _ _ _ _ _ _ _ ((Ao.of k0 _).trans nza5) j1 j2 j3
 |seq a b iha ihb=>
   intro bi e h g ν nV nS sl lh PR KA hd M hx Q h3 h4;simp[tv,Ae]at hd;refine iha bi e h g ν nV nS sl lh _ _ hd.1 M hx Q h3 λx e' h' g' ν' sl' lh' nV' nS' g0 g1 g2 g3=>?_;cases x with
   |normal=>exact ihb bi e' h' g' ν' nV' nS' sl' lh' PR KA hd.2 g1 (hx.step g0) g2 g3 λx e2 Q g2 ν2 Sc lh2 nV2 nS2 q0=>h4 x e2 Q g2 ν2 Sc lh2 nV2 nS2 (g0.trans q0)
   |exit i=>exact h4 _ _ _ _ _ _ _ _ _ g0 g1 g2 g3|ret=>exact h4 _ _ _ _ _ _ _ _ _ g0 g1 g2 g3
 |cond c a b iha ihb=>
   intro bi e h g ν nV nS sl lh PR KA hd M hx Q h3 h4;simp[tv,Ae]at hd;simp[oE]at h3;have ha:=M.arg c;simp[lW];split at h3
   ·rename_i hc;rw[hc]at ha;simp[vr]at ha;rw[ha];exact⟨λ_=>iha bi e h g ν nV nS sl lh PR KA hd.1 M hx Q h3 h4,(λhe=>by cases he)⟩
   ·rename_i hc;rw[hc]at ha;simp[vr]at ha;rw[ha];exact⟨(λhe=>by cases he),λ_=>ihb bi e h g ν nV nS sl lh PR KA hd.2 M hx Q h3 h4⟩
   ·rename_i t hc
    rw[hc]at ha;simp[vr]at ha;rw[ha];split at h3
    ·rename_i s;simp[bU]at h3;simp[arg]at ha;exact⟨λet=>iha bi _ h g ν nV nS sl lh PR KA hd.1 (M.know (by simp[vr];rw[ha,et])) hx Q (h3.1 et) h4,λet=>ihb bi _ h g ν nV nS sl lh PR KA hd.2 (M.know (by simp[vr];rw[ha,et])) hx Q (h3.2 et) h4⟩
    ·simp[bU]at h3;exact⟨λet=>iha bi _ h g ν nV nS sl lh PR KA hd.1 M hx Q (h3.1 et) h4,λet=>ihb bi _ h g ν nV nS sl lh PR KA hd.2 M hx Q (h3.2 et) h4⟩
   ·exact h3.elim
 |block id b ih=>
   intro bi e h g ν nV nS sl lh PR KA hd M hx Q h3 h4;refine ih id e h g ν nV nS sl lh _ _ hd M hx Q h3 λx e' h' g' ν' sl' lh' nV' nS' g0 g1 g2 g3=>?_;cases x with
   |normal=>exact h4 _ _ _ _ _ _ _ _ _ g0 g1 g2 g3|ret=>exact h4 _ _ _ _ _ _ _ _ _ g0 g1 g2 g3
   |exit i=>
     simp[ye];by_cases hi:i=id
     ·subst hi;rw[Ad rfl];simp[Nat.beq_refl,cond]at g3;exact h4 _ _ _ _ _ _ _ _ _ g0 g1 g2 g3
     ·rw[AU hi]
      have:Nat.beq i id=false:=by cases hb:Nat.beq i id with|false=>rfl|true=>exact(hi (Ap hb)).elim
      simp[this,cond]at g3;exact h4 _ _ _ _ _ _ _ _ _ g0 g1 g2 g3
 |loop b ih=>
   intro bi e h g ν nV nS sl lh PR KA hd M hx Q h3 h4;simp[oE]at h3;split at h3
   ·subst hYS;exact h3 Pn N0 ν nV nS sl Rk lh KA hd Zo Zp Zq M hx Q h4
   ·rename_i n hn
    simp[lW];refine⟨JX w0 (dM w0 Pe) Pg nb Pn N0 rd.e0 Rk (oE cf cp un (lv,nb) rd QE bi b) PR ν,JX.sl,JX.lh,JX.g,JX.n,⟨n+1,e,h,g,ν,nV,nS,sl,lh,M,hx,Q,Ao.refl _ _,h3⟩,rfl,rfl,rfl,λs=>?_⟩;have Qe:=s.st;have Wa:=s.hn
    match hm:s.n,Qe with
    |0,Qe=>exact Qe.elim
    |k+1,Qe=>
      simp[YY]at Qe;refine ih bi s.e s.h s.g s.ν s.nV s.nS s.sl s.lh _ _ hd s.hs s.hx s.hh Qe λx e' h' g' ν' sl' lh' nV' nS' g0 g1 g2 g3=>?_;cases x with
      |normal=>exact⟨⟨k,e',h',g',ν',nV',nS',sl',lh',g1,s.hx.step g0,g2,Wa.trans g0,g3⟩,rfl,rfl,rfl,Nat.lt_succ_self k⟩|exit i=>exact h4 _ _ _ _ _ _ _ _ _ (Wa.trans g0) g1 g2 g3|ret=>exact h4 _ _ _ _ _ _ _ _ _ (Wa.trans g0) g1 g2 g3
 |exit i=>intro bi e h g ν nV nS sl lh PR KA _ M _ Q h3 h4;exact h4 _ _ _ _ _ _ _ _ _ (Ao.refl _ _) M Q h3|ret=>intro bi e h g ν nV nS sl lh PR KA _ M _ Q h3 h4;exact h4 _ _ _ _ _ _ _ _ _ (Ao.refl _ _) M Q h3|scope b ih=>intro bi e h g ν nV nS sl lh PR KA hd M hx Q h3 h4;exact ih bi e h g ν nV nS sl lh PR KA hd M hx Q h3 h4
end it
structure KT (w0:World) (LP:fE) (Pg:α->Prop) (nb Pn:Nat) (ev:bT->List AD->(Ex->bT->List AD->AN α)->AN α) (PR:Ex->bT->List AD->AN α) (ν0:Nu) where
 n:Nat
 e:bT
 h:List AD
 ν:Nu
 nV:Nat
 nS:Nat
 sl:List ak
 lh:List ar
 hs:gY w0 ν Pn e sl
 hh:HR w0 ν nV nS h lh
 hn:Ao nb ν0 ν
 st:bU LP (Kt ev n e h PR) Pg
theorem lJ:∀ l:List ak,nq l l
 |[]=>by simp[nq]
 |a::l=>by unfold nq;exact⟨.inr rfl,lJ l⟩
theorem hly:∀ {AS:List jc} {it:jc},CE AS=true->it∈AS->tv it.ntmps it.body=true
 |[],_,_,h=>by cases h
 |x::l,it,h,hm=>by
   simp[CE,Ae]at h;rcases List.mem_cons.1 hm with rfl|hm
   ·exact h.1
   ·exact hly h.2 hm
theorem B3 {lh:List ar} {ν:Nu}:∀ {us:List V} {az rest:List ak} {j i:Nat},bK w0 lh ν us az->(∀ a,a∈rest->True)->vr w0 lh ν (ku (MJ us j) (j+i)) ((az++rest).getD i .any)
 |[],az,rest,j,i,h,_=>by simp[MJ,ku,vr]
 |u::us,az,rest,j,i,h,hr=>by
   simp[bK]at h;obtain⟨x,xs,rfl,M,Q⟩:=h;simp[MJ];rw[nj];cases i with
   |zero=>rw[Ad K];simpa using M
   |succ i=>rw[AU K];have:=B3 (j:=j+1) (i:=i) (rest:=rest) Q hr;rw[show j+1+i=j+(i+1) by omega]at this;simpa using this
theorem sY {S1:FuncId->ci} {LP:fE} {Pn:Nat} (RB:uz w0 S1 LP false cf):∀ (t:OT) (e:bT) (h:List AD) (ν:Nu) (nV nS:Nat) (sl:List ak) (lh:List ar) (PR:bT->List AD->AN α) (KA:List ak->List ar->Prop),vq Pn t=true ->
 gY w0 ν Pn e sl->HR w0 ν nV nS h lh->bU LP (FC cf t e h PR) Pg->(∀e' h' ν' sl' lh',ν.sub ν'->gY w0 ν' Pn e' sl'->HR w0 ν' nV nS h' lh'->bU LP (PR e' h') Pg->KA sl' lh')->qP w0 S1 t sl lh KA
 |.done,e,h,ν,nV,nS,sl,lh,PR,KA,_,M,Q,h3,h4=>h4 _ _ _ _ _ (Nu.sub_refl ν) M Q h3
 |.op o r,e,h,ν,nV,nS,sl,lh,PR,KA,hd,M,Q,h3,h4=>by simp[vq,Ae]at hd;simp[FC]at h3;simp[qP];exact lU RB [o] e h ν sl lh _ _ hd.1 M Q h3 λe' h' ν' sl' lh' k0 k1 k2 k3=>sY RB r e' h' ν' nV nS sl' lh' PR KA hd.2 k1 k2 k3 λe2 Q ν2 Sc lh2 q0=>h4 e2 Q ν2 Sc lh2 (Nu.sub_trans k0 q0)
 |.alt a b,e,h,ν,nV,nS,sl,lh,PR,KA,hd,M,Q,h3,h4=>by simp[vq,Ae]at hd;simp[FC,bU]at h3;exact⟨sY RB a e h ν nV nS sl lh PR KA hd.1 M Q h3.1 h4,sY RB b e h ν nV nS sl lh PR KA hd.2 M Q h3.2 h4⟩
theorem Db {lv:Nat} (RB:uz w0 (Pe lv) (dM w0 Pe) false cf) (Rx:xM w0 (Pe lv) (dM w0 Pe) cp) {un:l7} {Pn:Nat}:∀ (c:hU) (nb nbS bi:Nat) (e:bT) (h:List AD) (ν:Nu) (nV nS:Nat) (sl:List ak) (lh:List ar) (PR:Ex->bT->List AD->AN α) (KA:Ex->List ak->List ar->Prop),
 gp Pn c=true->gY w0 ν Pn e sl->HR w0 ν nV nS h lh->bU (dM w0 Pe) (vj cf cp un (lv,nb) bi c e h PR) Pg ->
 (∀x e' h' ν' sl' lh' nV' nS',Ao nb ν ν'->gY w0 ν' Pn e' sl'->HR w0 ν' nV' nS' h' lh'->bU (dM w0 Pe) (PR x e' h') Pg->KA x sl' lh')->cK w0 (Pe lv) nbS c sl lh KA:=by
 intro c;induction c with
 |skip=>intro nb nbS bi e h ν nV nS sl lh PR KA _ M Q h3 h4;exact h4 .normal _ _ _ _ _ _ _ (Ao.refl _ _) M Q h3
 |reg ops=>intro nb nbS bi e h ν nV nS sl lh PR KA hd M Q h3 h4;exact lU RB ops e h ν sl lh _ _ hd M Q h3 λe' h' ν' sl' lh' g0 g1 g2 g3=>h4 .normal _ _ _ _ _ _ _ (Ao.of g0 _) g1 g2 g3
 |allo t=>intro nb nbS bi e h ν nV nS sl lh PR KA hd M Q h3 h4;exact sY RB t e h ν nV nS sl lh _ _ hd M Q h3 λe' h' ν' sl' lh' g0 g1 g2 g3=>h4 .normal _ _ _ _ _ _ _ (Ao.of g0 _) g1 g2 g3
 |alloq t=>intro nb nbS bi e h ν nV nS sl lh PR KA hd M Q h3 h4;exact sY Rx.2 t e h ν nV nS sl lh _ _ hd M Q h3 λe' h' ν' sl' lh' g0 g1 g2 g3=>h4 .normal _ _ _ _ _ _ _ (Ao.of g0 _) g1 g2 g3
 |draw ds=>intro nb nbS bi e h ν nV nS sl lh PR KA hd M Q h3 h4;exact uT Rx hd M Q h3 λe' h' ν' sl' lh' _ _ g0 g1 g2 g3=>h4 .normal _ _ _ _ _ _ _ (Ao.of g0 _) g1 g2 g3
 |seq a b iha ihb=>
   intro nb nbS bi e h ν nV nS sl lh PR KA hd M Q h3 h4;simp[gp,Ae]at hd;refine iha nb nbS bi e h ν nV nS sl lh _ _ hd.1 M Q h3 λx e' h' ν' sl' lh' nV' nS' g0 g1 g2 g3=>?_;cases x with
   |normal=>exact ihb nb nbS bi e' h' ν' nV' nS' sl' lh' PR KA hd.2 g1 g2 g3 λx e2 Q ν2 Sc lh2 nV2 nS2 q0=>h4 x e2 Q ν2 Sc lh2 nV2 nS2 (g0.trans q0)
   |exit i=>exact h4 _ _ _ _ _ _ _ _ g0 g1 g2 g3|ret=>exact h4 _ _ _ _ _ _ _ _ g0 g1 g2 g3
 |cond c a b iha ihb=>
   intro nb nbS bi e h ν nV nS sl lh PR KA hd M Q h3 h4;simp[gp,Ae]at hd;simp[vj]at h3;have ha:=M.arg c;simp[cK];split at h3
   ·rename_i hc;rw[hc]at ha;simp[vr]at ha;rw[ha];exact⟨λ_=>iha nb nbS bi e h ν nV nS sl lh PR KA hd.1 M Q h3 h4,(λhe=>by cases he)⟩
   ·rename_i hc;rw[hc]at ha;simp[vr]at ha;rw[ha];exact⟨(λhe=>by cases he),λ_=>ihb nb nbS bi e h ν nV nS sl lh PR KA hd.2 M Q h3 h4⟩
   ·rename_i t hc
    rw[hc]at ha;simp[vr]at ha;rw[ha];split at h3
    ·rename_i s;simp[bU]at h3;simp[arg]at ha;exact⟨λet=>iha nb nbS bi _ h ν nV nS sl lh PR KA hd.1 (M.know (by simp[vr];rw[ha,et])) Q (h3.1 et) h4,λet=>ihb nb nbS bi _ h ν nV nS sl lh PR KA hd.2 (M.know (by simp[vr];rw[ha,et])) Q (h3.2 et) h4⟩
    ·simp[bU]at h3;exact⟨λet=>iha nb nbS bi _ h ν nV nS sl lh PR KA hd.1 M Q (h3.1 et) h4,λet=>ihb nb nbS bi _ h ν nV nS sl lh PR KA hd.2 M Q (h3.2 et) h4⟩
   ·exact h3.elim
 |block id b ih=>
   intro nb nbS bi e h ν nV nS sl lh PR KA hd M Q h3 h4;refine ih nb nbS id e h ν nV nS sl lh _ _ hd M Q h3 λx e' h' ν' sl' lh' nV' nS' g0 g1 g2 g3=>?_;cases x with
   |normal=>exact h4 _ _ _ _ _ _ _ _ g0 g1 g2 g3|ret=>exact h4 _ _ _ _ _ _ _ _ g0 g1 g2 g3
   |exit i=>
     simp[xJ];by_cases hi:i=id
     ·subst hi;rw[Ad rfl];simp[Nat.beq_refl,cond]at g3;exact h4 _ _ _ _ _ _ _ _ g0 g1 g2 g3
     ·rw[AU hi]
      have:Nat.beq i id=false:=by cases hb:Nat.beq i id with|false=>rfl|true=>exact(hi (Ap hb)).elim
      simp[this,cond]at g3;exact h4 _ _ _ _ _ _ _ _ g0 g1 g2 g3
 |loop b ih=>
   intro nb nbS bi e h ν nV nS sl lh PR KA hd M Q h3 h4;simp[vj]at h3;split at h3
   ·exact h3 Pn nbS ν nV nS sl lh KA hd M Q h4
   ·rename_i n hn
    simp only[cK];refine⟨KT w0 (dM w0 Pe) Pg nb Pn (vj cf cp un (lv,nb) bi b) PR ν,KT.sl,KT.lh,KT.n,⟨n+1,e,h,ν,nV,nS,sl,lh,M,Q,Ao.refl _ _,h3⟩,.inl ⟨rfl,lJ _⟩,λs=>?_⟩;have Qe:=s.st;have Wa:=s.hn
    match hm:s.n,Qe with
    |0,Qe=>exact Qe.elim
    |k+1,Qe=>
      simp[Kt]at Qe;refine ih nb nbS bi s.e s.h s.ν s.nV s.nS s.sl s.lh _ _ hd s.hs s.hh Qe λx e' h' ν' sl' lh' nV' nS' g0 g1 g2 g3=>?_;cases x with
      |normal=>exact⟨⟨k,e',h',ν',nV',nS',sl',lh',g1,g2,Wa.trans g0,g3⟩,.inl ⟨rfl,lJ _⟩,Nat.lt_succ_self k⟩|exit i=>exact h4 _ _ _ _ _ _ _ _ (Wa.trans g0) g1 g2 g3|ret=>exact h4 _ _ _ _ _ _ _ _ (Wa.trans g0) g1 g2 g3
 |exit i=>intro nb nbS bi e h ν nV nS sl lh PR KA _ M Q h3 h4;exact h4 _ _ _ _ _ _ _ _ (Ao.refl _ _) M Q h3|ret=>intro nb nbS bi e h ν nV nS sl lh PR KA _ M Q h3 h4;exact h4 _ _ _ _ _ _ _ _ (Ao.refl _ _) M Q h3|scope b ih=>intro nb nbS bi e h ν nV nS sl lh PR KA hd M Q h3 h4;exact ih nb nbS bi e h ν nV nS sl lh PR KA hd M Q h3 h4
 |range gop ps asg body AS iha ihb=>
   intro nb nbS bi e h ν nV nS sl lh PR KA hd M Q h3 h4;simp[gp,Ae]at hd;simp[vj]at h3;have ha:=M.arg gop;simp[cK];split at h3
   ·rename_i f ys hg
    rw[hg]at ha;simp[vr,bK]at ha;obtain⟨us,vs,hav,rfl,YF⟩:=ha;rw[hav];dsimp only
    split at h3
    ·rename_i it hit
     try rw[hit]
     try dsimp only
     cases hb:Nat.ble (cj ys+1) it.ntmps with
     |false=>rw[hb]at h3;exact h3.elim
     |true=>
       rw[hb]at h3;simp[cond,bU]at h3;have Qm:=Bf hb;rw[ca]at Qm;have hl:=b5 YF;intro l;have hdom:∀ k,cj h<=k->ν k=none:=λk hk=>Q.dom k (by rw[← ca];exact hk);have hctx:MX w0 (cj h) Pn e sl ν:=⟨ν,hdom,M,Nu.sub_refl ν⟩;have hY:QK w0 (dM w0 Pe) Pg (cj h) Pn e sl (λvs h PR=>cond (Nat.beq (cj vs) (cj ps)) (vj cf cp un (lv,cj h) bi asg (rR e ps vs) h λx e1 M=>match x with
        |.normal=>vj cf cp un (lv,cj h) bi body e1 M λx _ Q=>PR x Q
        |_=>.fail 94) (.fail 95)) (YA w0 (Pe lv) ps asg body sl):=by
        intro vs h ν nV nS args lh PR KA hx hh hv hs hK;dsimp only at hs;cases hb:Nat.beq (cj vs) (cj ps) with
        |false=>rw[hb]at hs;exact hs.elim
        |true=>
          rw[hb]at hs;simp[cond]at hs;have hlen:=Ap hb;rw[ca,ca]at hlen;have hdom:∀k,cj h<=k->ν k=none:=λk hk=>hh.dom k (by rw[← ca];exact hk);refine⟨by rw[b5 hv];exact hlen,?_⟩;refine iha (cj h) _ bi _ h ν nV nS _ lh _ _ hd.2.1 (u3 ps e sl vs args hd.1 hx.get hv hlen) hh hs λx e' h' ν' sl' lh' nV' nS' g0 g1 g2 g3=>?_;cases x with
          |normal=>exact ihb (cj h) _ bi _ h' ν' nV' nS' _ lh' _ _ hd.2.2.1 g1 g2 g3 λx e2 Q ν2 Sc lh2 nV2 nS2 q0 q1 q2 q3=>hK x Q ν2 nV2 nS2 lh2 ((g0.trans q0).sub hdom) q2 q3
          |exit i=>exact g3.elim|ret=>exact g3.elim
       refine agP (rd:=⟨ps,asg,body,e,l⟩) (QE:=_) (Rk:=sl) (nb:=cj h) RB Rx hd.1 hd.2.1 hd.2.2.1 rfl hY it.body 0 _ h none ν nV nS _ lh _ _ (hly hd.2.2.2 (qc hit).1) ⟨by simp;omega,λi=>?_⟩ hctx Q (h3 l) λx e' h' g' ν' sl' lh' nV' nS' g0 g1 g2 g3=>?_
       ·rw [nj]
        cases i with
        |zero=>simp[vr]
        |succ i=>rw[AU K];have:=B3 (j:=1) (i:=i) (rest:=List.replicate (it.ntmps-(vs.length+1)) .any) YF (λ_ _=>trivial);rw[show 1+i=i+1 by omega]at this;simpa using this
       ·have hsub:=g0.sub hdom
        cases x with
        |exit i=>exact g3.elim
        |normal=>
          cases g' with
          |none=>exact h4 .normal e h' ν' sl lh' nV' nS' (Ao.of hsub _) (M.mono hsub) g2 g3|some x=>exact h4 x e h' ν' sl lh' nV' nS' (Ao.of hsub _) (M.mono hsub) g2 g3
        |ret=>
          cases g' with
          |none=>exact h4 .normal e h' ν' sl lh' nV' nS' (Ao.of hsub _) (M.mono hsub) g2 g3|some x=>exact h4 x e h' ν' sl lh' nV' nS' (Ao.of hsub _) (M.mono hsub) g2 g3
    ·exact h3.elim
   ·exact h3.elim
theorem pS {LP:fE} {ν:Nu} {nV nS Pn:Nat} {e:bT} {h:List AD} {sl:List ak} {lh:List ar} (M:gY w0 ν Pn e sl) (Q:HR w0 ν nV nS h lh):∀ (rs:List C2) (PR:List V->AN α) (KA:List ak->Prop),bU LP (vh e h rs PR) Pg ->
 (∀us az,bK w0 ν.z ν us az->bU LP (PR us) Pg->KA az)->kk w0 sl lh rs KA
 |[],PR,KA,hs,hK=>hK [] [] (by simp[bK]) hs
 |.tmp t::l,PR,KA,hs,hK=>by
   simp[vh]at hs
   let ⟨u,g1,g2⟩:=FU rfl (M.at' t) hs
   exact pS M Q l _ _ g2 λus az g3 g4=>hK (u::us) _ (by simp only[bK];exact⟨_,_,rfl,g1,g3⟩) g4
 |.cell t n::l,PR,KA,hs,hK=>by
   cases n with
   |none=>
     simp[vh]at hs
     let ⟨g0,hs⟩:=xe rfl hs
     split at hs
     ·rename_i v hv
      let ⟨p,x,e1,e2,e3⟩:=GI Q (M.at' t) hv g0
      simp only[kk,e1];exact⟨x,e2,pS M Q l _ _ hs λus az g3 g4=>hK (v::us) _ (by simp only[bK];exact⟨_,_,rfl,e3,g3⟩) g4⟩
     ·exact hs.elim
   |some n=>
     simp[vh]at hs
     let ⟨g0,hs⟩:=xe rfl hs
     split at hs
     ·rename_i cs hv
      let ⟨p,x,e1,e2,e3⟩:=avQ Q (M.at' t) hv g0
      simp only[kk,e1];exact⟨x,e2,pS M Q l _ _ hs λus az g3 g4=>hK (.agg cs::us) _ (by simp only[bK];exact⟨_,_,rfl,by simp only[vr];exact⟨_,rfl,e3⟩,g3⟩) g4⟩
     ·exact hs.elim
theorem agS {lh:List ar} {ν:Nu}:∀ {us:List V} {az:List ak},bK w0 lh ν us az->vr w0 lh ν (uQ us) (sn az)
 |[],az,h=>by simp only[bK]at h;subst h;simp only[uQ,sn,vr];exact⟨_,rfl,by simp only[bK]⟩
 |[u],az,h=>by simp only[bK]at h;obtain⟨x,xs,rfl,M,rfl⟩:=h;exact M
 |u::v::us,az,h=>by have h':=h;simp only[bK]at h;obtain⟨x,xs,rfl,M,y,ys,rfl,Q⟩:=h;simp only[uQ,sn,vr];exact⟨_,rfl,h'⟩
theorem HR.none (w0:World):HR w0 Nu.nil 0 0 [] []:=⟨(λk o h=>by simp at h),(λk k' x x' _ _ h=>by cases h),(λ_ _=>rfl),(λk x h=>by cases h),av8 _,(λk x _ h=>by cases h)⟩
theorem sM {lv:Nat} (RB:uz w0 (Pe lv) (dM w0 Pe) false cf) (Rx:xM w0 (Pe lv) (dM w0 Pe) cp) {un:l7} {sf:aJ} {args:List V} {az:List ak} {h:List AD} {lh:List ar} {ν:Nu} {nV nS:Nat} {PR:V->List AD->AN α} {KA:ak->List ar->Prop} (hd:gp sf.ntmps sf.body=true)
 (ha:bK w0 ν.z ν args az) (hh:HR w0 ν nV nS h lh) (hs:bU (dM w0 Pe) (oZ cf cp un lv sf args h PR) Pg)
 (hK:∀v h' ν' a lh',ν.sub ν'->(∀nV nS,HR w0 ν' nV nS h' lh')->vr w0 ν'.z ν' v a->bU (dM w0 Pe) (PR v h') Pg->KA a lh'):JQ w0 (Pe lv) sf az lh KA:=by
 unfold oZ at hs;cases hb:Nat.ble (cj args) sf.ntmps with
 |false=>rw[hb]at hs;exact hs.elim
 |true=>
   rw[hb]at hs;simp[cond]at hs;have Qm:=Bf hb;rw[ca]at Qm;have hl:=b5 ha;have hdom:∀k,cj h<=k->ν k=none:=λk hk=>hh.dom k (by rw[← ca];exact hk);unfold JQ;refine Db RB Rx sf.body (cj h) _ 0 _ h ν nV nS _ lh _ _ hd ⟨by simp;omega,λi=>?_⟩ hh hs λx e' h' ν' sl' lh' nV' nS' g0 g1 g2 g3=>?_
   ·have:=B3 (j:=0) (i:=i) (rest:=List.replicate (sf.ntmps-az.length) .any) ha (λ_ _=>trivial);rwa [DZ]at this
   ·cases x with
    |exit i=>exact g3.elim|normal=>exact pS g1 g2 _ _ _ g3 λus vs k1 k2=>hK _ _ ν' _ _ (g0.sub hdom) (λa b=>g2.undead a b) (agS k1) k2
    |ret=>exact pS g1 g2 _ _ _ g3 λus vs k1 k2=>hK _ _ ν' _ _ (g0.sub hdom) (λa b=>g2.undead a b) (agS k1) k2
def lM (w0:World) (nb:Nat) (e:bT) (h:List AD) (e1:bT) (M:List AD):Prop :=
 ∀(Pn:Nat) (ν:Nu) (nV nS:Nat) (sl:List ak) (lh:List ar),gY w0 ν Pn e sl->HR w0 ν nV nS h lh->∃ν1 nV1 nS1,Ao nb ν ν1/\gY w0 ν1 Pn e1 sl/\HR w0 ν1 nV1 nS1 M lh
structure LSt (w0:World) (nb Pn:Nat) (Ru:Type) (inv:Ru->bT×List AD) (ν0:Nu) where
 i:Ru
 ν:Nu
 nV:Nat
 nS:Nat
 sl:List ak
 lh:List ar
 hs:gY w0 ν Pn (inv i).1 sl
 hh:HR w0 ν nV nS (inv i).2 lh
 hn:Ao nb ν0 ν
theorem plR {fr:Nat×Nat} {cf:CF (Ex×bT×List AD)} {cp:CP (Ex×bT×List AD)} (RB:uz w0 (Pe fr.1) (dM w0 Pe) false cf) (Rx:xM w0 (Pe fr.1) (dM w0 Pe) cp) {un:l7} {bi:Nat} {body:hU} {e:bT} {h:List AD} {Ag:Ex->bT->List AD->Option Ex->Prop}
 (Ru:Type) (inv:Ru->bT×List AD) (μ:Ru->Nat) (h0:∃i,lM w0 fr.2 e h (inv i).1 (inv i).2)
 (round:∀i,bU (dM w0 Pe) (vj cf cp un fr bi body (inv i).1 (inv i).2 λx e h=>.ret (x,e,h)) λr=>match r.1 with|.normal=>∃i',lM w0 fr.2 r.2.1 r.2.2 (inv i').1 (inv i').2/\μ i'<μ i|x=>Ag x r.2.1 r.2.2 none):dM w0 Pe fr (.s body) e h none Ag:=by
 intro Pn nbS ν nV nS sl lh QA hd M Q hQ
 let ⟨i0,pA⟩:=h0
 let ⟨ν1,nV1,nS1,g0,g1,g2⟩:=pA Pn ν nV nS sl lh M Q
 simp only[cK];refine⟨LSt w0 fr.2 Pn Ru inv ν,λs=>s.sl,λs=>s.lh,λs=>μ s.i,⟨i0,ν1,nV1,nS1,sl,lh,g1,g2,g0⟩,.inl ⟨rfl,lJ _⟩,λs=>?_⟩;refine Db RB Rx body fr.2 nbS bi _ _ s.ν s.nV s.nS s.sl s.lh _ _ hd s.hs s.hh (round s.i) λx e' h' ν' sl' lh' nV' nS' k0 k1 k2 k3=>?_;simp[bU]at k3;cases x with
 |normal=>
   let ⟨i',k4,k5⟩:=k3
   let ⟨ν2,nV2,nS2,k8,k6,k7⟩:=k4 Pn ν' nV' nS' sl' lh' k1 k2
   exact⟨⟨i',ν2,nV2,nS2,sl',lh',k6,k7,(s.hn.trans k0).trans k8⟩,.inl ⟨rfl,lJ _⟩,k5⟩
 |exit i=>exact hQ _ _ _ _ _ _ _ _ (s.hn.trans k0) k1 k2 k3|ret=>exact hQ _ _ _ _ _ _ _ _ (s.hn.trans k0) k1 k2 k3
structure aAh (w0:World) (nb Pn:Nat) (Ru:Type) (inv:Ru->bT×List AD×Option Ex) (ν0:Nu) where
 i:Ru
 ν:Nu
 nV:Nat
 nS:Nat
 sl:List ak
 lh:List ar
 hs:gY w0 ν Pn (inv i).1 sl
 hh:HR w0 ν nV nS (inv i).2.1 lh
 hn:Ao nb ν0 ν
def JK (cf:CF α) (cp:CP α) (un:l7) (lv bi:Nat) (rd:RD):YV α:=λvs h PR=>cond (Nat.beq (cj vs) (cj rd.ps)) (vj cf cp un (lv,cj h) bi rd.asg (rR rd.e0 rd.ps vs) h λx e1 M=>match x with
 |.normal=>vj cf cp un (lv,cj h) bi rd.body e1 M λx _ Q=>PR x Q
 |_=>.fail 94) (.fail 95)
theorem akL {lv bi:Nat} {un:l7} {rd:RD} {nb Pn:Nat} {sl:List ak} (RB:uz w0 (Pe lv) (dM w0 Pe) false cf) (Rx:xM w0 (Pe lv) (dM w0 Pe) cp) (h0:xA Pn rd.ps=true) (M:gp Pn rd.asg=true) (Q:gp Pn rd.body=true) :
 QK w0 (dM w0 Pe) Pg nb Pn rd.e0 sl (JK cf cp un lv bi rd) (YA w0 (Pe lv) rd.ps rd.asg rd.body sl):=by
 intro vs h ν nV nS args lh PR KA hx hh hv hs hK;unfold JK at hs;cases hb:Nat.beq (cj vs) (cj rd.ps) with
 |false=>rw[hb]at hs;exact hs.elim
 |true=>
   rw[hb]at hs;simp[cond]at hs;have hlen:=Ap hb;rw[ca,ca]at hlen;have hdom:∀k,cj h<=k->ν k=none:=λk hk=>hh.dom k (by rw[← ca];exact hk);refine⟨by rw[b5 hv];exact hlen,?_⟩;refine Db RB Rx rd.asg (cj h) _ bi _ h ν nV nS _ lh _ _ M (u3 rd.ps rd.e0 sl vs args h0 hx.get hv hlen) hh hs λx e' h' ν' sl' lh' nV' nS' g0 g1 g2 g3=>?_;cases x with
   |normal=>exact Db RB Rx rd.body (cj h) _ bi _ h' ν' nV' nS' _ lh' _ _ Q g1 g2 g3 λx e2 Q ν2 Sc lh2 nV2 nS2 q0 q1 q2 q3=>hK x Q ν2 nV2 nS2 lh2 ((g0.trans q0).sub hdom) q2 q3
   |exit i=>exact g3.elim|ret=>exact g3.elim
theorem hs4 {fr:Nat×Nat} {cf:CF (Ex×bT×List AD×Option Ex)} {cp:CP (Ex×bT×List AD×Option Ex)} (RB:uz w0 (Pe fr.1) (dM w0 Pe) false cf) (Rx:xM w0 (Pe fr.1) (dM w0 Pe) cp) {un:l7} {bi bi':Nat} {body:jB} {rd:RD} {e:bT} {h:List AD} {g:Option Ex} {Ag:Ex->bT->List AD->Option Ex->Prop}
 (Ru:Type) (inv:Ru->bT×List AD×Option Ex) (μ:Ru->Nat) (h0:∃i,g=(inv i).2.2/\lM w0 fr.2 e h (inv i).1 (inv i).2.1)
 (round:∀i,bU (dM w0 Pe) (oE cf cp un fr rd (JK cf cp un fr.1 bi' rd) bi body (inv i).1 (inv i).2.1 (inv i).2.2 λx e h g=>.ret (x,e,h,g)) λr=>match r.1 with|.normal=>∃i',r.2.2.2=(inv i').2.2/\lM w0 fr.2 r.2.1 r.2.2.1 (inv i').1 (inv i').2.1/\μ i'<μ i|x=>Ag x r.2.1 r.2.2.1 r.2.2.2):dM w0 Pe fr (.i body rd) e h g Ag:=by
 intro Pn N0 ν nV nS sl Rk lh QA hd Zo Zp Zq M hx Q hQ;obtain⟨i0,rfl,pA⟩:=h0
 let ⟨ν1,nV1,nS1,g0,g1,g2⟩:=pA Pn ν nV nS sl lh M Q
 simp[lW];refine⟨aAh w0 fr.2 Pn Ru inv ν,λs=>s.sl,λs=>s.lh,λs=>(inv s.i).2.2,λs=>μ s.i,⟨i0,ν1,nV1,nS1,sl,lh,g1,g2,g0⟩,rfl,rfl,rfl,λs=>?_⟩;refine agP (QE:=JK cf cp un fr.1 bi' rd) (Rk:=Rk) RB Rx Zo Zp Zq rfl (akL RB Rx Zo Zp Zq) body bi _ _ _ s.ν s.nV s.nS s.sl s.lh _ _ hd s.hs (hx.step s.hn) s.hh (round s.i) λx e' h' g' ν' sl' lh' nV' nS' k0 k1 k2 k3=>?_;simp[bU]at k3;cases x with
 |normal=>
   let ⟨i',nzb2,k4,k5⟩:=k3
   let ⟨ν2,nV2,nS2,k8,k6,k7⟩:=k4 Pn ν' nV' nS' sl' lh' k1 k2
   exact⟨⟨i',ν2,nV2,nS2,sl',lh',k6,k7,(s.hn.trans k0).trans k8⟩,rfl,rfl,nzb2,k5⟩
 |exit i=>exact hQ _ _ _ _ _ _ _ _ _ (s.hn.trans k0) k1 k2 k3|ret=>exact hQ _ _ _ _ _ _ _ _ _ (s.hn.trans k0) k1 k2 k3
end
section
variable {B:dN} {m:aN} {lh:List ar} {w:World}
mutual
theorem eg (h:bk B m lh w):∀ (d:V) (x:ak) (u:Value),d.fc=true->vr B.w0 lh Nu.nil d x->AW m x u->vr w [] Nu.nil d (bV u)
 |.int ..,x,u,_,hd,hv=>by simp only[vr]at hd;subst hd;simp only[AW]at hv;subst hv;simp only[bV,vr]
 |.bool _,x,u,_,hd,hv=>by simp only[vr]at hd;subst hd;simp only[AW]at hv;subst hv;simp only[bV,vr]
 |.kb _,x,u,_,hd,hv=>by simp only[vr]at hd;subst hd;simp only[AW]at hv;subst hv;simp only[bV,vr]
 |.str _,x,u,_,hd,hv=>by simp only[vr]at hd;subst hd;simp only[AW]at hv;subst hv;simp only[bV,vr]
 |.agg _,_,_,hc,_,_=>by cases hc
 |.tup _,_,_,hc,_,_=>by cases hc
 |.fn ..,_,_,hc,_,_=>by cases hc
 |.gd ..,_,_,hc,_,_=>by cases hc
 |.yl _,_,_,hc,_,_=>by cases hc
 |.sl n f,x,u,_,hd,hv=>by
   simp only[vr]at hd ⊢;obtain⟨p,c,esz,rfl,Q,h3,h4,h5⟩:=hd;simp only[AW]at hv;obtain⟨PX,rfl,hq⟩:=hv;refine⟨PX.map .g,c,esz,by cases PX<;>rfl,Q,h3,by cases PX<;>trivial,λi hi=>?_⟩;obtain⟨p',az,rfl,g2,g3,g4⟩:=h5 i hi;obtain⟨a,us,WX,k1,k2⟩:=zx (PX:=PX.map λa=>a.add (i*esz)) h (by
    cases p' with
    |g a=>simp only[ef]at hq;subst hq;simp[ef,js.add]|l k off=>simp only[ef]at hq;obtain⟨b,e1,rfl⟩:=hq;simp only[ef,js.add];exact⟨b,e1,by simp[Addr.add]⟩) g2
   cases PX with
   |none=>cases WX
   |some a0=>simp at WX;subst WX;exact⟨.g a0,_,rfl,k1,qb h (f i) az us g4 g3 k2,g4⟩
 |.sq n m f,x,u,_,hd,hv=>by
   simp only[vr]at hd ⊢;obtain⟨p,c,esz,rfl,Q,h3,h4,h5⟩:=hd;simp only[AW]at hv;obtain⟨PX,rfl,hq⟩:=hv;refine⟨PX.map .g,c,esz,by cases PX<;>rfl,Q,h3,by cases PX<;>trivial,λi hi=>?_⟩;obtain⟨p',az,rfl,g2,g3,g4⟩:=h5 i hi;obtain⟨a,us,WX,k1,k2⟩:=zx (PX:=PX.map λa=>a.add (i*esz)) h (by
    cases p' with
    |g a=>simp only[ef]at hq;subst hq;simp[ef,js.add]|l k off=>simp only[ef]at hq;obtain⟨b,e1,rfl⟩:=hq;simp only[ef,js.add];exact⟨b,e1,by simp[Addr.add]⟩) g2
   cases PX with
   |none=>cases WX
   |some a0=>simp at WX;subst WX;exact⟨.g a0,_,rfl,k1,qb h (f i) az us g4 g3 k2,g4⟩
 |.pd cs,x,u,_,hd,hv=>by simp only[vr]at hd ⊢;obtain⟨p,az,rfl,_,h3,h4,h5⟩:=hd;simp only[AW]at hv;obtain⟨PX,rfl,hq⟩:=hv;obtain⟨a,us,rfl,k1,k2⟩:=zx h hq h3;exact⟨.g a,_,rfl,trivial,k1,qb h cs az us h5 h4 k2,h5⟩
 |.pl k off,x,u,_,hd,hv=>by simp only[vr]at hd;obtain⟨b,c,e,M,Q⟩:=hd;cases M
 |.pe k i j,x,u,_,hd,hv=>by simp only[vr]at hd;obtain⟨b,c,e,M,Q⟩:=hd;cases M
 |.ss k off n c,x,u,_,hd,hv=>by simp only[vr]at hd;obtain⟨b,c,e,M,Q⟩:=hd;cases M
 |.gs k n,x,u,_,hd,hv=>by simp only[vr]at hd;rcases hd with ⟨M,_⟩|⟨b,c,e,M,_⟩<;>cases M
 |.go k off n,x,u,_,hd,hv=>by simp only[vr]at hd;rcases hd with ⟨M,_⟩|⟨b,c,e,o,M,_⟩<;>cases M
 |.ns,x,u,_,hd,hv=>by simp only[vr]at hd;subst hd;simp only[AW,ef]at hv;obtain⟨PX,rfl,rfl⟩:=hv;simp only[bV,vr]
 |.np,x,u,_,hd,hv=>by simp only[vr]at hd;subst hd;simp only[AW,ef]at hv;obtain⟨PX,rfl,rfl⟩:=hv;simp only[bV,vr]
 |.any,x,u,_,hd,hv=>by simp only[vr]
theorem qb (h:bk B m lh w):∀ (ds:List V) (xs:List ak) (us:List Value),ds.all V.fc=true->bK B.w0 lh Nu.nil ds xs->aE m xs us->bK w [] Nu.nil ds (us.map bV)
 |[],xs,us,_,hd,hv=>by simp[bK]at hd;subst hd;simp[aE]at hv;subst hv;simp[bK,Ft]
 |d::ds,xs,us,hc,hd,hv=>by simp only[Dj,Ae]at hc;simp only[bK]at hd;obtain⟨x,xs',rfl,Q,h3⟩:=hd;simp only[aE]at hv;obtain⟨u,us',rfl,h4,h5⟩:=hv;simp only[DX,bK];exact⟨_,_,rfl,eg h d x u hc.1 Q h4,qb h ds xs' us' hc.2 h3 h5⟩
end
mutual
theorem avR (h:bk B m lh w):∀ (d:V) (x:ak) (u:Value),vr B.w0 lh Nu.nil d x->AW m x u->∃ x',AW (λ_=>none) x' u/\vr w [] Nu.nil d x'
 |.agg cs,x,u,hd,hv=>by simp[vr]at hd;obtain⟨az,rfl,M⟩:=hd;simp[AW]at hv;obtain⟨us,rfl,Q⟩:=hv;obtain⟨xs',g1,g2⟩:=lB h cs az us.toList M Q;exact⟨.agg xs',by simp only[AW];exact⟨us,rfl,g1⟩,by simp only[vr];exact⟨_,rfl,g2⟩⟩
 |.tup cs,x,u,hd,hv=>by simp[vr]at hd;obtain⟨az,rfl,M⟩:=hd;simp[AW]at hv;obtain⟨us,rfl,Q⟩:=hv;obtain⟨xs',g1,g2⟩:=lB h cs az us.toList M Q;exact⟨.tup xs',by simp only[AW];exact⟨us,rfl,g1⟩,by simp only[vr];exact⟨_,rfl,g2⟩⟩
 |.fn f xs ys,x,u,hd,hv=>by simp[vr]at hd;obtain⟨us,vs,rfl,M,Q⟩:=hd;simp[AW]at hv;obtain⟨us',vs',rfl,h3,h4⟩:=hv;obtain⟨az,g1,g2⟩:=lB h xs us us'.toList M h3;obtain⟨bs,g3,g4⟩:=lB h ys vs vs'.toList Q h4;exact⟨.fn (.func f) az bs,by simp only[AW];exact⟨us',vs',rfl,g1,g3⟩,by simp only[vr];exact⟨az,bs,rfl,g2,g4⟩⟩
 |.gd b v,x,u,hd,hv=>by
   simp[vr]at hd;cases b with
   |true=>obtain⟨x',g1,g2⟩:=avR h v x u (hd.1 rfl) hv;exact⟨x',g1,by simp only[vr];exact⟨λ_=>g2,λe=>by cases e⟩⟩
   |false=>obtain⟨l,rfl⟩:=hd.2 rfl;simp[AW]at hv;obtain⟨vs,rfl,_⟩:=hv;exact⟨.tup (vs.toList.map bV),by simp only[AW];exact⟨vs,rfl,cz _ _⟩,by simp only[vr];exact⟨(λe=>by cases e),λ_=>⟨_,rfl⟩⟩⟩
 |.int k n,x,u,hd,hv=>⟨bV u,cL _ u,eg h (.int k n) x u rfl hd hv⟩|.bool b,x,u,hd,hv=>⟨bV u,cL _ u,eg h (.bool b) x u rfl hd hv⟩|.kb b,x,u,hd,hv=>⟨bV u,cL _ u,eg h (.kb b) x u rfl hd hv⟩|.str b,x,u,hd,hv=>⟨bV u,cL _ u,eg h (.str b) x u rfl hd hv⟩|.sl n f,x,u,hd,hv=>⟨bV u,cL _ u,eg h (.sl n f) x u rfl hd hv⟩|.sq n m f,x,u,hd,hv=>⟨bV u,cL _ u,eg h (.sq n m f) x u rfl hd hv⟩|.pd b,x,u,hd,hv=>⟨bV u,cL _ u,eg h (.pd b) x u rfl hd hv⟩|.pl k off,x,u,hd,hv=>⟨bV u,cL _ u,eg h (.pl k off) x u rfl hd hv⟩|.pe k i j,x,u,hd,hv=>⟨bV u,cL _ u,eg h (.pe k i j) x u rfl hd hv⟩|.ss k off n c,x,u,hd,hv=>⟨bV u,cL _ u,eg h (.ss k off n c) x u rfl hd hv⟩|.gs k n,x,u,hd,hv=>⟨bV u,cL _ u,eg h (.gs k n) x u rfl hd hv⟩|.ns,x,u,hd,hv=>⟨bV u,cL _ u,eg h .ns x u rfl hd hv⟩|.np,x,u,hd,hv=>⟨bV u,cL _ u,eg h .np x u rfl hd hv⟩|.any,x,u,hd,hv=>⟨bV u,cL _ u,eg h .any x u rfl hd hv⟩|.go k off n,x,u,hd,hv=>⟨bV u,cL _ u,eg h (.go k off n) x u rfl hd hv⟩|.yl l,x,u,hd,hv=>⟨kw l,by simp[vr]at hd;subst hd;simp[kw,AW]at hv ⊢;exact hv,by simp[vr]⟩
theorem lB (h:bk B m lh w):∀ (ds:List V) (xs:List ak) (us:List Value),bK B.w0 lh Nu.nil ds xs->aE m xs us->∃ xs',aE (λ_=>none) xs' us/\bK w [] Nu.nil ds xs'
 |[],xs,us,hd,hv=>by simp[bK]at hd;subst hd;simp[aE]at hv;subst hv;exact⟨[],by simp[aE],by simp[bK]⟩
 |d::ds,xs,us,hd,hv=>by
   simp[bK]at hd;obtain⟨x,xs',rfl,Q,h3⟩:=hd;simp[aE]at hv;obtain⟨u,us',rfl,h4,h5⟩:=hv
   let ⟨a,g1,g2⟩:=avR h d x u Q h4
   let ⟨az,g3,g4⟩:=lB h ds xs' us' h3 h5
   exact⟨a::az,by simp only[aE];exact⟨_,_,rfl,g1,g3⟩,by simp only[bK];exact⟨_,_,rfl,g2,g4⟩⟩
end
end
section
variable {w0:World} {ν:Nu} {nV nS:Nat} {h:List AD} {lh:List ar}
theorem id0 (v:V):(tO v).fc=true:=by
 unfold tO;cases hv:v.fc with
 |true=>simpa using hv|false=>rfl
theorem i17 {v:V} {a:ak} (hv:vr w0 lh Nu.nil v a):vr w0 lh Nu.nil (tO v) a:=by
 unfold tO;cases v.fc with
 |true=>exact hv|false=>simp[cond,vr]
theorem ut (g:V->V) (l:List V):(l.map λv=>tO (g v)).all V.fc=true:=by rw[IE];intro x hx;rw[List.mem_map]at hx;obtain⟨v,_,rfl⟩:=hx;exact id0 _
theorem wo {lh':List ar} {ν':Nu} {g:V->V} (hg:∀ v a,vr w0 lh ν v a->vr w0 lh' ν' (g v) a):∀ {vs:List V} {az:List ak},bK w0 lh ν vs az->bK w0 lh' ν' (vs.map g) az
 |[],az,hv=>by simp[bK]at hv ⊢;subst hv;simp[Ft,bK]
 |v::vs,az,hv=>by simp only[bK]at hv;obtain⟨x,xs,rfl,M,Q⟩:=hv;simp only[DX,bK];exact⟨_,_,rfl,hg v x M,wo hg Q⟩
theorem pF (hh:HR w0 ν nV nS h lh):∀ (fu:Nat) (v:V) (a:ak),vr w0 ν.z ν v a->vr w0 lh Nu.nil (mE h fu v) a
 |0,v,a,_=>by simp only[mE,vr]
 |fu+1,v,a,hv=>by
   have ih:∀{vs:List V} {az:List ak},bK w0 ν.z ν vs az->bK w0 lh Nu.nil (vs.map (mE h fu)) az:=λQh=>wo (λv a=>pF hh fu v a) Qh;have ihc:∀{vs:List V} {az:List ak},bK w0 ν.z ν vs az->bK w0 lh Nu.nil (vs.map λv=>tO (mE h fu v)) az:=λQh=>wo (λv a hv=>i17 (pF hh fu v a hv)) Qh;unfold mE;split
   ·simp only[vr]at hv ⊢;exact hv
   ·simp only[vr]at hv ⊢;exact hv
   ·simp only[vr]at hv ⊢;exact hv
   ·simp only[vr]at hv ⊢;exact hv
   ·rename_i n f;exact nJ hh.zl _ _ (by simp only[vr]at hv ⊢;exact hv)
   ·rename_i n m f;exact nJ hh.zl _ _ (by simp only[vr]at hv ⊢;exact hv)
   ·rename_i cs;exact nJ hh.zl _ _ (by simp only[vr]at hv ⊢;exact hv)
   ·simp only[vr]at hv ⊢;subst hv;exact⟨none,0,0,rfl,Ah _,K,trivial,λi hi=>by omega⟩
   ·simp only[vr]at hv ⊢;let ⟨az,M,Q⟩:=hv;exact⟨az,M,ih Q⟩
   ·simp only[vr]at hv ⊢;let ⟨us,vs,M,Q,h3⟩:=hv;exact⟨us,vs,M,ih Q,ih h3⟩
   ·rename_i k off
    rw[bw];split
    ·rename_i cs ty hk
     rw[ca];cases hb:Nat.ble off cs.length with
     |false=>simp only[cond,vr]
     |true=>
       have Qm:=Bf hb;simp only[cond]
       let ⟨b,c0,e0,az,M,Q,h3⟩:=hh.blk k _ hk
       simp only[vr]at hv ⊢;obtain⟨b',c',e',g1,rfl⟩:=hv;rw[M]at g1;obtain⟨rfl,rfl,rfl⟩:b=b'/\c0=c'/\e0=e':=by simpa using g1
       have hl:=b5 h3;refine⟨.l b off,az.drop off,rfl,by simp[HU,Q,isCells],?_,ihc (g8 _ h3),ut _ _⟩;simp only[lds,Q,List.length_map,Iz];rw[Ad K,I5 (by simp;omega)]
    ·simp only[vr]
   ·rename_i k n
    rw[bw];split
    ·rename_i e n' f ty hk
     cases hb:Nat.ble n n' with
     |false=>simp only[cond,vr]
     |true=>
       have Qm:=Bf hb;simp only[cond];have hb:=hh.blk k _ hk;simp only[vr]at hv ⊢;rcases hb with ⟨M,Q⟩|⟨b,c,az,M,Q,h3,h4,h5⟩
       ·rcases hv with ⟨_,g2,rfl⟩|⟨b,c,e,g1,_⟩
        ·subst g2;exact⟨none,0,0,rfl,Ah _,K,trivial,λi hi=>by omega⟩
        ·rw[M]at g1;cases g1
       ·rcases hv with ⟨g1,_⟩|⟨b',c',e',g1,rfl,g3⟩
        ·rw[M]at g1;cases g1
        ·rw [M]at g1
         obtain⟨rfl,rfl,rfl⟩:b=b'/\c=c'/\e=e':=by simpa using g1
         refine⟨some (.l b 0),c,e,rfl,g3,K,⟨az,ty,Q,Bc _⟩,λi hi=>?_⟩;have RI:i*e+e<=az.length:=by rw[h3,← DO];exact DY e K
         refine⟨_,_,rfl,?_,ihc (h5 i K).2,ut _ _⟩;simp only[js.add,lds,Q,DZ];rw[Ad K]
    ·simp only[vr]
   ·rename_i k off n c
    rw[bw];split
    ·rename_i cs ty hk
     rw[ca];cases hb:(Nat.ble n 9223372036854775807&&(Nat.ble n c&&Nat.ble (off+n*((cs.length-off) / c)) cs.length)) with
     |false=>simp only[cond,vr]
     |true=>
       simp only[Ae]at hb;have b1:=Bf hb.1;have b2:=Bf hb.2.1;have b3:=Bf hb.2.2;simp only[cond]
       let ⟨b,c0,e0,az,M,Q,h3⟩:=hh.blk k _ hk
       simp only[vr]at hv ⊢;obtain⟨b',c',e',g1,rfl⟩:=hv;rw[M]at g1;obtain⟨rfl,rfl,rfl⟩:b=b'/\c0=c'/\e0=e':=by simpa using g1
       have hl:=b5 h3;refine⟨some (.l b off),c,(cs.length-off) / c,rfl,⟨b2,b2⟩,b1,⟨az,ty,Q,K⟩,λi hi=>?_⟩;have RI:off+i*((cs.length-off) / c)+(cs.length-off) / c<=cs.length:=by have:(i+1)*((cs.length-off) / c)<=n*((cs.length-off) / c):=DY _ K;rw[DO]at this;omega
       refine⟨_,_,rfl,?_,jl _ (g8 _ (ihc h3)),ak4 _ _ (ut _ _)⟩;simp only[js.add,lds,Q];rw[Ad K]
    ·simp only[vr]
   ·simp only[vr]
theorem ia1 (hz:w6 ν.z lh) {v:V} {a:ak} (hv:vr w0 ν.z ν v a):vr w0 lh Nu.nil (EZ v) a:=by
 unfold EZ;split
 ·simp[vr]at hv ⊢;exact hv
 ·simp[vr]at hv ⊢;exact hv
 ·simp[vr]at hv ⊢;exact hv
 ·simp[vr]at hv ⊢;exact hv
 ·exact nJ hz _ _ (by simp[vr]at hv ⊢;exact hv)
 ·exact nJ hz _ _ (by simp[vr]at hv ⊢;exact hv)
 ·simp[vr]
theorem hys (v:V):(EZ v).fc=true:=by cases v<;>rfl
theorem hpx (l:List V):(l.map EZ).all V.fc=true:=by rw[IE];intro x hx;rw[List.mem_map]at hx;obtain⟨v,_,rfl⟩:=hx;exact hys _
def UJ (l:List (Nat×Nat)):Prop:=∀p,p∈l->p.1<=p.2
theorem avA {a b:List (Nat×Nat)} (h:UJ (zd a b)):UJ a/\UJ b:=by rw[mJ]at h;exact⟨λp hp=>h p (Jj _ hp),λp hp=>h p (List.mem_append_right _ hp)⟩
theorem yV {α:Type} {LP:fE} {Pg:α->Prop}:∀ {l:List (Nat×Nat)} {x:AN α},bU LP (IV l x) Pg->UJ l/\bU LP x Pg
 |[],x,h=>⟨(λp hp=>by cases hp),h⟩
 |p::l,x,h=>by
   simp only[IV,bU]at h
   let ⟨M,Q⟩:=yV h.2
   refine⟨λPX hq=>?_,Q⟩;rcases List.mem_cons.1 hq with rfl|hq
   ·exact Bf h.1
   ·exact M PX hq
theorem abi (hh:HR w0 ν nV nS h lh) {k n:Nat} {a:ak} (hm:UJ (JN h k n)) (hv:vr w0 ν.z ν (.gs k n) a):vr w0 lh Nu.nil (Jb h k n) a:=by
 unfold JN at hm;unfold Jb;rw[bw]at hm ⊢;split
 ·rename_i e n' f ty hk
  rw[hk]at hm;have Qm:n<=n':=hm (n,n') Eh;have hb:=hh.blk k _ hk;cases Nat.beq e 6 with
  |true=>exact pF hh 11 _ a hv|false=>
  show vr w0 lh Nu.nil (.sl n (lL f)) a;simp only[vr]at hv ⊢;rcases hb with ⟨M,Q⟩|⟨b,c,az,M,Q,h3,h4,h5⟩
  ·rcases hv with ⟨_,g2,rfl⟩|⟨b,c,e,g1,_⟩
   ·subst g2;exact⟨none,0,0,rfl,Ah _,K,trivial,λi hi=>by omega⟩
   ·rw[M]at g1;cases g1
  ·rcases hv with ⟨g1,_⟩|⟨b',c',e',g1,rfl,g3⟩
   ·rw[M]at g1;cases g1
   ·rw [M]at g1
    obtain⟨rfl,rfl,rfl⟩:b=b'/\c=c'/\e=e':=by simpa using g1
    refine⟨some (.l b 0),c,e,rfl,g3,K,⟨az,ty,Q,Bc _⟩,λi hi=>?_⟩;have RI:i*e+e<=az.length:=by rw[h3,← DO];exact DY e K
    refine⟨_,_,rfl,?_,wo (λv a hv=>ia1 hh.zl hv) (h5 i K).2,hpx _⟩;simp only[js.add,lds,Q,DZ];rw[Ad K]
 ·simp[vr]
theorem ic6 (hh:HR w0 ν nV nS h lh) {v:V} {a:ak} (hb:UJ (acw h v)) (hv:vr w0 ν.z ν v a):vr w0 lh Nu.nil (Jk h v) a:=by
 unfold Jk;split
 ·exact abi hh hb hv
 ·exact pF hh 11 _ a hv
theorem hmN (hh:HR w0 ν nV nS h lh):∀ {vs:List V} {az:List ak},UJ (PG h vs)->bK w0 ν.z ν vs az->bK w0 lh Nu.nil (vs.map (Jk h)) az
 |[],az,_,hv=>by simp[bK,Ft]at hv ⊢;exact hv
 |v::vs,az,hb,hv=>by have hb:=avA hb;simp[bK]at hv;obtain⟨x,xs,rfl,M,Q⟩:=hv;simp only[DX,bK];exact⟨_,_,rfl,ic6 hh hb.1 M,hmN hh hb.2 Q⟩
theorem hvs (hh:HR w0 ν nV nS h lh) {v:V} {a:ak} (hb:UJ (aeT h v)) (hv:vr w0 ν.z ν v a):vr w0 lh Nu.nil (tK h v) a:=by
 unfold tK;split
 ·exact abi hh hb hv
 ·simp[vr]at hv ⊢
  let ⟨az,M,Q⟩:=hv
  exact⟨az,M,hmN hh hb Q⟩
 ·exact pF hh 12 _ a hv
theorem tc (hh:HR w0 ν nV nS h lh):∀ {vs:List V} {az:List ak},UJ (rQ h vs)->bK w0 ν.z ν vs az->bK w0 lh Nu.nil (vs.map (tK h)) az
 |[],az,_,hv=>by simp[bK,Ft]at hv ⊢;exact hv
 |v::vs,az,hb,hv=>by have hb:=avA hb;simp[bK]at hv;obtain⟨x,xs,rfl,M,Q⟩:=hv;simp only[DX,bK];exact⟨_,_,rfl,hvs hh hb.1 M,tc hh hb.2 Q⟩
end
end Go.Dx
namespace Go.Sx
section
variable {P:Program} {Pe:FuncId->ci} {w0:World}
theorem iB (hS:∀ f,(Pe f).Ok P f):∀ (ops:List jt) (sl:List ak) (lh:List ar) {PR K':List ak->List ar->Prop},(∀ s l,PR s l->K' s l)->fH w0 Pe ops sl lh PR->fH w0 Pe ops sl lh K'
 |[],_,_,_,_,hk,h=>hk _ _ h
 |o::rest,sl,lh,PR,K',hk,h=>by
   have ih:=λsl lh=>iB hS rest sl lh hk;simp[fH]at h ⊢;split at h
   ·exact dZ hS (λ_ _=>ih _ _) h
   ·split at h
    ·exact⟨λe=>dZ hS (λ_ _=>ih _ _) (h.1 e),λe=>ih _ _ (h.2 e)⟩
    ·exact ih _ _ h
    ·exact ih _ _ h
    ·exact h.elim
theorem kR (hS:∀ f,(Pe f).Ok P f) {Pg:Prop}:∀ (ops:List jt) (sl:List ak) (lh:List ar),fH w0 Pe ops sl lh (λ_ _=>Pg)->Pg
 |[],_,_,h=>h
 |o::rest,sl,lh,h=>by
   have ih:=λsl lh=>kR hS (Pg:=Pg) rest sl lh;simp[fH]at h;split at h
   ·exact oO hS (dZ hS (λ_ _=>ih _ _) h)
   ·rename_i d want _
    split at h
    ·rename_i b _
     by_cases e:b=want
     ·exact oO hS (dZ hS (λ_ _=>ih _ _) (h.1 e))
     ·exact ih _ _ (h.2 (by cases b<;>cases want<;>simp_all))
    ·exact ih _ _ h
    ·exact ih _ _ h
    ·exact h.elim
theorem hkW (hS:∀ f,(Pe f).Ok P f) {Ws:List (List Nat)} {H:Nat} {PR K':List ak->List ar->Prop} (hk:∀ s l,PR s l->K' s l):∀ (ds:List jq) (i:Nat) (sl:List ak) (lh:List ar),kA w0 Pe Ws H PR ds i sl lh->kA w0 Pe Ws H K' ds i sl lh
 |[],_,_,_,h=>hk _ _ h|d::rest,i,sl,lh,h=>xG hS (λs l=>hkW hS hk rest (i+1) s l) h
theorem hhi (hS:∀ f,(Pe f).Ok P f) {Ws:List (List Nat)} {H:Nat} {Pg:Prop}:∀ (ds:List jq) (i:Nat) (sl:List ak) (lh:List ar),kA w0 Pe Ws H (λ_ _=>Pg) ds i sl lh->Pg
 |[],_,_,_,h=>h|d::rest,i,sl,lh,h=>pb hS (nO hS (λ_=>hhi hS rest (i+1) _ _) h)
theorem iL (hS:∀f,(Pe f).Ok P f) {ds:List jq} {sl:List ak} {lh:List ar} {PR K':List ak->List ar->Prop} (hk:∀s l,PR s l->K' s l) (h:ow w0 Pe ds sl lh PR):ow w0 Pe ds sl lh K':=⟨h.1,hkW hS hk ds 0 _ _ h.2⟩
theorem mY (hS:∀f,(Pe f).Ok P f) {ds:List jq} {sl:List ak} {lh:List ar} {Pg:Prop} (h:ow w0 Pe ds sl lh (λ_ _=>Pg)):Pg:=hhi hS ds 0 _ _ h.2
section it
variable {l:Nat} {QE:YH}
theorem dO (hS:∀ f,(Pe f).Ok P f) (hY:∀ xs lh PR K',(∀ x l,PR x l->K' x l)->QE xs lh PR->QE xs lh K'):∀ (ops:List o0) (sl:List ak) (lh:List ar) (g:Option Ex) {PR K':List ak->List ar->Option Ex->Prop},(∀ s l g,PR s l g->K' s l g)->cP w0 Pe l QE ops sl lh g PR->cP w0 Pe l QE ops sl lh g K'
 |[],_,_,_,_,_,hk,h=>hk _ _ _ h
 |.op o::rest,sl,lh,g,_,_,hk,h=>by simp[cP]at h ⊢;exact iB hS _ _ _ (λ_ _=>dO hS hY rest _ _ g hk) h
 |.yld t d xs::rest,sl,lh,g,_,_,hk,h=>by simp[cP]at h ⊢;refine⟨h.1,h.2.1,hY _ _ _ _ (λx l hx=>?_) h.2.2⟩;cases x<;>exact dO hS hY rest _ _ _ hk hx
 |.yldG d want t dst xs::rest,sl,lh,g,_,_,hk,h=>by
   simp only[cP]at h ⊢;cases hx:sl.getD d .any with
   |bool b=>
     simp only[hx]at h ⊢;refine⟨λe=>?_,λe=>dO hS hY rest _ _ g hk (h.2 e)⟩
     let ⟨M,Q,h3⟩:=h.1 e
     refine⟨M,Q,hY _ _ _ _ (λx l hx=>?_) h3⟩;cases x<;>exact dO hS hY rest _ _ _ hk hx
   |tup vs=>simp only[hx]at h ⊢;exact dO hS hY rest _ _ g hk h|int k n=>simp only[hx]at h ⊢;exact dO hS hY rest _ _ g hk h|_=>simp only[hx]at h
theorem dY (hS:∀ f,(Pe f).Ok P f) (hY:∀ xs lh PR K',(∀ x l,PR x l->K' x l)->QE xs lh PR->QE xs lh K') (Tt:∀ xs lh (Pg:Prop),QE xs lh (λ_ _=>Pg)->Pg) {Pg:Prop}:∀ (ops:List o0) (sl:List ak) (lh:List ar) (g:Option Ex),cP w0 Pe l QE ops sl lh g (λ_ _ _=>Pg)->Pg
 |[],_,_,_,h=>h
 |.op o::rest,sl,lh,g,h=>by simp[cP]at h;exact kR hS _ _ _ (iB hS _ _ _ (λ_ _=>dY hS hY Tt rest _ _ g) h)
 |.yld t d xs::rest,sl,lh,g,h=>by simp[cP]at h;refine Tt _ _ _ (hY _ _ _ _ (λx l hx=>?_) h.2.2);cases x<;>exact dY hS hY Tt rest _ _ _ hx
 |.yldG d want t dst xs::rest,sl,lh,g,h=>by
   simp only[cP]at h;cases hx:sl.getD d .any with
   |bool b=>
     simp only[hx]at h;by_cases e:b=want
     ·let ⟨M,Q,h3⟩:=h.1 e
      refine Tt _ _ _ (hY _ _ _ _ (λx l hx=>?_) h3);cases x<;>exact dY hS hY Tt rest _ _ _ hx
     ·exact dY hS hY Tt rest _ _ _ (h.2 (by cases b<;>cases want<;>simp_all))
   |tup vs=>simp only[hx]at h;exact dY hS hY Tt rest _ _ _ h|int k n=>simp only[hx]at h;exact dY hS hY Tt rest _ _ _ h|_=>simp only[hx]at h
theorem hps (hS:∀ f,(Pe f).Ok P f) (hY:∀ xs lh PR K',(∀ x l,PR x l->K' x l)->QE xs lh PR->QE xs lh K'):∀ (c:jB) (sl:List ak) (lh:List ar) (g:Option Ex) {Pg Q':IQ},(∀ x s l g,Pg x s l g->Q' x s l g)->lW w0 Pe l QE c sl lh g Pg->lW w0 Pe l QE c sl lh g Q':=by
 intro c;induction c with
 |reg ops=>intro sl lh g Pg Q' hq h;exact dO hS hY ops sl lh g (λ_ _ _=>hq _ _ _ _) h|draw ds=>intro sl lh g Pg Q' hq h;exact iL hS (λ_ _=>hq _ _ _ _) h|drawY ds xs=>intro sl lh g Pg Q' hq h;exact iL hS (λ_ _ h=>dO hS hY xs _ _ g (λ_ _ _=>hq _ _ _ _) h) h
 |seq a b iha ihb=>
   intro sl lh g Pg Q' hq h;refine iha sl lh g (λx s l g hx=>?_) h;cases x with
   |normal=>exact ihb _ _ _ hq hx|exit i=>exact hq _ _ _ _ hx|ret=>exact hq _ _ _ _ hx
 |cond c a b iha ihb=>
   intro sl lh g Pg Q' hq h;simp[lW]at h ⊢;split at h
   ·exact⟨λe=>iha _ _ _ hq (h.1 e),λe=>ihb _ _ _ hq (h.2 e)⟩
   ·exact h.elim
 |block id b ih=>
   intro sl lh g Pg Q' hq h;refine ih sl lh g (λx s l g hx=>?_) h;cases x with
   |normal=>exact hq _ _ _ _ hx|ret=>exact hq _ _ _ _ hx|exit i=>simp[ye]at hx ⊢;split at hx<;>rename_i e<;>simp[e,Dk,Da]<;>exact hq _ _ _ _ hx
 |loop b ih=>
   intro sl lh g Pg Q' hq h;simp[lW]at h ⊢
   let ⟨ι,shs,shl,shg,μ,i0,M,Q,h3,hr⟩:=h
   refine⟨ι,shs,shl,shg,μ,i0,M,Q,h3,λi=>ih _ _ _ (λx s l g hx=>?_) (hr i)⟩;cases x with
   |normal=>exact hx|exit i=>exact hq _ _ _ _ hx|ret=>exact hq _ _ _ _ hx
 |scope b ih=>intro sl lh g Pg Q' hq h;exact ih sl lh g hq h|skip=>intro sl lh g Pg Q' hq h;exact hq _ _ _ _ h|exit i=>intro sl lh g Pg Q' hq h;exact hq _ _ _ _ h|ret=>intro sl lh g Pg Q' hq h;exact hq _ _ _ _ h
theorem hnt (hS:∀ f,(Pe f).Ok P f) (hY:∀ xs lh PR K',(∀ x l,PR x l->K' x l)->QE xs lh PR->QE xs lh K') (Tt:∀ xs lh (Pg:Prop),QE xs lh (λ_ _=>Pg)->Pg) {QW:Prop}:∀ (c:jB) (sl:List ak) (lh:List ar) (g:Option Ex) {Pg:IQ},(∀ x s l g,Pg x s l g->QW)->lW w0 Pe l QE c sl lh g Pg->QW:=by
 intro c;induction c with
 |reg ops=>intro sl lh g Pg hq h;exact dY hS hY Tt ops sl lh g (dO hS hY ops sl lh g (λ_ _ _=>hq _ _ _ _) h)|draw ds=>intro sl lh g Pg hq h;exact mY hS (iL hS (K':=λ_ _=>QW) (λ_ _=>hq _ _ _ _) h)|drawY ds xs=>intro sl lh g Pg hq h;exact mY hS (iL hS (K':=λ_ _=>QW) (λ_ _ h=>dY hS hY Tt xs _ _ g (dO hS hY xs _ _ g (λ_ _ _=>hq _ _ _ _) h)) h)
 |seq a b iha ihb=>
   intro sl lh g Pg hq h;refine iha sl lh g (λx s l g hx=>?_) h;cases x with
   |normal=>exact ihb _ _ _ hq hx|exit i=>exact hq _ _ _ _ hx|ret=>exact hq _ _ _ _ hx
 |cond c a b iha ihb=>
   intro sl lh g Pg hq h;simp[lW]at h;split at h
   ·rename_i t _
    cases t with
    |true=>exact iha _ _ _ hq (h.1 rfl)|false=>exact ihb _ _ _ hq (h.2 rfl)
   ·exact h.elim
 |block id b ih=>
   intro sl lh g Pg hq h;refine ih sl lh g (λx s l g hx=>?_) h;cases x with
   |normal=>exact hq _ _ _ _ hx|ret=>exact hq _ _ _ _ hx|exit i=>simp[ye]at hx;split at hx<;>exact hq _ _ _ _ hx
 |loop b ih=>
   intro sl lh g Pg hq h;simp[lW]at h
   let ⟨ι,shs,shl,shg,μ,i0,M,Q,h3,hr⟩:=h
   have key:∀ k i,μ i=k->QW:=λk=>by
    induction k using Nat.strongRecOn with
    |_ k ihk=>
      intro i hi;refine ih _ _ _ (λx s l g hx=>?_) (hr i);cases x with
      |normal=>let ⟨i',_,_,_,Pj⟩:=hx;exact ihk _ (by rw[← hi];exact Pj) i' rfl
      |exit i=>exact hq _ _ _ _ hx|ret=>exact hq _ _ _ _ hx
   exact key _ i0 rfl
 |scope b ih=>intro sl lh g Pg hq h;exact ih sl lh g hq h|skip=>intro sl lh g Pg hq h;exact hq _ _ _ _ h|exit i=>intro sl lh g Pg hq h;exact hq _ _ _ _ h|ret=>intro sl lh g Pg hq h;exact hq _ _ _ _ h
end it
theorem jG (hS:∀ f,(Pe f).Ok P f):∀ (t:OT) (sl:List ak) (lh:List ar) {PR K':List ak->List ar->Prop},(∀ s l,PR s l->K' s l)->qP w0 Pe t sl lh PR->qP w0 Pe t sl lh K'
 |.done,sl,lh,PR,K',hk,h=>hk _ _ h|.op o r,sl,lh,PR,K',hk,h=>iB hS [o] sl lh (λs l h=>jG hS r s l hk h) h|.alt a b,sl,lh,PR,K',hk,h=>⟨jG hS a sl lh hk h.1,jG hS b sl lh hk h.2⟩
theorem mh (hS:∀ f,(Pe f).Ok P f):∀ (t:OT) (sl:List ak) (lh:List ar) {QW:Prop},qP w0 Pe t sl lh (λ_ _=>QW)->QW
 |.done,sl,lh,QW,h=>h|.op o r,sl,lh,QW,h=>kR hS [o] sl lh (iB hS [o] sl lh (K':=λ_ _=>QW) (λs l h=>mh hS r s l h) h)|.alt a b,sl,lh,QW,h=>mh hS a sl lh h.1
theorem R55 (hS:∀ f,(Pe f).Ok P f):∀ (c:hU),(∀ (nb:Nat) (sl:List ak) (lh:List ar) {Pg Q':Ex->List ak->List ar->Prop},(∀ x s l,Pg x s l->Q' x s l)->cK w0 Pe nb c sl lh Pg->cK w0 Pe nb c sl lh Q') /\
 ∀(nb:Nat) (sl:List ak) (lh:List ar) {Pg:Ex->List ak->List ar->Prop} {QW:Prop},(∀x s l,Pg x s l->QW)->cK w0 Pe nb c sl lh Pg->QW:=by
 intro c;induction c with
 |reg ops=>exact⟨λnb sl lh Pg Q' hq h=>iB hS ops sl lh (λ_ _=>hq _ _ _) h,λnb sl lh Pg QW hq h=>kR hS ops sl lh (iB hS ops sl lh (λ_ _=>hq _ _ _) h)⟩|allo t=>exact⟨λnb sl lh Pg Q' hq h=>jG hS t sl lh (λ_ _=>hq _ _ _) h,λnb sl lh Pg QW hq h=>mh hS t sl lh (jG hS t sl lh (K':=λ_ _=>QW) (λ_ _=>hq _ _ _) h)⟩|alloq t=>exact⟨λnb sl lh Pg Q' hq h=>jG (r6 hS) t sl lh (λ_ _=>hq _ _ _) h,λnb sl lh Pg QW hq h=>mh (r6 hS) t sl lh (jG (r6 hS) t sl lh (K':=λ_ _=>QW) (λ_ _=>hq _ _ _) h)⟩|draw ds=>exact⟨λnb sl lh Pg Q' hq h=>iL hS (λ_ _=>hq _ _ _) h,λnb sl lh Pg QW hq h=>mY hS (iL hS (K':=λ_ _=>QW) (λ_ _=>hq _ _ _) h)⟩
 |seq a b iha ihb=>
   refine⟨λnb sl lh Pg Q' hq h=>iha.1 nb sl lh (λx s l hx=>?_) h,λnb sl lh Pg QW hq h=>iha.2 nb sl lh (λx s l hx=>?_) h⟩
   ·cases x with|normal=>exact ihb.1 nb _ _ hq hx|exit i=>exact hq _ _ _ hx|ret=>exact hq _ _ _ hx
   ·cases x with|normal=>exact ihb.2 nb _ _ hq hx|exit i=>exact hq _ _ _ hx|ret=>exact hq _ _ _ hx
 |cond c a b iha ihb=>
   refine⟨λnb sl lh Pg Q' hq h=>?_,λnb sl lh Pg QW hq h=>?_⟩
   ·simp[cK]at h ⊢
    split at h
    ·exact⟨λe=>iha.1 nb _ _ hq (h.1 e),λe=>ihb.1 nb _ _ hq (h.2 e)⟩
    ·exact h.elim
   ·simp [cK]at h
    split at h
    ·rename_i t _
     cases t with
     |true=>exact iha.2 nb _ _ hq (h.1 rfl)|false=>exact ihb.2 nb _ _ hq (h.2 rfl)
    ·exact h.elim
 |block id b ih=>
   refine⟨λnb sl lh Pg Q' hq h=>ih.1 nb sl lh (λx s l hx=>?_) h,λnb sl lh Pg QW hq h=>ih.2 nb sl lh (λx s l hx=>?_) h⟩
   ·cases x with|normal=>exact hq _ _ _ hx|ret=>exact hq _ _ _ hx|exit i=>simp[xJ]at hx ⊢;split at hx<;>rename_i e<;>simp[e,Dk,Da]<;>exact hq _ _ _ hx
   ·cases x with|normal=>exact hq _ _ _ hx|ret=>exact hq _ _ _ hx|exit i=>simp[xJ]at hx;split at hx<;>exact hq _ _ _ hx
 |loop b ih=>
   refine⟨λnb sl lh Pg Q' hq h=>?_,λnb sl lh Pg QW hq h=>?_⟩
   ·simp only[cK]at h ⊢
    let ⟨ι,shs,shl,μ,i0,M,hr⟩:=h
    refine⟨ι,shs,shl,μ,i0,M,λi=>ih.1 nb _ _ (λx s l hx=>?_) (hr i)⟩;cases x with
    |normal=>exact hx|exit i=>exact hq _ _ _ hx|ret=>exact hq _ _ _ hx
   ·simp only [cK]at h
    let ⟨ι,shs,shl,μ,i0,M,hr⟩:=h
    have key:∀ k i,μ i=k->QW:=λk=>by
     induction k using Nat.strongRecOn with
     |_ k ihk=>
       intro i hi;refine ih.2 nb _ _ (λx s l hx=>?_) (hr i);cases x with
       |normal=>let ⟨i',_,Pj⟩:=hx;exact ihk _ (by rw[← hi];exact Pj) i' rfl
       |exit i=>exact hq _ _ _ hx|ret=>exact hq _ _ _ hx
    exact key _ i0 rfl
 |scope b ih=>exact⟨λnb sl lh Pg Q' hq h=>ih.1 nb sl lh hq h,λnb sl lh Pg QW hq h=>ih.2 nb sl lh hq h⟩|skip=>exact⟨λnb sl lh Pg Q' hq h=>hq _ _ _ h,λnb sl lh Pg QW hq h=>hq _ _ _ h⟩|exit i=>exact⟨λnb sl lh Pg Q' hq h=>hq _ _ _ h,λnb sl lh Pg QW hq h=>hq _ _ _ h⟩|ret=>exact⟨λnb sl lh Pg Q' hq h=>hq _ _ _ h,λnb sl lh Pg QW hq h=>hq _ _ _ h⟩
 |range g ps asg body AS iha ihb=>
   have hY:∀ (sl xs:List ak) (lh:List ar) (PR K':Ex->List ar->Prop),(∀ x l,PR x l->K' x l)->(xs.length=ps.length/\cK w0 Pe lh.length asg (mw sl ps xs) lh (v6 (λsl lh'=>cK w0 Pe lh.length body sl lh' λx _ lh=>PR x lh) λ_ _ _=>False))->(xs.length=ps.length/\cK w0 Pe lh.length asg (mw sl ps xs) lh (v6 (λsl lh'=>cK w0 Pe lh.length body sl lh' λx _ lh=>K' x lh) λ_ _ _=>False)):=λsl xs lh PR K' hk h=>by
    refine⟨h.1,iha.1 _ _ _ (λx s l hx=>?_) h.2⟩;cases x with
    |normal=>exact ihb.1 _ _ _ (λ_ _ _=>hk _ _) hx|exit i=>exact hx|ret=>exact hx
   have Tt:∀ (sl xs:List ak) (lh:List ar) (Pg:Prop),(xs.length=ps.length/\cK w0 Pe lh.length asg (mw sl ps xs) lh (v6 (λsl lh'=>cK w0 Pe lh.length body sl lh' λ_ _ _=>Pg) λ_ _ _=>False))->Pg:=λsl xs lh Pg h=>by
    refine iha.2 _ _ _ (λx s l hx=>?_) h.2;cases x with
    |normal=>exact ihb.2 _ _ _ (λ_ _ _ h=>h) hx|exit i=>exact hx.elim|ret=>exact hx.elim
   refine⟨λnb sl lh Pg Q' hq h=>?_,λnb sl lh Pg QW hq h=>?_⟩
   ·simp [cK]at h ⊢
    split at h
    ·split at h
     ·exact λl=>hps hS (λxs lh PR K'=>hY sl xs lh PR K') _ _ _ _ (λx s l g hx=>by cases x<;>cases g<;>first|exact hx|exact hq _ _ _ hx) (h l)
     ·exact h.elim
    ·exact h.elim
   ·simp [cK]at h
    split at h
    ·split at h
     ·exact hnt hS (λxs lh PR K'=>hY sl xs lh PR K') (λxs lh Pg=>Tt sl xs lh Pg) _ _ _ _ (λx s l g hx=>by cases x<;>cases g<;>first|exact hx.elim|exact hq _ _ _ hx) (h 0)
     ·exact h.elim
    ·exact h.elim
theorem oo:∀ (rs:List C2) (sl:List ak) (lh:List ar) {PR K':List ak->Prop},(∀ vs,PR vs->K' vs)->kk w0 sl lh rs PR->kk w0 sl lh rs K'
 |[],_,_,_,_,hk,h=>hk _ h|.tmp t::l,sl,lh,_,_,hk,h=>oo l sl lh (λ_=>hk _) h
 |.cell t n::l,sl,lh,_,_,hk,h=>by
   simp[kk]at h ⊢;split at h
   ·split at h
    ·let ⟨v,M,Q⟩:=h;exact⟨v,M,oo l sl lh (λ_=>hk _) Q⟩
    ·let ⟨v,M,Q⟩:=h;exact⟨v,M,oo l sl lh (λ_=>hk _) Q⟩
   ·exact h.elim
theorem kP {QW:Prop}:∀ (rs:List C2) (sl:List ak) (lh:List ar),kk w0 sl lh rs (λ_=>QW)->QW
 |[],_,_,h=>h|.tmp t::l,sl,lh,h=>kP l sl lh h
 |.cell t n::l,sl,lh,h=>by
   simp only[kk]at h;split at h
   ·split at h
    ·let ⟨v,M,Q⟩:=h;exact kP l sl lh Q
    ·let ⟨v,M,Q⟩:=h;exact kP l sl lh Q
   ·exact h.elim
def PY (Pe:FuncId->ci) (sf:aJ):ci:=λw0 args lh PR=>JQ w0 Pe sf args lh PR
theorem wil {AQ : List TypeId} {AS : List jc} {f : FuncId} {fn : Func} {sf : aJ} (hS : ∀ g, (Pe g).Ok P g) (hE : ∀ t ∈ AQ, dL P t) (hI : mD P AQ AS) (hf : P.funcs[f]? = some fn) (hn : (fn.name == "runtime.NumGoroutine") = false) (hc : eS P AQ AS fn = some sf) : (PY Pe sf).Ok P f := by
 have mono:∀ w0 args lh PR K',(∀ r l,PR r l->K' r l)->PY Pe sf w0 args lh PR->PY Pe sf w0 args lh K':=λw0 args lh PR K' hk h=>
  (R55 hS sf.body).1 _ _ _ (λx s l hx=>by cases x<;>first|exact hx|exact oo _ _ _ (λ_=>hk _ _) hx) h
 refine⟨LO hS hE hI hf hn hc λw0 args lh PR _ _ h=>?_,mono,λw0 args lh Pg h=>(R55 hS sf.body).2 _ _ _ (λx s l hx=>by cases x<;>first|exact hx.elim|exact kP _ _ _ hx) h⟩
 exact mono w0 args lh PR _ (λr l hk=>⟨r,l,.inl ⟨rfl,by unfold nq;exact⟨.inr rfl,by simp[nq]⟩⟩,hk⟩) h
end
end Go.Sx
namespace Go.Dx
open Go.Sx
mutual
def dj:V->ak
 |.int k n=>.int k n|.bool b=>.bool b|.kb b=>.bool b|.str s=>.str s|.agg cs=>.agg (dl cs)|.tup cs=>.tup (dl cs)|.sl n f=>.fn (.func 0) [] ((List.range n).map λi=>.agg (dl (f i)))|_=>.any
def dl:List V->List ak
 |[]=>[]|v::vs=>dj v::dl vs
end
section
variable {w0:World} {lh:List ar} {ν:Nu}
theorem od:∀ {v:V},bM (dj v)=true->∀ a,vr w0 lh ν v a↔a=dj v
 |.int ..,_,a=>by simp[vr,dj]
 |.bool _,_,a=>by simp[vr,dj]
 |.kb _,_,a=>by simp[vr,dj]
 |.str _,_,a=>by simp[vr,dj]
 |.agg _,h,_=>by simp[dj,bM]at h
 |.tup _,h,_=>by simp[dj,bM]at h
 |.fn ..,h,_=>by simp[dj,bM]at h
 |.sl ..,h,_=>by simp[dj,bM]at h
 |.pd ..,h,_=>by simp[dj,bM]at h
 |.pl ..,h,_=>by simp[dj,bM]at h
 |.pe ..,h,_=>by simp[dj,bM]at h
 |.ss ..,h,_=>by simp[dj,bM]at h
 |.gs ..,h,_=>by simp[dj,bM]at h
 |.ns,h,_=>by simp[dj,bM]at h
 |.np,h,_=>by simp[dj,bM]at h
 |.any,h,_=>by simp[dj,bM]at h
 |.gd ..,h,_=>by simp[dj,bM]at h
 |.yl _,h,_=>by simp[dj,bM]at h
 |.go ..,h,_=>by simp[dj,bM]at h
 |.sq ..,h,_=>by simp[dj,bM]at h
theorem fJ:∀ {vs:List V},(dl vs).all bM=true->∀ az,bK w0 lh ν vs az↔az=dl vs
 |[],_,az=>by simp[bK,dl]
 |v::vs,h,az=>by
   simp only[dl,Dj,Ae]at h;simp only[bK,dl];constructor
   ·rintro⟨x,xs,rfl,M,Q⟩;rw[(od h.1 x).1 M,(fJ h.2 xs).1 Q]
   ·rintro rfl;exact⟨_,_,rfl,(od h.1 _).2 rfl,(fJ h.2 _).2 rfl⟩
theorem rO {v:V} (h:(match dj v with|.agg ds=>ds.all bM|a=>bM a)=true) (a:ak):vr w0 lh ν v a↔a=dj v:=by
 cases v with
 |agg cs=>
   simp only[dj]at h;simp only[vr,dj];constructor
   ·rintro⟨az,rfl,M⟩;rw[(fJ h az).1 M]
   ·rintro rfl;exact⟨_,rfl,(fJ h _).2 rfl⟩
 |_=>first|exact od (by simpa[dj] using h) a|(simp[dj,bM]at h)
theorem oL:∀ {vs:List V},((dl vs).all λ|.agg ds=>ds.all bM|a=>bM a)=true->∀ az,bK w0 lh ν vs az↔az=dl vs
 |[],_,az=>by simp[bK,dl]
 |v::vs,h,az=>by
   simp only[dl,Dj,Ae]at h;simp only[bK,dl];constructor
   ·rintro⟨x,xs,rfl,M,Q⟩;rw[(rO h.1 x).1 M,(oL h.2 xs).1 Q]
   ·rintro rfl;exact⟨_,_,rfl,(rO h.1 _).2 rfl,(oL h.2 _).2 rfl⟩
theorem A1 {v:V} (h:plain (dj v)=true) (a:ak):vr w0 lh ν v a↔a=dj v:=by
 cases v with
 |tup cs=>
   simp only[dj,plain]at h;simp only[vr,dj];constructor
   ·rintro⟨az,rfl,M⟩;rw[(oL h az).1 M]
   ·rintro rfl;exact⟨_,rfl,(oL h _).2 rfl⟩
 |agg cs=>exact rO (by simpa[dj,plain] using h) a|_=>first|exact od (by simpa[dj,plain] using h) a|(simp[dj,plain,bM]at h)
end
theorem xZ:∀ vs:List V,(dl vs).length=vs.length
 |[]=>by simp[dl]
 |v::vs=>by simp[dl,xZ vs]
theorem HL {n m:Nat} {f g:be} (h:dj (.sl n f)=dj (.sl m g)):n=m/\∀i,i<n->dl (f i)=dl (g i):=by simp[dj,ak.fn.injEq,D5]at h;have hl:=congrArg List.length h;simp[List.length_map,List.length_range]at hl;subst hl;refine⟨rfl,λi hi=>?_⟩;have:=congrArg (λl=>l[i]?) h;simpa[hi] using this
def rn:V->Option (Nat×(Nat->List V))
 |.sl n f=>some (n,f)|.tup (.sl n f::_)=>some (n,f)|_=>none
def GA:V->List V
 |.tup (_::vs)=>vs|_=>[]
def evAsm (v:V):V->V
 |.tup (_::vs)=>.tup (v::vs)|_=>v
def rq (a:ak):V->ak
 |.tup (_::vs)=>.tup (a::dl vs)|_=>a
theorem hkX {r:V} {n:Nat} {f:be} (h:rn r=some (n,f)):r=.sl n f∨∃ vs,r=.tup (.sl n f::vs):=by
 unfold rn at h;split at h
 ·cases h;exact .inl rfl
 ·cases h;exact .inr ⟨_,rfl⟩
 ·cases h
def Yr (e:Nat) (r:V):Prop:=∃n f,rn r=some (n,f)/\n<=9223372036854775807/\(∀i,i<n->nX e (f i)=true/\(dl (f i)).all bM=true)/\(dl (GA r)).all bM=true
def LW (e:Nat) (ty:TypeId) (nb:Nat) (lh:List ar) (n:Nat) (f:be) (x:ak):Prop :=
 (n=0/\x=.slice none 0 0)∨∃b c az,nb<=b/\lh[b]? = some (.cells az ty)/\x=.slice (some (.l b 0)) n c/\az.length=c*e/\n<=c/\∀i,i<n->(az.drop (i*e)).take e=dl (f i)
theorem A2 {m m':aN} {x x':ak} {r:V} {n:Nat} {f:be} {v:Value} (hr:rn r=some (n,f)) (hs:(dl (GA r)).all bM=true) (hx:∀ u,AW m x u->AW m' x' u) (h:AW m (rq x r) v):AW m' (rq x' r) v:=by
 rcases hkX hr with rfl|⟨vs,rfl⟩
 ·exact hx v h
 ·simp[rq,AW]at h ⊢
  obtain⟨us,rfl,Q⟩:=h;refine⟨us,rfl,?_⟩;simp[aE]at Q ⊢
  let ⟨u,us',e,h3,h4⟩:=Q
  exact⟨u,us',e,hx u h3,ko hs h4⟩
theorem BC {e:Nat} {f:be}:∀ {n:Nat},(∀ i,i<n->(dl (f i)).length=e)->((List.range n).flatMap λi=>dl (f i)).length=n*e/\∀ i,i<n->(((List.range n).flatMap λi=>dl (f i)).drop (i*e)).take e=dl (f i)
 |0,_=>⟨au,λi hi=>by omega⟩
 |n+1,h=>by
   let ⟨M,Q⟩:=BC (n:=n) λi hi=>h i K
   rw[List.range_succ,List.flatMap_append];simp only[List.flatMap_cons,List.flatMap_nil,Jc];have hn:=h n K;refine⟨by rw[Du,M,hn,DO],λi hi=>?_⟩;by_cases e1:i=n
   ·subst e1;rw[Kf K,List.drop_of_length_le K,List.nil_append,I5 K]
   ·have Qm:i*e+e<=n*e:=by rw[← DO];exact DY e K
    rw[Kf K,Im (by rw[Iz];omega)];exact Q i K
theorem hn2 {α:Type} {l l':List α} {Pn a e:Nat} (h:l.take Pn=l'.take Pn) (ha:a+e<=Pn):(l.drop a).take e=(l'.drop a).take e:=by
 have key:∀l:List α,(l.drop a).take e=((l.take Pn).drop a).take e:=λl=>by rw[J8,Fc,IG K]
 rw[key l,key l',h]
theorem hir {az:List ak} {e:Nat}:∀ {n:Nat},(∀ i,i<n->((az.drop (i*e)).take e).all bM=true)->(az.take (n*e)).all bM=true
 |0,_=>by simp
 |n+1,h=>by rw[DO,List.take_add,List.all_append,hir λi hi=>h i K,h n K];rfl
theorem hm0 {m:aN}:∀ vs:List Value,aE m (List.replicate vs.length .any) vs
 |[]=>by simp[aE]
 |v::vs=>by simp only[Dl,IB,aE];exact⟨v,vs,rfl,trivial,hm0 vs⟩
theorem hrd {B:dN} {m:aN} {lh:List ar} {w:World} (h:bk B m lh w) {b:Nat} {az:List ak} {vs:Array Value} {ty:TypeId} (hb:w.heap[b]? = some (.cells vs ty (0,0)))
 (hs:aE (λk=>if k=lh.length then some b else m k) az vs.toList) (h0:B.w0.heap.size<=b) (M:B.wf.heap.size<=b) (hn:∀k b',m k=some b'->b'≠b):bk B (λk=>if k=lh.length then some b else m k) (lh++[.cells az ty]) w/\m.le (λk=>if k=lh.length then some b else m k):=by
 have Qm:m.le (λk=>if k=lh.length then some b else m k):=λk x hk=>by
  have:k≠lh.length:=λe=>by rw[e,h.dom _ (Ah _)]at hk;cases hk
  simp[AU this];exact hk
 have hget:∀ k cs ty',(lh++[ar.cells az ty])[k]? = some (.cells cs ty')->(k=lh.length/\cs=az/\ty'=ty)∨(k<lh.length/\lh[k]? = some (.cells cs ty')):=λk cs ty' hk=>by
  rw[E1]at hk;split at hk
  ·rename_i Pj;exact .inr ⟨Pj,hk⟩
  ·rename_i Sf
   have:k-lh.length=0:=by apply Classical.byContradiction;intro RY;rw[D1 (by simp;omega)]at hk;cases hk
   rw[this]at hk;simp[E9,Ak,ar.cells.injEq]at hk;exact .inl ⟨K,hk.1.symm,hk.2.symm⟩
 refine⟨⟨h.os,h.tape,h.output,h.size,h.old,h.fsize,h.kept,λk cs ty' hk=>?_,λk k' b' cs cs' ty1 Ai hk RX hm UF=>?_,λk hk=>?_,λk hk=>?_,λk b' hk=>?_⟩,Qm⟩
 ·rcases hget k cs ty' hk with ⟨rfl,rfl,rfl⟩|⟨Pj,hk⟩
  ·exact⟨b,vs,au,hs,hb,h0,.inl M⟩
  ·let ⟨b',vs',g1,g2,g3,g4,g5⟩:=h.loc k cs ty' hk
   exact⟨b',vs',Qm _ _ g1,dc Qm _ _ g2,g3,g4,g5⟩
 ·rcases hget k cs ty1 hk with ⟨e1,_,_⟩|⟨l1,g1⟩<;>rcases hget k' cs' Ai RX with ⟨e2,_,_⟩|⟨l2,g2⟩
  ·omega
  ·simp[e1,Dk]at hm;simp[AU (IH l2)]at UF;cases hm;exact(hn _ _ UF rfl).elim
  ·simp[e2,Dk]at UF;simp[AU (IH l1)]at hm;cases UF;exact(hn _ _ hm rfl).elim
  ·simp[AU (IH l1)]at hm;simp[AU (IH l2)]at UF;exact h.inj k k' b' cs cs' ty1 Ai g1 g2 hm UF
 ·simp[Du,Dl,EJ]at hk;simp[AU (show k≠lh.length by omega)];exact h.dom k K
 ·rw [E1]at hk
  split at hk
  ·rename_i Pj;simp[AU (IH Pj)];exact h.dead k hk
  ·rename_i Sf
   have:k-lh.length=0:=by apply Classical.byContradiction;intro RY;rw[D1 (by simp;omega)]at hk;cases hk
   rw[this]at hk;simp at hk
 ·by_cases e1:k=lh.length
  ·simp[e1,Dk,Ak]at hk;subst hk;exact(Array.getElem?_eq_some_iff.1 hb).1
  ·simp[AU e1]at hk;exact h.rng k b' hk
abbrev aD:=List V->Option ((List V×List V)×Prop×V)
def IW (r:V):Prop:=∀(w0:World) (lh:List ar),∃x new,vr w0 (List.replicate lh.length .dead++new) Nu.nil r x
inductive Lc where|con (C:aD)|conN (C:aD) (h:∀ds d p r,C ds=some (d,p,r)->d.1=d.2->p->IW r)|conZ (C:aD) (h:∀ds d p r,C ds=some (d,p,r)->d.1=d.2->p->∀w0 lh args,bK w0 lh Nu.nil ds args->∃x new,vr w0 (lh++new) Nu.nil r x)|inl (sf:aJ) (un:l7)
abbrev bo:=List (FuncId×Lc)
def kM:bo->FuncId->Option Lc
 |[],_=>none|(k,c)::l,f=>cond (Nat.beq f k) (some c) (kM l f)
def vP (C:aD):ci:=λw0 args lh PR=>∃ds d p r,bK w0 lh Nu.nil ds args/\C ds=some (d,p,r)/\(d.1=d.2/\p)/\plain (dj r)=true/\PR (dj r) lh
def vL (e:Nat) (ty:TypeId) (C:aD):ci:=λw0 args lh PR=>∃ds d p r n f,bK w0 lh Nu.nil ds args/\C ds=some (d,p,r)/\(d.1=d.2/\p)/\rn r=some (n,f)/\Yr e r/\∀x new,LW e ty lh.length (lh++new) n f x->PR (rq x r) (lh++new)
def vN (C:aD):ci:=λw0 args lh PR=>∃ds d p r,bK w0 lh Nu.nil ds args/\C ds=some (d,p,r)/\(d.1=d.2/\p)/\IW r/\∀x new,vr w0 (List.replicate lh.length .dead++new) Nu.nil r x->PR x (lh++new)
def vZ (C:aD):ci:=λw0 args lh PR=>∃ds d p r X,bK w0 (hide X lh) Nu.nil ds args/\(∀k,k∉X->isCells lh[k]? = true∨lh.length<=k)/\C ds=some (d,p,r)/\(d.1=d.2/\p)/\(∃x new,vr w0 (hide X lh++new) Nu.nil r x)/\∀x new,vr w0 (hide X lh++new) Nu.nil r x->PR x (lh++new)
def SV (ct:bo):Ep
 |0,f=>match kM ct f with|some (.con C)=>vP C|some (.conN C _)=>vN C|some (.conZ C _)=>vZ C|_=>N5
 |n+1,f=>match kM ct f with|some (.con C)=>vP C|some (.conN C _)=>vN C|some (.conZ C _)=>vZ C|some (.inl sf _)=>PY (SV ct n) sf|none=>N5
section
variable {α:Type}
def DT (C:aD) (vs:List V) (h:List AD) (PR:V->AN α):AN α:=match C (vs.map (tK h)) with|none=>.fail 81|some (d,p,r)=>.obq d.1 d.2 (.obp p (.ob (plain (dj r)) (IV (rQ h vs) (PR r))))
def xW (C:aD) (vs:List V) (h:List AD) (PR:V->AN α):AN α:=match C (vs.map (tK h)) with|none=>.fail 86|some (d,p,r)=>.obq d.1 d.2 (.obp p (IV (rQ h vs) (PR r)))
mutual
def oS:V->Bool
 |.int ..|.bool _|.kb _|.str _|.sl ..|.sq ..|.pd _|.ns|.np|.any=>true|.agg cs|.tup cs=>yw cs|_=>false
def yw:List V->Bool
 |[]=>true|v::vs=>oS v&&yw vs
end
def yC (C:aD) (vs:List V) (h:List AD) (PR:V->AN α):AN α:=match C vs with|none=>.fail 87|some (d,p,r)=>.obq d.1 d.2 (.obp p (.ob (yw vs) (PR r)))
def ot (ct:bo):CP α:=λPX f vs h PR=>match kM ct f with|some (.con C)=>DT C vs h PR|some (.conN C _)=>cond PX (xW C vs h PR) (.fail 80)|some (.conZ C _)=>cond PX (yC C vs h PR) (.fail 80)|_=>.fail 80
def oQ (ct:bo):Nat->CF α
 |0,f,vs,h,PR=>match kM ct f with
   |some (.con C)=>DT C vs h λv=>PR v h
   |some (.conN C _)=>xW C vs h λv=>PR v h
   |some (.conZ C _)=>yC C vs h λv=>PR v h
   |_=>.fail 82
 |n+1,f,vs,h,PR=>match kM ct f with
   |some (.con C)=>DT C vs h λv=>PR v h
   |some (.conN C _)=>xW C vs h λv=>PR v h
   |some (.conZ C _)=>yC C vs h λv=>PR v h
   |some (.inl sf un)=>oZ (oQ ct n) (ot ct) un n sf vs h PR|none=>.fail 83
theorem sR {w0:World} {LP:fE} {C:aD} {vs:List V} {h:List AD} {PR:V->AN α} {Pg:α->Prop} {ν:Nu} {nV nS:Nat} {args:List ak} {lh:List ar} {KA:ak->List ar->Prop} (hv:bK w0 ν.z ν vs args) (hh:HR w0 ν nV nS h lh) (hs:bU LP (DT C vs h PR) Pg)
 (hK:∀v a,vr w0 ν.z ν v a->bU LP (PR v) Pg->KA a lh):vP C w0 args lh KA:=by
 unfold DT at hs;split at hs
 ·exact hs.elim
 ·rename_i d p r hr
  simp[bU]at hs
  let ⟨hb,YB⟩:=yV hs.2.2.2
  exact⟨_,d,p,r,tc hh hb hv,hr,⟨hs.1,hs.2.1⟩,hs.2.2.1,hK r (dj r) ((A1 hs.2.2.1 _).2 rfl) YB⟩
theorem uH {w0:World} {LP:fE} {C:aD} (hC:∀ ds d p r,C ds=some (d,p,r)->d.1=d.2->p->IW r) {vs:List V} {h:List AD} {PR:V->AN α} {Pg:α->Prop} {ν:Nu} {nV nS:Nat} {args:List ak} {lh:List ar} {KA:ak->List ar->Prop} (hv:bK w0 ν.z ν vs args) (hh:HR w0 ν nV nS h lh) (hs:bU LP (xW C vs h PR) Pg)
 (hK:∀v ν' a lh',(∃t,lh'=lh++t)->ν.sub ν'->HR w0 ν' nV nS h lh'->vr w0 ν'.z ν' v a->bU LP (PR v) Pg->KA a lh'):vN C w0 args lh KA:=by
 unfold xW at hs;split at hs
 ·exact hs.elim
 ·rename_i d p r hr
  simp[bU]at hs
  let ⟨hb,YB⟩:=yV hs.2.2
  refine⟨_,d,p,r,tc hh hb hv,hr,⟨hs.1,hs.2.1⟩,hC _ _ _ _ hr hs.1 hs.2.1,λx new hx=>?_⟩;have hz:∀k,k<lh.length->((List.range lh.length).map (λk=>(ν.z[k]?).getD ar.dead)++new)[k]? = some ((ν.z[k]?).getD .dead):=λk hk=>by rw[BF (by simpa using hk)];simp[hk]
  have WA:∀k,lh.length<=k->((List.range lh.length).map (λk=>(ν.z[k]?).getD ar.dead)++new)[k]? = new[k-lh.length]? := λk hk=>by rw[DD (by simpa using hk)];simp
  have hsub:ν.sub ⟨ν.m,(List.range lh.length).map (λk=>(ν.z[k]?).getD ar.dead)++new⟩:=⟨λ_ _ h=>h,λk az ty hk=>by have g:=hh.zl k az ty hk;have Pj:=(List.getElem?_eq_some_iff.1 g).1;show((List.range lh.length).map (λk=>(ν.z[k]?).getD ar.dead)++new)[k]? = _;rw[hz k Pj,hk];rfl⟩;refine hK r _ x _ ⟨new,rfl⟩ hsub ⟨λk o hk=>?_,hh.inj,hh.dom,λk S hk=>by rw[Du];exact ET (hh.rng k S hk) K,λj az ty hj=>?_,λk S hl hk=>?_⟩ ?_ YB
  ·by_cases hd:o=.dead
   ·subst hd
    let ⟨g1,g2,g3⟩:=hh.blk k _ hk
    exact⟨g1,g2,by rw[BF (List.getElem?_eq_some_iff.1 g3).1];exact g3⟩
   ·exact d8 hsub hd (λb az ty' g1 _=>by rw[BF (List.getElem?_eq_some_iff.1 g1).1];exact g1) (hh.blk k _ hk)
  ·by_cases Pj:j<lh.length
   ·rw [hz j Pj]at hj
    cases hg:ν.z[j]? with
    |none=>rw[hg]at hj;cases hj
    |some o=>rw[hg]at hj;simp[Jo,Ak]at hj;subst hj;rw[BF Pj];exact hh.zl j az ty hg
   ·rw[WA j K]at hj;rw[DD K];exact hj
  ·have Pj:=hh.rng k S hk
   have:=hh.zn k S hl hk;show isCells ((List.range lh.length).map (λk=>(ν.z[k]?).getD ar.dead)++new)[S.1]? = false;rw[hz _ Pj];cases hg:ν.z[S.1]? with
   |none=>rfl|some o=>rw[hg]at this;exact this
  ·refine pY (λk x h=>by cases h) r x (nJ (λk az ty hk=>?_) r x hx)
   by_cases Pj:k<lh.length
   ·rw[BF (by simpa using Pj)]at hk;simp[Pj]at hk
   ·rw[DD (by simp;omega)]at hk;rw[WA k K];simpa using hk
mutual
theorem hty {w0:World} {lh:List ar} {ν:Nu}:∀ (v:V) (a:ak),oS v=true->vr w0 lh ν v a->vr w0 lh Nu.nil v a
 |.int ..,a,_,h=>by simp[vr]at h ⊢;exact h
 |.bool _,a,_,h=>by simp[vr]at h ⊢;exact h
 |.kb _,a,_,h=>by simp[vr]at h ⊢;exact h
 |.str _,a,_,h=>by simp[vr]at h ⊢;exact h
 |.sl ..,a,_,h=>by simp[vr]at h ⊢;exact h
 |.sq ..,a,_,h=>by simp[vr]at h ⊢;exact h
 |.pd _,a,_,h=>by simp[vr]at h ⊢;exact h
 |.ns,a,_,h=>by simp[vr]at h ⊢;exact h
 |.np,a,_,h=>by simp[vr]at h ⊢;exact h
 |.any,a,_,h=>by simp[vr]
 |.agg cs,a,hn,h=>by simp[vr]at h ⊢;let ⟨az,e,h⟩:=h;exact⟨az,e,qI cs az (by simpa[oS] using hn) h⟩
 |.tup cs,a,hn,h=>by simp[vr]at h ⊢;let ⟨az,e,h⟩:=h;exact⟨az,e,qI cs az (by simpa[oS] using hn) h⟩
 |.fn ..,a,hn,h=>by simp[oS]at hn
 |.pl ..,a,hn,h=>by simp[oS]at hn
 |.pe ..,a,hn,h=>by simp[oS]at hn
 |.ss ..,a,hn,h=>by simp[oS]at hn
 |.gs ..,a,hn,h=>by simp[oS]at hn
 |.gd ..,a,hn,h=>by simp[oS]at hn
 |.yl ..,a,hn,h=>by simp[oS]at hn
 |.go ..,a,hn,h=>by simp[oS]at hn
theorem qI {w0:World} {lh:List ar} {ν:Nu}:∀ (vs:List V) (az:List ak),yw vs=true->bK w0 lh ν vs az->bK w0 lh Nu.nil vs az
 |[],az,_,h=>by simp[bK]at h ⊢;exact h
 |v::vs,az,hn,h=>by
   simp[yw,Ae]at hn;simp[bK]at h ⊢
   let ⟨x,xs,e,M,Q⟩:=h
   exact⟨x,xs,e,hty v x hn.1 M,qI vs xs hn.2 Q⟩
end
theorem ub {w0:World} {LP:fE} {C:aD} (hC:∀ ds d p r,C ds=some (d,p,r)->d.1=d.2->p->∀ w0 lh args,bK w0 lh Nu.nil ds args->∃ x new,vr w0 (lh++new) Nu.nil r x) {vs:List V} {h:List AD} {PR:V->AN α} {Pg:α->Prop} {ν:Nu} {nV nS:Nat} {args:List ak} {lh:List ar} {KA:ak->List ar->Prop} (hv:bK w0 ν.z ν vs args) (hh:HR w0 ν nV nS h lh) (hs:bU LP (yC C vs h PR) Pg)
 (hK:∀v ν' a lh',(∃t,lh'=lh++t)->ν.sub ν'->HR w0 ν' nV nS h lh'->vr w0 ν'.z ν' v a->bU LP (PR v) Pg->KA a lh'):vZ C w0 args lh KA:=by
 unfold yC at hs;split at hs
 ·exact hs.elim
 ·rename_i d p r hr
  simp[bU]at hs
  let ⟨TW,TX,X6,YB⟩:=hs
  have hX:∀k,k∈((List.range lh.length).filter λk=>!isCells ν.z[k]?)↔k<lh.length/\isCells ν.z[k]? = false:=λk=>by simp
  have X8:w6 ν.z (hide ((List.range lh.length).filter λk=>!isCells ν.z[k]?) lh):=λk az ty hk=>by rw[Go.Sx.hide_get,AU (λhm=>by have:=((hX k).1 hm).2;rw[hk]at this;simp[isCells]at this)];exact hh.zl k az ty hk
  have ha:bK w0 (hide ((List.range lh.length).filter λk=>!isCells ν.z[k]?) lh) Nu.nil vs args:=lK X8 vs args (qI vs args X6 hv);refine⟨vs,d,p,r,_,ha,λk hk=>?_,hr,⟨TW,TX⟩,hC _ _ _ _ hr TW TX _ _ _ ha,λx new hx=>?_⟩
  ·rcases EM k lh.length with Pj|Sf
   ·left
    cases hi:isCells ν.z[k]? with
    |false=>exact(hk ((hX k).2 ⟨Pj,hi⟩)).elim
    |true=>
      cases hz:ν.z[k]? with
      |none=>rw[hz]at hi;cases hi
      |some o=>
        rw[hz]at hi;cases o with
        |cells az ty=>rw[hh.zl k az ty hz];rfl|_=>cases hi
   ·exact .inr Sf
  have hz:∀k,k<lh.length->((List.range lh.length).map (λk=>(ν.z[k]?).getD ar.dead)++new)[k]? = some ((ν.z[k]?).getD .dead):=λk hk=>by rw[BF (by simpa using hk)];simp[hk]
  have WA:∀k,lh.length<=k->((List.range lh.length).map (λk=>(ν.z[k]?).getD ar.dead)++new)[k]? = new[k-lh.length]? := λk hk=>by rw[DD (by simpa using hk)];simp
  have hsub:ν.sub ⟨ν.m,(List.range lh.length).map (λk=>(ν.z[k]?).getD ar.dead)++new⟩:=⟨λ_ _ h=>h,λk az ty hk=>by have g:=hh.zl k az ty hk;have Pj:=(List.getElem?_eq_some_iff.1 g).1;show((List.range lh.length).map (λk=>(ν.z[k]?).getD ar.dead)++new)[k]? = _;rw[hz k Pj,hk];rfl⟩;refine hK r _ x _ ⟨new,rfl⟩ hsub ⟨λk o hk=>?_,hh.inj,hh.dom,λk S hk=>by rw[Du];exact ET (hh.rng k S hk) K,λj az ty hj=>?_,λk S hl hk=>?_⟩ ?_ YB
  ·by_cases hd:o=.dead
   ·subst hd
    let ⟨g1,g2,g3⟩:=hh.blk k _ hk
    exact⟨g1,g2,by rw[BF (List.getElem?_eq_some_iff.1 g3).1];exact g3⟩
   ·exact d8 hsub hd (λb az ty' g1 _=>by rw[BF (List.getElem?_eq_some_iff.1 g1).1];exact g1) (hh.blk k _ hk)
  ·by_cases Pj:j<lh.length
   ·rw [hz j Pj]at hj
    cases hg:ν.z[j]? with
    |none=>rw[hg]at hj;cases hj
    |some o=>rw[hg]at hj;simp[Jo,Ak]at hj;subst hj;rw[BF Pj];exact hh.zl j az ty hg
   ·rw[WA j K]at hj;rw[DD K];exact hj
  ·have Pj:=hh.rng k S hk
   have:=hh.zn k S hl hk;show isCells ((List.range lh.length).map (λk=>(ν.z[k]?).getD ar.dead)++new)[S.1]? = false;rw[hz _ Pj];cases hg:ν.z[S.1]? with
   |none=>rfl|some o=>rw[hg]at this;exact this
  ·refine pY (λk x h=>by cases h) r x (nJ (λk az ty hk=>?_) r x hx)
   by_cases Pj:k<lh.length
   ·rw [BF (by rw[Go.Sx.hide_length];exact Pj),Go.Sx.hide_get]at hk
    split at hk
    ·cases hg:lh[k]? <;> rw[hg]at hk<;>cases hk
    ·rename_i hm
     rw[hz k Pj];cases hi:isCells ν.z[k]? with
     |false=>exact(hm ((hX k).2 ⟨Pj,hi⟩)).elim
     |true=>
       cases hg:ν.z[k]? with
       |none=>rw[hg]at hi;cases hi
       |some o=>
         rw[hg]at hi;cases o with
         |cells as' ty'=>have:=hh.zl k as' ty' hg;rw[hk]at this;cases this;rfl|_=>cases hi
   ·rw[DD (by rw[Go.Sx.hide_length];omega),Go.Sx.hide_length]at hk;rw[WA k K];exact hk
theorem hd2 {ct:bo} {lv:Nat} {f:FuncId} {C:aD} (hC:kM ct f=some (.con C)):SV ct lv f=vP C:=by cases lv<;>simp[SV,hC]
theorem ovH {ct:bo} {lv:Nat} {f:FuncId} {C:aD} {h} (hC:kM ct f=some (.conN C h)):SV ct lv f=vN C:=by cases lv<;>simp[SV,hC]
theorem opW {ct:bo} {lv:Nat} {f:FuncId} {C:aD} {h} (hC:kM ct f=some (.conZ C h)):SV ct lv f=vZ C:=by cases lv<;>simp[SV,hC]
theorem qD (w0:World) (ct:bo) (LP:fE) (lv:Nat):xM w0 (SV ct lv) LP (ot (α:=α) ct):=by
 refine⟨?_,?_⟩
 ·intro f vs h PR Pg ν nV nS args lh KA hv hh hs hK
  unfold ot at hs;split at hs
  ·rename_i C hC;rw[hd2 hC];exact sR hv hh hs hK
  ·exact hs.elim
  ·exact hs.elim
  ·exact hs.elim
 ·intro f vs h PR Pg ν nV nS args lh KA hv hh hs hK
  unfold ot at hs;unfold zI;dsimp only at hs;split at hs
  ·rename_i C hC;rw[hd2 hC];exact sR hv hh hs λv a M Q=>⟨⟨[],au⟩,hK v h ν a lh (λe=>by cases e) (Nu.sub_refl ν) hh M Q⟩
  ·rename_i C k₁ hC;rw[ovH hC];exact uH k₁ hv hh hs λv ν' a lh' h0 M Q h3 h4=>⟨h0,hK v h ν' a lh' (λe=>by cases e) M Q h3 h4⟩
  ·rename_i C k₁ hC;rw[opW hC];exact ub k₁ hv hh hs λv ν' a lh' h0 M Q h3 h4=>⟨h0,hK v h ν' a lh' (λe=>by cases e) M Q h3 h4⟩
  ·exact hs.elim
def qQ:bo->Bool
 |[]=>true|(_,.con _)::l=>qQ l|(_,.conN ..)::l=>qQ l|(_,.conZ ..)::l=>qQ l|(_,.inl sf _)::l=>gp sf.ntmps sf.body&&qQ l
theorem A9:∀ {ct:bo} {f:FuncId} {sf:aJ} {un:l7},qQ ct=true->kM ct f=some (.inl sf un)->gp sf.ntmps sf.body=true
 |[],_,_,_,_,h=>by cases h
 |(k,c)::l,f,sf,un,hd,h=>by
   simp[kM]at h;cases hb:Nat.beq f k with
   |true=>rw[hb]at h;simp[cond]at h;cases h;simp[qQ,Ae]at hd;exact hd.1
   |false=>
     rw[hb]at h;simp[cond]at h;refine A9 (ct:=l) ?_ h;cases c with
     |con C=>exact hd|conN C h=>exact hd|conZ C h=>exact hd|inl sf' un'=>simp[qQ,Ae]at hd;exact hd.2
theorem qn (w0:World) (ct:bo) (hd:qQ ct=true):∀ (lv:Nat),uz w0 (SV ct lv) (dM w0 (SV ct)) false (oQ (α:=α) ct lv)
 |0=>by
   intro f vs h PR Pg ν nV nS args lh KA hv hh hs hK;simp[oQ]at hs;split at hs
   ·rename_i C hC
    have:SV ct 0 f=vP C:=by simp[SV,hC]
    rw[this];exact sR hv hh hs λv a hv hs=>hK v h ν a lh (λe=>by cases e) (Nu.sub_refl ν) hh hv hs
   ·rename_i C hC0 hC
    have:SV ct 0 f=vN C:=by simp[SV,hC]
    rw[this];exact uH hC0 hv hh hs λv ν' a lh' _ g0 g1 g2 g3=>hK v h ν' a lh' (λe=>by cases e) g0 g1 g2 g3
   ·rename_i C hC0 hC
    have:SV ct 0 f=vZ C:=by simp[SV,hC]
    rw[this];exact ub hC0 hv hh hs λv ν' a lh' _ g0 g1 g2 g3=>hK v h ν' a lh' (λe=>by cases e) g0 g1 g2 g3
   ·exact hs.elim
 |n+1=>by
   intro f vs h PR Pg ν nV nS args lh KA hv hh hs hK;simp[oQ]at hs;split at hs
   ·rename_i C hC
    have:SV ct (n+1) f=vP C:=by simp[SV,hC]
    rw[this];exact sR hv hh hs λv a hv hs=>hK v h ν a lh (λe=>by cases e) (Nu.sub_refl ν) hh hv hs
   ·rename_i C hC0 hC
    have:SV ct (n+1) f=vN C:=by simp[SV,hC]
    rw[this];exact uH hC0 hv hh hs λv ν' a lh' _ g0 g1 g2 g3=>hK v h ν' a lh' (λe=>by cases e) g0 g1 g2 g3
   ·rename_i C hC0 hC
    have:SV ct (n+1) f=vZ C:=by simp[SV,hC]
    rw[this];exact ub hC0 hv hh hs λv ν' a lh' _ g0 g1 g2 g3=>hK v h ν' a lh' (λe=>by cases e) g0 g1 g2 g3
   ·rename_i sf un hC
    have:SV ct (n+1) f=PY (SV ct n) sf:=by simp[SV,hC]
    rw[this];exact sM (qn w0 ct hd n) (qD w0 ct _ n) (A9 hd hC) hv hh hs λv h' ν' a lh' g0 g1 g2 g3=>hK v h' ν' a lh' (λe=>by cases e) g0 (g1 nV nS) g2 g3
   ·exact hs.elim
end
inductive ba (P:Program) (AQ:List TypeId) (AS:List jc):bo->Prop
 |nil:ba P AQ AS []
 |con {f:FuncId} {C:aD} {ct:bo} (h:(vP C).Ok P f) (hl:ba P AQ AS ct):ba P AQ AS ((f,.con C)::ct)
 |conN {f:FuncId} {C:aD} {hC:∀ds d p r,C ds=some (d,p,r)->d.1=d.2->p->IW r} {ct:bo} (h:(vN C).Ok P f) (hl:ba P AQ AS ct):ba P AQ AS ((f,.conN C hC)::ct)
 |conZ {f:FuncId} {C:aD} {hC:∀ds d p r,C ds=some (d,p,r)->d.1=d.2->p->∀w0 lh args,bK w0 lh Nu.nil ds args->∃x new,vr w0 (lh++new) Nu.nil r x} {ct:bo} (h:(vZ C).Ok P f) (hl:ba P AQ AS ct):ba P AQ AS ((f,.conZ C hC)::ct)
 |inl {f : FuncId} {fn : Func} {sf : aJ} {un : l7} {ct : bo} (hf : P.funcs[f]? = some fn) (hn : (fn.name == "runtime.NumGoroutine") = false) (hc : eS P AQ AS fn = some sf) (hd : gp sf.ntmps sf.body = true) (hl : ba P AQ AS ct) : ba P AQ AS ((f, .inl sf un) :: ct)
theorem ba.look {P:Program} {AQ:List TypeId} {AS:List jc} {ct:bo} (h:ba P AQ AS ct):∀ {f:FuncId} {x:Lc},kM ct f=some x->match x with
 |.con C=>(vP C).Ok P f
 |.conN C _=>(vN C).Ok P f
 |.conZ C _=>(vZ C).Ok P f
 |.inl sf _ => ∃ fn, P.funcs[f]? = some fn /\ (fn.name == "runtime.NumGoroutine") = false /\ eS P AQ AS fn = some sf := by
 induction h with
 |nil=>intro f x h;cases h
 | @con k C ct h hl ih=>
   intro f x hx
   simp[kM]at hx
   cases hb:Nat.beq f k with
   |true=>rw[hb]at hx;simp[cond]at hx;cases hx;have:=Ap hb;subst this;exact h
   |false=>rw[hb]at hx;simp[cond]at hx;exact ih hx
 | @conN k C hC ct h hl ih=>
   intro f x hx
   simp[kM]at hx
   cases hb:Nat.beq f k with
   |true=>rw[hb]at hx;simp[cond]at hx;cases hx;have:=Ap hb;subst this;exact h
   |false=>rw[hb]at hx;simp[cond]at hx;exact ih hx
 | @conZ k C hC ct h hl ih=>
   intro f x hx
   simp[kM]at hx
   cases hb:Nat.beq f k with
   |true=>rw[hb]at hx;simp[cond]at hx;cases hx;have:=Ap hb;subst this;exact h
   |false=>rw[hb]at hx;simp[cond]at hx;exact ih hx
 | @inl k fn sf un ct hf hn hc hd hl ih=>
   intro f x hx
   simp[kM]at hx
   cases hb:Nat.beq f k with
   |true=>rw[hb]at hx;simp[cond]at hx;cases hx;have:=Ap hb;subst this;exact⟨fn,hf,hn,hc⟩
   |false=>rw[hb]at hx;simp[cond]at hx;exact ih hx
theorem ba.dst {P:Program} {AQ:List TypeId} {AS:List jc} {ct:bo} (h:ba P AQ AS ct):qQ ct=true:=by
 induction h with
 |nil=>rfl|con h hl ih=>exact ih|conN h hl ih=>exact ih|conZ h hl ih=>exact ih|inl hf hn hc hd hl ih=>simp[qQ,hd,ih,JA]
theorem ba.ok {P:Program} {AQ:List TypeId} {AS:List jc} {ct:bo} (h:ba P AQ AS ct) (hE:∀ t∈AQ,dL P t) (hI:mD P AQ AS):∀ (lv:Nat) (g:FuncId),(SV ct lv g).Ok P g
 |0,g=>by
   simp[SV];split
   ·rename_i C hC;exact h.look hC
   ·rename_i C hC0 hC;exact h.look hC
   ·rename_i C hC0 hC;exact h.look hC
   ·exact ha' g
 |n+1,g=>by
   simp[SV];split
   ·rename_i C hC;exact h.look hC
   ·rename_i C hC0 hC;exact h.look hC
   ·rename_i C hC0 hC;exact h.look hC
   ·rename_i sf un hC
    let ⟨fn,M,Q,h3⟩:=h.look hC
    exact wil (h.ok hE hI n) hE hI M Q h3
   ·exact ha' g
def LV:Nat:=12
def run (ct:bo) (un:l7) (sf:aJ) (ds:List V):AN V:=oZ (oQ ct LV) (ot ct) un LV sf ds [] λv _=>.ret v
theorem amt {α:Type} {P:Program} {AQ:List TypeId} {AS:List jc} {ct:bo} {f:FuncId} {fn:Func} {sf:aJ} {un:l7} {C:aD} {K0:V->AN α} {Q0:V->α->Prop} (hK0:∀ w0 r v,bU (dM w0 (SV ct)) (K0 v) (Q0 r)->dj v=dj r) (hT:ba P AQ AS ct) (hE:∀ t∈AQ,dL P t) (hI:mD P AQ AS) (hf:P.funcs[f]? = some fn)
 (hn : (fn.name == "runtime.NumGoroutine") = false) (hc : eS P AQ AS fn = some sf) (hd : gp sf.ntmps sf.body = true)
 (h:∀w0 ds d p r,C ds=some (d,p,r)->d.1=d.2->p->plain (dj r)=true->bU (dM w0 (SV ct)) (oZ (oQ ct LV) (ot ct) un LV sf ds [] λv _=>K0 v) (Q0 r)):(vP C).Ok P f:=by
 refine⟨λB m lh w args vs PR hrel hargs Rh=>?_,λ_ _ _ _ _ hk ⟨ds,d,p,r,M,Q,h3,h4,h5⟩=>⟨ds,d,p,r,M,Q,h3,h4,hk _ _ h5⟩,λ_ _ _ _ ⟨_,_,_,_,_,_,_,_,h⟩=>h⟩
 let ⟨ds,d,p,r,M,Q,⟨SK,h3⟩,h4,h5⟩:=Rh
 let ⟨args',g1,g2⟩:=lB hrel ds args vs M hargs
 have hs:=LO (Sp:=λw0 args lh PR=>lh=[]/\∃ ds d p r,bK w0 [] Nu.nil ds args/\C ds=some (d,p,r)/\(d.1=d.2/\p)/\plain (dj r)=true/\PR (dj r) []) (hT.ok hE hI LV) hE hI hf hn hc (λw0 args lh PR hw ha ⟨e,ds,d,p,r,k1,k2,⟨k30,k3⟩,k4,k5⟩=>by
  subst e
  refine sM (qn w0 ct hT.dst LV) (qD w0 ct _ LV) hd k1 (HR.none w0) (h w0 ds d p r k2 k30 k3 k4) λv h' ν' a lh' _ q1 q2 q3=>?_
  have q3:=hK0 _ _ _ q3
  have:=(A1 (by rw[q3];exact k4) a).1 q2
  rw[q3]at this
  subst this
  exact hwf (lh:=[]) (l:=lh') (hza k4) hw k5)
 let ⟨e1,e2⟩:=hs ⟨w,w,λ_=>False,[]⟩ (λ_=>none) [] w args' vs (λr' _=>r'=dj r) (bk.start w) g1 ⟨rfl,ds,d,p,r,g2,Q,⟨SK,h3⟩,h4,rfl⟩
 refine⟨e1,e2.mono λe w' ⟨v,r',m1,lh1,he,hv,_,hr,hk⟩=>?_⟩
 subst hk
 exact⟨v,_,m,lh,he,hpm h4 hv,jI.refl _ _,hrel.back hr,h5⟩
def Hp (e:Nat) (ty:TypeId) (h:List AD):V->V
 |.gs k n=>match gZ h k with|some (.gl e' _ f ty')=>cond (Nat.beq e' e&&Nat.beq ty' ty) (.sl n f) .any|_=>.any
 |.ns=>.sl 0 λ_=>[]
 |_=>.any
def JB (h:List AD):V->Bool
 |.gs k n=>match gZ h k with|some (.gl _ n' _ _)=>decide (n<=n')|_=>true
 |_=>true
def Mm (h:List AD):V->Bool
 |.tup (v::_)=>JB h v|v=>JB h v
def MB (e:Nat) (ty:TypeId) (h:List AD):V->V
 |.tup (v::vs)=>.tup (Hp e ty h v::vs)|v=>Hp e ty h v
section
variable {w0:World} {ν:Nu} {nV nS:Nat} {h:List AD} {lh:List ar}
theorem ajb (hh:HR w0 ν nV nS h lh) {e:Nat} {ty:TypeId} {v:V} {a:ak} {n:Nat} {f:be} (hv:vr w0 ν.z ν v a) (hs:∀ i,i<n->(dl (f i)).all bM=true) (hc:JB h v=true) (ht:dj (Hp e ty h v)=dj (.sl n f)):LW e ty 0 lh n f a:=by
 unfold Hp at ht;split at ht
 ·rename_i k n1
  unfold JB at hc;dsimp only at hc;rw[bw]at ht hc;split at ht
  ·rename_i e' n' g ty' hk
   cases hb:(Nat.beq e' e&&Nat.beq ty' ty) with
   |false=>rw[hb]at ht;simp[dj]at ht
   |true=>
     rw[hb]at ht;simp only[Ae]at hb;have e1:=Ap hb.1;have e2:=Ap hb.2;rw[hk]at hc;have e3:=As hc;subst e1;subst e2
     let ⟨rfl,Qo⟩:=HL ht
     simp only[vr]at hv;rcases hv with ⟨g1,rfl,rfl⟩|⟨b,c,e2,g1,rfl,g3⟩
     ·exact .inl ⟨rfl,rfl⟩
     ·rcases hh.blk k _ hk with ⟨M,Q⟩|⟨b',c',az,M,Q,h3,h4,h5⟩
      ·rw[M]at g1;cases g1
      ·rw[M]at g1
       obtain⟨rfl,rfl,rfl⟩:b'=b/\c'=c/\e'=e2:=by simpa using g1
       refine .inr ⟨b',c',az,Bc _,Q,rfl,h3,g3,λi hi=>?_⟩;have:=(fJ (by rw[Qo i hi];exact hs i hi) _).1 (h5 i K).2;rw[this,Qo i hi]
  ·simp[dj]at ht
 ·simp only[vr]at hv
  let ⟨rfl,_⟩:=HL ht
  exact .inl ⟨rfl,hv⟩
 ·simp[dj]at ht
theorem jfi (hh:HR w0 ν nV nS h lh) {e:Nat} {ty:TypeId} {v r:V} {a:ak} {n:Nat} {f:be} (hv:vr w0 ν.z ν v a) (hr:rn r=some (n,f)) (ho:Yr e r) (hc:Mm h v=true) (ht:dj (MB e ty h v)=dj r):∃ x,LW e ty 0 lh n f x/\a=rq x r:=by
 let ⟨n',f',hl,_,Qo,Zr⟩:=ho
 rw[hr]at hl;cases hl;have hs:=λi hi=>(Qo i hi).2;unfold MB at ht;rcases hkX hr with rfl|⟨us,rfl⟩
 ·split at ht
  ·simp[dj]at ht
  ·rename_i sk;exact⟨a,ajb hh hv hs (by unfold Mm at hc;split at hc<;>first|exact(sk _ _ rfl).elim|exact hc) ht,rfl⟩
 ·split at ht
  ·rename_i u vs
   have np10:dj (Hp e ty h u)=dj (.sl n f):=by simp[dj,dl,ak.tup.injEq,Cc]at ht ⊢;exact ht.1
   have ht2:dl vs=dl us:=by simp[dj,dl,ak.tup.injEq,Cc]at ht;exact ht.2
   simp[vr]at hv;obtain⟨az,rfl,hv⟩:=hv;simp[bK]at hv;obtain⟨x,xs,rfl,M,Q⟩:=hv;refine⟨x,ajb hh M hs hc np10,?_⟩;simp[rq];rw[(fJ (by rw[ht2];exact Zr) _).1 Q,ht2]
  ·have:∀ u,dj (Hp e ty h u)≠.tup (dl (.sl n f::us)):=λu=>by
    unfold Hp;split
    ·split
     ·rename_i e' n' g ty' _;cases (Nat.beq e' e&&Nat.beq ty' ty)<;>simp[dj]
     ·simp[dj]
    ·simp[dj]
    ·simp[dj]
   exact(this _ (by rw[ht];simp[dj])).elim
end
theorem exL {e:Nat} {ty:TypeId} {r:V} {n:Nat} {f:be} (hr:rn r=some (n,f)) (ho:Yr e r) (lh:List ar):∃ x new,LW e ty lh.length (lh++new) n f x:=by
 let ⟨n',f',hl,_,Qo,_⟩:=ho
 rw[hr]at hl;cases hl
 let ⟨M,Q⟩:=BC (e:=e) (f:=f) (n:=n) λi hi=>by rw[xZ];exact(oz (Qo i hi).1).1
 exact⟨_,[.cells ((List.range n).flatMap λi=>dl (f i)) ty],.inr ⟨lh.length,n,(List.range n).flatMap λi=>dl (f i),Ah _,au,rfl,M,Ah _,Q⟩⟩
theorem alV {α:Type} {P:Program} {AQ:List TypeId} {AS:List jc} {ct:bo} {f:FuncId} {fn:Func} {sf:aJ} {un:l7} {e:Nat} {ty:TypeId} {C:aD} {K0:V->List AD->AN α} {Q0:V->α->Prop} (hK0:∀ w0 r v h,bU (dM w0 (SV ct)) (K0 v h) (Q0 r)->Mm h v=true/\dj (MB e ty h v)=dj r) (hT:ba P AQ AS ct) (hE:∀ t∈AQ,dL P t) (hI:mD P AQ AS) (hf:P.funcs[f]? = some fn)
 (hn : (fn.name == "runtime.NumGoroutine") = false) (hc : eS P AQ AS fn = some sf) (hd : gp sf.ntmps sf.body = true)
 (h:∀w0 ds d p r,C ds=some (d,p,r)->d.1=d.2->p->bU (dM w0 (SV ct)) (oZ (oQ ct LV) (ot ct) un LV sf ds [] K0) (Q0 r)):(vL e ty C).Ok P f:=by
 refine⟨λB m lh w args vs PR hrel hargs Rh=>?_,λ_ _ _ _ _ hk ⟨ds,d,p,r,n,g,M,Q,h3,h4,h5,h6⟩=>⟨ds,d,p,r,n,g,M,Q,h3,h4,h5,λx new hx=>hk _ _ (h6 x new hx)⟩,λ_ _ lh _ ⟨_,_,_,_,_,_,_,_,_,h4,h5,h6⟩=>let ⟨x,new,hx⟩:=exL (ty:=ty) h4 h5 lh;h6 x new hx⟩
 let ⟨ds,d,p,r,n,g,M,Q,⟨SK,h3⟩,h4,h5,h6⟩:=Rh
 let ⟨args',g1,g2⟩:=lB hrel ds args vs M hargs
 have hs:=LO (Sp:=λw0 args lh PR=>lh=[]/\∃ ds d p r n g,bK w0 [] Nu.nil ds args/\C ds=some (d,p,r)/\(d.1=d.2/\p)/\rn r=some (n,g)/\Yr e r/\∀ x lh1,LW e ty 0 lh1 n g x->PR (rq x r) lh1) (hT.ok hE hI LV) hE hI hf hn hc (λw0 args lh PR hw ha ⟨e,ds,d,p,r,n,g,k1,k2,⟨k30,k3⟩,k4,k5,k6⟩=>by
  subst e
  refine sM (qn w0 ct hT.dst LV) (qD w0 ct _ LV) hd k1 (HR.none w0) (h w0 ds d p r k2 k30 k3) λv h' ν' a lh' _ q1 q2 q3=>?_
  have q3:=hK0 _ _ _ _ q3
  obtain⟨x,hx,rfl⟩:=jfi (q1 0 0) q2 k4 k5 q3.1 q3.2
  exact⟨_,lh',.inl ⟨rfl,(⟨.inr rfl,trivial⟩:nq [_] [_])⟩,k6 x lh' hx⟩)
 let ⟨e1,e2⟩:=hs ⟨w,w,λ_=>False,[]⟩ (λ_=>none) [] w args' vs (λr' lh1=>∃x,LW e ty 0 lh1 n g x/\r'=rq x r) (bk.start w) g1 ⟨rfl,ds,d,p,r,n,g,g2,Q,⟨SK,h3⟩,h4,h5,λx lh1 hx=>⟨x,hx,rfl⟩⟩
 refine⟨e1,e2.mono λybe w' ⟨v,r',m1,lh1,he,hv,_,hr,⟨x,hx,hk⟩⟩=>?_⟩
 subst hk
 let ⟨n',g',hl,hmax,Qo,Zr⟩:=h5
 have RO:=hl
 rw[h4]at RO;cases RO
 have hback:=hrel.back hr
 rcases hx with ⟨rfl,rfl⟩|⟨b,c,az,_,SG,rfl,Zg,TS,hall⟩
 ·refine ⟨v,rq (.slice none 0 0) r,m,lh,he,A2 h4 Zr (λu hu=>?_) hv,jI.refl _ _,hback,?_⟩
  ·simp[AW]at hu ⊢;exact hu
  ·have:=h6 (.slice none 0 0) [] (.inl ⟨rfl,rfl⟩)
   rwa [Jc]at this
 ·let ⟨b0,us,m1b,Sl,hheap,Sf,_⟩:=hr.loc b az ty SG
  have Qm:n*e<=az.length:=by rw[Zg];exact DY e TS
  have hlen:=c9 Sl
  have hnew:∀ k b',m k=some b'->b'≠b0:=λk b' hk e0=>by
   have:=hrel.rng k b' hk;simp only at Sf;omega
  have no11:(az.take (n*e)).all bM=true:=hir λi hi=>by rw[hall i hi];exact(Qo i hi).2
  have Qh:aE (λk=>if k=lh.length then some b0 else m k) (az.take (n*e)++List.replicate (us.toList.drop (n*e)).length .any) us.toList:=by
   have:=Fy (ko (m':=λk=>if k=lh.length then some b0 else m k) no11 (fM (n*e) Sl)) (hm0 (us.toList.drop (n*e)))
   rwa [Ko]at this
  let ⟨hH,hle'⟩:=hrd hback (b:=b0) (ty:=ty) hheap Qh (E0 hrel.size Sf) (E0 hrel.fsize Sf) hnew
  refine⟨v,rq (.slice (some (.l lh.length 0)) n c) r,_,_,he,A2 h4 Zr (λu hu=>?_) hv,⟨hle',λk hk=>⟨?_,?_⟩⟩,hH,h6 _ _ (.inr ⟨lh.length,c,az.take (n*e)++List.replicate (us.toList.drop (n*e)).length .any,Ah _,by rw[DD (Ah _),If];rfl,rfl,?_,TS,λi hi=>?_⟩)⟩
  ·simp only[AW,ef]at hu ⊢
   obtain⟨PX,rfl,b',QX,rfl⟩:=hu
   rw[m1b]at QX;cases QX
   exact⟨_,rfl,b0,au,rfl⟩
  ·rw[BF (List.getElem?_eq_some_iff.1 hk).1];exact hk
  ·have:=(List.getElem?_eq_some_iff.1 hk).1
   simp[AU (IH this)]
  ·simp only[Du,Kb,List.length_replicate,Iz];omega
  ·rw[← hall i hi]
   refine hn2 (Pn:=n*e) ?_ (by rw[← DO];exact DY e K)
   rw[Im (by simp;omega),Fc,Nat.min_self]
inductive Ty where|int (k:IntKind)|bool|str|agg (ts:List Ty)|sl (ts:List Ty)|fn (f:FuncId) (xs ys:List Ty)|pd (ts:List Ty)
def iv:V->Int
 |.int _ n=>n|_=>0
def bv:V->Bool
 |.bool b=>b|.kb b=>b|_=>false
def sv:V->ByteArray
 |.str s=>s|_=>ByteArray.empty
def aw:V->Nat
 |.sl n _=>n|.sq n _ _=>n|_=>0
def Mh:V->Nat
 |.sl n _=>n|.sq _ m _=>m|_=>0
def bz:V->Nat->List V
 |.sl _ f,i=>f i|.sq _ _ f,i=>f i|_,_=>[]
def eD:V->List V
 |.agg cs=>cs|_=>[]
def K6:V->List V
 |.fn _ xs _=>xs|_=>[]
def KQ:V->List V
 |.fn _ _ ys=>ys|_=>[]
def II:V->List V
 |.pd cs=>cs|_=>[]
def av:List V->V
 |v::_=>v|[]=>.any
def I:List V->List V
 |_::vs=>vs|[]=>[]
def cD:Ty->Bool
 |.agg _=>false|.fn ..=>false|.pd _=>false|_=>true
mutual
def dD:Ty->V->V
 |.int k,v=>.int k (iv v)|.bool,v=>.bool (bv v)|.str,v=>.str (sv v)|.agg ts,v=>.agg (ap ts (eD v))|.sl ts,v=>.sl (aw v) λi=>ap ts (bz v i)
 |.fn f xs ys,v=>.fn f (ap xs (K6 v)) (ap ys (KQ v))|.pd ts,v=>.pd (ap ts (II v))
def ap:List Ty->List V->List V
 |[],_=>[]|t::ts,vs=>dD t (av vs)::ap ts (I vs)
end
mutual
def dG:Ty->V->Prop
 |.int k,v=>v=.int k (iv v)|.bool,v=>v=.bool (bv v)∨v=.kb (bv v)|.str,v=>v=.str (sv v)|.agg ts,v=>v=.agg (eD v)/\bQ ts (eD v)|.sl ts,v=>(v=.sl (aw v) (bz v)∨v=.sq (aw v) (Mh v) (bz v))/\ts.all cD=true/\∀i,i<Mh v->bQ ts (bz v i)|.fn f xs ys,v=>v=.fn f (K6 v) (KQ v)/\bQ xs (K6 v)/\bQ ys (KQ v)|.pd ts,v=>v=.pd (II v)/\ts.all cD=true/\bQ ts (II v)
def bQ:List Ty->List V->Prop
 |[],vs=>vs=[]|t::ts,vs=>vs=av vs::I vs/\dG t (av vs)/\bQ ts (I vs)
end
theorem pK:∀ (ts:List Ty) (vs:List V),ts.all cD=true->(ap ts vs).all V.fc=true
 |[],_,_=>by simp[ap]
 |t::ts,vs,h=>by simp only[Dj,Ae]at h;simp only[ap,Dj,Ae];refine⟨?_,pK ts _ h.2⟩;cases t<;>first|rfl|(simp[cD]at h)|(simp[dD];rfl)
theorem hkl:∀ {ts:List Ty} {vs:List V},bQ ts vs->vs.length=ts.length
 |[],vs,h=>by simp[bQ]at h;subst h;rfl
 |t::ts,vs,h=>by simp[bQ]at h;rw[h.1];simp[hkl h.2.2]
section
variable {w0:World} {lh:List ar}
theorem uW:∀ (ts:List Ty) (vs:List V),(ap ts vs).length=ts.length
 |[],_=>by simp[ap]
 |t::ts,vs=>by simp[ap,uW ts]
mutual
theorem ne2:∀ (t:Ty) (v:V) (a:ak),dG t v->vr w0 lh Nu.nil v a->vr w0 lh Nu.nil (dD t v) a
 |.int k,v,a,h,hv=>by simp[dG]at h;simp[dD];rw[h]at hv;exact hv
 |.bool,v,a,h,hv=>by simp[dG]at h;simp[dD,vr];rcases h with h|h<;>(rw[h]at hv;simp[vr]at hv;exact hv)
 |.str,v,a,h,hv=>by simp[dG]at h;simp[dD];rw[h]at hv;exact hv
 |.agg ts,v,a,h,hv=>by
   simp[dG]at h;rw[h.1]at hv;simp[dD,vr]at hv ⊢
   let ⟨az,M,Q⟩:=hv
   exact⟨az,M,fZ ts _ az h.2 Q⟩
 |.sl ts,v,a,h,hv=>by
   simp only[dG]at h;rcases h.1 with h0|h0
   ·have hb:Mh v=aw v:=by rw[h0];rfl
    rw[h0]at hv;simp only[dD,vr]at hv ⊢
    let ⟨p,c,esz,M,Q,h3,h4,h5⟩:=hv
    exact⟨p,c,esz,M,Q,h3,h4,λi hi=>let ⟨PX,az,g1,g2,g3,g4⟩:=h5 i hi;⟨PX,az,g1,g2,fZ ts _ az (h.2.2 i K) g3,pK ts _ h.2.1⟩⟩
   ·rw[h0]at hv
    simp only[dD,vr]at hv ⊢
    let ⟨p,c,esz,M,⟨Q,h2'⟩,h3,h4,h5⟩:=hv
    exact⟨p,c,esz,M,Q,h3,h4,λi hi=>let ⟨PX,az,g1,g2,g3,g4⟩:=h5 i hi;⟨PX,az,g1,g2,fZ ts _ az (h.2.2 i K) g3,pK ts _ h.2.1⟩⟩
 |.fn f xs ys,v,a,h,hv=>by
   simp[dG]at h;rw[h.1]at hv;simp[dD,vr]at hv ⊢
   let ⟨us,vs,M,Q,h3⟩:=hv
   exact⟨us,vs,M,fZ xs _ us h.2.1 Q,fZ ys _ vs h.2.2 h3⟩
 |.pd ts,v,a,h,hv=>by
   simp only[dG]at h;rw[h.1]at hv;simp only[dD,vr]at hv ⊢
   let ⟨p,az,M,Q,h3,h4,h5⟩:=hv
   have hl:=hkl h.2.2;refine⟨p,az,M,Q,by rw[uW,← hl];exact h3,fZ ts _ az h.2.2 h4,pK ts _ h.2.1⟩
theorem fZ:∀ (ts:List Ty) (vs:List V) (az:List ak),bQ ts vs->bK w0 lh Nu.nil vs az->bK w0 lh Nu.nil (ap ts vs) az
 |[],vs,az,h,hv=>by simp[bQ]at h;subst h;simpa[ap] using hv
 |t::ts,vs,az,h,hv=>by simp[bQ]at h;rw[h.1]at hv;simp[bK]at hv;obtain⟨x,xs,rfl,M,Q⟩:=hv;simp only[ap,bK];exact⟨x,xs,rfl,ne2 t _ x h.2.1 M,fZ ts _ xs h.2.2 Q⟩
end
end
mutual
def yA:Ty->Bool
 |.agg ts=>gS ts|.sl ts=>ts.all cD&&gS ts|.fn _ xs ys=>gS xs&&gS ys|.pd ts=>ts.all cD&&gS ts|_=>true
def gS:List Ty->Bool
 |[]=>true|t::ts=>yA t&&gS ts
end
def Mt:Nat->(Nat->List V->List V)->List V->List V
 |0,_,k=>k|j+1,g,k=>g j (Mt j g k)
mutual
def uR:Ty->V->List V->List V
 |.agg ts,v,k=>.agg (eD v)::l9 ts (eD v) k
 |.sl ts,v,k=>match v with|.sq _ m f=>Mt m (λj k=>l9 ts (f j) k) k|v=>dD (.sl ts) v::k
 |.fn f xs ys,v,k=>.fn f (K6 v) (KQ v)::l9 xs (K6 v) (l9 ys (KQ v) k)|.pd ts,v,k=>.pd (II v)::l9 ts (II v) k|t,v,k=>dD t v::k
def l9:List Ty->List V->List V->List V
 |[],_,k=>.agg []::k|t::ts,vs,k=>.agg (av vs::I vs)::uR t (av vs) (l9 ts (I vs) k)
end
mutual
def uC:Ty->V->List V->List V
 |.agg ts,v,k=>v::ma ts (eD v) k
 |.sl ts,v,k=>match v with|.sq _ m f=>Mt m (λj k=>ma ts (f j) k) k|v=>v::k
 |.fn _ xs ys,v,k=>v::ma xs (K6 v) (ma ys (KQ v) k)|.pd ts,v,k=>v::ma ts (II v) k|_,v,k=>v::k
def ma:List Ty->List V->List V->List V
 |[],vs,k=>.agg vs::k|t::ts,vs,k=>.agg vs::uC t (av vs) (ma ts (I vs) k)
end
theorem PM {P:Nat->Prop} {g g':Nat->List V->List V} (hg:∀ j k k',g j k=g' j k'->P j/\k=k'):∀ (m:Nat) (k k':List V),Mt m g k=Mt m g' k'->(∀ j,j<m->P j)/\k=k'
 |0,k,k',h=>⟨λj hj=>by omega,h⟩
 |m+1,k,k',h=>by
   simp[Mt]at h
   let ⟨M,Q⟩:=hg m _ _ h
   let ⟨h3,h4⟩:=PM hg m k k' Q
   exact⟨λj hj=>by
    by_cases e:j=m
    ·subst e;exact M
    ·exact h3 j K,h4⟩
theorem hn':∀(ts:List Ty) (vs:List V),gS ts=true->ap ts vs=vs->bQ ts vs:=by have key:∀(ts:List Ty),gS ts=true->∀vs,ap ts vs=vs->bQ ts vs:=λts ho vs h=>hasTys_of' ts vs ho h;exact λts vs ho h=>key ts ho vs h
 where
 hasTy_of':∀(t:Ty) (v:V),yA t=true->dD t v=v->dG t v
 |.int k,v,_,h=>by simp[dD]at h;simp[dG];exact h.symm
 |.bool,v,_,h=>by simp[dD]at h;simp[dG];exact .inl h.symm
 |.str,v,_,h=>by simp[dD]at h;simp[dG];exact h.symm
 |.agg ts,v,ho,h=>by
   simp[dD]at h;simp[yA]at ho;have Q:ap ts (eD v)=eD v:=by have:=congrArg eD h;simpa[eD] using this
   simp[dG];exact⟨by rw[Q]at h;exact h.symm,hasTys_of' ts _ ho Q⟩
 |.sl ts,v,ho,h=>by
   simp[dD]at h;simp[yA,Ae]at ho;have Q:∀i,ap ts (bz v i)=bz v i:=λi=>by have:=congrArg (λu=>bz u i) h;simpa[bz] using this
   simp[dG];refine⟨.inl ?_,ho.1,λi _=>hasTys_of' ts _ ho.2 (Q i)⟩;have h3:(λi=>ap ts (bz v i))=bz v:=funext Q;rw[h3]at h;exact h.symm
 |.fn f xs ys,v,ho,h=>by
   simp[dD]at h;simp[yA,Ae]at ho;have Q:ap xs (K6 v)=K6 v:=by have:=congrArg K6 h;simpa[K6] using this
   have h3:ap ys (KQ v)=KQ v:=by have:=congrArg KQ h;simpa[KQ] using this
   simp[dG];exact⟨by rw[Q,h3]at h;exact h.symm,hasTys_of' xs _ ho.1 Q,hasTys_of' ys _ ho.2 h3⟩
 |.pd ts,v,ho,h=>by
   simp[dD]at h;simp[yA,Ae]at ho;have Q:ap ts (II v)=II v:=by have:=congrArg II h;simpa[II] using this
   simp[dG];exact⟨by rw[Q]at h;exact h.symm,ho.1,hasTys_of' ts _ ho.2 Q⟩
 hasTys_of':∀(ts:List Ty) (vs:List V),gS ts=true->ap ts vs=vs->bQ ts vs
 |[],vs,_,h=>by simp only[ap]at h;simp only[bQ];exact h.symm
 |t::ts,vs,ho,h=>by
   simp[ap]at h;simp[gS,Ae]at ho;have Q:dD t (av vs)=av vs:=by have:=congrArg av h;simpa[av] using this
   have h3:ap ts (I vs)=I vs:=by have:=congrArg I h;simpa[I] using this
   simp[bQ];exact⟨by rw[Q,h3]at h;exact h.symm,hasTy_of' t _ ho.1 Q,hasTys_of' ts _ ho.2 h3⟩
def A (ts:List Ty) (f:be):Nat->List V:=λi=>ap ts (f i)
mutual
def Ti:Ty->V->V
 |.agg ts,v=>match v with|.agg cs=>.agg (lQ ts cs)|v=>v
 |.sl ts,v=>match v with|.sq n _ f=>.sl n (A ts f)|v=>v
 |.fn _ xs ys,v=>match v with|.fn f us vs=>.fn f (lQ xs us) (lQ ys vs)|v=>v
 |.pd ts,v=>match v with|.pd cs=>.pd (lQ ts cs)|v=>v
 |_,v=>v
def lQ:List Ty->List V->List V
 |[],_=>[]
 |t::ts,vs=>match vs with|v::vs=>Ti t v::lQ ts vs|[]=>[]
end
mutual
theorem agH:∀ (t:Ty) (v:V) (k k':List V),uR t v k=uC t v k'->Ti t v=dD t v/\k=k'
 |.int _,v,k,k',h=>by simp[uR,uC,Cc]at h;simp[Ti];exact⟨h.1.symm,h.2⟩
 |.bool,v,k,k',h=>by simp[uR,uC,Cc]at h;simp[Ti];exact⟨h.1.symm,h.2⟩
 |.str,v,k,k',h=>by simp[uR,uC,Cc]at h;simp[Ti];exact⟨h.1.symm,h.2⟩
 |.agg ts,v,k,k',h=>by
   simp[uR,uC,Cc]at h
   let ⟨M,Q⟩:=ik ts _ k k' h.2
   obtain⟨cs,rfl⟩:∃cs,v=.agg cs:=⟨_,h.1.symm⟩;simp[eD]at M;simp only[Ti,dD,eD,M];exact⟨trivial,Q⟩
 |.sl ts,v,k,k',h=>by
   by_cases hv:∃n m f,v=.sq n m f
   ·obtain⟨n,m,f,rfl⟩:=hv
    simp[uR,uC]at h
    let ⟨_,Q⟩:=PM (P:=λ_=>True) (λj k k' hj=>⟨trivial,(ik ts (f j) k k' hj).2⟩) m k k' h
    exact⟨rfl,Q⟩
   ·cases v<;>first|exact(hv ⟨_,_,_,rfl⟩).elim|(simp[uR,uC,Cc]at h;simp[Ti];exact⟨h.1.symm,h.2⟩)
 |.fn f xs ys,v,k,k',h=>by
   simp[uR,uC,Cc]at h
   let ⟨M,Q⟩:=ik xs _ _ _ h.2
   let ⟨h3,h4⟩:=ik ys _ _ _ Q
   obtain⟨us,vs,rfl⟩:∃us vs,v=.fn f us vs:=⟨_,_,h.1.symm⟩;simp[K6]at M;simp[KQ]at h3;simp only[Ti,dD,K6,KQ,M,h3];exact⟨trivial,h4⟩
 |.pd ts,v,k,k',h=>by
   simp[uR,uC,Cc]at h
   let ⟨M,Q⟩:=ik ts _ k k' h.2
   obtain⟨cs,rfl⟩:∃cs,v=.pd cs:=⟨_,h.1.symm⟩;simp[II]at M;simp only[Ti,dD,II,M];exact⟨trivial,Q⟩
theorem ik:∀ (ts:List Ty) (vs:List V) (k k':List V),l9 ts vs k=ma ts vs k'->lQ ts vs=ap ts vs/\k=k'
 |[],vs,k,k',h=>by simp[l9,ma,Cc,V.agg.injEq]at h;simp only[lQ,ap];exact⟨trivial,h.2⟩
 |t::ts,vs,k,k',h=>by
   simp[l9,ma,Cc,V.agg.injEq]at h
   let ⟨M,Q⟩:=agH t _ _ _ h.2
   let ⟨h3,h4⟩:=ik ts _ _ _ Q
   have h0:=h.1;cases vs with
   |nil=>cases h0
   |cons v vs=>simp[av,I]at M h3;simp only[lQ,ap,av,I,M,h3];exact⟨trivial,h4⟩
end
mutual
theorem aqp:∀ (t:Ty) (v:V) (k k':List V),yA t=true->uR t v k=uC t v k'->dG t v/\k=k'
 |.int _,v,k,k',_,h=>by simp[uR,uC,Cc]at h;simp[dD]at h;simp[dG];exact⟨h.1.symm,h.2⟩
 |.bool,v,k,k',_,h=>by simp[uR,uC,Cc,dD]at h;simp[dG];exact⟨.inl h.1.symm,h.2⟩
 |.str,v,k,k',_,h=>by simp[uR,uC,Cc]at h;simp[dD]at h;simp[dG];exact⟨h.1.symm,h.2⟩
 |.agg ts,v,k,k',ho,h=>by
   simp[uR,uC,Cc]at h;simp[yA]at ho
   let ⟨M,Q⟩:=kz ts _ k k' ho h.2
   simp[dG];exact⟨⟨h.1.symm,M⟩,Q⟩
 |.sl ts,v,k,k',ho,h=>by
   have UM:=ho;simp only[yA,Ae]at ho;by_cases hv:∃n m f,v=.sq n m f
   ·obtain⟨n,m,f,rfl⟩:=hv
    simp only[uR,uC]at h
    let ⟨M,Q⟩:=PM (P:=λj=>bQ ts (f j)) (λj k k' hj=>kz ts (f j) k k' ho.2 hj) m k k' h
    simp only[dG,aw,bz,Mh];exact⟨⟨.inr rfl,ho.1,M⟩,Q⟩
   ·have h':dD (.sl ts) v=v/\k=k':=by
     cases v<;>first|exact(hv ⟨_,_,_,rfl⟩).elim|(simp[uR,uC,Cc]at h;exact h)
    have:=hn' [.sl ts] [v] (by simp[gS,UM,Jd]) (by simp[ap,av,I,h'.1]);simp[bQ,av]at this;exact⟨this.2.1,h'.2⟩
 |.fn f xs ys,v,k,k',ho,h=>by
   simp[uR,uC,Cc]at h;simp[yA,Ae]at ho
   let ⟨M,Q⟩:=kz xs _ _ _ ho.1 h.2
   let ⟨h3,h4⟩:=kz ys _ _ _ ho.2 Q
   simp[dG];exact⟨⟨h.1.symm,M,h3⟩,h4⟩
 |.pd ts,v,k,k',ho,h=>by
   simp[uR,uC,Cc]at h;simp[yA,Ae]at ho
   let ⟨M,Q⟩:=kz ts _ k k' ho.2 h.2
   simp[dG];exact⟨⟨h.1.symm,ho.1,M⟩,Q⟩
theorem kz:∀ (ts:List Ty) (vs:List V) (k k':List V),gS ts=true->l9 ts vs k=ma ts vs k'->bQ ts vs/\k=k'
 |[],vs,k,k',_,h=>by simp only[l9,ma,Cc,V.agg.injEq]at h;simp only[bQ];exact⟨h.1.symm,h.2⟩
 |t::ts,vs,k,k',ho,h=>by
   simp[l9,ma,Cc,V.agg.injEq]at h;simp[gS,Ae]at ho
   let ⟨M,Q⟩:=aqp t _ _ _ ho.1 h.2
   let ⟨h3,h4⟩:=kz ts _ _ _ ho.2 Q
   simp[bQ];exact⟨⟨h.1.symm,M,h3⟩,h4⟩
end
def bP (ts:List Ty) (pre:List V->Prop) (r:List V->V):aD:=λds=>some ((l9 ts ds [],ma ts ds []),pre (lQ ts ds),r (lQ ts ds))
theorem jcl {α:Type} {P:Program} {AQ:List TypeId} {AS:List jc} {ct:bo} {f:FuncId} {fn:Func} {sf:aJ} {un:l7} {ts:List Ty} {pre:List V->Prop} {r:List V->V} {K0:V->AN α} {Q0:V->α->Prop} (hK0:∀ w0 r v,bU (dM w0 (SV ct)) (K0 v) (Q0 r)->dj v=dj r) (hT:ba P AQ AS ct) (hE:∀ t∈AQ,dL P t) (hI:mD P AQ AS) (hf:P.funcs[f]? = some fn)
 (hn : (fn.name == "runtime.NumGoroutine") = false) (hc : eS P AQ AS fn = some sf) (hd : gp sf.ntmps sf.body = true) (ho : gS ts = true)
 (h:∀w0 ds,pre (ap ts ds)->bU (dM w0 (SV ct)) (oZ (oQ ct LV) (ot ct) un LV sf (ap ts ds) [] λv _=>K0 v) (Q0 (r (ap ts ds)))):(vP (bP ts pre r)).Ok P f:=by
 refine⟨λB m lh w args vs PR hrel hargs Rh=>?_,λ_ _ _ _ _ hk ⟨ds,d,p,r,M,Q,h3,h4,h5⟩=>⟨ds,d,p,r,M,Q,h3,h4,hk _ _ h5⟩,λ_ _ _ _ ⟨_,_,_,_,_,_,_,_,h⟩=>h⟩
 let ⟨ds,d,p,r',M,Q,⟨SK,h3⟩,h4,h5⟩:=Rh
 simp only[bP,Ak,Prod.mk.injEq]at Q
 let ⟨rfl,rfl,rfl⟩:=Q
 have SH:=(kz ts ds [] [] ho SK).1
 rw[(ik ts ds [] [] SK).1]at h3 h4 h5
 have key2:=amt (C:=λds'=>some ((ds',ap ts ds),pre (ap ts ds),r (ap ts ds))) (P:=P) (f:=f) hK0 hT hE hI hf hn hc hd (λw0 ds' d' p' r' e he hp _=>by
  simp only[Ak,Prod.mk.injEq]at e
  let ⟨rfl,rfl,rfl⟩:=e
  simp only at he
  subst he
  exact h w0 ds hp)
 exact key2.sound B m lh w args vs PR hrel hargs ⟨ap ts ds,_,_,_,fZ ts ds args SH M,rfl,⟨rfl,h3⟩,h4,h5⟩
theorem ic0 {α:Type} {P:Program} {AQ:List TypeId} {AS:List jc} {ct:bo} {f:FuncId} {fn:Func} {sf:aJ} {un:l7} {e:Nat} {ty:TypeId} {ts:List Ty} {pre:List V->Prop} {r:List V->V} {K0:V->List AD->AN α} {Q0:V->α->Prop} (hK0:∀ w0 r v h,bU (dM w0 (SV ct)) (K0 v h) (Q0 r)->Mm h v=true/\dj (MB e ty h v)=dj r) (hT:ba P AQ AS ct) (hE:∀ t∈AQ,dL P t) (hI:mD P AQ AS) (hf:P.funcs[f]? = some fn)
 (hn : (fn.name == "runtime.NumGoroutine") = false) (hc : eS P AQ AS fn = some sf) (hd : gp sf.ntmps sf.body = true) (ho : gS ts = true)
 (h:∀w0 ds,pre (ap ts ds)->bU (dM w0 (SV ct)) (oZ (oQ ct LV) (ot ct) un LV sf (ap ts ds) [] K0) (Q0 (r (ap ts ds)))):(vL e ty (bP ts pre r)).Ok P f:=by
 refine⟨λB m lh w args vs PR hrel hargs Rh=>?_,λ_ _ _ _ _ hk ⟨ds,d,p,r,n,g,M,Q,h3,h4,h5,h6⟩=>⟨ds,d,p,r,n,g,M,Q,h3,h4,h5,λx new hx=>hk _ _ (h6 x new hx)⟩,λ_ _ lh _ ⟨_,_,_,_,_,_,_,_,_,h4,h5,h6⟩=>let ⟨x,new,hx⟩:=exL (ty:=ty) h4 h5 lh;h6 x new hx⟩
 let ⟨ds,d,p,r',n,g,M,Q,⟨SK,h3⟩,h4,h5,h6⟩:=Rh
 simp only[bP,Ak,Prod.mk.injEq]at Q
 let ⟨rfl,rfl,rfl⟩:=Q
 have SH:=(kz ts ds [] [] ho SK).1
 rw[(ik ts ds [] [] SK).1]at h3 h4 h5 h6
 have key2:=alV (e:=e) (ty:=ty) (C:=λds'=>some ((ds',ap ts ds),pre (ap ts ds),r (ap ts ds))) (P:=P) (f:=f) hK0 hT hE hI hf hn hc hd (λw0 ds' d' p' r' e he hp=>by
  simp only[Ak,Prod.mk.injEq]at e
  let ⟨rfl,rfl,rfl⟩:=e
  simp only at he
  subst he
  exact h w0 ds hp)
 exact key2.sound B m lh w args vs PR hrel hargs ⟨ap ts ds,_,_,_,n,g,fZ ts ds args SH M,rfl,⟨rfl,h3⟩,h4,h5,h6⟩
abbrev o7:=List (Option (Option Nat))
def ed (ρ:o7) (k:Nat):Option (Option Nat):=match gZ ρ k with|some x=>x|none=>none
mutual
def db (ρ:o7):V->V->Prop
 |v,.any=>True∨v=.any|.int k a,.int k' b=>k=k'/\a=b|.bool a,.bool b=>a=b|.kb a,.bool b=>a=b|.kb a,.kb b=>a=b|.str a,.str b=>a=b|.agg xs,.agg ys=>fK ρ xs ys|.tup xs,.tup ys=>fK ρ xs ys|.fn f xs ys,.fn g us vs=>f=g/\fK ρ xs us/\fK ρ ys vs|.sl n f,.sl m g=>n=m/\f=g|.pd cs,.pd ds=>cs=ds|.pl k o,.pl k1 o1=>ed ρ k1=some (some k)/\o=o1|.pe k i j,.pe k1 i1 j1=>ed ρ k1=some (some k)/\i=i1/\j=j1|.ss k o n c,.ss k1 o1 n1 c1=>ed ρ k1=some (some k)/\o=o1/\n=n1/\c=c1|.gs k n,.gs k1 n1=>ed ρ k1=some (some k)/\n=n1|.ns,.gs k1 n1=>ed ρ k1=some none/\n1=0|.ns,.ns=>True|.np,.np=>True|.yl l,.yl l1=>l=l1|.go k o n,.go k1 o1 n1=>ed ρ k1=some (some k)/\o=o1/\n=n1|_,_=>False
def fK (ρ:o7):List V->List V->Prop
 |[],[]=>True|x::xs,y::ys=>db ρ x y/\fK ρ xs ys|_,_=>False
end
def xf (ρ:o7) (e:bT):bT->Prop
 |[]=>True|(s,v)::l=>db ρ (ku e s) v/\xf ρ e l
def F5 (ρ:o7) (h:List AD) (k:Nat):AD->Prop
 |.cells cs ty=>∃j ds,ed ρ k=some (some j)/\gZ h j=some (.cells ds ty)/\fK ρ ds cs|.gl e n f ty=>(ed ρ k=some none/\n=0)∨∃j m g,ed ρ k=some (some j)/\gZ h j=some (.gl e m g ty)/\n<=m/\∀i,i<n->nX e (f i)=true/\fK ρ (g i) (f i)|.dead=>False|.hid=>True
def xb (ρ:o7) (h:List AD):Nat->List AD->Prop
 |_,[]=>True|k,o::l=>F5 ρ h k o/\xb ρ h (k+1) l
def s8 (x:Option (Option Nat)):o7->Bool
 |[]=>true
 |y::l=>(match x,y with|some (some a),some (some b)=>!Nat.beq a b|_,_=>true)&&s8 x l
def Hf:o7->Bool
 |[]=>true|x::l=>s8 x l&&Hf l
def KD (ρ:o7):Nat->Bool
 |0=>true
 |k+1=>(match ed ρ k with|some (some j)=>Nat.beq j k|_=>false)&&KD ρ k
def nP (ρ:o7) (ν:Nu):Nu:=⟨λk=>match ed ρ k with|some (some j)=>ν j|some none=>some none|none=>none,ν.z⟩
section
variable {w0:World} {ν:Nu} {ρ:o7} {lh:List ar}
mutual
theorem avN:∀ (v v1:V) (a:ak),db ρ v v1->vr w0 ν.z ν v a->vr w0 ν.z (nP ρ ν) v1 a
 |.int k n,v1,a,h,hv=>by
   cases v1<;>simp[db]at h
   case int=>let ⟨rfl,rfl⟩:=h;simp[vr]at hv ⊢;exact hv
   case any=>simp[vr]
 |.bool b,v1,a,h,hv=>by
   cases v1<;>simp[db]at h
   case bool=>subst h;simp[vr]at hv ⊢;exact hv
   case any=>simp[vr]
 |.kb b,v1,a,h,hv=>by
   cases v1<;>simp[db]at h
   case bool=>subst h;simp[vr]at hv ⊢;exact hv
   case kb=>subst h;simp[vr]at hv ⊢;exact hv
   case any=>simp[vr]
 |.str b,v1,a,h,hv=>by
   cases v1<;>simp[db]at h
   case str=>subst h;simp[vr]at hv ⊢;exact hv
   case any=>simp[vr]
 |.agg xs,v1,a,h,hv=>by
   cases v1<;>simp[db]at h
   case agg=>simp[vr]at hv ⊢;let ⟨az,M,Q⟩:=hv;exact⟨az,M,ks xs _ az h Q⟩
   case any=>simp[vr]
 |.tup xs,v1,a,h,hv=>by
   cases v1<;>simp[db]at h
   case tup=>simp[vr]at hv ⊢;let ⟨az,M,Q⟩:=hv;exact⟨az,M,ks xs _ az h Q⟩
   case any=>simp[vr]
 |.fn f xs ys,v1,a,h,hv=>by
   cases v1<;>simp[db]at h
   case fn=>let ⟨rfl,g1,g2⟩:=h;simp[vr]at hv ⊢;let ⟨az,bs,M,Q,h3⟩:=hv;exact⟨az,bs,M,ks xs _ az g1 Q,ks ys _ bs g2 h3⟩
   case any=>simp[vr]
 |.sl n f,v1,a,h,hv=>by
   cases v1<;>simp[db]at h
   case sl=>let ⟨rfl,rfl⟩:=h;simp[vr]at hv ⊢;exact hv
   case any=>simp[vr]
 |.pd cs,v1,a,h,hv=>by
   cases v1<;>simp[db]at h
   case pd=>subst h;simp[vr]at hv ⊢;exact hv
   case any=>simp[vr]
 |.pl k o,v1,a,h,hv=>by
   cases v1<;>simp[db]at h
   case pl=>let ⟨M,rfl⟩:=h;simp[vr]at hv ⊢;simp[nP,M];exact hv
   case any=>simp[vr]
 |.pe k i j,v1,a,h,hv=>by
   cases v1<;>simp[db]at h
   case pe=>let ⟨M,rfl,rfl⟩:=h;simp[vr]at hv ⊢;simp[nP,M];exact hv
   case any=>simp[vr]
 |.ss k o n c,v1,a,h,hv=>by
   cases v1<;>simp[db]at h
   case ss=>let ⟨M,rfl,rfl,rfl⟩:=h;simp[vr]at hv ⊢;simp[nP,M];exact hv
   case any=>simp[vr]
 |.gs k n,v1,a,h,hv=>by
   cases v1<;>simp[db]at h
   case gs=>let ⟨M,rfl⟩:=h;simp[vr]at hv ⊢;simp[nP,M];exact hv
   case any=>simp[vr]
 |.ns,v1,a,h,hv=>by
   cases v1<;>simp[db]at h
   case gs=>obtain⟨M,rfl⟩:=h;simp only[vr]at hv ⊢;simp only[nP,M];exact .inl ⟨trivial,trivial,hv⟩
   case ns=>simp[vr]at hv ⊢;exact hv
   case any=>simp[vr]
 |.np,v1,a,h,hv=>by
   cases v1<;>simp[db]at h
   case np=>simp[vr]at hv ⊢;exact hv
   case any=>simp[vr]
 |.any,v1,a,h,hv=>by
   cases v1<;>simp[db]at h
   case any=>simp[vr]
 |.gd b v,v1,a,h,hv=>by
   cases v1<;>simp[db]at h
   case any=>simp[vr]
 |.yl l,v1,a,h,hv=>by
   cases v1<;>simp[db]at h
   case yl=>subst h;simp[vr]at hv ⊢;exact hv
   case any=>simp[vr]
 |.go k o n,v1,a,h,hv=>by
   cases v1<;>simp[db]at h
   case go=>let ⟨M,rfl,rfl⟩:=h;simp[vr]at hv ⊢;simp[nP,M];exact hv
   case any=>simp[vr]
 |.sq n m f,v1,a,h,hv=>by
   cases v1<;>simp[db]at h
   case any=>simp[vr]
theorem ks:∀ (vs us:List V) (az:List ak),fK ρ vs us->bK w0 ν.z ν vs az->bK w0 ν.z (nP ρ ν) us az
 |[],[],az,_,hv=>by simp[bK]at hv ⊢;exact hv
 |v::vs,u::us,az,h,hv=>by
   simp[fK]at h;simp[bK]at hv ⊢
   let ⟨x,xs,M,Q,h3⟩:=hv
   exact⟨x,xs,M,avN v u x h.1 Q,ks vs us xs h.2 h3⟩
 |[],_::_,_,h,_=>by simp[fK]at h
 |_::_,[],_,h,_=>by simp[fK]at h
end
theorem R53:∀ {e e1:bT} (s:Nat),xf ρ e e1->ku e1 s=.any∨db ρ (ku e s) (ku e1 s)
 |e,[],s,_=>.inl rfl
 |e,(d,v)::l,s,h=>by
   simp[xf]at h;rw[nj];by_cases hd:s=d
   ·subst hd;rw[Ad rfl];exact .inr h.1
   ·rw[AU hd];exact R53 s h.2
theorem oG {h:List AD}:∀ {l:List AD} {k i:Nat} {o:AD},xb ρ h k l->l[i]? = some o->F5 ρ h (k+i) o
 |[],_,_,_,_,hi=>by simp at hi
 |x::l,k,0,o,hh,hi=>by simp at hi;subst hi;exact hh.1
 |x::l,k,i+1,o,hh,hi=>by have:=oG (i:=i) hh.2 (by simpa using hi);rwa [show k+1+i=k+(i+1) by omega]at this
theorem rx:∀ {l:o7} {a i:Nat},s8 (some (some a)) l=true->gZ l i=some (some (some a))->False
 |[],_,_,_,h=>by cases h
 |y::l,a,0,h,hi=>by simp[gZ,Ak]at hi;subst hi;simp[s8]at h
 |y::l,a,i+1,h,hi=>by simp[s8,Ae]at h;exact rx h.2 hi
theorem ajm:∀ {l:o7} {a i j:Nat},Hf l=true->gZ l i=some (some (some a))->gZ l j=some (some (some a))->i=j
 |[],_,_,_,_,h,_=>by cases h
 |x::l,a,0,0,_,_,_=>rfl
 |x::l,a,i+1,0,h,hi,hj=>by simp[Hf,Ae]at h;simp[gZ,Ak]at hj;subst hj;exact(rx h.1 hi).elim
 |x::l,a,0,j+1,h,hi,hj=>by simp[Hf,Ae]at h;simp[gZ,Ak]at hi;subst hi;exact(rx h.1 hj).elim
 |x::l,a,i+1,j+1,h,hi,hj=>by simp[Hf,Ae]at h;rw[ajm h.2 hi hj]
theorem agm:∀ {n k:Nat},KD ρ n=true->k<n->ed ρ k=some (some k)
 |n+1,k,h,hk=>by
   simp[KD,Ae]at h;rcases Nat.lt_succ_iff_lt_or_eq.1 hk with hk|rfl
   ·exact agm h.2 hk
   ·have M:=h.1
    split at M
    ·rename_i j hj;rw[hj,Ap M]
    ·cases M
theorem hle {k j:Nat} (h:ed ρ k=some (some j)):gZ ρ k=some (some (some j)):=by
 unfold ed at h;split at h
 ·rename_i x hx;rw[hx,h]
 ·cases h
theorem lM.ren (w0:World) {nb:Nat} {e e1:bT} {h M:List AD} (ρ:o7) (hl:Nat.beq (cj ρ) (cj M)=true) (hi:Hf ρ=true) (hid:KD ρ nb=true) (he:xf ρ e e1) (hh:xb ρ h 0 M):lM w0 nb e h e1 M:=by
 intro Pn ν nV nS sl lh hs hr;have hlen:ρ.length=M.length:=by have:=Ap hl;rwa [ca,ca]at this
 have hlive:∀ k,bp M k->∀ x,nP ρ ν k=some (some x)->∃ j,ed ρ k=some (some j)/\bp h j/\ν j=some (some x):=λk hk x hx=>by
  have SP:=hx;simp[nP]at hx;split at hx
  ·rename_i j hj
   refine⟨j,hj,?_,hx⟩;rcases gz hk with ⟨cs,ty,hc⟩|⟨e',n,f,ty,hc⟩
   ·let ⟨j',ds,g1,g2,g3⟩:=oG (k:=0) (i:=k) hh hc
    rw[DZ,hj]at g1;cases g1;exact eJ (by rwa [bw]at g2)
   ·rcases oG (k:=0) (i:=k) hh hc with ⟨g1,_⟩|⟨j',m,g,g1,g2,_⟩
    ·rw[DZ,hj]at g1;cases g1
    ·rw[DZ,hj]at g1;cases g1;exact iq (by rwa [bw]at g2)
  ·cases hx
  ·cases hx
 refine⟨nP ρ ν,0,0,⟨λk x hk hx=>by simp[nP,agm hid hk];exact hx,ni _⟩,⟨hs.len,λi=>?_⟩,⟨λk o hk=>?_,λk k' x x' hk RX hx SP TE=>?_,λk hk=>?_,λk x hx=>?_,hr.zl,λk x hk hx=>let ⟨j,_,g2,g3⟩:=hlive k hk x hx;hr.zn j x g2 g3⟩⟩
 ·rcases R53 i he with h0|h0
  ·rw[h0];simp[vr]
  ·exact avN _ _ _ h0 (hs.at' i)
 ·have hb:=oG (k:=0) (i:=k) hh hk
  rw[DZ]at hb;cases o with
  |cells cs ty=>
    let ⟨j,ds,g1,g2,g3⟩:=hb
    rw[bw]at g2
    let ⟨b,c,e',az,k1,k2,k3⟩:=hr.blk j _ g2
    exact⟨b,c,e',az,by simp[nP,g1];exact k1,k2,ks _ _ _ g3 k3⟩
  |gl e' n f ty=>
    rcases hb with ⟨g1,rfl⟩|⟨j,m,g,g1,g2,g3,g4⟩
    ·exact .inl ⟨by simp[nP,g1],rfl⟩
    ·rw[bw]at g2
     rcases hr.blk j _ g2 with ⟨k1,k2⟩|⟨b,c,az,k1,k2,k3,k4,k5⟩
     ·exact .inl ⟨by simp[nP,g1];exact k1,K⟩
     ·exact .inr ⟨b,c,az,by simp[nP,g1];exact k1,k2,k3,⟨K,K⟩,λi hi=>⟨(g4 i hi).1,ks _ _ _ (g4 i hi).2 (k5 i K).2⟩⟩
  |dead=>exact hb.elim|hid=>trivial
 ·let ⟨j,g1,g2,g3⟩:=hlive k hk x hx
  let ⟨j',g1',g2',g3'⟩:=hlive k' RX x' SP
  have:=hr.inj j j' x x' g2 g2' g3 g3' TE;subst this;exact ajm hi (hle g1) (hle g1')
 ·simp[nP,ed,bw];rw[D1 K]
 ·simp[nP]at hx
  split at hx
  ·exact hr.rng _ x hx
  ·cases hx
  ·cases hx
theorem lM.refl (w0:World) (nb:Nat) (e:bT) (h:List AD):lM w0 nb e h e h:=λPn ν nV nS sl lh hs hr=>⟨ν,nV,nS,Ao.refl _ _,hs,hr⟩
theorem lM.trans {w0:World} {nb:Nat} {e e1 e2:bT} {h M Q:List AD} (a:lM w0 nb e h e1 M) (b:lM w0 nb e1 M e2 Q):lM w0 nb e h e2 Q:=λPn ν nV nS sl lh hs hr=>by
 let ⟨ν1,nV1,nS1,g0,g1,g2⟩:=a Pn ν nV nS sl lh hs hr
 let ⟨ν2,nV2,nS2,k0,k1,k2⟩:=b Pn ν1 nV1 nS1 sl lh g1 g2
 exact⟨ν2,nV2,nS2,g0.trans k0,k1,k2⟩
end
def zS {α:Type}:AN α->List Bool->AN α
 |t,[]=>t|.br _ x y,p::ps=>cond p (zS x ps) (zS y ps)|.und x y,p::ps=>cond p (zS x ps) (zS y ps)|.asm _ x,ps=>zS x ps|.ob _ x,ps=>zS x ps|.obi _ _ x,ps=>zS x ps|.obp _ x,ps=>zS x ps|.obq _ _ x,ps=>zS x ps|t,_=>t
def AK {α:Type}:AN α->AN α
 |.ob _ x=>AK x|.obi _ _ x=>AK x|.obp _ x=>AK x|.obq _ _ x=>AK x|.asm _ x=>AK x|t=>t
def eT:AN (Ex×bT×List AD)->bT
 |.ret r=>r.2.1|_=>[]
def hT:AN (Ex×bT×List AD)->List AD
 |.ret r=>r.2.2|_=>[]
def rB:AY->RD
 |.i _ r=>r|_=>⟨[],.skip,.skip,[],0⟩
def Ii {α:Type}:AN α->Nat->AN α
 |.all f=>f|_=>λ_=>.fail 0
def eC {α:Type} (t:AN α) (p:List Bool):AN α:=AK (zS t p)
theorem apC {ct:bo} {w0:World} (hd:qQ ct=true) {lv nb:Nat} {un:l7} {body:hU} {e:bT} {h:List AD} {Ag:Ex->bT->List AD->Option Ex->Prop} (bi:Nat)
 (Ru:Type) (inv:Ru->bT×List AD) (μ:Ru->Nat) (h0:∃i,lM w0 nb e h (inv i).1 (inv i).2)
 (round:∀i,bU (dM w0 (SV ct)) (vj (oQ ct lv) (ot ct) un (lv,nb) bi body (inv i).1 (inv i).2 λx e h=>.ret (x,e,h)) λr=>match r.1 with|.normal=>∃i',lM w0 nb r.2.1 r.2.2 (inv i').1 (inv i').2/\μ i'<μ i|x=>Ag x r.2.1 r.2.2 none):dM w0 (SV ct) (lv,nb) (.s body) e h none Ag :=
 plR (fr:=(lv,nb)) (qn w0 ct hd lv) (qD w0 ct _ lv) Ru inv μ h0 round
theorem ai2 {ct:bo} {w0:World} (hd:qQ ct=true) {lv nb:Nat} {un:l7} {body:jB} {rd:RD} {e:bT} {h:List AD} {g:Option Ex} {Ag:Ex->bT->List AD->Option Ex->Prop} (bi bi':Nat)
 (Ru:Type) (inv:Ru->bT×List AD×Option Ex) (μ:Ru->Nat) (h0:∃i,g=(inv i).2.2/\lM w0 nb e h (inv i).1 (inv i).2.1)
 (round:∀i,bU (dM w0 (SV ct)) (oE (oQ ct lv) (ot ct) un (lv,nb) rd (JK (oQ ct lv) (ot ct) un lv bi' rd) bi body (inv i).1 (inv i).2.1 (inv i).2.2 λx e h g=>.ret (x,e,h,g)) λr=>match r.1 with|.normal=>∃i',r.2.2.2=(inv i').2.2/\lM w0 nb r.2.1 r.2.2.1 (inv i').1 (inv i').2.1/\μ i'<μ i|x=>Ag x r.2.1 r.2.2.1 r.2.2.2):dM w0 (SV ct) (lv,nb) (.i body rd) e h g Ag :=
 hs4 (fr:=(lv,nb)) (qn w0 ct hd lv) (qD w0 ct _ lv) Ru inv μ h0 round
def iI (P:Program) (rec:TypeId->Option (List Ty)):List Field->Nat->Option (List Ty×Nat)
 |[],off=>some ([],off)
 |f::l,off=>match rec f.type,iI P rec l (off+P.cellsOf f.type) with
   |some ts,some (us,n)=>if f.offset=off/\ts.length=P.cellsOf f.type then some (ts++us,n) else none
   |_,_=>none
def kW (P:Program):Nat->TypeId->Option (List Ty)
 |0,_=>none
 |fu+1,t=>match P.underlying t with
   |some .bool=>some [.bool]|some (.int k)=>some [.int k]|some .string=>some [.str]
   |some (.slice e)=>match kW P fu e with
     |some ts=>if ts.length=P.cellsOf e then some [.sl ts] else none
     |none=>none
   |some (.struct fs)=>match iI P (kW P fu) fs.toList 0 with
     |some (ts,n)=>if n=P.cellsOf t then some ts else none
     |none=>none
   |some (.array n e)=>match kW P fu e with
     |some ts=>if ts.length=P.cellsOf e/\P.cellsOf t=n*P.cellsOf e then some (List.replicate n ts).flatten else none
     |none=>none
   |_=>none
def rgI:IntKind->Int->Prop
 |.u8,n=>0<=n/\n<=255|_,_=>True
theorem hev {k:IntKind} {n:Int} (h:(Lit.int k n).wf=true):rgI k n:=by have M:(decide (k.min<=n)&&decide (n<=k.max))=true:=h;rw[Ae,DJ,DJ]at M;cases k<;>first|trivial|exact⟨M.1,M.2⟩
mutual
def zV:Ty->V->Prop
 |.int k,v=>rgI k (iv v)|.str,v=>(sv v).size<=9223372036854775807|.agg ts,v=>iN ts (eD v)|.sl ts,v=>∀i,i<aw v->iN ts (bz v i)|_,_=>True
def iN:List Ty->List V->Prop
 |[],_=>True|t::ts,vs=>zV t (av vs)/\iN ts (I vs)
end
mutual
theorem fzb9:∀ (t:Ty) (v:V),zV t v->zV t (dD t v)
 |.int k,v,h=>by simp[dD,zV,iv]at h ⊢;exact h
 |.bool,_,_=>trivial|.str,v,h=>by simp[dD,zV,sv]at h ⊢;exact h
 |.agg ts,v,h=>by simp[dD,zV,eD]at h ⊢;exact j7 ts _ h
 |.sl ts,v,h=>by simp[dD,zV,aw,bz]at h ⊢;exact λi hi=>j7 ts _ (h i hi)
 |.fn ..,_,_=>trivial|.pd _,_,_=>trivial
theorem j7:∀ (ts:List Ty) (vs:List V),iN ts vs->iN ts (ap ts vs)
 |[],_,_=>trivial|t::ts,vs,h=>by simp[iN,ap,av,I]at h ⊢;exact⟨fzb9 t _ h.1,j7 ts _ h.2⟩
end
section
variable {w:World}
theorem og:∀ {ts us:List Ty} {vs xs:List V},bQ ts vs->iN ts vs->iN us xs->iN (ts++us) (vs++xs)
 |[],_,_,_,h,_,k=>by simp[bQ]at h;subst h;simpa using k
 |t::ts,us,vs,xs,h,hz,k=>by simp[bQ]at h;rw[h.1];simp[iN]at hz;simp[J0,iN,av,I];exact⟨hz.1,og h.2.2 hz.2 k⟩
theorem m6:∀ {ts us:List Ty} {vs xs:List V},bQ ts vs->bQ us xs->bQ (ts++us) (vs++xs)
 |[],_,_,_,h,k=>by simp[bQ]at h;subst h;simpa using k
 |t::ts,us,vs,xs,h,k=>by simp[bQ]at h;rw[h.1];simp only[J0,bQ,av,I];exact⟨trivial,h.2.1,m6 h.2.2 k⟩
theorem kY {w:World} {a:Addr}:∀ (n i:Nat) (cs:List Value),(List.range' i n).mapM (λj=>w.cell? (a.add j))=some cs->gT w a i n=some (cs.map bV):=by
 intro n;induction n with
 |zero=>intro i cs h;simp at h;subst h;rfl
 |succ n ih=>
   intro i cs h;simp[ID,J6]at h;cases hc:w.cell? (a.add i) with
   |none=>simp[hc]at h
   |some v=>
     cases hr:(List.range' (i+1) n).mapM (λj=>w.cell? (a.add j)) with
     |none=>simp[hc,hr]at h
     |some l=>simp[hc,hr]at h;subst h;simp[gT,hc,ih (i+1) l hr]
theorem ig4 {a:Addr} {n c esz:Nat} {ts:List Ty} (hn:n<=c) (hc:c<=maxLen) (hcell:ts.all cD=true)
 (h:∀i,i<n->∃cs:List Value,gT w (a.add (i*esz)) 0 esz=some (cs.map bV)/\∃vs,bK w [] Nu.nil vs (cs.map bV)/\(bQ ts vs/\iN ts vs)/\vs.all V.fc=true) :
 ∃v,vr w [] Nu.nil v (.slice (some (.g a)) n c)/\(dG (.sl ts) v/\zV (.sl ts) v)/\v.fc=true:=by
 classical
 refine⟨.sl n λi=>if hi:i<n then(Classical.choose (Classical.choose_spec (h i hi)).2) else [],?_,?_,rfl⟩
 ·simp only[vr]
  refine⟨some (.g a),c,esz,rfl,hn,by unfold maxLen at hc;omega,trivial,λi hi=>?_⟩;have M:=Classical.choose_spec (h i hi);have Q:=Classical.choose_spec M.2;refine⟨.g a,(Classical.choose (h i hi)).map bV,rfl,?_,?_,?_⟩
  ·simp only[js.add,lds];exact M.1
  ·simp only[hi,dite_true];exact Q.1
  ·simp only[hi,dite_true];exact Q.2.2
 ·simp only [dG,zV,aw,bz,Mh]
  refine⟨⟨.inl rfl,hcell,λi hi=>?_⟩,λi hi=>?_⟩
  ·simp only[hi,dite_true];exact(Classical.choose_spec (Classical.choose_spec (h i hi)).2).2.1.1
  ·simp only[hi,dite_true];exact(Classical.choose_spec (Classical.choose_spec (h i hi)).2).2.1.2
end
theorem hj':∀ {ts:List Ty} {vs:List V},bQ ts vs->ts.all cD=true->vs.all V.fc=true
 |[],vs,h,_=>by simp[bQ]at h;subst h;rfl
 |t::ts,vs,h,ho=>by
   simp[bQ]at h;simp only[Dj,Ae]at ho;rw[h.1];simp only[Dj,Ae];refine⟨?_,hj' h.2.2 ho.2⟩;have M:=h.2.1;cases t<;>simp[dG]at M
   case int=>rw[M];rfl
   case bool=>rcases M with M|M<;>(rw[M];rfl)
   case str=>rw[M];rfl
   case sl=>rcases M.1 with h0|h0<;>(rw[h0];rfl)
   all_goals simp[cD]at ho
section
variable {P:Program}
theorem hh1 {rec:TypeId->Option (List Ty)} (hr:∀ t ts,rec t=some ts->ts.all cD=true):∀ {fs:List Field} {off n:Nat} {ts:List Ty},iI P rec fs off=some (ts,n)->ts.all cD=true
 |[],off,n,ts,h=>by simp[iI]at h;rw[h.1];rfl
 |f::l,off,n,ts,h=>by
   simp[iI]at h;split at h
   ·rename_i us vs m M Q
    split at h
    ·cases h;rw[List.all_append,hr _ _ M,hh1 hr Q];rfl
    ·cases h
   ·cases h
theorem jY:∀ {fu:Nat} {t:TypeId} {ts:List Ty},kW P fu t=some ts->ts.all cD=true
 |0,_,_,h=>by cases h
 |fu+1,t,ts,h=>by
   simp[kW]at h;split at h
   ·cases h;rfl
   ·cases h;rfl
   ·cases h;rfl
   ·split at h
    ·split at h
     ·cases h;rfl
     ·cases h
    ·cases h
   ·split at h
    ·rename_i us n hf
     split at h
     ·cases h;exact hh1 (λt ts=>jY (fu:=fu)) hf
     ·cases h
    ·cases h
   ·split at h
    ·rename_i us hu
     split at h
     ·cases h
      rw[IE];intro x hx
      let ⟨l,hl,hx⟩:=List.mem_flatten.1 hx
      rw[(List.mem_replicate.1 hl).2]at hx;exact List.all_eq_true.1 (jY hu) x hx
     ·cases h
    ·cases h
   ·cases h
variable {Pu:Type} {enc:TypeId×Value->Pu} {w:World} {base:Nat} {spare:Nat->Bool} {held:Bool}
theorem hkb {rec:TypeId->Option (List Ty)} {fuel:Nat} (hr:∀ t ts cs d ps,rec t=some ts->DataW.trod enc P w base spare held fuel t cs=some (d,ps)->∃ vs,bK w [] Nu.nil vs (cs.map bV)/\bQ ts vs/\iN ts vs) (cs:List Value) :
 ∀{fs:List Field} {off n:Nat} {ts:List Ty},iI P rec fs off=some (ts,n)->(∀f∈fs,∃x,DataW.trod enc P w base spare held fuel f.type ((cs.drop f.offset).take (P.cellsOf f.type))=some x)->cs.length=n ->
 ∃vs,bK w [] Nu.nil vs ((cs.drop off).map bV)/\bQ ts vs/\iN ts vs
 |[],off,n,ts,h,_,hl=>by simp[iI]at h;obtain⟨rfl,rfl⟩:=h;exact⟨[],by rw[List.drop_eq_nil_of_le K];simp[bK],by simp[bQ],trivial⟩
 |f::l,off,n,ts,h,hx,hl=>by
   simp[iI]at h;split at h
   ·rename_i us vs m M Q
    split at h
    ·rename_i hc
     cases h
     let ⟨rfl,hlen⟩:=hc
     let ⟨⟨d,ps⟩,ha⟩:=hx f Eh
     let ⟨v1,g1,g2,z1⟩:=hr _ _ _ _ _ M ha
     let ⟨v2,g3,g4,z2⟩:=hkb hr cs Q (λg hg=>hx g (Do _ hg)) hl
     refine⟨v1++v2,?_,m6 g2 g4,og g2 z1 z2⟩;have e:cs.drop f.offset=(cs.drop f.offset).take (P.cellsOf f.type)++cs.drop (f.offset+P.cellsOf f.type):=by rw[← FA];exact(Ko _ _).symm
     rw[e,List.map_append];exact lY g1 g3
    ·cases h
   ·cases h
theorem hp0 {fuel k:Nat} {e:TypeId} {us:List Ty} (hr:∀ cs d ps,DataW.trod enc P w base spare held fuel e cs=some (d,ps)->∃ vs,bK w [] Nu.nil vs (cs.map bV)/\bQ us vs/\iN us vs) (cs:List Value) :
 ∀(n m:Nat),cs.length=(m+n)*k->(∀i,m<=i->i<m+n->∃x,DataW.trod enc P w base spare held fuel e ((cs.drop (i*k)).take k)=some x)->∃vs,bK w [] Nu.nil vs ((cs.drop (m*k)).map bV)/\bQ (List.replicate n us).flatten vs/\iN (List.replicate n us).flatten vs:=by
 intro n;induction n with
 |zero=>intro m hl _;exact⟨[],by rw[List.drop_eq_nil_of_le (by simp at hl;omega)];simp[bK],by simp[bQ],trivial⟩
 |succ n ih=>
   intro m hl h
   let ⟨x,hx⟩:=h m (Ah _) K
   let ⟨d,ps⟩:=x
   let ⟨v1,g1,g2,z1⟩:=hr _ _ _ hx
   let ⟨v2,g3,g4,z2⟩:=ih (m+1) (by rw[hl];congr 1;omega) (λi M Q=>h i K K)
   refine⟨v1++v2,?_,by rw[IB,Jn];exact m6 g2 g4,by rw[IB,Jn];exact og g2 z1 z2⟩;have e:cs.drop (m*k)=(cs.drop (m*k)).take k++cs.drop ((m+1)*k):=by rw[DO,← FA];exact(Ko _ _).symm
   rw[e,List.map_append];exact lY g1 g3
theorem h24:∀ (fuel fu:Nat) (t:TypeId) (ts:List Ty) (cs:List Value) (d:DataW Pu) (ps:List MemPlace),kW P fu t=some ts->DataW.trod enc P w base spare held fuel t cs=some (d,ps)->∃ vs,bK w [] Nu.nil vs (cs.map bV)/\bQ ts vs/\iN ts vs:=by
 intro fuel;induction fuel with
 |zero=>intro fu t ts cs d ps _ h;cases h
 |succ fuel ih=>
   intro fu t ts cs d ps ht h;cases fu with
   |zero=>cases ht
   |succ fu=>
     have Sk:=jY ht;simp[kW]at ht;split at ht
     ·rename_i hu;cases ht;obtain⟨b,rfl,_⟩:=DataW.trod_bool hu h;exact⟨[.bool b],by simp[bK,vr,bV],by simp[bQ,dG,av,I,bv],trivial,trivial⟩
     ·rename_i k hu;cases ht;obtain⟨n,rfl,_,tC⟩:=DataW.trod_int hu h;exact⟨[.int k n],by simp[bK,vr,bV],by simp[bQ,dG,av,I,iv],hev tC,trivial⟩
     ·rename_i hu;cases ht;obtain⟨b,rfl,_,hb⟩:=DataW.trod_string hu h;exact⟨[.str b],by simp[bK,vr,bV],by simp[bQ,dG,av,I,sv],(show b.size<=9223372036854775807 by unfold maxLen at hb;omega),trivial⟩
     ·rename_i e hu
      split at ht
      ·rename_i us Sl
       split at ht
       ·rename_i hlen
        cases ht;have hcell:=jY Sl;rcases DataW.trod_slice hu h with ⟨rfl,_⟩|⟨a,len,cap,elems,rest,n,hn,rfl,_,_,h3,h4,h5,h6,_⟩
        ·exact⟨[.sl 0 λ_=>[]],by simp only[DX,Ft,bV,bK,vr];exact⟨_,_,rfl,⟨none,0,0,rfl,Ah _,K,trivial,λi hi=>by omega⟩,rfl⟩,by simp only[bQ,dG,av,I,aw,Mh];exact⟨trivial,⟨.inl rfl,hcell,λi hi=>by omega⟩,trivial⟩,(λi hi=>by simp[aw,av]at hi),trivial⟩
        ·cases hn
         let ⟨v,g1,g2,_⟩:=ig4 (w:=w) (a:=a) (n:=len) (c:=cap) (esz:=P.cellsOf e) (ts:=us) h3 h4 hcell (λi hi=>by
          have h7:=h6 i hi;rw[Ds K]at h7;cases Ue:w.cells? base (a.add (i*P.cellsOf e)) (P.cellsOf e) with
          |none=>rw[Ue]at h7;cases h7
          |some cs'=>
            rw[Ue]at h7
            let ⟨vs,g1,g2,z2⟩:=ih fu e us cs' elems[i].1 elems[i].2 Sl h7
            unfold World.cells? at Ue;split at Ue
            ·rw[Kl]at Ue;exact⟨cs',kY _ 0 cs' Ue,vs,g1,⟨g2,z2⟩,hj' g2 hcell⟩
            ·cases Ue)
         exact⟨[v],by simp only[DX,Ft,bV,bK];exact⟨_,_,rfl,g1,rfl⟩,by simp only[bQ,av,I];exact⟨trivial,g2.1,trivial⟩,g2.2,trivial⟩
       ·cases ht
      ·cases ht
     ·rename_i fs hu
      split at ht
      ·rename_i us n hf
       split at ht
       ·rename_i hn
        cases ht
        let ⟨xs,m,hm,_,h3,h4,h5⟩:=DataW.trod_struct hu h
        cases hm;have:=hkb (off:=0) (λt ts cs d ps=>ih fu t ts cs d ps) cs hf (λf Zk=>by obtain⟨i,hi,rfl⟩:=List.getElem_of_mem Zk;simp at hi;have h6:=h5 i fs[i] (by simp[hi]);rw[Ds K]at h6;exact⟨_,by simpa using h6⟩) (by rw[h3,hn]);simpa using this
       ·cases ht
      ·cases ht
     ·rename_i n e hu
      split at ht
      ·rename_i us Sl
       split at ht
       ·rename_i hc
        cases ht
        let ⟨xs,m,hm,_,h3,h4,h5⟩:=DataW.trod_array hu h
        cases hm;have:=hp0 (k:=P.cellsOf e) (λcs d ps=>ih fu e us cs d ps Sl) cs n 0 (by rw[h3,hc.2];simp) (λi _ hi=>by have h6:=h5 i K;rw[Ds K]at h6;exact⟨_,h6⟩);simpa using this
       ·cases ht
      ·cases ht
     ·cases ht
end
end Go.Dx
namespace Go.Dx
open Go.Sx Go.RowKit
def ru:Value->ak
 |.agg cs=>.agg (cs.toList.map bV)|v=>bV v
theorem ho1 (v:Value):AW (λ_=>none) (ru v) v:=by
 unfold ru;split
 ·rename_i cs;simp only[AW];exact⟨cs,rfl,cz _ _⟩
 ·exact cL _ _
theorem hjf:∀ vs:List Value,aE (λ_=>none) (vs.map ru) vs
 |[]=>by simp[aE]
 |v::vs=>by simp only[DX,aE];exact⟨_,_,rfl,ho1 v,hjf vs⟩
def Od (P:Program) (fu:Nat) (t:TypeId):Option Ty:=match P.underlying t with|some (.struct _)=>(kW P fu t).map .agg|some (.array _ _)=>(kW P fu t).map .agg|some (.int k)=>some (.int k)|some .bool=>some .bool|_=>none
def argTys (P:Program) (fu:Nat):List TypeId->Option (List Ty)
 |[]=>some []
 |t::ts=>match Od P fu t,argTys P fu ts with|some x,some xs=>some (x::xs)|_,_=>none
section
variable {P:Program} {Pu:Type} {enc:TypeId×Value->Pu} {Q8:World} {base:Nat}
theorem auR {fu:Nat} {t:TypeId} {ty:Ty} {v:Value} {d:DataW Pu} {ps:List MemPlace} {b:Nat} {spare:Nat->Bool} {held:Bool} (ht:Od P fu t=some ty) (hv:Value.okWide P Q8 .any base t v) (h:DataW.Trod enc P Q8 b spare held t v d ps) :
 ∃x,vr Q8 [] Nu.nil x (ru v)/\dG ty x/\zV ty x:=by
 let ⟨fuel,h⟩:=h
 unfold Od at ht;unfold Value.okWide at hv;split at ht
 ·rename_i fs hu
  rw[hu]at hv;obtain⟨cs,rfl,_,_⟩:=hv;simp[Bb]at ht;obtain⟨ts,YC,rfl⟩:=ht
  let ⟨vs,g1,g2,z2⟩:=h24 fuel fu t ts _ d ps YC h
  exact⟨.agg vs,by simp only[ru,vr];exact⟨_,rfl,g1⟩,by simp only[dG,eD];exact⟨trivial,g2⟩,z2⟩
 ·rename_i n e hu
  rw[hu]at hv;obtain⟨cs,rfl,_,_⟩:=hv;simp[Bb]at ht;obtain⟨ts,YC,rfl⟩:=ht
  let ⟨vs,g1,g2,z2⟩:=h24 fuel fu t ts _ d ps YC h
  exact⟨.agg vs,by simp only[ru,vr];exact⟨_,rfl,g1⟩,by simp only[dG,eD];exact⟨trivial,g2⟩,z2⟩
 ·rename_i k hu
  cases ht
  let ⟨n,hc,_,tC⟩:=DataW.trod_int hu h
  have:v=.int k n:=by rw[hu]at hv;unfold Cell.okWide at hv;rw[hu]at hv;cases v<;>simp_all [Value.cells,Cell.ok]
  subst this;exact⟨.int k n,by simp[ru,bV,vr],by simp[dG,iv],hev tC⟩
 ·rename_i hu
  cases ht
  let ⟨n,hc,_⟩:=DataW.trod_bool hu h
  have:v=.bool n:=by rw[hu]at hv;unfold Cell.okWide at hv;rw[hu]at hv;cases v<;>simp_all [Value.cells,Cell.ok]
  subst this;exact⟨.bool n,by simp[ru,bV,vr],by simp[dG,bv],trivial⟩
 ·cases ht
theorem hcb {fu:Nat} {b:Nat} {spare:Nat->Bool} {held:Bool}:∀ {ts:List TypeId} {tys:List Ty} {vs:List Value} {ds:List (DataW Pu)} {ps:List MemPlace},argTys P fu ts=some tys->(∀ (j:Nat) t v,ts[j]? = some t->vs[j]? = some v->Value.okWide P Q8 .any base t v)->DataW.TrodAll enc P Q8 b spare held ts vs ds ps ->
 ∃xs,bK Q8 [] Nu.nil xs (vs.map ru)/\bQ tys xs/\iN tys xs
 |[],tys,[],[],ps,ht,_,h=>by simp[argTys,Ak]at ht;subst ht;exact⟨[],by simp[bK],by simp[bQ],trivial⟩
 |t::ts,tys,v::vs,d::ds,ps,ht,hv,h=>by
   simp[argTys]at ht;split at ht
   ·rename_i x xs hx SQ
    cases ht
    let ⟨p,PX,M,Q,_⟩:=h
    let ⟨y,g1,g2,z1⟩:=auR hx (hv 0 t v rfl rfl) M
    let ⟨ys,g3,g4,z2⟩:=hcb SQ (λj t v hj so=>hv (j+1) t v (by simpa using hj) (by simpa using so)) Q
    exact⟨y::ys,by simp only[DX,bK];exact⟨_,_,rfl,g1,g3⟩,by simp only[bQ,av,I];exact⟨trivial,g2,g4⟩,z1,z2⟩
   ·cases ht
 |[],_,_::_,_,_,_,_,h=>by simp[DataW.TrodAll]at h
 |[],_,[],_::_,_,_,_,h=>by simp[DataW.TrodAll]at h
 |_::_,_,[],_,_,_,_,h=>by simp[DataW.TrodAll]at h
 |_::_,_,_::_,[],_,_,_,h=>by simp[DataW.TrodAll]at h
mutual
theorem C86:∀ (t:Ty) (v:V),dD t (dD t v)=dD t v
 |.int k,v=>by simp[dD,iv]
 |.bool,v=>by simp[dD,bv]
 |.str,v=>by simp[dD,sv]
 |.agg ts,v=>by simp[dD,eD];rw[eb ts]
 |.sl ts,v=>by simp[dD,aw,bz];congr 1;funext i;exact eb ts _
 |.fn f xs ys,v=>by simp only[dD,K6,KQ];rw[eb xs,eb ys]
 |.pd ts,v=>by simp[dD,II];rw[eb ts]
theorem eb:∀ (ts:List Ty) (vs:List V),ap ts (ap ts vs)=ap ts vs
 |[],vs=>by simp[ap]
 |t::ts,vs=>by simp only[ap,av,I];rw[C86 t,eb ts]
end
mutual
theorem hx':∀ (t:Ty) (v:V) (k:List V),uR t (dD t v) k=uC t (dD t v) k
 |.int k,v,_=>by simp[dD,uR,uC,iv]
 |.bool,v,_=>by simp[dD,uR,uC,bv]
 |.str,v,_=>by simp[dD,uR,uC,sv]
 |.agg ts,v,k=>by simp[dD,uR,uC,eD];rw[gI ts]
 |.sl ts,v,k=>by have:=C86 (.sl ts) v;simp[dD]at this ⊢;simp[uR,uC,dD,this]
 |.fn f xs ys,v,k=>by simp[dD,uR,uC,K6,KQ];rw[gI ys,gI xs]
 |.pd ts,v,k=>by simp[dD,uR,uC,II];rw[gI ts]
theorem gI:∀ (ts:List Ty) (vs:List V) (k:List V),l9 ts (ap ts vs) k=ma ts (ap ts vs) k
 |[],vs,k=>by simp[ap,l9,ma]
 |t::ts,vs,k=>by simp[ap,l9,ma,av,I];rw[gI ts,hx' t]
end
def lawC (tys:List Ty):aD:=bP tys (iN tys) λ_=>.bool true
theorem law_calls {f:FuncId} {fu b:Nat} {spare:Nat->Bool} {held:Bool} {tys:List Ty} {ts:List TypeId} {args:Array Value} {ds:List (DataW Pu)} {ps:List MemPlace} (hOk:(vP (lawC tys)).Ok P f) (ht:argTys P fu ts=some tys)
 (hv:∀(j:Nat) t v,ts[j]? = some t->args[j]? = some v->Value.okWide P Q8 .any base t v) (hA:DataW.TrodAll enc P Q8 b spare held ts args.toList ds ps) :
 Calls P f args Q8 λe W'=>e=.returned (.bool true)/\Below Q8.heap.size Q8 W':=by
 let ⟨xs,g1,g2,z2⟩:=hcb (vs:=args.toList) ht (λj t v hj so=>hv j t v hj (by simpa using so)) hA
 let ⟨_,hc⟩:=hOk.sound ⟨Q8,Q8,λ_=>False,[]⟩ (λ_=>none) [] Q8 (args.toList.map ru) args.toList (λr _=>r=.bool true) (bk.start Q8) (hjf _)
  ⟨ap tys xs,_,_,_,fZ tys xs _ g2 g1,rfl,⟨gI tys xs [],by rw[(ik tys _ [] [] (gI tys xs [])).1];exact j7 tys _ (j7 tys xs z2)⟩,rfl,rfl⟩
 refine hc.mono λe w' ⟨v,r,m',lh',he,hr,_,hh,hk⟩=>?_;subst hk;simp[AW]at hr;subst hr;exact⟨he,hh.os,hh.tape,hh.output,hh.fsize,hh.old⟩
end
end Go.Dx
