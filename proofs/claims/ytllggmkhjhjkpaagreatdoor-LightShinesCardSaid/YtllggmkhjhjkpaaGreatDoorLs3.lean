/- Part 3 of a proof. No conditions. -/
import Derived.Test.YtllggmkhjhjkpaaGreatDoorLs2
import Derived.KernelRfl
import Derived.OpenShut
import Derived.ChangeArms
import Derived.Below
import Derived.ChangeSame
import Derived.Carry
set_option maxRecDepth 100000
set_option linter.unusedVariables false
set_option linter.unusedSimpArgs false
namespace Go.Dx
open Go.Sx
section
variable {w0:World} {ν ν':Nu} {nV nS XE:Nat} {h h':List AX} {lh lh':List av} {α:Type} {LP:eZ} {X4:α->Prop} {e:bV} {sl:List ah} {ctx:Bool} {Uc:FuncId->bT}
theorem bP {v:V} {K:V->Bj α} (hs:bM LP (ig ctx v K) X4):∃ u,bM LP (K u) X4:=by
 unfold ig at hs;split at hs
 ·simp[bM]at hs;exact⟨_,hs.2⟩
 ·exact⟨_,hs⟩
theorem qW:∀ {xs:List fM} {K:List V->Bj α},bM LP (tc ctx e xs K) X4->∃ us,bM LP (K us) X4
 |[],K,hs=>⟨[],hs⟩
 |x::xs,K,hs=>by
   simp[tc]at hs
   let ⟨u,N⟩:=bP hs
   let ⟨us,Q⟩:=qW N
   exact⟨_,Q⟩
theorem iU {x:Option fM} {K:Option V->Bj α} (hs:bM LP (s8 ctx e x K) X4):∃ u,bM LP (K u) X4:=by
 cases x with
 |none=>exact⟨none,hs⟩|some x=>simp[s8]at hs;let ⟨u,N⟩:=bP hs;exact⟨_,N⟩
theorem fo {p:Prop} [Decidable p] {x:Bj α} (hs:bM LP (wq ctx p x) X4):bM LP x X4:=by simp[wq,bM]at hs;exact hs.2
theorem ed {x:Option V} {At d:Nat} {K:Nat->Bj α} (hs:bM LP (lT ctx x At d K) X4):∃ n,bM LP (K n) X4:=by
 unfold lT at hs;split at hs
 ·exact⟨_,hs⟩
 ·exact⟨_,fo hs⟩
 ·exact hs.elim
theorem abm:∀ {ps:List (Nat×Nat×fM)} {z:List V} {K:List V->Bj α},bM LP (pp ctx e ps z K) X4->∃ cs,bM LP (K cs) X4
 |[],z,K,hs=>⟨_,hs⟩
 |(off,n,x)::ps,z,K,hs=>by
   simp[pp]at hs
   let ⟨v,Q⟩:=bP hs
   cases hf:(v.flat&&Nat.beq (bU v.cells) n) with
   |false=>rw[hf]at Q;exact Q.elim
   |true=>
     rw[hf]at Q;simp[cond_true]at Q;split at Q
     ·exact abm Q
     ·exact Q.elim
theorem Eo {v:V} {x:Bj α} (hs:bM LP (RR ctx h v x) X4):bM LP x X4:=by
 unfold RR at hs;split at hs
 ·split at hs
  ·exact fo hs
  ·exact hs.elim
 ·exact hs
theorem aiI {op:BinOp} {k:IntKind} {x At:Int} {K:V->Bj α} (hs:bM LP (NC ctx op k x At K) X4):∃v,bM LP (K v) X4:=by cases op<;>simp[NC]at hs<;>first|exact hs.elim|exact⟨_,hs⟩|exact⟨_,fo hs⟩
theorem aev {op:BinOp} {x At:V} {K:V->Bj α} (hs:bM LP (As ctx op x At K) X4):∃ v,bM LP (K v) X4:=by
 unfold As at hs;split at hs
 ·split at hs
  ·exact aiI hs
  ·exact hs.elim
 ·split at hs
  ·exact⟨_,hs⟩
  ·exact⟨_,hs⟩
  ·exact⟨_,fo hs⟩
  ·exact hs.elim
 ·exact hs.elim
theorem G5 {cf:CF α} {op:kl} {K:V->List AX->Bj α} (hc0:ctx=false) (Y0:kC op=true) (hs:bM LP (zQ cf ctx none op e h K) X4):∃ v,bM LP (K v h) X4:=by
 cases op<;>simp[kC]at Y0<;>simp[zQ]at hs<;>try (cases Y0;done)
 case mov x=>let ⟨u,N⟩:=bP hs;exact⟨_,N⟩
 case pick c a b=>
  let ⟨u,N⟩:=bP hs
  split at N
  ·let ⟨u,N⟩:=bP N;exact⟨_,N⟩
  ·let ⟨u,N⟩:=bP N;exact⟨_,N⟩
  ·let ⟨u,N⟩:=bP N
   let ⟨u,N⟩:=bP N
   split at N
   ·exact⟨_,N⟩
   ·simp[bM]at N
    rcases Bool.eq_false_or_eq_true (b:=_) with hb|hb
    ·exact⟨_,N.1 hb⟩
    ·exact⟨_,N.2 hb⟩
  ·simp[bM]at N
   exact⟨_,N.2⟩
  ·exact N.elim
 case agg z ps=>let ⟨cs,N⟩:=abm hs;exact⟨_,N⟩
 case ld a=>
  let ⟨u,N⟩:=bP hs
  have N:=Eo N
  split at N
  ·exact⟨_,N⟩
  ·exact N.elim
 case lds n a=>
  let ⟨u,N⟩:=bP hs
  have N:=Eo N
  split at N
  ·exact⟨_,N⟩
  ·exact N.elim
 case nz x=>
  let ⟨u,N⟩:=bP hs
  split at N<;>first|exact⟨_,N⟩|exact N.elim
 case bin op x At=>
  let ⟨u,N⟩:=bP hs
  let ⟨v,Q⟩:=bP N
  exact aev Q
 case eqa neg n x At=>
  let ⟨u,N⟩:=bP hs
  let ⟨v,Q⟩:=bP N
  split at Q
  ·rename_i xs ys
   split at Q
   ·rename_i b hb
    cases hn:Nat.beq (bU xs) n with
    |false=>rw[hn]at Q;exact Q.elim
    |true=>rw[hn]at Q;exact⟨_,Q⟩
   ·exact Q.elim
  ·exact Q.elim
 case eqb neg x At=>
  let ⟨u,N⟩:=bP hs
  let ⟨v,Q⟩:=bP N
  split at Q
  ·exact⟨_,Q⟩
  ·exact Q.elim
 case un op x=>
  let ⟨u,N⟩:=bP hs
  split at N<;>first|exact⟨_,N⟩|exact N.elim
 case conv k x=>
  let ⟨u,N⟩:=bP hs
  split at N<;>first|exact⟨_,N⟩|exact N.elim
 case mkf f xs ys=>
  split at hs
  ·let ⟨us,g1⟩:=qW hs
   let ⟨vs,g2⟩:=qW g1
   exact⟨_,g2⟩
  ·exact hs.elim
 case fa off x=>
  let ⟨u,N⟩:=bP hs
  split at N
  ·exact⟨_,N⟩
  ·exact⟨_,N⟩
  ·split at N
   ·exact⟨_,N⟩
   ·exact N.elim
  ·exact N.elim
 case fld off n x=>
  let ⟨u,N⟩:=bP hs
  split at N
  ·split at N
   ·split at N
    ·exact⟨_,N⟩
    ·exact N.elim
   ·split at N
    ·exact⟨_,N⟩
    ·exact N.elim
  ·exact N.elim
 case iaA n esz x ix=>
  let ⟨u,N⟩:=bP hs
  let ⟨v,Q⟩:=bP N
  split at Q
  ·exact⟨_,fo Q⟩
  ·exact⟨_,fo Q⟩
  ·split at Q
   ·exact⟨_,fo Q⟩
   ·exact Q.elim
  ·exact Q.elim
 case iaS esz x ix=>
  let ⟨u,N⟩:=bP hs
  let ⟨v,Q⟩:=bP N
  split at Q
  ·rename_i n f _ i
   cases hn:Nat.beq (bU (f i.toNat)) esz with
   |false=>rw[hn]at Q;exact Q.elim
   |true=>rw[hn]at Q;exact⟨_,fo Q⟩
  ·exact⟨_,fo Q⟩
  ·split at Q
   ·rename_i ez n' f ty hk
    cases hn:Nat.beq ez esz with
    |false=>rw[hn]at Q;exact Q.elim
    |true=>rw[hn]at Q;exact⟨_,fo Q⟩
   ·exact Q.elim
  ·split at Q
   ·rename_i ez n' f ty hk
    cases hn:Nat.beq ez esz with
    |false=>rw[hn]at Q;exact Q.elim
    |true=>rw[hn]at Q;exact⟨_,fo Q⟩
   ·exact Q.elim
  ·exact⟨_,fo Q⟩
  ·exact Q.elim
 case ixA n esz sz x ix=>
  let ⟨u,N⟩:=bP hs
  let ⟨v,Q⟩:=bP N
  split at Q
  ·split at Q
   ·split at Q
    ·exact⟨_,fo Q⟩
    ·exact Q.elim
   ·split at Q
    ·exact⟨_,fo Q⟩
    ·exact Q.elim
  ·exact Q.elim
 case ixS x ix=>
  let ⟨u,N⟩:=bP hs
  let ⟨v,Q⟩:=bP N
  split at Q
  ·exact⟨_,fo Q⟩
  ·exact Q.elim
 case len x=>
  let ⟨u,N⟩:=bP hs
  split at N<;>first|exact⟨_,N λe=>by rw[hc0]at e;cases e⟩|exact⟨_,N⟩|exact N.elim
 case lenT x=>
  let ⟨u,N⟩:=bP hs
  split at N<;>first|exact⟨_,N⟩|exact N.elim
 case lenA n=>exact⟨_,hs⟩
 case mm b x xs=>
  let ⟨u,N⟩:=bP hs
  let ⟨us,Q⟩:=qW N
  split at Q
  ·exact⟨_,Q⟩
  ·exact Q.elim
 case ext x i=>
  let ⟨u,N⟩:=bP hs
  split at N
  ·split at N
   ·exact⟨_,N⟩
   ·exact N.elim
  ·exact N.elim
 case slS esz x lo hi mx=>
  let ⟨u,N⟩:=bP hs
  let ⟨lo',Q⟩:=iU N
  let ⟨YC,h3⟩:=iU Q
  let ⟨mx',h4⟩:=iU h3
  split at h4
  ·rename_i n f
   split at h4
   ·cases hz:Nat.beq (bU (f 0)) esz with
    |false=>rw[hz]at h4;exact h4.elim
    |true=>
      rw[hz]at h4
      simp[cond_true]at h4
      let ⟨_,h5⟩:=ed h4
      let ⟨_,h6⟩:=ed h5
      exact⟨_,h6⟩
   ·exact h4.elim
  ·split at h4
   ·let ⟨_,h5⟩:=ed h4
    exact⟨_,h5⟩
   ·split at h4
    ·rename_i ez n' f ty hk
     cases hn:Nat.beq ez esz with
     |false=>rw[hn]at h4;exact h4.elim
     |true=>
       rw[hn]at h4
       simp[cond_true]at h4
       let ⟨_,h5⟩:=ed h4
       let ⟨_,h6⟩:=ed h5
       exact⟨_,h6⟩
    ·exact h4.elim
   ·exact h4.elim
  ·let ⟨_,h5⟩:=ed h4
   let ⟨_,h6⟩:=ed h5
   let ⟨_,h7⟩:=ed h6
   exact⟨_,h7⟩
  ·split at h4
   ·let ⟨_,h5⟩:=ed h4
    let ⟨_,h6⟩:=ed h5
    exact⟨_,h6⟩
   ·exact h4.elim
  ·exact h4.elim
 case isn neg x=>
  let ⟨u,N⟩:=bP hs
  split at N
  ·exact⟨_,N⟩
  ·exact⟨_,N⟩
  ·exact⟨_,N.2⟩
  ·exact⟨_,N.2⟩
  ·exact N.elim
 case slA n esz x lo hi mx=>
  let ⟨u,N⟩:=bP hs
  let ⟨lo',Q⟩:=iU N
  let ⟨YC,h3⟩:=iU Q
  let ⟨mx',h4⟩:=iU h3
  split at h4
  ·let ⟨_,h5⟩:=ed h4
   let ⟨_,h6⟩:=ed h5
   let ⟨_,h7⟩:=ed h6
   exact⟨_,h7⟩
  ·exact h4.elim
 case slT x lo hi=>
  let ⟨u,N⟩:=bP hs
  let ⟨lo',Q⟩:=iU N
  let ⟨YC,h3⟩:=iU Q
  split at h3
  ·let ⟨_,h5⟩:=ed h3
   let ⟨_,h6⟩:=ed h5
   exact⟨_,h6⟩
  ·exact h3.elim
def m5 (XE:Nat):List ia->Bool
 |[]=>true|o::l=>(match o.dst with|some d=>Nat.blt d XE|none=>true)&&m5 XE l
theorem acF {XE:Nat} {o:ia} {l:List ia} (hd:m5 XE (o::l)=true):(∀i,o.dst=some i->i<XE)/\m5 XE l=true:=by simp[m5,DD]at hd;refine⟨λi hi=>?_,hd.2⟩;rw[hi]at hd;exact HS hd.1
theorem cK {l:List ah} {d:Nat} {a:ah} (hd:l.getD d .any=a) (ha:a≠.any):l.set d a=l:=by
 apply Kk;intro i;rw[HM];split
 ·rename_i e;subst e
  split
  ·rename_i XD;simp[List.getD,KO XD]at hd;simp[hd,KO XD]
  ·rename_i XD;simp[List.getD,IP (Nat.le_of_not_lt XD)]at hd;exact(ha hd.symm).elim
 ·rfl
theorem ym {b:Bool} {v:V} {a:ah} (hb:b=true) (y:vr w0 lh ν v a):vr w0 lh ν (.gd b v) a:=by simp[vr];exact⟨λ_=>y,λe=>by rw[hb]at e;cases e⟩
theorem ET {b:Bool} {v:V} {l:List ah} (hb:b=false):vr w0 lh ν (.gd b v) (.tup l):=by simp only[vr];exact⟨(λe=>by rw[hb]at e;cases e),λ_=>⟨l,rfl⟩⟩
theorem yD:vr w0 lh ν (.tup []) (.tup []):=by simp only[vr,bp];exact⟨[],rfl,rfl⟩
theorem td {b want:Bool} (e:b=want):gB b want=true:=by subst e;cases b<;>rfl
theorem wC {b want:Bool} (e:b=!want):gB b want=false:=by subst e;cases want<;>rfl
theorem kf {cf:CF α} (YK:rC w0 Uc LP false cf):∀ (ops:List ia) (e:bV) (h:List AX) (ν:Nu) (sl:List ah) (lh:List av) (K:bV->List AX->Bj α) (KA:List ah->List av->Prop),m5 XE ops=true ->
 gj w0 ν XE e sl->HR w0 ν nV nS h lh->bM LP (gr cf ops e h K) X4->(∀e' h' ν' sl' lh',ν.sub ν'->gj w0 ν' XE e' sl'->HR w0 ν' nV nS h' lh'->bM LP (K e' h') X4->KA sl' lh')->ff w0 Uc ops sl lh KA
 |[],e,h,ν,sl,lh,K,KA,hd,XR,hh,hs,hK=>hK e h ν sl lh (Nu.sub_refl ν) XR hh hs
 |o::rest,e,h,ν,sl,lh,K,KA,hd,XR,hh,hs,hK=>by
   let ⟨Za,ZH⟩:=acF hd
   have go:∀{e0:bV},gj w0 ν XE e0 sl->bM LP (zQ cf true none o.op e0 h λv h=>gr cf rest (ec e0 o.dst v) h K) X4->db w0 Uc sl lh none (λv lh'=>ff w0 Uc rest (eH sl o.dst v) lh' KA) o.op:=by intro e0 Zc hs;refine zq (md:=false) (wn:=[]) Zc hh rfl YK (.inl ⟨rfl,rfl⟩) (λe=>by cases e) hs λv h' ν' a lh' _ _ g1 g2 g3 g4=>?_;exact kf YK rest _ h' ν' _ lh' K KA ZH ((Zc.mono g1).put o.dst Za g3) g2 g4 λe' h' ν'' sl' lh' k1=>hK e' h' ν'' sl' lh' (Nu.sub_trans g1 k1)
   have skip:∀{e0:bV},gj w0 ν XE e0 sl->bM LP (gr cf rest (ec e0 o.dst (.tup [])) h K) X4->ff w0 Uc rest (eH sl o.dst (.tup [])) lh KA:=by intro e0 Zc hs;exact kf YK rest _ h ν _ lh K KA ZH (Zc.put o.dst Za yD) hh hs hK
   have goS:∀ {b:Bool},kC o.op=true->b=true->bM LP (zQ cf b none o.op e h λv _=>gr cf rest (ec e o.dst (.gd b v)) h K) X4->db w0 Uc sl lh none (λv lh'=>ff w0 Uc rest (eH sl o.dst v) lh' KA) o.op:=by
    intro b Y0 hb hs;refine zq (md:=false) (wn:=[]) XR hh hb YK (.inl ⟨rfl,rfl⟩) (λe=>by cases e) hs λv h' ν' a lh' _ X1 g1 g2 g3 g4=>?_
    let ⟨rfl,rfl,rfl⟩:=X1 Y0
    exact kf YK rest _ _ _ _ _ K KA ZH (XR.put o.dst Za (ym hb g3)) g2 g4 hK
   have skipS:∀ {b:Bool},kC o.op=true->b=false->bM LP (zQ cf b none o.op e h λv _=>gr cf rest (ec e o.dst (.gd b v)) h K) X4->ff w0 Uc rest (eH sl o.dst (.tup [])) lh KA:=by
    intro b Y0 hb hs
    let ⟨v,g⟩:=G5 hb Y0 hs
    exact kf YK rest _ h ν _ lh K KA ZH (XR.put o.dst Za (ET hb)) hh g hK
   simp only[gr]at hs;simp only[ff];split at hs
   ·rename_i hg;rw[hg];exact go XR hs
   ·rename_i d want hg
    rw[hg];dsimp only
    have XV:=XR.at' d;split at hs
    ·rename_i b hb
     rw[hb]at XV;simp only[vr]at XV;rw[XV];dsimp only
     split at hs
     ·rename_i he _;subst he;exact⟨λ_=>by rw[cK XV aD];exact go XR hs,λe=>by cases b<;>cases e⟩
     ·rename_i he _;exact⟨λe=>(he e).elim,λe=>by rw[← e,cK XV aD];exact skip XR hs⟩
    ·rename_i l hb
     rw[hb]at XV;simp only[vr]at XV
     let ⟨az,XV,_⟩:=XV
     rw[XV];dsimp only
     rw[cK XV aD];exact skip XR hs
    ·rename_i k n hb;rw[hb]at XV;simp only[vr]at XV;rw[XV];exact skip XR hs
    ·rename_i b hb
     rw[hb]at XV;simp only[vr]at XV;rw[XV];dsimp only
     split at hs
     ·rename_i Y0;exact⟨λe1=>by rw[← e1,cK XV aD];exact goS Y0 (td e1) hs,λe1=>by rw[← e1,cK XV aD];exact skipS Y0 (wC e1) hs⟩
     ·simp only [bM]at hs
      refine⟨λe1=>?_,λe1=>?_⟩
      ·rw[← e1,cK XV aD];exact go (XR.know (by simp only[vr];rw[XV,e1])) (hs.1 (td e1))
      ·rw[← e1,cK XV aD];exact skip (XR.know (by simp only[vr];rw[XV,e1])) (hs.2 (wC e1))
    ·rename_i c v hb
     rw[hb]at XV;simp only[vr]at XV;split at hs
     ·split at hs
      ·have hl:∃ l,sl.getD d .any=.tup l:=by
        cases c with
        |false=>exact XV.2 rfl|true=>have:=XV.1 rfl;simp only[vr]at this;let ⟨l,e,_⟩:=this;exact⟨l,e⟩
       let ⟨l,hl⟩:=hl
       rw[hl];dsimp only
       rw[cK hl aD];exact skip XR hs
      ·exact hs.elim
     ·rename_i b o0
      cases c with
      |false=>
        let ⟨l,hl⟩:=XV.2 rfl
        rw[hl];dsimp only
        rw[cK hl aD];split at hs
        ·rename_i Y0;exact skipS Y0 rfl hs
        ·simp only[bM]at hs;exact skip XR (hs.2 rfl)
      |true=>
        have XV:=mZ (XV.1 rfl) o0;rw[XV];dsimp only
        split at hs
        ·rename_i Y0;exact⟨λe1=>by rw[← e1,cK XV aD];exact goS Y0 (by rw[td e1];rfl) hs,λe1=>by rw[← e1,cK XV aD];exact skipS Y0 (by rw[wC e1];rfl) hs⟩
        ·simp only [bM]at hs
         refine⟨λe1=>?_,λe1=>?_⟩
         ·rw[← e1,cK XV aD];exact go (XR.know (by simp only[vr];rw[XV,e1])) (hs.1 (by rw[td e1];rfl))
         ·rw[← e1,cK XV aD];exact skip XR (hs.2 (by rw[wC e1];rfl))
    ·exact hs.elim
end
theorem iZ {k:Nat}:∀ {l:List Nat},v8 k l=true↔k∈l
 |[]=>by simp[v8]
 |x::l=>by
   simp only[v8,L8];by_cases h:k=x
   ·subst h;simp
   ·have:Nat.beq k x=false:=by
     cases hb:Nat.beq k x with
     |false=>rfl|true=>exact(h (G9 hb)).elim
    rw[this,cond_false,iZ];simp[h]
theorem u9:∀ {l XI:List Nat},Du l XI=true↔∀ k,k∈l->k∈XI
 |[],XI=>by simp[Du]
 |x::l,XI=>by simp[Du,DD,iZ,u9,L8,Qq]
theorem uf:∀ {l XI:List Nat},H3 l XI=true↔∀ k,k∈l->k∉XI
 |[],XI=>by simp[H3]
 |x::l,XI=>by
   simp only[H3,DD,uf,L8,Qq];refine and_congr ?_ Iff.rfl;cases hm:v8 x XI with
   |false=>simp;intro h;rw[iZ.2 h]at hm;cases hm|true=>simp;exact iZ.1 hm
theorem lE {Ws:List (List Nat)} {k:Nat}:∀ {un:List Nat},k∈mN Ws un↔∃ u,u∈un/\k∈dK Ws u
 |[]=>by simp[mN]
 |u::un=>by
   simp only[mN,kL,Q6,lE,L8];constructor
   ·rintro (h|⟨v,N,Q⟩)
    ·exact⟨u,.inl rfl,h⟩
    ·exact⟨v,.inr N,Q⟩
   ·rintro⟨v,rfl|N,Q⟩
    ·exact .inl Q
    ·exact .inr ⟨v,N,Q⟩
theorem C68 (X:List Nat):∀ (h:List AX) (b k:Nat),(ja X h b)[k]? = (h[k]?).map λo=>if b+k∈X then AX.hid else o
 |[],b,k=>by simp[ja]
 |o::h,b,0=>by
   simp only[ja,MM,Hr,M1];cases hm:v8 b X with
   |false=>rw[cond_false,Ck (λh=>by rw[iZ.2 h]at hm;cases hm)]|true=>rw[cond_true,DL (iZ.1 hm)]
 |o::h,b,k+1=>by simp[ja,Jv];rw[C68 X h (b+1) k,show b+1+k=b+(k+1) by omega]
theorem ad1 (X:List Nat) (h:List AX) (k:Nat):(jm X h)[k]? = (h[k]?).map λo=>if k∈X then AX.hid else o:=by
 unfold jm;split
 ·cases h[k]? <;> simp
 ·rw[C68];simp
theorem acl (X:List Nat) (h:List AX):(jm X h).length=h.length:=by
 have gen:∀ (h:List AX) (b:Nat),(ja X h b).length=h.length:=λh=>by
  induction h with
  |nil=>intro b;rfl|cons o h ih=>intro b;simp[ja,ih]
 unfold jm;split
 ·rfl
 ·exact gen h 0
theorem Cvr (XI:List Nat) (l:List AX):∀ (h:List AX) (b k:Nat),(kM XI l h b)[k]? = (h[k]?).map λo=>if b+k∈XI then l.getD (b+k) o else o
 |[],b,k=>by simp[kM]
 |o::h,b,0=>by
   simp only[kM,MM,Hr,M1];cases hm:v8 b XI with
   |false=>rw[cond_false,Ck (λh=>by rw[iZ.2 h]at hm;cases hm)]
   |true=>rw[cond_true,DL (iZ.1 hm),bk];simp only[List.getD];cases l[b]? <;> rfl
 |o::h,b,k+1=>by simp only[kM,Jv];rw[Cvr XI l h (b+1) k,show b+1+k=b+(k+1) by omega]
theorem tY (XI:List Nat) (h l:List AX) (k:Nat):(Ot XI h l)[k]? = (h[k]?).map λo=>if k∈XI then l.getD k o else o:=by unfold Ot;rw[Cvr];simp
theorem air (XI:List Nat) (h l:List AX):(Ot XI h l).length=h.length:=by
 have gen:∀ (h:List AX) (b:Nat),(kM XI l h b).length=h.length:=λh=>by
  induction h with
  |nil=>intro b;rfl|cons o h ih=>intro b;simp[kM,ih]
 exact gen h 0
theorem Rts:∀ (h:List AX) (k:Nat),(undead h)[k]? = (h[k]?).map λo=>match o with|.dead=>AX.hid|o=>o
 |[],k=>by simp[undead]
 |o::h,0=>by cases o<;>rfl
 |o::h,k+1=>by simp[undead,Jv];exact Rts h k
theorem o4:∀ (h:List AX),(undead h).length=h.length
 |[]=>rfl|o::h=>by simp[undead,o4 h]
theorem oh:∀ (n k:Nat),(deads n)[k]? = if k<n then some AX.dead else none
 |0,k=>by simp[deads]
 |n+1,0=>by simp[deads]
 |n+1,k+1=>by simp[deads,oh n k]
theorem nP (X:List Nat) (lh:List av) (k:Nat):(hide X lh)[k]? = (lh[k]?).map λo=>if k∈X then av.hid else o:=by unfold hide;rw[QD]
theorem uk (XI:List Nat) (lh l:List av) (k:Nat):(mix XI lh l)[k]? = (lh[k]?).map λo=>if k∈XI then l.getD k o else o:=by unfold mix;rw[QD]
section
variable {w0:World} {ν ν' ν0:Nu} {nV nS XE:Nat} {h h' h0:List AX} {lh lh' lh0:List av} {α:Type} {LP:eZ} {X4:α->Prop} {e:bV} {sl:List ah} {ctx:Bool} {Uc:FuncId->bT}
theorem HR.undead {a b:Nat} (hh:HR w0 ν a b h lh) (nV nS:Nat):HR w0 ν nV nS (undead h) lh:=by
 have hl:∀ k (o:AX),(Dx.undead h)[k]? = some o->o≠.hid->h[k]? = some o/\o≠.dead:=λk o hk ho=>by
  rw[Rts]at hk;cases hg:h[k]? with
  |none=>rw[hg]at hk;cases hk
  |some o'=>rw[hg]at hk;simp[Hr,H2]at hk;cases o'<;>simp at hk<;>subst hk<;>first|exact(ho rfl).elim|exact⟨rfl,aD⟩
 have hlive:∀ k,bg (Dx.undead h) k->bg h k:=λk hk=>by
  rcases fT hk with ⟨_,_,g⟩|⟨_,_,_,_,g⟩
  ·exact d8 (hl k _ g aD).1
  ·exact gC (hl k _ g aD).1
 refine⟨λk o hk=>?_,λk k' x x' N Q=>hh.inj k k' x x' (hlive k N) (hlive k' Q),λk hk=>hh.dom k (by rw[o4]at hk;exact hk),hh.rng,hh.zl,λk x hk hx=>hh.zn k x (hlive k hk) hx⟩;by_cases ho:o=.hid
 ·subst ho;trivial
 ·let ⟨g1,g2⟩:=hl k o hk ho
  have:=hh.blk k o g1;cases o with
  |dead=>exact(g2 rfl).elim|hid=>trivial|cells cs ty=>exact this|gl esz n f ty=>exact this
theorem HR.deads (hh:HR w0 ν nV nS h lh) (hV:nV=h.length) (hS:nS=lh.length) (m:Nat):HR w0 ν nV nS (h++deads m) (lh++List.replicate m .dead):=by
 subst hV hS;have hl:∀ k,bg (h++Dx.deads m) k->bg h k:=λk hk=>by
  unfold bg eG at *
  rw[bk]at *
  rw[JS]at hk;split at hk
  ·rename_i X1 hq
   split at hq
   ·rw[hq]
   ·rw[oh]at hq;split at hq<;>cases hq
  ·rename_i X1 hq
   split at hq
   ·rw[hq]
   ·rw[oh]at hq;split at hq<;>cases hq
  ·cases hk
 refine⟨λk o hk=>?_,λk k' x x' N Q=>hh.inj k k' x x' (hl k N) (hl k' Q),λk hk=>hh.dom k (by simp at hk;omega),λk x hx=>by have:=hh.rng k x hx;simp;omega,λj az ty hj=>by have X1:=hh.zl j az ty hj;rw[Ht (List.getElem?_eq_some_iff.1 X1).1];exact X1,λk x hk hx=>hh.zn k x (hl k hk) hx⟩;rw[JS]at hk;split at hk
 ·rename_i XD
  have:=hh.blk k o hk;cases o with
  |dead=>let ⟨g1,g2,g3⟩:=this;omega
  |hid=>trivial|cells cs ty=>exact dO (Nu.sub_refl ν) aD (λb az ty' X1 _=>by rw[Ht (List.getElem?_eq_some_iff.1 X1).1];exact X1) this|gl esz n f ty=>exact dO (Nu.sub_refl ν) aD (λb az ty' X1 _=>by rw[Ht (List.getElem?_eq_some_iff.1 X1).1];exact X1) this
 ·rename_i Z1
  rw[oh]at hk;split at hk
  ·rename_i XD;cases hk;refine⟨hh.dom k I,I,?_⟩;rw[KM I,List.getElem?_replicate,DL I]
  ·cases hk
def re (ν0:Nu) (nV nS k:Nat):Option Nat:=if k<nV then(match ν0 k with|some (some x)=>some x.1|_=>none) else some (nS+(k-nV))
structure WR (ν0:Nu) (nV nS:Nat) (h0:List AX) (Ws WsS:List (List Nat)):Prop where
 rel:∀i j,j∈HZ WsS i↔∃k,k∈dK Ws i/\re ν0 nV nS k=some j
 live:∀i k,k∈dK Ws i->k<nV->bg h0 k
structure DI (w0:World) (ν0:Nu) (h0:List AX) (nV nS:Nat) (Ws:List (List Nat)) (rk:Nat->Bool) (cur:Nat) (ν:Nu) (h:List AX) (lh:List av):Prop where
 hr:HR w0 ν nV nS h lh
 old:∀k,k<nV->ν k=ν0 k
 zc:ν.z=ν0.z
 liv:∀k,k<nV->bg h k->bg h0 k
 nw:∀k x,nV<=k->ν k=some (some x)->x.1=nS+(k-nV)∨∃i k0,rk i=true/\i<cur/\k∈dK Ws i/\k0∈dK Ws i/\re ν0 nV nS k0=some x.1
def C9 (Ws:List (List Nat)) (rk:Nat->Bool) (cur:Nat) (Y:List Nat):Prop:=∀i,i<cur->rk i=true->(∀k,k∈dK Ws i->k∉Y)∨∀k,k∈dK Ws i->k∈Y
theorem tD (H0:HR w0 ν0 nV nS h0 lh0) (hS:nS=lh0.length) {k k' j:Nat} (hk:k<nV->bg h0 k) (YP:k'<nV->bg h0 k') (N:re ν0 nV nS k=some j) (Q:re ν0 nV nS k'=some j):k=k':=by
 unfold re at N Q;split at N
 ·rename_i l1
  split at N
  ·rename_i x hx
   have e1:x.1=j:=by simpa using N
   split at Q
   ·rename_i l2
    split at Q
    ·rename_i x' Yr
     have e2:x'.1=j:=by simpa using Q
     exact H0.inj k k' x x' (hk l1) (YP l2) hx Yr (by rw[e1,e2])
    ·cases Q
   ·have e2:nS+(k'-nV)=j:=by simpa using Q
    have:=H0.rng k x hx;omega
  ·cases N
 ·rename_i l1
  have e1:nS+(k-nV)=j:=by simpa using N
  split at Q
  ·split at Q
   ·rename_i x' Yr
    have e2:x'.1=j:=by simpa using Q
    have:=H0.rng k' x' Yr;omega
   ·cases Q
  ·have e2:nS+(k'-nV)=j:=by simpa using Q
   omega
section
variable {Ws WsS:List (List Nat)} {rk:Nat->Bool} {cur:Nat}
theorem DI.nmu_of (hd:DI w0 ν0 h0 nV nS Ws rk cur ν h lh) {k:Nat} {x:Nat×Nat×Nat} (hx:ν k=some (some x)):re ν0 nV nS k=some x.1∨∃ i k0,rk i=true/\i<cur/\k∈dK Ws i/\k0∈dK Ws i/\re ν0 nV nS k0=some x.1:=by
 by_cases hk:k<nV
 ·left;unfold re;rw[DL hk,← hd.old k hk,hx]
 ·rcases hd.nw k x I hx with N|N
  ·left;unfold re;rw[Ck hk,N]
  ·exact .inr N
theorem DI.into (hd:DI w0 ν0 h0 nV nS Ws rk cur ν h lh) (H0:HR w0 ν0 nV nS h0 lh0) (hS:nS=lh0.length) (hw:WR ν0 nV nS h0 Ws WsS) {Y:List Nat} (hY:C9 Ws rk cur Y) (hYw:∀ k,k∈Y->∃ u,k∈dK Ws u)
 {k k':Nat} {x:Nat×Nat×Nat} (hl:bg h k) (hx:ν k=some (some x)) (YP:k'∈Y) (hm:re ν0 nV nS k'=some x.1):k∈Y:=by
 let ⟨u,hu⟩:=hYw k' YP
 rcases hd.nmu_of hx with N|⟨i,k0,g1,g2,g3,g4,g5⟩
 ·have:=tD H0 hS (λXD=>hd.liv k XD hl) (λXD=>hw.live u k' hu XD) N hm;rw[this];exact YP
 ·have:=tD H0 hS (λXD=>hw.live i k0 g4 XD) (λXD=>hw.live u k' hu XD) g5 hm
  subst this;rcases hY i g2 g1 with X1|X1
  ·exact absurd YP (X1 k0 g4)
  ·exact X1 k g3
theorem DI.outof (hd:DI w0 ν0 h0 nV nS Ws rk cur ν h lh) {Y:List Nat} (hY:C9 Ws rk cur Y) {k:Nat} {x:Nat×Nat×Nat} (hx:ν k=some (some x)) (hk:k∈Y):∃ k',k'∈Y/\re ν0 nV nS k'=some x.1:=by
 rcases hd.nmu_of hx with N|⟨i,k0,g1,g2,g3,g4,g5⟩
 ·exact⟨k,hk,N⟩
 ·rcases hY i g2 g1 with X1|X1
  ·exact absurd hk (X1 k g3)
  ·exact⟨k0,X1 k0 g4,g5⟩
theorem Ar (H0:HR w0 ν0 nV nS h0 lh0) (hS:nS=lh0.length) {k k':Nat} (hk:nV<=k) (hm:re ν0 nV nS k'=some (nS+(k-nV))):k'=k:=by
 unfold re at hm;split at hm
 ·split at hm
  ·rename_i x hx
   have:=H0.rng k' x hx;have e1:x.1=nS+(k-nV):=by simpa using hm
   omega
  ·cases hm
 ·have e1:nS+(k'-nV)=nS+(k-nV):=by simpa using hm
  omega
theorem WV (H0:HR w0 ν0 nV nS h0 lh0) (hS:nS=lh0.length) {k j:Nat} (hk:k<nV->bg h0 k) (N:re ν0 nV nS k=some j):isCells ν0.z[j]? = false:=by
 unfold re at N;split at N
 ·rename_i l1
  split at N
  ·rename_i x hx
   have e1:x.1=j:=by simpa using N
   rw[← e1];exact H0.zn k x (hk l1) hx
  ·cases N
 ·have e1:nS+(k-nV)=j:=by simpa using N
  refine Uh H0.zl ?_;rw[IP I];rfl
theorem DI.hide (hd:DI w0 ν0 h0 nV nS Ws rk cur ν h lh) (H0:HR w0 ν0 nV nS h0 lh0) (hS:nS=lh0.length) (hw:WR ν0 nV nS h0 Ws WsS) {X XS:List Nat} (hX:C9 Ws rk cur X) (hXw:∀ k,k∈X->∃ u,k∈dK Ws u)
 (hXS:∀j,j∈XS↔∃k,k∈X/\re ν0 nV nS k=some j):HR w0 ν nV nS (jm X h) (Sx.hide XS lh):=by
 have hl:∀ k (o:AX),(jm X h)[k]? = some o->o≠.hid->h[k]? = some o/\k∉X:=λk o hk ho=>by
  rw[ad1]at hk;cases hg:h[k]? with
  |none=>rw[hg]at hk;cases hk
  |some o'=>
    rw[hg]at hk;simp[Hr,H2]at hk;split at hk
    ·exact(ho hk.symm).elim
    ·rename_i hn;subst hk;exact⟨rfl,hn⟩
 have hlive:∀ k,bg (jm X h) k->bg h k:=λk hk=>by
  rcases fT hk with ⟨_,_,g⟩|⟨_,_,_,_,g⟩
  ·exact d8 (hl k _ g aD).1
  ·exact gC (hl k _ g aD).1
 refine⟨λk o hk=>?_,λk k' x x' N Q=>hd.hr.inj k k' x x' (hlive k N) (hlive k' Q),λk hk=>hd.hr.dom k (by rw[acl]at hk;exact hk),λk x hx=>by have:=hd.hr.rng k x hx;unfold Sx.hide;simpa using this,λj az ty hj=>?_,λk x hk hx=>hd.hr.zn k x (hlive k hk) hx⟩
 case refine_2=>
  rw[nP,hd.hr.zl j az ty hj];simp only[Hr];rw[Ck];intro hm
  let ⟨k',e1,e2⟩:=(hXS _).1 hm
  let ⟨u,hu⟩:=hXw k' e1
  have:=WV H0 hS (λXD=>hw.live u k' hu XD) e2;rw[← hd.zc]at this;exact ls this _ _ hj
 by_cases ho:o=.hid
 ·subst ho;trivial
 ·let ⟨g1,g2⟩:=hl k o hk ho
  have hb:=hd.hr.blk k o g1;by_cases Yz:o=.dead
  ·subst Yz
   let ⟨q1,q2,q3⟩:=hb
   refine⟨q1,q2,?_⟩;rw[nP,q3];simp only[Hr];rw[Ck];intro hm
   let ⟨k',e1,e2⟩:=(hXS _).1 hm
   rw[Ar H0 hS q2 e2]at e1;exact g2 e1
  ·have Yk:bg h k:=by
    unfold bg eG;rw[bk,g1];cases o<;>first|rfl|exact(Yz rfl).elim|exact(ho rfl).elim
   refine dO (Nu.sub_refl ν) Yz (λb az ty q1 q2=>?_) hb
   let ⟨c,ez,q3⟩:=q2
   rw[nP,q1];simp only[Hr];rw[Ck];intro hm
   let ⟨k',e1,e2⟩:=(hXS _).1 hm
   exact g2 (hd.into H0 hS hw hX hXw Yk q3 e1 e2)
theorem DI.mix (hd : DI w0 ν0 h0 nV nS Ws rk cur ν h lh) (H0:HR w0 ν0 nV nS h0 lh0) (hS:nS=lh0.length) (hw:WR ν0 nV nS h0 Ws WsS) {X XS:List Nat} (hX:C9 Ws rk cur X)
 (hW:C9 Ws rk cur (dK Ws cur)) (hdis:∀k,k∈dK Ws cur->k∉X) (hhid:HR w0 ν nV nS (jm X h) (Sx.hide XS lh)) {pl plA:Option Nat} (Yl:∀p,pl=some p->p∈dK Ws cur/\nV<=p/\plA=some (nS+(p-nV))/\rk cur=true) (yac:pl=none->plA=none)
 {N:List AX} {l1:List av} (hsub:ν.sub ν') (hr:HR w0 ν' nV nS N l1) (hm:wK ν ν' (dK Ws cur) pl plA (jm X h) N (Sx.hide XS lh) l1) :
 jC (HZ WsS cur) l1 (Sx.hide XS lh)/\DI w0 ν0 h0 nV nS Ws rk (cur+1) ν' (Ot (dK Ws cur) h N) (mix (HZ WsS cur) lh l1):=by
 have hlenl:l1.length=lh.length:=by rw[hm.len];simp[Sx.hide]
 have hlenh:N.length=h.length:=by rw[hm.hlen,acl]
 have hplS:∀ j,plA=some j->j∈HZ WsS cur:=λj hj=>by
  cases hp:pl with
  |none=>rw[yac hp]at hj;cases hj
  |some p=>
    let ⟨q1,q2,q3,_⟩:=Yl p hp
    rw[q3]at hj;cases hj;exact(hw.rel cur _).2 ⟨p,q1,by unfold re;rw[Ck I]⟩
 have hWS:∀ k x,k∈dK Ws cur->ν k=some (some x)->x.1∈HZ WsS cur:=λk x hk hx=>by
  let ⟨k',e1,e2⟩:=hd.outof hW hx hk
  exact(hw.rel cur _).2 ⟨k',e1,e2⟩
 have hold:∀ k,k<nV->ν' k=ν0 k:=λk hk=>by
  cases y:ν k with
  |some x=>rw[hsub.1 k x y,← hd.old k hk,y]
  |none=>
    rw[← hd.old k hk,y];cases ch:ν' k with
    |none=>rfl
    |some x=>
      rcases hm.nw k x ch with X1|⟨X1,_⟩
      ·rw[y]at X1;cases X1
      ·have:=(Yl k X1).2.1;omega
 have qq:∀ k x,nV<=k->ν' k=some (some x)->x.1=nS+(k-nV)∨∃ i k0,rk i=true/\i<cur+1/\k∈dK Ws i/\k0∈dK Ws i/\re ν0 nV nS k0=some x.1:=λk x hk hx=>by
  rcases hm.nw k _ hx with X1|⟨q1,q2⟩
  ·rcases hd.nw k x hk X1 with g|⟨i,k0,g1,g2,g3⟩
   ·exact .inl g
   ·exact .inr ⟨i,k0,g1,I,g3⟩
  ·let ⟨p1, p2, p3, p4⟩ := Yl k q1
   rcases q2 x rfl with g|⟨k0,z,g1,g2,g3⟩
   ·rw [p3] at g; exact .inl (by have:nS+(k-nV)=x.1:=by simpa using g
                                 omega)
   ·let ⟨k',e1,e2⟩:=hd.outof hW g2 g1
    exact .inr ⟨cur,k',p4,I,p1,e1,by rw[← g3];exact e2⟩
 have hsame:∀ j,j∉HZ WsS cur->l1[j]? = (Sx.hide XS lh)[j]? := λj hj=>hm.chg j (λe=>hj (hplS j e)) (λk x hk hx e=>hj (by rw[← e];exact hWS k x hk hx));refine⟨⟨hm.len,hsame⟩,?_⟩;have hlive:∀ k,bg (Ot (dK Ws cur) h N) k->(k∉dK Ws cur/\bg h k)∨(k∈dK Ws cur/\bg N k):=λk hk=>by
  by_cases bw:k∈dK Ws cur
  ·right
   refine⟨bw,?_⟩;unfold bg eG at *
   rw[bk]at *
   rw[tY]at hk;cases hg:h[k]? with
   |none=>rw[hg]at hk;cases hk
   |some o=>
     rw[hg]at hk;simp[Hr,DL bw,List.getD]at hk;have XD:k<N.length:=by rw[hlenh];exact(List.getElem?_eq_some_iff.1 hg).1
     rw[KO XD]at hk ⊢;exact hk
  ·left
   refine⟨bw,?_⟩;unfold bg eG at *
   rw[bk]at *
   rw[tY]at hk;cases hg:h[k]? with
   |none=>rw[hg]at hk;cases hk|some o=>rw[hg]at hk;simp[Hr,Ck bw]at hk;exact hk
 have hget:∀ k o,(Ot (dK Ws cur) h N)[k]? = some o->(k∉dK Ws cur/\h[k]? = some o)∨(k∈dK Ws cur/\N[k]? = some o):=λk o hk=>by
  rw[tY]at hk;cases hg:h[k]? with
  |none=>rw[hg]at hk;cases hk
  |some o'=>
    rw[hg]at hk;simp only[Hr]at hk;by_cases bw:k∈dK Ws cur
    ·right
     refine⟨bw,?_⟩;have XD:k<N.length:=by rw[hlenh];exact(List.getElem?_eq_some_iff.1 hg).1
     rw[DL bw]at hk;simp only[List.getD,KO XD]at hk ⊢;exact hk
    ·left;rw[Ck bw]at hk;exact⟨bw,hk⟩
 have hmixin:∀ b,b∈HZ WsS cur->(Sx.mix (HZ WsS cur) lh l1)[b]? = l1[b]? := λb hb=>by
  rw[uk];cases hg:lh[b]? with
  |none=>have:=List.getElem?_eq_none_iff.1 hg;rw[IP I];rfl
  |some o=>
    have XD:b<l1.length:=by rw[hlenl];exact(List.getElem?_eq_some_iff.1 hg).1
    simp only[Hr,DL hb,List.getD,KO XD];rfl
 have hmixout:∀b,b∉HZ WsS cur->(Sx.mix (HZ WsS cur) lh l1)[b]? = lh[b]? := λb hb=>by rw[uk];cases hg:lh[b]? <;> simp[hb]
 have hout:∀ k x,k∉dK Ws cur->bg h k->ν k=some (some x)->x.1∉HZ WsS cur:=λk x hk hl hx hmem=>by
  let ⟨k',e1,e2⟩:=(hw.rel cur _).1 hmem
  exact hk (hd.into H0 hS hw hW (λk hk=>⟨cur,hk⟩) hl hx e1 e2)
 have Yu:∀ k x,k∈dK Ws cur->ν' k=some (some x)->x.1∈HZ WsS cur:=λk x hk hx=>by
  rcases hm.nw k _ hx with X1|⟨q1,q2⟩
  ·exact hWS k x hk X1
  ·rcases q2 x rfl with g|⟨k0,z,g1,g2,g3⟩
   ·exact hplS _ g
   ·rw[← g3];exact hWS k0 z g1 g2
 have hν:∀ k,k∉dK Ws cur->ν' k=ν k:=λk hk=>by
  cases y:ν k with
  |some x=>exact hsub.1 k x y
  |none=>
    cases ch:ν' k with
    |none=>rfl
    |some x=>
      rcases hm.nw k x ch with X1|⟨X1,_⟩
      ·rw[y]at X1;cases X1
      ·exact absurd (Yl k X1).1 hk
 refine⟨⟨λk o hk=>?_,λk k' x x' g1 g2 hx Yr he=>?_,λk hk=>?_,λk x hx=>?_,λj az ty hj=>?_,λk x hl hx=>?_⟩,hold,hm.zz.trans hd.zc,λk hk hl=>?_,qq⟩
 ·rcases hget k o hk with ⟨q1,q2⟩|⟨q1,q2⟩
  ·have hb:=hd.hr.blk k o q2
   by_cases ho:o=.hid
   ·subst ho;trivial
   ·by_cases Yz:o=.dead
    ·subst Yz
     let ⟨e1,e2,e3⟩:=hb
     refine⟨by rw[hν k q1];exact e1,e2,?_⟩;rw[hmixout]
     ·exact e3
     ·intro hmem
      let ⟨k',f1,W⟩:=(hw.rel cur _).1 hmem
      rw[Ar H0 hS e2 W]at f1;exact q1 f1
    ·have Yk:bg h k:=by
      unfold bg eG;rw[bk,q2];cases o<;>first|rfl|exact(Yz rfl).elim|exact(ho rfl).elim
     refine dO hsub Yz (λb az ty e1 e2=>?_) hb
     let ⟨c,ez,e3⟩:=e2
     rw[hmixout b (hout k _ q1 Yk e3)];exact e1
  ·have hb:=hr.blk k o q2
   by_cases ho:o=.hid
   ·subst ho;trivial
   ·by_cases Yz:o=.dead
    ·subst Yz
     let ⟨e1,e2,e3⟩:=hb
     refine⟨e1,e2,?_⟩;rw[hmixin]
     ·exact e3
     ·exact(hw.rel cur _).2 ⟨k,q1,by unfold re;rw[Ck I]⟩
    ·refine dO (Nu.sub_refl ν') Yz (λb az ty e1 e2=>?_) hb
     let ⟨c,ez,e3⟩:=e2
     rw[hmixin b (Yu k _ q1 e3)];exact e1
 ·rcases hlive k g1 with ⟨a1,a2⟩|⟨a1,a2⟩<;>rcases hlive k' g2 with ⟨b1,b2⟩|⟨b1,b2⟩
  ·rw[hν k a1]at hx;rw[hν k' b1]at Yr;exact hd.hr.inj k k' x x' a2 b2 hx Yr he
  ·rw[hν k a1]at hx;exact absurd (by rw[he];exact Yu k' x' b1 Yr) (hout k x a1 a2 hx)
  ·rw[hν k' b1]at Yr;exact absurd (by rw[← he];exact Yu k x a1 hx) (hout k' x' b1 b2 Yr)
  ·exact hr.inj k k' x x' a2 b2 hx Yr he
 ·exact hr.dom k (by rw[air]at hk;omega)
 ·have:=hr.rng k x hx;unfold Sx.mix;simp;omega
 ·rw [hm.zz]at hj
  rw[hmixout j λhmem=>?_]
  ·exact hd.hr.zl j az ty hj
  ·let ⟨k',e1,e2⟩:=(hw.rel cur _).1 hmem
   have:=WV H0 hS (λXD=>hw.live cur k' e1 XD) e2;rw[← hd.zc]at this;exact ls this _ _ hj
 ·rcases hlive k hl with ⟨a1,a2⟩|⟨a1,a2⟩
  ·rw[hν k a1]at hx;rw[hm.zz];exact hd.hr.zn k x a2 hx
  ·exact hr.zn k x a2 hx
 ·rcases hlive k hl with ⟨_,a2⟩|⟨_,a2⟩
  ·exact hd.liv k hk a2
  ·rcases hm.liv k a2 with X1|X1
   ·refine hd.liv k hk ?_
    unfold bg eG at *
    rw[bk]at *
    rw[ad1]at X1;cases hg:h[k]? with
    |none=>rw[hg]at X1;cases X1
    |some o=>
      rw[hg]at X1;simp[Hr]at X1;split at X1
      ·rename_i hq
       split at hq
       ·cases hq
       ·cases hq;rfl
      ·rename_i hq
       split at hq
       ·cases hq
       ·cases hq;rfl
      ·cases X1
   ·have:=(Yl k X1).2.1;omega
end
end
section
variable {w0:World} {ν ν' ν0:Nu} {nV nS XE:Nat} {h h' h0:List AX} {lh lh' lh0:List av} {α:Type} {LP:eZ} {X4:α->Prop} {e:bV} {sl:List ah} {ctx:Bool} {Uc:FuncId->bT}
theorem FY {k:Nat} (hl:bg h k):k<h.length:=by rcases fT hl with ⟨_,_,g⟩|⟨_,_,_,_,g⟩<;>exact(List.getElem?_eq_some_iff.1 g).1
theorem Bz (hV:nV=h.length) {v:V} {a:ah} {l:List Nat} (y:vr w0 ν.z ν v a) (hn:jt h v=some l) :
 (∀j,j∈vE a↔∃k,k∈l/\re ν nV nS k=some j)/\∀k,k∈l->k<nV->bg h k:=by
 have one:∀ {k b:Nat} {x:Nat×Nat},bg h k->ν k=some (some (b,x))->∀ j,j∈[b]↔∃ k',k'∈[k]/\re ν nV nS k'=some j:=λ{k b x} hl hk j=>by
  have XD:k<nV:=by rw[hV];exact FY hl
  simp only[List.mem_singleton,exists_eq_left];unfold re;rw[DL XD,hk];simp[eq_comm]
 have lv:∀{k:Nat},bg h k->∀k',k'∈[k]->k'<nV->bg h k':=λhl k' YP _=>by rw[List.mem_singleton.1 YP];exact hl
 cases v<;>simp only[jt]at hn<;>try cases hn
 case pl k off=>
  cases hl:eG h k with
  |false=>rw[hl]at hn;cases hn
  |true=>rw[hl]at hn;cases hn;simp only[vr]at y;obtain⟨b,c,ez,g1,rfl⟩:=y;exact⟨one hl g1,lv hl⟩
 case pe k i j=>
  cases hl:eG h k with
  |false=>rw[hl]at hn;cases hn
  |true=>rw[hl]at hn;cases hn;simp only[vr]at y;obtain⟨b,c,ez,g1,rfl⟩:=y;exact⟨one hl g1,lv hl⟩
 case ss k off n c=>
  cases hl:eG h k with
  |false=>rw[hl]at hn;cases hn
  |true=>rw[hl]at hn;cases hn;simp only[vr]at y;obtain⟨b,c,ez,g1,rfl⟩:=y;exact⟨one hl g1,lv hl⟩
 case gs k n=>
  cases hl:eG h k with
  |false=>rw[hl]at hn;cases hn
  |true=>
    rw[hl]at hn;cases hn;simp only[vr]at y;rcases y with ⟨g1,g2,rfl⟩|⟨b,c,ez,g1,rfl,_⟩
    ·refine⟨λj=>?_,lv hl⟩
     have XD:k<nV:=by rw[hV];exact FY hl
     simp only[vE,Mx,false_iff,not_exists,not_and];intro k' YP;rw[List.mem_singleton.1 YP];unfold re;rw[DL XD,g1];simp
    ·exact⟨one hl g1,lv hl⟩
 case ns=>simp only[vr]at y;subst y;exact⟨λj=>by simp[vE],λk hk=>by cases hk⟩
theorem ako (hh:HR w0 ν nV nS h lh) (hV:nV=h.length) (XR:gj w0 ν XE e sl) {s:Np} {l:List Nat} (hn:EX h e nV s=some l) :
 (∀j,j∈Qw w0 lh sl nS s↔∃k,k∈l/\re ν nV nS k=some j)/\∀k,k∈l->k<nV->bg h k:=by
 cases s with
 |fresh r=>
   simp[EX]at hn;cases hn;refine⟨λj=>?_,λk hk XD=>?_⟩
   ·simp[Qw,List.mem_singleton,exists_eq_left];unfold re;rw[Ck I,show nS+(nV+r-nV)=nS+r by omega];simp[eq_comm]
   ·rw[List.mem_singleton.1 hk]at XD;omega
 |slot s=>exact Bz hV (XR.at' s) hn
 |load s off=>
   have XV:=XR.at' s;simp[EX]at hn;split at hn
   ·rename_i k o hk
    rw[hk]at XV;simp only[vr]at XV
    let ⟨b,c,ez,g1,g2⟩:=XV
    split at hn
    ·rename_i v y
     let ⟨p,x,e1,e2,e3⟩:=CX hh (v:=.pl k (o+off)) (a:=.ptr (some (.l b (o+off)))) (by simp only[vr];exact⟨b,c,ez,g1,rfl⟩) y (λ_ _ _ he=>by cases he)
     cases e1;have:=Bz (nS:=nS) hV e3 hn;simp only[Qw,g2,hU.add,e2];exact this
    ·cases hn
   ·cases hn
theorem abO (hh:HR w0 ν nV nS h lh) (hV:nV=h.length) (XR:gj w0 ν XE e sl):∀ {ss:List Np} {l:List Nat},rW h e nV ss=some l ->
 (∀j,j∈r8 w0 lh sl nS ss↔∃k,k∈l/\re ν nV nS k=some j)/\∀k,k∈l->k<nV->bg h k
 |[],l,hn=>by simp[rW]at hn;cases hn;exact⟨λj=>by simp[r8],λk hk=>by cases hk⟩
 |s::ss,l,hn=>by
   simp[rW]at hn;split at hn
   ·rename_i a b ha hb
    cases hn
    let ⟨g1,g2⟩:=ako hh hV XR ha
    let ⟨g3,g4⟩:=abO hh hV XR hb
    refine⟨λj=>?_,λk hk=>?_⟩
    ·simp [r8,Q6,kL,g1 j,g3 j]
     constructor
     ·rintro (⟨k,N,Q⟩|⟨k,N,Q⟩)
      ·exact⟨k,.inl N,Q⟩
      ·exact⟨k,.inr N,Q⟩
     ·rintro⟨k,N|N,Q⟩
      ·exact .inl ⟨k,N,Q⟩
      ·exact .inr ⟨k,N,Q⟩
    ·rw[kL,Q6]at hk
     rcases hk with hk|hk
     ·exact g2 k hk
     ·exact g4 k hk
   ·cases hn
theorem R81 {h:List AX} {e:bV} {H:Nat}:∀ {ds:List hJ} {Ws:List (List Nat)},r5 h e H ds=some Ws->∀ i,match ds[i]? with|some d=>rW h e H d.ws=some (dK Ws i)|none=>dK Ws i=[]
 |[],Ws,hn,i=>by simp[r5]at hn;cases hn;simp[dK,gk]
 |d::ds,Ws,hn,i=>by
   simp[r5]at hn;split at hn
   ·rename_i a b ha hb
    cases hn;cases i with
    |zero=>simp[dK,gk,ha]|succ i=>simpa[dK,gk] using R81 hb i
   ·cases hn
theorem afc (hh:HR w0 ν nV nS h lh) (hV:nV=h.length) (XR:gj w0 ν XE e sl) {ds:List hJ} {Ws:List (List Nat)} (hn:r5 h e nV ds=some Ws):WR ν nV nS h Ws (kB w0 lh sl nS ds):=by
 have key:∀ i,(∀ j,j∈HZ (kB w0 lh sl nS ds) i↔∃ k,k∈dK Ws i/\re ν nV nS k=some j)/\∀ k,k∈dK Ws i->k<nV->bg h k:=λi=>by
  have N:=R81 hn i;have Q:=nU w0 lh sl nS ds i;unfold HZ;rw[Q];cases hd:ds[i]? with
  |none=>rw[hd]at N;dsimp only at N ⊢;rw[N];exact⟨λj=>by simp,λk hk=>by cases hk⟩|some d=>rw[hd]at N;exact abO hh hV XR N
 exact⟨λi=>(key i).1,λi=>(key i).2⟩
theorem Fj {WsS:List (List Nat)} {un:List Nat} {j:Nat}:j∈D4 WsS un↔∃u,u∈un/\j∈HZ WsS u:=by unfold D4;simp[List.mem_flatMap]
def agU (w0:World) (Uc:FuncId->bT) (LP:eZ) (cp:FuncId->List V->List AX->(V->Bj α)->Bj α):Prop:=∀ (f:FuncId) (vs:List V) (h:List AX) (K:V->Bj α) (X4:α->Prop) (ν:Nu) (nV nS:Nat) (args:List ah) (lh:List av) (KA:ah->List av->Prop),
 bp w0 ν.z ν vs args->HR w0 ν nV nS h lh->bM LP (cp f vs h K) X4->(∀v a,vr w0 ν.z ν v a->bM LP (K v) X4->KA a lh)->Uc f w0 args lh KA
def uJ (w0:World) (Uc:FuncId->bT) (LP:eZ) (cp:CP α):Prop:=agU w0 Uc LP (cp false)/\rC w0 (wu Uc) LP false (λf vs h K=>cp true f vs h λv=>K v h)
theorem uJ.cf {cp:CP α} (hc:uJ w0 Uc LP cp) (md:Bool):rC w0 Uc LP md (λf vs h K=>cp false f vs h λv=>K v h):=λf vs h K X4 ν nV nS args lh KA N Q h3 h4=>
 hc.1 f vs h _ X4 ν nV nS args lh KA N Q h3 λv a y hs=>h4 v h ν a lh (λ_=>⟨rfl,rfl,rfl⟩) (Nu.sub_refl ν) Q y hs
theorem aiC {op:kl} {pl:Option Nat} {KA:ah->List av->Prop} (Y0:kC op=true) (y:db w0 Uc sl lh none KA op):db w0 Uc sl lh pl KA op:=by cases op<;>first|exact y|cases Y0
def y4 (XE:Nat):List hJ->Bool
 |[]=>true|d::l=>(match d.o.dst with|some d=>Nat.blt d XE|none=>true)&&y4 XE l
theorem hjr {XE:Nat} {d:hJ} {l:List hJ} (hd:y4 XE (d::l)=true):(∀i,d.o.dst=some i->i<XE)/\y4 XE l=true:=by simp[y4,DD]at hd;refine⟨λi hi=>?_,hd.2⟩;rw[hi]at hd;exact HS hd.1
theorem uu {Ws:List (List Nat)} {Y:List Nat} {all:List hJ} {j:Nat}:∀ {l:List hJ} {i:Nat},(∀ t,l[t]? = all[i+t]?)->u5 Ws Y l i j=true->∀ i',i<=i'->i'<j->(match all[i']? with|some d=>d.rk.isSome|none=>false)=true ->
 (∀k,k∈dK Ws i'->k∉Y)∨∀k,k∈dK Ws i'->k∈Y
 |[],i,hl,hc,i',N,Q,h3=>by have:=hl (i'-i);rw[show i+(i'-i)=i' by omega]at this;rw[← this]at h3;simp at h3
 |d::l,i,hl,hc,i',N,Q,h3=>by
   simp[u5]at hc;have hb:Nat.blt i j=true:=KW (by omega:i+1<=j);rw[hb]at hc;simp[cond_true,DD]at hc;have h0:=hl 0;simp[MM,M1]at h0;by_cases e1:i'=i
   ·subst e1
    rw[← h0]at h3;dsimp only at h3;cases hr:d.rk with
    |none=>rw[hr]at h3;cases h3
    |some r=>
      have Zk:=hc.1;rw[hr]at Zk;simp[MX]at Zk;rcases Zk with X1|X1
      ·exact .inl (uf.1 X1)
      ·exact .inr (u9.1 X1)
   ·exact uu (λt=>by have:=hl (t+1);rw[Jv]at this;rw[this,show i+(t+1)=i+1+t by omega]) hc.2 i' I Q h3
theorem Bn {Ws:List (List Nat)} {all:List hJ}:∀ {l:List hJ} {j:Nat},(∀ t,l[t]? = all[j+t]?)->wY Ws all l j=true->∀ j' d,j<=j'->all[j']? = some d->u5 Ws (dK Ws j') all 0 j'=true/\u5 Ws (mN Ws d.un) all 0 j'=true
 |[],j,hl,hc,j',d,N,Q=>by have:=hl (j'-j);rw[show j+(j'-j)=j' by omega,Q]at this;simp at this
 |d::l,j,hl,hc,j',d',N,Q=>by
   simp[wY,DD]at hc;have h0:=hl 0;simp[MM,M1]at h0;by_cases e1:j'=j
   ·subst e1;rw[← h0]at Q;cases Q;exact hc.1
   ·exact Bn (λt=>by have:=hl (t+1);rw[Jv]at this;rw[this,show j+(t+1)=j+1+t by omega]) hc.2 j' d' I Q
theorem rL {Ws:List (List Nat)} {all:List hJ}:∀ {l:List hJ} {j:Nat},(∀ t,l[t]? = all[j+t]?)->r6 Ws l j=true->∀ j' d,j<=j'->all[j']? = some d->∀ k,k∈dK Ws j'->k∉mN Ws d.un
 |[],j,hl,hc,j',d,N,Q=>by have:=hl (j'-j);rw[show j+(j'-j)=j' by omega,Q]at this;simp at this
 |d::l,j,hl,hc,j',d',N,Q=>by
   simp[r6,DD]at hc;have h0:=hl 0;simp[MM,M1]at h0;by_cases e1:j'=j
   ·subst e1;rw[← h0]at Q;cases Q;exact uf.1 hc.1
   ·exact rL (λt=>by have:=hl (t+1);rw[Jv]at this;rw[this,show j+(t+1)=j+1+t by omega]) hc.2 j' d' I Q
def QS (ds:List hJ) (i:Nat):Bool:=match ds[i]? with|some d=>d.rk.isSome|none=>false
theorem lF {cp:CP α} (Yh:uJ w0 Uc LP cp) {ds:List hJ} {Ws WsS:List (List Nat)} (H0:HR w0 ν0 nV nS h0 lh0) (hS:nS=lh0.length) (hw:WR ν0 nV nS h0 Ws WsS) (hcons:wY Ws ds ds 0=true) (hall:r6 Ws ds 0=true) :
 ∀(rest:List hJ) (i:Nat) (e:bV) (h:List AX) (ν:Nu) (sl:List ah) (lh:List av) (K:bV->List AX->Bj α) (KA:List ah->List av->Prop),(∀t,rest[t]? = ds[i+t]?)->y4 XE rest=true ->
 DI w0 ν0 h0 nV nS Ws (QS ds) i ν h lh->gj w0 ν XE e sl->bM LP (fv cp Ws nV rest i e h K) X4 ->
 (∀e' h' ν' sl' lh',ν.sub ν'->gj w0 ν' XE e' sl'->HR w0 ν' nV nS h' lh'->bM LP (K e' h') X4->KA sl' lh')->jk w0 Uc WsS nS KA rest i sl lh
 |[],i,e,h,ν,sl,lh,K,KA,hr,hd,Z0,XR,hs,hK=>hK e h ν sl lh (Nu.sub_refl ν) XR Z0.hr hs
 |d::rest,i,e,h,ν,sl,lh,K,KA,hr,hd,Z0,XR,hs,hK=>by
   let ⟨Za,ZH⟩:=hjr hd
   have hdsi:ds[i]? = some d:=by have:=hr 0;simpa using this.symm
   have ca:∀t,rest[t]? = ds[i+1+t]? := λt=>by have:=hr (t+1);rw[Jv]at this;rw[this,show i+(t+1)=i+1+t by omega]
   let ⟨Zk,oB⟩:=Bn (j:=0) (λt=>by simp) hcons i d (Ho _) hdsi
   have hdis:=rL (j:=0) (λt=>by simp) hall i d (Ho _) hdsi;have hCW:C9 Ws (QS ds) i (dK Ws i):=λi' N Q=>uu (i:=0) (λt=>by simp) Zk i' (Ho _) N Q;have hCX:C9 Ws (QS ds) i (mN Ws d.un):=λi' N Q=>uu (i:=0) (λt=>by simp) oB i' (Ho _) N Q;have hXw:∀k,k∈mN Ws d.un->∃u,k∈dK Ws u:=λk hk=>by let ⟨u,_,g⟩:=lE.1 hk;exact⟨u,g⟩
   have hXS:∀ j,j∈D4 WsS d.un↔∃ k,k∈mN Ws d.un/\re ν0 nV nS k=some j:=λj=>by
    rw[Fj];constructor
    ·rintro⟨u,N,Q⟩
     let ⟨k,g1,g2⟩:=(hw.rel u j).1 Q
     exact⟨k,lE.2 ⟨u,N,g1⟩,g2⟩
    ·rintro⟨k,N,Q⟩
     let ⟨u,g1,g2⟩:=lE.1 N
     exact⟨u,g1,(hw.rel u j).2 ⟨k,g2,Q⟩⟩
   have hhid:=Z0.hide H0 hS hw hCX hXw hXS;have hsucc:DI w0 ν0 h0 nV nS Ws (QS ds) (i+1) ν h lh:=⟨Z0.hr,Z0.old,Z0.zc,Z0.liv,λk x N Q=>by
    rcases Z0.nw k x N Q with g|⟨a,b,g1,g2,g3⟩
    ·exact .inl g
    ·exact .inr ⟨a,b,g1,I,g3⟩⟩
   have hmixid:mix (HZ WsS i) lh (hide (D4 WsS d.un) lh)=lh:=by
    apply Kk;intro j;rw[uk];cases hg:lh[j]? with
    |none=>rfl
    |some o=>
      simp only[Hr];by_cases hj:j∈HZ WsS i
      ·rw[DL hj]
       simp only[List.getD,nP,hg,Hr,Q5];rw[Ck];intro hx
       let ⟨k,g1,g2⟩:=(hw.rel i j).1 hj
       let ⟨k',g3,g4⟩:=(hXS j).1 hx
       let ⟨u,_,g5⟩:=lE.1 g3
       have:=tD H0 hS (λXD=>hw.live i k g1 XD) (λXD=>hw.live u k' g5 XD) g2 g4;subst this;exact hdis k g1 g3
      ·rw[Ck hj]
   have run:∀ {e0:bV} {ctx:Bool} {XI:V->V},ctx=true->(∀ v a,vr w0 ν.z ν v a->vr w0 ν.z ν (XI v) a)->kC d.o.op=true->gj w0 ν XE e0 sl ->
    bM LP (zQ (λf vs h K=>cp false f vs h λv=>K v h) ctx none d.o.op e0 (jm (mN Ws d.un) h) λv _=>fv cp Ws nV rest (i+1) (ec e0 d.o.dst (XI v)) h K) X4 ->
    db w0 Uc sl (hide (D4 WsS d.un) lh) (d.rk.map (nS+·)) (λv l=>jC (HZ WsS i) l (hide (D4 WsS d.un) lh)/\jk w0 Uc WsS nS KA rest (i+1) (eH sl d.o.dst v) (mix (HZ WsS i) lh l)) d.o.op:=by
    intro e0 ctx XI hc hWv Y0 Zc hs;refine aiC Y0 (zq (md:=false) (wn:=[]) Zc hhid hc (Yh.cf false) (.inl ⟨rfl,rfl⟩) (λe=>by cases e) hs λv h' ν' a lh' _ X1 g1 g2 g3 g4=>?_);obtain⟨rfl,rfl,rfl⟩:=X1 Y0;refine⟨⟨rfl,λ_ _=>rfl⟩,?_⟩;rw[hmixid];exact lF Yh H0 hS hw hcons hall rest (i+1) _ _ _ _ _ K KA ca ZH hsucc (Zc.put d.o.dst Za (hWv _ _ g3)) g4 hK
   have runM:∀ {e0:bV},gj w0 ν XE e0 sl->bM LP (PV cp Ws nV d i e0 h λv h=>fv cp Ws nV rest (i+1) (ec e0 d.o.dst v) h K) X4 ->
    db w0 Uc sl (hide (D4 WsS d.un) lh) (d.rk.map (nS+·)) (λv l=>jC (HZ WsS i) l (hide (D4 WsS d.un) lh)/\jk w0 Uc WsS nS KA rest (i+1) (eH sl d.o.dst v) (mix (HZ WsS i) lh l)) d.o.op:=by
    intro e0 Zc hs;unfold PV at hs;split at hs
    ·rename_i Y0;exact run (XI:=id) rfl (λ_ _ h=>h) Y0 Zc hs
    ·rename_i Y0
     split at hs
     ·exact hs.elim
     ·rename_i l hl
      cases f0:Du (R5 (d.rk.map (nV+·)) l) (dK Ws i) with
      |false=>rw[f0]at hs;exact hs.elim
      |true=>
        rw[f0]at hs;simp only[cond_true]at hs;have f0:=u9.1 f0;have hlW:∀ k,k∈l->k∈dK Ws i:=λk hk=>f0 k (by unfold R5;split<;>simp[hk]);have hpR:QQ nV nS (d.rk.map (nV+·)) (d.rk.map (nS+·)):=by
         cases hr:d.rk with
         |none=>exact .inl ⟨rfl,rfl⟩|some r=>exact .inr ⟨nV+r,rfl,aD⟩
        refine zq (md:=true) (wn:=dK Ws i) Zc hhid rfl (Yh.cf true) hpR (λ_=>⟨l,hl,hlW⟩) hs λv h' ν' a lh' hm _ g1 g2 g3 g4=>?_
        let ⟨q1,q2⟩:=Z0.mix H0 hS hw hCX hCW hdis hhid (pl:=d.rk.map (nV+·)) (plA:=d.rk.map (nS+·)) (λp hp=>by
         cases hr:d.rk with
         |none=>rw[hr]at hp;cases hp
         |some r=>rw[hr]at hp;simp only[Hr,H2]at hp;subst hp;refine⟨f0 _ (by rw[hr];simp[R5]),I,aD,?_⟩;unfold QS;rw[hdsi];dsimp only;rw[hr];rfl) (λhp=>by
         cases hr:d.rk with
         |none=>rfl|some r=>rw[hr]at hp;cases hp) g1 g2 (hm rfl)
        exact⟨q1,lF Yh H0 hS hw hcons hall rest (i+1) _ _ _ _ _ K KA ca ZH q2 ((Zc.mono g1).put d.o.dst Za g3) g4 λe' h' ν'' sl' lh' k1=>hK e' h' ν'' sl' lh' (Nu.sub_trans g1 k1)⟩
   have skip:∀{e0:bV},gj w0 ν XE e0 sl->bM LP (fv cp Ws nV rest (i+1) (ec e0 d.o.dst (.tup [])) h K) X4->jk w0 Uc WsS nS KA rest (i+1) (eH sl d.o.dst (.tup [])) lh:=by intro e0 Zc hs;exact lF Yh H0 hS hw hcons hall rest (i+1) _ _ _ _ _ K KA ca ZH hsucc (Zc.put d.o.dst Za yD) hs hK
   have skipS:∀ {b:Bool},kC d.o.op=true->b=false->bM LP (zQ (λf vs h K=>cp false f vs h λv=>K v h) b none d.o.op e (jm (mN Ws d.un) h) λv _=>fv cp Ws nV rest (i+1) (ec e d.o.dst (.gd b v)) h K) X4->jk w0 Uc WsS nS KA rest (i+1) (eH sl d.o.dst (.tup [])) lh:=by
    intro b Y0 hb hs
    let ⟨v,g⟩:=G5 hb Y0 hs
    exact lF Yh H0 hS hw hcons hall rest (i+1) _ _ _ _ _ K KA ca ZH hsucc (XR.put d.o.dst Za (ET hb)) g hK
   simp only[fv]at hs;simp only[jk,If,nq];split at hs
   ·rename_i hg;rw[hg];exact runM XR hs
   ·rename_i g want hg
    rw[hg];dsimp only
    have XV:=XR.at' g;split at hs
    ·rename_i b hb
     rw[hb]at XV;simp only[vr]at XV;rw[XV];dsimp only
     split at hs
     ·rename_i he _;subst he;exact⟨λ_=>runM XR hs,λe=>by cases b<;>cases e⟩
     ·rename_i he _;exact⟨λe=>(he e).elim,λe=>skip XR hs⟩
    ·rename_i l hb
     rw[hb]at XV;simp only[vr]at XV
     let ⟨az,XV,_⟩:=XV
     rw[XV];exact skip XR hs
    ·rename_i k n hb;rw[hb]at XV;simp only[vr]at XV;rw[XV];exact skip XR hs
    ·rename_i b hb
     rw[hb]at XV;simp only[vr]at XV;rw[XV];dsimp only
     split at hs
     ·rename_i Y0;exact⟨λe1=>run (td e1) (λ_ _ y=>ym (td e1) y) Y0 XR hs,λe1=>skipS Y0 (wC e1) hs⟩
     ·simp only[bM]at hs;exact⟨λe1=>runM (XR.know (by simp only[vr];rw[XV,e1])) (hs.1 (td e1)),λe1=>skip (XR.know (by simp only[vr];rw[XV,e1])) (hs.2 (wC e1))⟩
    ·rename_i c v hb
     rw[hb]at XV;simp only[vr]at XV;split at hs
     ·split at hs
      ·have hl:∃ l,sl.getD g .any=.tup l:=by
        cases c with
        |false=>exact XV.2 rfl|true=>have:=XV.1 rfl;simp only[vr]at this;let ⟨l,e,_⟩:=this;exact⟨l,e⟩
       let ⟨l,hl⟩:=hl
       rw[hl];exact skip XR hs
      ·exact hs.elim
     ·rename_i b o0
      cases c with
      |false=>
        let ⟨l,hl⟩:=XV.2 rfl
        rw[hl];dsimp only
        split at hs
        ·rename_i Y0;exact skipS Y0 rfl hs
        ·simp only[bM]at hs;exact skip XR (hs.2 rfl)
      |true=>
        have XV:=mZ (XV.1 rfl) o0;rw[XV];dsimp only
        split at hs
        ·rename_i Y0;exact⟨λe1=>run (by rw[td e1];rfl) (λ_ _ y=>ym (by rw[td e1];rfl) y) Y0 XR hs,λe1=>skipS Y0 (by rw[wC e1];rfl) hs⟩
        ·simp only[bM]at hs;exact⟨λe1=>runM (XR.know (by simp only[vr];rw[XV,e1])) (hs.1 (by rw[td e1];rfl)),λe1=>skip XR (hs.2 (by rw[wC e1];rfl))⟩
    ·exact hs.elim
theorem rS {cp:CP α} (Yh:uJ w0 Uc LP cp) {ds:List hJ} {a b:Nat} {K:bV->List AX->Bj α} {KA:List ah->List av->Prop} (hd:y4 XE ds=true) (XR:gj w0 ν XE e sl) (hh:HR w0 ν a b h lh)
 (hs:bM LP (uo cp ds e h K) X4) (hK:∀e' h' ν' sl' lh' nV nS,ν.sub ν'->gj w0 ν' XE e' sl'->HR w0 ν' nV nS h' lh'->bM LP (K e' h') X4->KA sl' lh'):ma w0 Uc ds sl lh KA:=by
 unfold uo at hs;split at hs
 ·exact hs.elim
 ·rename_i Ws hW
  cases hc:(r6 Ws ds 0&&wY Ws ds ds 0) with
  |false=>rw[hc]at hs;exact hs.elim
  |true=>
    rw[hc]at hs;simp[cond_true]at hs;simp[DD]at hc;have hlen:bU h=(undead h).length:=by rw[bS,o4]
    rw[hlen]at hs hW;have H0:=hh.undead (undead h).length lh.length;have hw:=afc H0 rfl XR hW;have x18:=H0.deads rfl rfl (MJ ds);rw[kL]at hs;refine⟨?_,?_⟩
    ·-- the sets are apart there,too
     have gen:∀ (l:List hJ) (j:Nat),(∀ t,l[t]? = ds[j+t]?)->BG (kB w0 lh sl lh.length ds) l j:=by
      intro l;induction l with
      |nil=>intro j _;trivial
      |cons d l ih=>
        intro j hl;have hdj:ds[j]? = some d:=by have:=hl 0;simpa using this.symm
        have hdis:=rL (j:=0) (λt=>by simp) hc.1 j d (Ho _) hdj;refine⟨?_,ih (j+1) λt=>by have:=hl (t+1);rw[Jv]at this;rw[this,show j+(t+1)=j+1+t by omega]⟩;have disj_of:∀ (XU B:List Nat),(∀ k,k∈XU->k∉B)->NW XU B:=by
         intro XU B hAB;induction XU with
         |nil=>trivial
         |cons x XU ihA=>
           refine⟨?_,ihA λk hk=>hAB k (Mw _ hk)⟩;have hx:=hAB x Li;clear ihA hAB;induction B with
           |nil=>trivial|cons At B ihB=>exact⟨λe=>hx (by rw[e];exact Li),ihB λhm=>hx (Mw _ hm)⟩
        refine disj_of _ _ λs ZV Zn=>?_
        let ⟨k,g1,g2⟩:=(hw.rel j s).1 ZV
        let ⟨u,g3,g4⟩:=Fj.1 Zn
        let ⟨k',g5,g6⟩:=(hw.rel u s).1 g4
        have:=tD H0 rfl (λXD=>hw.live j k g1 XD) (λXD=>hw.live u k' g5 XD) g2 g6;subst this;exact hdis k g1 (lE.2 ⟨u,g3,g5⟩)
     exact gen ds 0 λt=>by simp
    ·refine lF Yh H0 rfl hw hc.2 hc.1 ds 0 e _ ν sl _ K KA (λt=>by simp) hd ⟨x18,λ_ _=>rfl,rfl,λk hk hl=>?_,λk x hk hx=>?_⟩ XR hs λe' h' ν' sl' lh'=>hK e' h' ν' sl' lh' _ _
     ·unfold bg eG at *
      rw[bk]at *
      rw[Ht hk]at hl;exact hl
     ·rw[H0.dom k hk]at hx;cases hx
end
def g9 (XE:Nat):List mL->Bool
 |[]=>true|.op o::l=>m5 XE [o]&&g9 XE l|.yld _ d _::l=>(match d with|some d=>Nat.blt d XE|none=>true)&&g9 XE l|.yldG _ _ _ d _::l=>(match d with|some d=>Nat.blt d XE|none=>true)&&g9 XE l
def qJ (XE:Nat):ik->Bool
 |.reg ops=>g9 XE ops|.draw ds=>y4 XE ds|.drawY ds xs=>y4 XE ds&&g9 XE xs|.seq a b=>qJ XE a&&qJ XE b|.cond _ a b=>qJ XE a&&qJ XE b|.block _ b=>qJ XE b|.loop b=>qJ XE b|.scope b=>qJ XE b|_=>true
def zy:List gX->Bool
 |[]=>true|it::l=>qJ it.ntmps it.body&&zy l
def uv (XE:Nat):List Nat->Bool
 |[]=>true|p::l=>Nat.blt p XE&&uv XE l
def so (XE:Nat):OT->Bool
 |.done=>true|.op o r=>m5 XE [o]&&so XE r|.alt a b=>so XE a&&so XE b
def fN (XE:Nat):gt->Bool
 |.reg ops=>m5 XE ops|.draw ds=>y4 XE ds|.allo t=>so XE t|.alloq t=>so XE t|.seq a b=>fN XE a&&fN XE b|.cond _ a b=>fN XE a&&fN XE b|.block _ b=>fN XE b|.loop b=>fN XE b|.scope b=>fN XE b|.range _ ps a b CJ=>uv XE ps&&(fN XE a&&(fN XE b&&zy CJ))|_=>true
def Dv (nb:Nat) (ν ν':Nu):Prop:=(∀k x,k<nb->ν k=some x->ν' k=some x)/\tf ν.z ν'.z
theorem Dv.refl (nb:Nat) (ν:Nu):Dv nb ν ν:=⟨λ_ _ _ h=>h,lk _⟩
theorem Dv.trans {nb:Nat} {a b c:Nu} (h:Dv nb a b) (k:Dv nb b c):Dv nb a c:=⟨λi x hi hx=>k.1 i x hi (h.1 i x hi hx),nQ h.2 k.2⟩
theorem Dv.of {ν ν':Nu} (h:ν.sub ν') (nb:Nat):Dv nb ν ν':=⟨λk x _ hx=>h.1 k x hx,h.2⟩
theorem Dv.sub {ν ν':Nu} {nb:Nat} (h:Dv nb ν ν') (hd:∀ k,nb<=k->ν k=none):ν.sub ν':=⟨λk x hx=>(by
 rcases M3 k nb with hk|hk
 ·exact h.1 k x hk hx
 ·rw[hd k hk]at hx;exact absurd hx aD),h.2⟩
def Ii (w0:World) (nb N0:Nat) (e0:bV) (YU:List ah) (ν:Nu):Prop:=∃ν0:Nu,(∀k,nb<=k->ν0 k=none)/\gj w0 ν0 N0 e0 YU/\ν0.sub ν
theorem Ii.step {w0:World} {nb N0:Nat} {e0:bV} {YU:List ah} {ν ν':Nu} (h:Ii w0 nb N0 e0 YU ν) (hn:Dv nb ν ν'):Ii w0 nb N0 e0 YU ν':=by
 let ⟨ν0,N,Q,h3⟩:=h
 exact⟨ν0,N,Q,Dv.sub ⟨λk x hk hx=>hn.1 k x hk (h3.1 k x hx),nQ h3.2 hn.2⟩ N⟩
theorem Ii.get {w0:World} {nb N0:Nat} {e0:bV} {YU:List ah} {ν:Nu} (h:Ii w0 nb N0 e0 YU ν):gj w0 ν N0 e0 YU:=let ⟨_,_,Q,h3⟩:=h;Q.mono h3
def YA (w0:World) (Uc:FuncId->bT) (ps:List Nat) (asg body:gt) (YU:List ah):YH:=λxs lh K=>xs.length=ps.length/\cm w0 Uc lh.length asg (kA YU ps xs) lh (sZ (λsl lh'=>cm w0 Uc lh.length body sl lh' λx _ lh=>K x lh) λ_ _ _=>False)
abbrev A6:=Nat->FuncId->bT
def dq (w0:World) (Uc:A6):eZ:=λfr b e h g Da=>match b with
 | .s body=>∀ (XE nbS:Nat) (ν:Nu) (nV nS:Nat) (sl:List ah) (lh:List av) (QA:Ex->List ah->List av->Prop),fN XE body=true->gj w0 ν XE e sl->HR w0 ν nV nS h lh ->
   (∀ex e' h' ν' sl' lh' nV' nS',Dv fr.2 ν ν'->gj w0 ν' XE e' sl'->HR w0 ν' nV' nS' h' lh'->Da ex e' h' none->QA ex sl' lh')->cm w0 (Uc fr.1) nbS (.loop body) sl lh QA
 | .i body rd=>∀ (XE N0:Nat) (ν:Nu) (nV nS:Nat) (sl YU:List ah) (lh:List av) (QA:IQ),qJ XE body=true->uv N0 rd.ps=true->fN N0 rd.asg=true->fN N0 rd.body=true->gj w0 ν XE e sl->Ii w0 fr.2 N0 rd.e0 YU ν->HR w0 ν nV nS h lh ->
   (∀ex e' h' g' ν' sl' lh' nV' nS',Dv fr.2 ν ν'->gj w0 ν' XE e' sl'->HR w0 ν' nV' nS' h' lh'->Da ex e' h' g'->QA ex sl' lh' g')->kh w0 (Uc fr.1) rd.l (YA w0 (Uc fr.1) rd.ps rd.asg rd.body YU) (.loop body) sl lh g QA
section
variable {w0:World} {Uc:A6} {α:Type} {X4:α->Prop} {cf:CF α} {cp:CP α}
theorem rX {ν:Nu} {XE:Nat}:∀ (ps:List Nat) (e:bV) (sl:List ah) (vs:List V) (az:List ah),uv XE ps=true->gj w0 ν XE e sl->bp w0 ν.z ν vs az->vs.length=ps.length->gj w0 ν XE (pn e ps vs) (kA sl ps az)
 |[],e,sl,vs,az,_,h,_,_=>by cases vs<;>simpa[pn,kA] using h
 |p::ps,e,sl,[],az,_,_,_,hl=>by cases hl
 |p::ps,e,sl,v::vs,az,hp,h,y,hl=>by simp[bp]at y;obtain⟨x,xs,rfl,N,Q⟩:=y;simp[uv,DD]at hp;simp[pn,kA];exact rX ps _ _ vs xs hp.2 (h.set (by simpa[Nat.blt_eq] using hp.1) N) Q (by simpa using hl)
def LS (w0:World) (LP:eZ) (X4:α->Prop) (nb N0:Nat) (e0:bV) (YU:List ah) (Y:YV α) (YS:YH):Prop :=
 ∀ (vs:List V) (h:List AX) (ν:Nu) (nV nS:Nat) (args:List ah) (lh:List av) (K:Ex->List AX->Bj α) (KA:Ex->List av->Prop),Ii w0 nb N0 e0 YU ν->HR w0 ν nV nS h lh->bp w0 ν.z ν vs args->bM LP (Y vs h K) X4 ->
  (∀x h' ν' nV' nS' lh',ν.sub ν'->HR w0 ν' nV' nS' h' lh'->bM LP (K x h') X4->KA x lh')->YS args lh KA
section it
variable {LP:eZ} {nb XE N0 lv:Nat} {rd:RD} {Y:YV α} {YS:YH} {YU:List ah} {un:kZ}
theorem hb2 {l:Nat} (hY:LS w0 LP X4 nb N0 rd.e0 YU Y YS) {t:Nat} {d:Option Nat} {xs:List fM} {e:bV} {h:List AX} {g:Option Ex} {ν:Nu} {nV nS:Nat} {sl:List ah} {lh:List av} {XX:bV->List AX->Option Ex->Bj α} {KA:List ah->List av->Option Ex->Prop} (Yz:∀ i,d=some i->i<XE)
 (N:gj w0 ν XE e sl) (hx:Ii w0 nb N0 rd.e0 YU ν) (Q:HR w0 ν nV nS h lh) (h3:bM LP (HU l Y t d xs e h g XX) X4)
 (h4:∀e' h' g' ν' sl' lh' nV' nS',ν.sub ν'->gj w0 ν' XE e' sl'->HR w0 ν' nV' nS' h' lh'->bM LP (XX e' h' g') X4->KA sl' lh' g'):g=none/\sl.getD t .any=jh l/\YS (xs.map (arg sl)) lh (TW KA sl d):=by
 unfold HU at h3
 let ⟨u,hu,h3⟩:=Cf rfl (N.at' t) h3
 split at h3
 ·rename_i l'
  simp only[bM]at h3;obtain⟨he,h3⟩:=h3;simp only[Hc,V.yl.injEq,K9]at he;subst he;obtain⟨us,k1,k2⟩:=kF N rfl h3;have h0:=hu;simp[vr]at h0;refine⟨rfl,h0,?_⟩;refine hY us h ν nV nS _ lh _ _ hx Q k1 k2 λx h' ν' nV' nS' lh' g1 g2 g3=>?_;have hp:∀b,gj w0 ν' XE (ec e d (.kb b)) (eH sl d (.bool b)):=λb=>(N.mono g1).put d Yz (by simp[vr]);cases x with
  |normal=>exact h4 _ _ _ _ _ _ _ _ g1 (hp true) g2 g3|exit i=>exact h4 _ _ _ _ _ _ _ _ g1 (hp false) g2 g3|ret=>exact h4 _ _ _ _ _ _ _ _ g1 (hp false) g2 g3
 ·exact h3.elim
theorem gJ {S1:FuncId->bT} {l:Nat} (YK:rC w0 S1 LP false cf) (hY:LS w0 LP X4 nb N0 rd.e0 YU Y YS):∀ (ops:List mL) (e:bV) (h:List AX) (g:Option Ex) (ν:Nu) (nV nS:Nat) (sl:List ah) (lh:List av) (K:bV->List AX->Option Ex->Bj α) (KA:List ah->List av->Option Ex->Prop),g9 XE ops=true ->
 gj w0 ν XE e sl->Ii w0 nb N0 rd.e0 YU ν->HR w0 ν nV nS h lh->bM LP (dD cf l Y ops e h g K) X4->(∀e' h' g' ν' sl' lh' nV' nS',Dv nb ν ν'->gj w0 ν' XE e' sl'->HR w0 ν' nV' nS' h' lh'->bM LP (K e' h' g') X4->KA sl' lh' g')->cu w0 S1 l YS ops sl lh g KA
 |[],e,h,g,ν,nV,nS,sl,lh,K,KA,_,N,_,Q,h3,h4=>h4 _ _ _ _ _ _ _ _ (Dv.refl _ _) N Q h3
 |.op o::rest,e,h,g,ν,nV,nS,sl,lh,K,KA,hd,N,hx,Q,h3,h4=>by simp[g9,DD]at hd;simp[dD]at h3;simp[cu];exact kf YK [o] e h ν sl lh _ _ hd.1 N Q h3 λe' h' ν' sl' lh' k0 k1 k2 k3=>gJ YK hY rest e' h' g ν' nV nS sl' lh' K KA hd.2 k1 (hx.step (Dv.of k0 _)) k2 k3 λe2 Q g2 ν2 Yw lh2 nV2 nS2 q0=>h4 e2 Q g2 ν2 Yw lh2 nV2 nS2 ((Dv.of k0 _).trans q0)
 |.yld t d xs::rest,e,h,g,ν,nV,nS,sl,lh,K,KA,hd,N,hx,Q,h3,h4=>by
   simp[g9,DD]at hd;simp[dD]at h3;split at h3
   ·rename_i l' hy
    simp only[bM]at h3
    let ⟨he,h3⟩:=h3
    simp only[Hc,V.yl.injEq,K9]at he;subst he
    let ⟨us,k1,k2⟩:=kF N rfl h3
    have h0:=N.at' t;rw[hy]at h0;simp[vr]at h0;simp only[cu];refine⟨trivial,h0,?_⟩;have Yz:∀i,d=some i->i<XE:=λi hi=>by subst hi;simpa[Nat.blt_eq] using hd.1
    refine hY us h ν nV nS _ lh _ _ hx Q k1 k2 λx h' ν' nV' nS' lh' g1 g2 g3=>?_;have hp:∀b,gj w0 ν' XE (ec e d (.kb b)) (eH sl d (.bool b)):=λb=>(N.mono g1).put d Yz (by simp[vr]);cases x with
    |normal=>exact gJ YK hY rest _ h' none ν' nV' nS' _ lh' K KA hd.2 (hp true) (hx.step (Dv.of g1 _)) g2 g3 λe2 Q g2 ν2 Yw lh2 nV2 nS2 q0=>h4 e2 Q g2 ν2 Yw lh2 nV2 nS2 ((Dv.of g1 _).trans q0)
    |exit i=>exact gJ YK hY rest _ h' _ ν' nV' nS' _ lh' K KA hd.2 (hp false) (hx.step (Dv.of g1 _)) g2 g3 λe2 Q g2 ν2 Yw lh2 nV2 nS2 q0=>h4 e2 Q g2 ν2 Yw lh2 nV2 nS2 ((Dv.of g1 _).trans q0)
    |ret=>exact gJ YK hY rest _ h' _ ν' nV' nS' _ lh' K KA hd.2 (hp false) (hx.step (Dv.of g1 _)) g2 g3 λe2 Q g2 ν2 Yw lh2 nV2 nS2 q0=>h4 e2 Q g2 ν2 Yw lh2 nV2 nS2 ((Dv.of g1 _).trans q0)
   ·exact h3.elim
 |.yldG d want t dst xs::rest,e,h,g,ν,nV,nS,sl,lh,K,KA,hd,N,hx,Q,h3,h4=>by
   simp[g9,DD]at hd;have Yz:∀i,dst=some i->i<XE:=λi hi=>by have:=hd.1;subst hi;simpa[Nat.blt_eq] using this
   have next:∀ (e':bV) (h':List AX) (g':Option Ex) (ν':Nu) (sl':List ah) (lh':List av) (nV' nS':Nat),ν.sub ν'->gj w0 ν' XE e' sl'->HR w0 ν' nV' nS' h' lh'->bM LP (dD cf l Y rest e' h' g' K) X4->cu w0 S1 l YS rest sl' lh' g' KA :=
    λe' h' g' ν' sl' lh' nV' nS' g1 k1 k2 k3=>gJ YK hY rest e' h' g' ν' nV' nS' sl' lh' K KA hd.2 k1 (hx.step (Dv.of g1 _)) k2 k3 λe2 Q g2 ν2 Yw lh2 nV2 nS2 q0=>h4 e2 Q g2 ν2 Yw lh2 nV2 nS2 ((Dv.of g1 _).trans q0)
   have go:∀ {e0:bV},gj w0 ν XE e0 sl->bM LP (HU l Y t dst xs e0 h g λe h g=>dD cf l Y rest e h g K) X4->g=none/\sl.getD t .any=jh l/\YS (xs.map (arg sl)) lh (TW (λsl lh g=>cu w0 S1 l YS rest sl lh g KA) sl dst) :=
    λwZ hs=>hb2 hY Yz wZ hx Q hs next
   have skip:∀ {e0:bV},gj w0 ν XE e0 sl->bM LP (dD cf l Y rest (ec e0 dst (.tup [])) h g K) X4->cu w0 S1 l YS rest (eH sl dst (.tup [])) lh g KA :=
    λwZ hs=>next _ _ _ ν _ _ nV nS (Nu.sub_refl ν) (wZ.put dst Yz yD) Q hs
   simp[dD]at h3;simp[cu];have XV:=N.at' d;split at h3
   ·rename_i b hb
    rw[hb]at XV;simp[vr]at XV;rw[XV];dsimp only
    split at h3
    ·rename_i he _;subst he;exact⟨λ_=>by rw[cK XV aD];exact go N h3,λe=>by cases b<;>cases e⟩
    ·rename_i he _;exact⟨λe=>(he e).elim,λe=>by rw[← e,cK XV aD];exact skip N h3⟩
   ·rename_i l1 hb
    rw[hb]at XV;simp[vr]at XV
    let ⟨az,XV,_⟩:=XV
    rw[XV];dsimp only
    rw[cK XV aD];exact skip N h3
   ·rename_i k n hb;rw[hb]at XV;simp[vr]at XV;rw[XV];exact skip N h3
   ·rename_i b hb
    rw[hb]at XV;simp[vr]at XV;rw[XV];dsimp only
    simp[bM]at h3;refine⟨λe1=>?_,λe1=>?_⟩
    ·rw[← e1,cK XV aD];exact go (N.know (by simp[vr];rw[XV,e1])) (h3.1 (td e1))
    ·rw[← e1,cK XV aD];exact skip (N.know (by simp[vr];rw[XV,e1])) (h3.2 (wC e1))
   ·rename_i c v hb
    rw[hb]at XV;simp[vr]at XV;split at h3
    ·exact h3.elim
    ·rename_i b o0
     simp only[bM]at h3;cases c with
     |false=>
       let ⟨l1,hl⟩:=XV.2 rfl
       rw[hl];dsimp only
       rw[cK hl aD];exact skip N (h3.2 rfl)
     |true=>
       have XV:=mZ (XV.1 rfl) o0;rw[XV];dsimp only
       refine⟨λe1=>?_,λe1=>?_⟩
       ·rw[← e1,cK XV aD];exact go (N.know (by simp[vr];rw[XV,e1])) (h3.1 (by rw[td e1];rfl))
       ·rw[← e1,cK XV aD];exact skip N (h3.2 (by rw[wC e1];rfl))
   ·exact h3.elim
structure Pv (w0:World) (LP:eZ) (X4:α->Prop) (nb XE N0:Nat) (e0:bV) (YU:List ah) (ev:bV->List AX->Option Ex->(Ex->bV->List AX->Option Ex->Bj α)->Bj α) (K:Ex->bV->List AX->Option Ex->Bj α) (ν0:Nu) where
 n:Nat
 e:bV
 h:List AX
 g:Option Ex
 ν:Nu
 nV:Nat
 nS:Nat
 sl:List ah
 lh:List av
 hs:gj w0 ν XE e sl
 hx:Ii w0 nb N0 e0 YU ν
 hh:HR w0 ν nV nS h lh
 hn:Dv nb ν0 ν
 st:bM LP (SS ev n e h g K) X4
theorem D5 (YK:rC w0 (Uc lv) (dq w0 Uc) false cf) (Yh:uJ w0 (Uc lv) (dq w0 Uc) cp) (si:uv N0 rd.ps=true) (sk:fN N0 rd.asg=true) (sw:fN N0 rd.body=true) (hYS:YS=YA w0 (Uc lv) rd.ps rd.asg rd.body YU) (hY:LS w0 (dq w0 Uc) X4 nb N0 rd.e0 YU Y YS):∀ (c:ik) (bi:Nat) (e:bV) (h:List AX) (g:Option Ex) (ν:Nu) (nV nS:Nat) (sl:List ah) (lh:List av) (K:Ex->bV->List AX->Option Ex->Bj α) (KA:IQ),
 qJ XE c=true->gj w0 ν XE e sl->Ii w0 nb N0 rd.e0 YU ν->HR w0 ν nV nS h lh->bM (dq w0 Uc) (ml cf cp un (lv,nb) rd Y bi c e h g K) X4 ->
 (∀x e' h' g' ν' sl' lh' nV' nS',Dv nb ν ν'->gj w0 ν' XE e' sl'->HR w0 ν' nV' nS' h' lh'->bM (dq w0 Uc) (K x e' h' g') X4->KA x sl' lh' g')->kh w0 (Uc lv) rd.l YS c sl lh g KA:=by
 intro c;induction c with
 |skip=>intro bi e h g ν nV nS sl lh K KA _ N _ Q h3 h4;exact h4 .normal _ _ _ _ _ _ _ _ (Dv.refl _ _) N Q h3
 |reg ops=>intro bi e h g ν nV nS sl lh K KA hd N hx Q h3 h4;exact gJ YK hY ops e h g ν nV nS sl lh _ _ hd N hx Q h3 λe' h' g' ν' sl' lh' nV' nS' k0 k1 k2 k3=>h4 .normal _ _ _ _ _ _ _ _ k0 k1 k2 k3
 |draw ds=>intro bi e h g ν nV nS sl lh K KA hd N hx Q h3 h4;exact rS Yh hd N Q h3 λe' h' ν' sl' lh' _ _ k0 g1 g2 g3=>h4 .normal _ _ _ _ _ _ _ _ (Dv.of k0 _) g1 g2 g3
 |drawY ds xs=>intro bi e h g ν nV nS sl lh K KA hd N hx Q h3 h4;simp[qJ,DD]at hd;exact rS Yh hd.1 N Q h3 λe1 h1' ν1 Yp lh1 _ _ k0 g1 g2 g3=>gJ YK hY xs e1 h1' g ν1 _ _ Yp lh1 _ _ hd.2 g1 (hx.step (Dv.of k0 _)) g2 g3 λe' h' g' ν' sl' lh' nV' nS' yal j1 j2 j3=>h4 .normal _ _ _ _ _ _ _ _ ((Dv.of k0 _).trans yal) j1 j2 j3
 |seq a b iha ihb=>
   intro bi e h g ν nV nS sl lh K KA hd N hx Q h3 h4;simp[qJ,DD]at hd;refine iha bi e h g ν nV nS sl lh _ _ hd.1 N hx Q h3 λx e' h' g' ν' sl' lh' nV' nS' g0 g1 g2 g3=>?_;cases x with
   |normal=>exact ihb bi e' h' g' ν' nV' nS' sl' lh' K KA hd.2 g1 (hx.step g0) g2 g3 λx e2 Q g2 ν2 Yw lh2 nV2 nS2 q0=>h4 x e2 Q g2 ν2 Yw lh2 nV2 nS2 (g0.trans q0)
   |exit i=>exact h4 _ _ _ _ _ _ _ _ _ g0 g1 g2 g3|ret=>exact h4 _ _ _ _ _ _ _ _ _ g0 g1 g2 g3
 |cond c a b iha ihb=>
   intro bi e h g ν nV nS sl lh K KA hd N hx Q h3 h4;simp[qJ,DD]at hd;simp[ml]at h3;have ha:=N.arg c;simp[kh];split at h3
   ·rename_i hc;rw[hc]at ha;simp[vr]at ha;rw[ha];exact⟨λ_=>iha bi e h g ν nV nS sl lh K KA hd.1 N hx Q h3 h4,(λhe=>by cases he)⟩
   ·rename_i hc;rw[hc]at ha;simp[vr]at ha;rw[ha];exact⟨(λhe=>by cases he),λ_=>ihb bi e h g ν nV nS sl lh K KA hd.2 N hx Q h3 h4⟩
   ·rename_i t hc
    rw[hc]at ha;simp[vr]at ha;rw[ha];split at h3
    ·rename_i s;simp[bM]at h3;simp[arg]at ha;exact⟨λet=>iha bi _ h g ν nV nS sl lh K KA hd.1 (N.know (by simp[vr];rw[ha,et])) hx Q (h3.1 et) h4,λet=>ihb bi _ h g ν nV nS sl lh K KA hd.2 (N.know (by simp[vr];rw[ha,et])) hx Q (h3.2 et) h4⟩
    ·simp[bM]at h3;exact⟨λet=>iha bi _ h g ν nV nS sl lh K KA hd.1 N hx Q (h3.1 et) h4,λet=>ihb bi _ h g ν nV nS sl lh K KA hd.2 N hx Q (h3.2 et) h4⟩
   ·exact h3.elim
 |block id b ih=>
   intro bi e h g ν nV nS sl lh K KA hd N hx Q h3 h4;refine ih id e h g ν nV nS sl lh _ _ hd N hx Q h3 λx e' h' g' ν' sl' lh' nV' nS' g0 g1 g2 g3=>?_;cases x with
   |normal=>exact h4 _ _ _ _ _ _ _ _ _ g0 g1 g2 g3|ret=>exact h4 _ _ _ _ _ _ _ _ _ g0 g1 g2 g3
   |exit i=>
     simp[u3];by_cases hi:i=id
     ·subst hi;rw[DL rfl];simp[OK,cond]at g3;exact h4 _ _ _ _ _ _ _ _ _ g0 g1 g2 g3
     ·rw[Ck hi]
      have:Nat.beq i id=false:=by cases hb:Nat.beq i id with|false=>rfl|true=>exact(hi (G9 hb)).elim
      simp[this,cond]at g3;exact h4 _ _ _ _ _ _ _ _ _ g0 g1 g2 g3
 |loop b ih=>
   intro bi e h g ν nV nS sl lh K KA hd N hx Q h3 h4;simp[ml]at h3;split at h3
   ·subst hYS;exact h3 XE N0 ν nV nS sl YU lh KA hd si sk sw N hx Q h4
   ·rename_i n hn
    simp[kh];refine⟨Pv w0 (dq w0 Uc) X4 nb XE N0 rd.e0 YU (ml cf cp un (lv,nb) rd Y bi b) K ν,Pv.sl,Pv.lh,Pv.g,Pv.n,⟨n+1,e,h,g,ν,nV,nS,sl,lh,N,hx,Q,Dv.refl _ _,h3⟩,rfl,rfl,rfl,λs=>?_⟩;have Y0:=s.st;have gv:=s.hn
    match hm:s.n,Y0 with
    |0,Y0=>exact Y0.elim
    |k+1,Y0=>
      simp[SS]at Y0;refine ih bi s.e s.h s.g s.ν s.nV s.nS s.sl s.lh _ _ hd s.hs s.hx s.hh Y0 λx e' h' g' ν' sl' lh' nV' nS' g0 g1 g2 g3=>?_;cases x with
      |normal=>exact⟨⟨k,e',h',g',ν',nV',nS',sl',lh',g1,s.hx.step g0,g2,gv.trans g0,g3⟩,rfl,rfl,rfl,Nat.lt_succ_self k⟩|exit i=>exact h4 _ _ _ _ _ _ _ _ _ (gv.trans g0) g1 g2 g3|ret=>exact h4 _ _ _ _ _ _ _ _ _ (gv.trans g0) g1 g2 g3
 |exit i=>intro bi e h g ν nV nS sl lh K KA _ N _ Q h3 h4;exact h4 _ _ _ _ _ _ _ _ _ (Dv.refl _ _) N Q h3|ret=>intro bi e h g ν nV nS sl lh K KA _ N _ Q h3 h4;exact h4 _ _ _ _ _ _ _ _ _ (Dv.refl _ _) N Q h3|scope b ih=>intro bi e h g ν nV nS sl lh K KA hd N hx Q h3 h4;exact ih bi e h g ν nV nS sl lh K KA hd N hx Q h3 h4
end it
structure Qg (w0:World) (LP:eZ) (X4:α->Prop) (nb XE:Nat) (ev:bV->List AX->(Ex->bV->List AX->Bj α)->Bj α) (K:Ex->bV->List AX->Bj α) (ν0:Nu) where
 n:Nat
 e:bV
 h:List AX
 ν:Nu
 nV:Nat
 nS:Nat
 sl:List ah
 lh:List av
 hs:gj w0 ν XE e sl
 hh:HR w0 ν nV nS h lh
 hn:Dv nb ν0 ν
 st:bM LP (Qz ev n e h K) X4
theorem j4:∀ l:List ah,lw l l
 |[]=>by simp[lw]
 |a::l=>by unfold lw;exact⟨.inr rfl,j4 l⟩
theorem Run:∀ {CJ:List gX} {it:gX},zy CJ=true->it∈CJ->qJ it.ntmps it.body=true
 |[],_,_,h=>by cases h
 |x::l,it,h,hm=>by
   simp[zy,DD]at h;rcases List.mem_cons.1 hm with rfl|hm
   ·exact h.1
   ·exact Run h.2 hm
theorem yQ {lh:List av} {ν:Nu}:∀ {us:List V} {az rest:List ah} {j i:Nat},bp w0 lh ν us az->(∀ a,a∈rest->True)->vr w0 lh ν (jc (H4 us j) (j+i)) ((az++rest).getD i .any)
 |[],az,rest,j,i,h,_=>by simp[H4,jc,vr]
 |u::us,az,rest,j,i,h,hr=>by
   simp[bp]at h;obtain⟨x,xs,rfl,N,Q⟩:=h;simp[H4];rw[lr];cases i with
   |zero=>rw[DL I];simpa using N
   |succ i=>rw[Ck I];have:=yQ (j:=j+1) (i:=i) (rest:=rest) Q hr;rw[show j+1+i=j+(i+1) by omega]at this;simpa using this
theorem qo {S1:FuncId->bT} {LP:eZ} {XE:Nat} (YK:rC w0 S1 LP false cf):∀ (t:OT) (e:bV) (h:List AX) (ν:Nu) (nV nS:Nat) (sl:List ah) (lh:List av) (K:bV->List AX->Bj α) (KA:List ah->List av->Prop),so XE t=true ->
 gj w0 ν XE e sl->HR w0 ν nV nS h lh->bM LP (B3 cf t e h K) X4->(∀e' h' ν' sl' lh',ν.sub ν'->gj w0 ν' XE e' sl'->HR w0 ν' nV nS h' lh'->bM LP (K e' h') X4->KA sl' lh')->oq w0 S1 t sl lh KA
 |.done,e,h,ν,nV,nS,sl,lh,K,KA,_,N,Q,h3,h4=>h4 _ _ _ _ _ (Nu.sub_refl ν) N Q h3
 |.op o r,e,h,ν,nV,nS,sl,lh,K,KA,hd,N,Q,h3,h4=>by simp[so,DD]at hd;simp[B3]at h3;simp[oq];exact kf YK [o] e h ν sl lh _ _ hd.1 N Q h3 λe' h' ν' sl' lh' k0 k1 k2 k3=>qo YK r e' h' ν' nV nS sl' lh' K KA hd.2 k1 k2 k3 λe2 Q ν2 Yw lh2 q0=>h4 e2 Q ν2 Yw lh2 (Nu.sub_trans k0 q0)
 |.alt a b,e,h,ν,nV,nS,sl,lh,K,KA,hd,N,Q,h3,h4=>by simp[so,DD]at hd;simp[B3,bM]at h3;exact⟨qo YK a e h ν nV nS sl lh K KA hd.1 N Q h3.1 h4,qo YK b e h ν nV nS sl lh K KA hd.2 N Q h3.2 h4⟩
theorem z8 {lv:Nat} (YK:rC w0 (Uc lv) (dq w0 Uc) false cf) (Yh:uJ w0 (Uc lv) (dq w0 Uc) cp) {un:kZ} {XE:Nat}:∀ (c:gt) (nb nbS bi:Nat) (e:bV) (h:List AX) (ν:Nu) (nV nS:Nat) (sl:List ah) (lh:List av) (K:Ex->bV->List AX->Bj α) (KA:Ex->List ah->List av->Prop),
 fN XE c=true->gj w0 ν XE e sl->HR w0 ν nV nS h lh->bM (dq w0 Uc) (se cf cp un (lv,nb) bi c e h K) X4 ->
 (∀x e' h' ν' sl' lh' nV' nS',Dv nb ν ν'->gj w0 ν' XE e' sl'->HR w0 ν' nV' nS' h' lh'->bM (dq w0 Uc) (K x e' h') X4->KA x sl' lh')->cm w0 (Uc lv) nbS c sl lh KA:=by
 intro c;induction c with
 |skip=>intro nb nbS bi e h ν nV nS sl lh K KA _ N Q h3 h4;exact h4 .normal _ _ _ _ _ _ _ (Dv.refl _ _) N Q h3
 |reg ops=>intro nb nbS bi e h ν nV nS sl lh K KA hd N Q h3 h4;exact kf YK ops e h ν sl lh _ _ hd N Q h3 λe' h' ν' sl' lh' g0 g1 g2 g3=>h4 .normal _ _ _ _ _ _ _ (Dv.of g0 _) g1 g2 g3
 |allo t=>intro nb nbS bi e h ν nV nS sl lh K KA hd N Q h3 h4;exact qo YK t e h ν nV nS sl lh _ _ hd N Q h3 λe' h' ν' sl' lh' g0 g1 g2 g3=>h4 .normal _ _ _ _ _ _ _ (Dv.of g0 _) g1 g2 g3
 |alloq t=>intro nb nbS bi e h ν nV nS sl lh K KA hd N Q h3 h4;exact qo Yh.2 t e h ν nV nS sl lh _ _ hd N Q h3 λe' h' ν' sl' lh' g0 g1 g2 g3=>h4 .normal _ _ _ _ _ _ _ (Dv.of g0 _) g1 g2 g3
 |draw ds=>intro nb nbS bi e h ν nV nS sl lh K KA hd N Q h3 h4;exact rS Yh hd N Q h3 λe' h' ν' sl' lh' _ _ g0 g1 g2 g3=>h4 .normal _ _ _ _ _ _ _ (Dv.of g0 _) g1 g2 g3
 |seq a b iha ihb=>
   intro nb nbS bi e h ν nV nS sl lh K KA hd N Q h3 h4;simp[fN,DD]at hd;refine iha nb nbS bi e h ν nV nS sl lh _ _ hd.1 N Q h3 λx e' h' ν' sl' lh' nV' nS' g0 g1 g2 g3=>?_;cases x with
   |normal=>exact ihb nb nbS bi e' h' ν' nV' nS' sl' lh' K KA hd.2 g1 g2 g3 λx e2 Q ν2 Yw lh2 nV2 nS2 q0=>h4 x e2 Q ν2 Yw lh2 nV2 nS2 (g0.trans q0)
   |exit i=>exact h4 _ _ _ _ _ _ _ _ g0 g1 g2 g3|ret=>exact h4 _ _ _ _ _ _ _ _ g0 g1 g2 g3
 |cond c a b iha ihb=>
   intro nb nbS bi e h ν nV nS sl lh K KA hd N Q h3 h4;simp[fN,DD]at hd;simp[se]at h3;have ha:=N.arg c;simp[cm];split at h3
   ·rename_i hc;rw[hc]at ha;simp[vr]at ha;rw[ha];exact⟨λ_=>iha nb nbS bi e h ν nV nS sl lh K KA hd.1 N Q h3 h4,(λhe=>by cases he)⟩
   ·rename_i hc;rw[hc]at ha;simp[vr]at ha;rw[ha];exact⟨(λhe=>by cases he),λ_=>ihb nb nbS bi e h ν nV nS sl lh K KA hd.2 N Q h3 h4⟩
   ·rename_i t hc
    rw[hc]at ha;simp[vr]at ha;rw[ha];split at h3
    ·rename_i s;simp[bM]at h3;simp[arg]at ha;exact⟨λet=>iha nb nbS bi _ h ν nV nS sl lh K KA hd.1 (N.know (by simp[vr];rw[ha,et])) Q (h3.1 et) h4,λet=>ihb nb nbS bi _ h ν nV nS sl lh K KA hd.2 (N.know (by simp[vr];rw[ha,et])) Q (h3.2 et) h4⟩
    ·simp[bM]at h3;exact⟨λet=>iha nb nbS bi _ h ν nV nS sl lh K KA hd.1 N Q (h3.1 et) h4,λet=>ihb nb nbS bi _ h ν nV nS sl lh K KA hd.2 N Q (h3.2 et) h4⟩
   ·exact h3.elim
 |block id b ih=>
   intro nb nbS bi e h ν nV nS sl lh K KA hd N Q h3 h4;refine ih nb nbS id e h ν nV nS sl lh _ _ hd N Q h3 λx e' h' ν' sl' lh' nV' nS' g0 g1 g2 g3=>?_;cases x with
   |normal=>exact h4 _ _ _ _ _ _ _ _ g0 g1 g2 g3|ret=>exact h4 _ _ _ _ _ _ _ _ g0 g1 g2 g3
   |exit i=>
     simp[uG];by_cases hi:i=id
     ·subst hi;rw[DL rfl];simp[OK,cond]at g3;exact h4 _ _ _ _ _ _ _ _ g0 g1 g2 g3
     ·rw[Ck hi]
      have:Nat.beq i id=false:=by cases hb:Nat.beq i id with|false=>rfl|true=>exact(hi (G9 hb)).elim
      simp[this,cond]at g3;exact h4 _ _ _ _ _ _ _ _ g0 g1 g2 g3
 |loop b ih=>
   intro nb nbS bi e h ν nV nS sl lh K KA hd N Q h3 h4;simp[se]at h3;split at h3
   ·exact h3 XE nbS ν nV nS sl lh KA hd N Q h4
   ·rename_i n hn
    simp only[cm];refine⟨Qg w0 (dq w0 Uc) X4 nb XE (se cf cp un (lv,nb) bi b) K ν,Qg.sl,Qg.lh,Qg.n,⟨n+1,e,h,ν,nV,nS,sl,lh,N,Q,Dv.refl _ _,h3⟩,.inl ⟨rfl,j4 _⟩,λs=>?_⟩;have Y0:=s.st;have gv:=s.hn
    match hm:s.n,Y0 with
    |0,Y0=>exact Y0.elim
    |k+1,Y0=>
      simp[Qz]at Y0;refine ih nb nbS bi s.e s.h s.ν s.nV s.nS s.sl s.lh _ _ hd s.hs s.hh Y0 λx e' h' ν' sl' lh' nV' nS' g0 g1 g2 g3=>?_;cases x with
      |normal=>exact⟨⟨k,e',h',ν',nV',nS',sl',lh',g1,g2,gv.trans g0,g3⟩,.inl ⟨rfl,j4 _⟩,Nat.lt_succ_self k⟩|exit i=>exact h4 _ _ _ _ _ _ _ _ (gv.trans g0) g1 g2 g3|ret=>exact h4 _ _ _ _ _ _ _ _ (gv.trans g0) g1 g2 g3
 |exit i=>intro nb nbS bi e h ν nV nS sl lh K KA _ N Q h3 h4;exact h4 _ _ _ _ _ _ _ _ (Dv.refl _ _) N Q h3|ret=>intro nb nbS bi e h ν nV nS sl lh K KA _ N Q h3 h4;exact h4 _ _ _ _ _ _ _ _ (Dv.refl _ _) N Q h3|scope b ih=>intro nb nbS bi e h ν nV nS sl lh K KA hd N Q h3 h4;exact ih nb nbS bi e h ν nV nS sl lh K KA hd N Q h3 h4
 |range gop ps asg body CJ iha ihb=>
   intro nb nbS bi e h ν nV nS sl lh K KA hd N Q h3 h4;simp[fN,DD]at hd;simp[se]at h3;have ha:=N.arg gop;simp[cm];split at h3
   ·rename_i f ys hg
    rw[hg]at ha;simp[vr,bp]at ha;obtain⟨us,vs,hav,rfl,sE⟩:=ha;rw[hav];dsimp only
    split at h3
    ·rename_i it hit
     try rw[hit]
     try dsimp only
     cases hb:Nat.ble (bU ys+1) it.ntmps with
     |false=>rw[hb]at h3;exact h3.elim
     |true=>
       rw[hb]at h3;simp[cond,bM]at h3;have Y3:=HS hb;rw[bS]at Y3;have hl:=bQ sE;intro l;have hdom:∀ k,bU h<=k->ν k=none:=λk hk=>Q.dom k (by rw[← bS];exact hk);have hctx:Ii w0 (bU h) XE e sl ν:=⟨ν,hdom,N,Nu.sub_refl ν⟩;have hY:LS w0 (dq w0 Uc) X4 (bU h) XE e sl (λvs h K=>cond (Nat.beq (bU vs) (bU ps)) (se cf cp un (lv,bU h) bi asg (pn e ps vs) h λx e1 N=>match x with
        |.normal=>se cf cp un (lv,bU h) bi body e1 N λx _ Q=>K x Q
        |_=>.fail 94) (.fail 95)) (YA w0 (Uc lv) ps asg body sl):=by
        intro vs h ν nV nS args lh K KA hx hh y hs hK;dsimp only at hs;cases hb:Nat.beq (bU vs) (bU ps) with
        |false=>rw[hb]at hs;exact hs.elim
        |true=>
          rw[hb]at hs;simp[cond]at hs;have hlen:=G9 hb;rw[bS,bS]at hlen;have hdom:∀k,bU h<=k->ν k=none:=λk hk=>hh.dom k (by rw[← bS];exact hk);refine⟨by rw[bQ y];exact hlen,?_⟩;refine iha (bU h) _ bi _ h ν nV nS _ lh _ _ hd.2.1 (rX ps e sl vs args hd.1 hx.get y hlen) hh hs λx e' h' ν' sl' lh' nV' nS' g0 g1 g2 g3=>?_;cases x with
          |normal=>exact ihb (bU h) _ bi _ h' ν' nV' nS' _ lh' _ _ hd.2.2.1 g1 g2 g3 λx e2 Q ν2 Yw lh2 nV2 nS2 q0 q1 q2 q3=>hK x Q ν2 nV2 nS2 lh2 ((g0.trans q0).sub hdom) q2 q3
          |exit i=>exact g3.elim|ret=>exact g3.elim
       refine D5 (rd:=⟨ps,asg,body,e,l⟩) (Y:=_) (YU:=sl) (nb:=bU h) YK Yh hd.1 hd.2.1 hd.2.2.1 rfl hY it.body 0 _ h none ν nV nS _ lh _ _ (Run hd.2.2.2 (nD hit).1) ⟨by simp;omega,λi=>?_⟩ hctx Q (h3 l) λx e' h' g' ν' sl' lh' nV' nS' g0 g1 g2 g3=>?_
       ·rw [lr]
        cases i with
        |zero=>simp[vr]
        |succ i=>rw[Ck I];have:=yQ (j:=1) (i:=i) (rest:=List.replicate (it.ntmps-(vs.length+1)) .any) sE (λ_ _=>trivial);rw[show 1+i=i+1 by omega]at this;simpa using this
       ·have hsub:=g0.sub hdom
        cases x with
        |exit i=>exact g3.elim
        |normal=>
          cases g' with
          |none=>exact h4 .normal e h' ν' sl lh' nV' nS' (Dv.of hsub _) (N.mono hsub) g2 g3|some x=>exact h4 x e h' ν' sl lh' nV' nS' (Dv.of hsub _) (N.mono hsub) g2 g3
        |ret=>
          cases g' with
          |none=>exact h4 .normal e h' ν' sl lh' nV' nS' (Dv.of hsub _) (N.mono hsub) g2 g3|some x=>exact h4 x e h' ν' sl lh' nV' nS' (Dv.of hsub _) (N.mono hsub) g2 g3
    ·exact h3.elim
   ·exact h3.elim
theorem nk {LP:eZ} {ν:Nu} {nV nS XE:Nat} {e:bV} {h:List AX} {sl:List ah} {lh:List av} (N:gj w0 ν XE e sl) (Q:HR w0 ν nV nS h lh):∀ (rs:List zS) (K:List V->Bj α) (KA:List ah->Prop),bM LP (sd e h rs K) X4 ->
 (∀us az,bp w0 ν.z ν us az->bM LP (K us) X4->KA az)->iW w0 sl lh rs KA
 |[],K,KA,hs,hK=>hK [] [] (by simp[bp]) hs
 |.tmp t::l,K,KA,hs,hK=>by
   simp[sd]at hs
   let ⟨u,g1,g2⟩:=Cf rfl (N.at' t) hs
   exact nk N Q l _ _ g2 λus az g3 g4=>hK (u::us) _ (by simp only[bp];exact⟨_,_,rfl,g1,g3⟩) g4
 |.cell t n::l,K,KA,hs,hK=>by
   cases n with
   |none=>
     simp[sd]at hs
     let ⟨g0,hs⟩:=t8 rfl hs
     split at hs
     ·rename_i v y
      let ⟨p,x,e1,e2,e3⟩:=CX Q (N.at' t) y g0
      simp only[iW,e1];exact⟨x,e2,nk N Q l _ _ hs λus az g3 g4=>hK (v::us) _ (by simp only[bp];exact⟨_,_,rfl,e3,g3⟩) g4⟩
     ·exact hs.elim
   |some n=>
     simp[sd]at hs
     let ⟨g0,hs⟩:=t8 rfl hs
     split at hs
     ·rename_i cs y
      let ⟨p,x,e1,e2,e3⟩:=Gy Q (N.at' t) y g0
      simp only[iW,e1];exact⟨x,e2,nk N Q l _ _ hs λus az g3 g4=>hK (.agg cs::us) _ (by simp only[bp];exact⟨_,_,rfl,by simp only[vr];exact⟨_,rfl,e3⟩,g3⟩) g4⟩
     ·exact hs.elim
theorem D7 {lh:List av} {ν:Nu}:∀ {us:List V} {az:List ah},bp w0 lh ν us az->vr w0 lh ν (rP us) (pM az)
 |[],az,h=>by simp only[bp]at h;subst h;simp only[rP,pM,vr];exact⟨_,rfl,by simp only[bp]⟩
 |[u],az,h=>by simp only[bp]at h;obtain⟨x,xs,rfl,N,rfl⟩:=h;exact N
 |u::v::us,az,h=>by have h':=h;simp only[bp]at h;obtain⟨x,xs,rfl,N,At,ys,rfl,Q⟩:=h;simp only[rP,pM,vr];exact⟨_,rfl,h'⟩
theorem HR.none (w0:World):HR w0 Nu.nil 0 0 [] []:=⟨(λk o h=>by simp at h),(λk k' x x' _ _ h=>by cases h),(λ_ _=>rfl),(λk x h=>by cases h),GB _,(λk x _ h=>by cases h)⟩
theorem qd {lv:Nat} (YK:rC w0 (Uc lv) (dq w0 Uc) false cf) (Yh:uJ w0 (Uc lv) (dq w0 Uc) cp) {un:kZ} {sf:aU} {args:List V} {az:List ah} {h:List AX} {lh:List av} {ν:Nu} {nV nS:Nat} {K:V->List AX->Bj α} {KA:ah->List av->Prop} (hd:fN sf.ntmps sf.body=true)
 (ha:bp w0 ν.z ν args az) (hh:HR w0 ν nV nS h lh) (hs:bM (dq w0 Uc) (mK cf cp un lv sf args h K) X4)
 (hK:∀v h' ν' a lh',ν.sub ν'->(∀nV nS,HR w0 ν' nV nS h' lh')->vr w0 ν'.z ν' v a->bM (dq w0 Uc) (K v h') X4->KA a lh'):FH w0 (Uc lv) sf az lh KA:=by
 unfold mK at hs;cases hb:Nat.ble (bU args) sf.ntmps with
 |false=>rw[hb]at hs;exact hs.elim
 |true=>
   rw[hb]at hs;simp[cond]at hs;have Y3:=HS hb;rw[bS]at Y3;have hl:=bQ ha;have hdom:∀k,bU h<=k->ν k=none:=λk hk=>hh.dom k (by rw[← bS];exact hk);unfold FH;refine z8 YK Yh sf.body (bU h) _ 0 _ h ν nV nS _ lh _ _ hd ⟨by simp;omega,λi=>?_⟩ hh hs λx e' h' ν' sl' lh' nV' nS' g0 g1 g2 g3=>?_
   ·have:=yQ (j:=0) (i:=i) (rest:=List.replicate (sf.ntmps-az.length) .any) ha (λ_ _=>trivial);rwa [Ic]at this
   ·cases x with
    |exit i=>exact g3.elim|normal=>exact nk g1 g2 _ _ _ g3 λus vs k1 k2=>hK _ _ ν' _ _ (g0.sub hdom) (λa b=>g2.undead a b) (D7 k1) k2
    |ret=>exact nk g1 g2 _ _ _ g3 λus vs k1 k2=>hK _ _ ν' _ _ (g0.sub hdom) (λa b=>g2.undead a b) (D7 k1) k2
def j6 (w0:World) (nb:Nat) (e:bV) (h:List AX) (e1:bV) (N:List AX):Prop :=
 ∀(XE:Nat) (ν:Nu) (nV nS:Nat) (sl:List ah) (lh:List av),gj w0 ν XE e sl->HR w0 ν nV nS h lh->∃ν1 nV1 nS1,Dv nb ν ν1/\gj w0 ν1 XE e1 sl/\HR w0 ν1 nV1 nS1 N lh
structure LSt (w0:World) (nb XE:Nat) (XY:Type) (inv:XY->bV×List AX) (ν0:Nu) where
 i:XY
 ν:Nu
 nV:Nat
 nS:Nat
 sl:List ah
 lh:List av
 hs:gj w0 ν XE (inv i).1 sl
 hh:HR w0 ν nV nS (inv i).2 lh
 hn:Dv nb ν0 ν
theorem ybc {fr:Nat×Nat} {cf:CF (Ex×bV×List AX)} {cp:CP (Ex×bV×List AX)} (YK:rC w0 (Uc fr.1) (dq w0 Uc) false cf) (Yh:uJ w0 (Uc fr.1) (dq w0 Uc) cp) {un:kZ} {bi:Nat} {body:gt} {e:bV} {h:List AX} {Da:Ex->bV->List AX->Option Ex->Prop}
 (XY:Type) (inv:XY->bV×List AX) (μ:XY->Nat) (h0:∃i,j6 w0 fr.2 e h (inv i).1 (inv i).2)
 (round:∀i,bM (dq w0 Uc) (se cf cp un fr bi body (inv i).1 (inv i).2 λx e h=>.ret (x,e,h)) λr=>match r.1 with|.normal=>∃i',j6 w0 fr.2 r.2.1 r.2.2 (inv i').1 (inv i').2/\μ i'<μ i|x=>Da x r.2.1 r.2.2 none):dq w0 Uc fr (.s body) e h none Da:=by
 intro XE nbS ν nV nS sl lh QA hd N Q hQ
 let ⟨i0,w9⟩:=h0
 let ⟨ν1,nV1,nS1,g0,g1,g2⟩:=w9 XE ν nV nS sl lh N Q
 simp only[cm];refine⟨LSt w0 fr.2 XE XY inv ν,λs=>s.sl,λs=>s.lh,λs=>μ s.i,⟨i0,ν1,nV1,nS1,sl,lh,g1,g2,g0⟩,.inl ⟨rfl,j4 _⟩,λs=>?_⟩;refine z8 YK Yh body fr.2 nbS bi _ _ s.ν s.nV s.nS s.sl s.lh _ _ hd s.hs s.hh (round s.i) λx e' h' ν' sl' lh' nV' nS' k0 k1 k2 k3=>?_;simp[bM]at k3;cases x with
 |normal=>
   let ⟨i',k4,k5⟩:=k3
   let ⟨ν2,nV2,nS2,k8,k6,k7⟩:=k4 XE ν' nV' nS' sl' lh' k1 k2
   exact⟨⟨i',ν2,nV2,nS2,sl',lh',k6,k7,(s.hn.trans k0).trans k8⟩,.inl ⟨rfl,j4 _⟩,k5⟩
 |exit i=>exact hQ _ _ _ _ _ _ _ _ (s.hn.trans k0) k1 k2 k3|ret=>exact hQ _ _ _ _ _ _ _ _ (s.hn.trans k0) k1 k2 k3
structure ala (w0:World) (nb XE:Nat) (XY:Type) (inv:XY->bV×List AX×Option Ex) (ν0:Nu) where
 i:XY
 ν:Nu
 nV:Nat
 nS:Nat
 sl:List ah
 lh:List av
 hs:gj w0 ν XE (inv i).1 sl
 hh:HR w0 ν nV nS (inv i).2.1 lh
 hn:Dv nb ν0 ν
def Ph (cf:CF α) (cp:CP α) (un:kZ) (lv bi:Nat) (rd:RD):YV α:=λvs h K=>cond (Nat.beq (bU vs) (bU rd.ps)) (se cf cp un (lv,bU h) bi rd.asg (pn rd.e0 rd.ps vs) h λx e1 N=>match x with
 |.normal=>se cf cp un (lv,bU h) bi rd.body e1 N λx _ Q=>K x Q
 |_=>.fail 94) (.fail 95)
theorem abu {lv bi:Nat} {un:kZ} {rd:RD} {nb XE:Nat} {sl:List ah} (YK:rC w0 (Uc lv) (dq w0 Uc) false cf) (Yh:uJ w0 (Uc lv) (dq w0 Uc) cp) (h0:uv XE rd.ps=true) (N:fN XE rd.asg=true) (Q:fN XE rd.body=true) :
 LS w0 (dq w0 Uc) X4 nb XE rd.e0 sl (Ph cf cp un lv bi rd) (YA w0 (Uc lv) rd.ps rd.asg rd.body sl):=by
 intro vs h ν nV nS args lh K KA hx hh y hs hK;unfold Ph at hs;cases hb:Nat.beq (bU vs) (bU rd.ps) with
 |false=>rw[hb]at hs;exact hs.elim
 |true=>
   rw[hb]at hs;simp[cond]at hs;have hlen:=G9 hb;rw[bS,bS]at hlen;have hdom:∀k,bU h<=k->ν k=none:=λk hk=>hh.dom k (by rw[← bS];exact hk);refine⟨by rw[bQ y];exact hlen,?_⟩;refine z8 YK Yh rd.asg (bU h) _ bi _ h ν nV nS _ lh _ _ N (rX rd.ps rd.e0 sl vs args h0 hx.get y hlen) hh hs λx e' h' ν' sl' lh' nV' nS' g0 g1 g2 g3=>?_;cases x with
   |normal=>exact z8 YK Yh rd.body (bU h) _ bi _ h' ν' nV' nS' _ lh' _ _ Q g1 g2 g3 λx e2 Q ν2 Yw lh2 nV2 nS2 q0 q1 q2 q3=>hK x Q ν2 nV2 nS2 lh2 ((g0.trans q0).sub hdom) q2 q3
   |exit i=>exact g3.elim|ret=>exact g3.elim
theorem aiA {fr:Nat×Nat} {cf:CF (Ex×bV×List AX×Option Ex)} {cp:CP (Ex×bV×List AX×Option Ex)} (YK:rC w0 (Uc fr.1) (dq w0 Uc) false cf) (Yh:uJ w0 (Uc fr.1) (dq w0 Uc) cp) {un:kZ} {bi bi':Nat} {body:ik} {rd:RD} {e:bV} {h:List AX} {g:Option Ex} {Da:Ex->bV->List AX->Option Ex->Prop}
 (XY:Type) (inv:XY->bV×List AX×Option Ex) (μ:XY->Nat) (h0:∃i,g=(inv i).2.2/\j6 w0 fr.2 e h (inv i).1 (inv i).2.1)
 (round:∀i,bM (dq w0 Uc) (ml cf cp un fr rd (Ph cf cp un fr.1 bi' rd) bi body (inv i).1 (inv i).2.1 (inv i).2.2 λx e h g=>.ret (x,e,h,g)) λr=>match r.1 with|.normal=>∃i',r.2.2.2=(inv i').2.2/\j6 w0 fr.2 r.2.1 r.2.2.1 (inv i').1 (inv i').2.1/\μ i'<μ i|x=>Da x r.2.1 r.2.2.1 r.2.2.2):dq w0 Uc fr (.i body rd) e h g Da:=by
 intro XE N0 ν nV nS sl YU lh QA hd si sk sw N hx Q hQ;obtain⟨i0,rfl,w9⟩:=h0
 let ⟨ν1,nV1,nS1,g0,g1,g2⟩:=w9 XE ν nV nS sl lh N Q
 simp[kh];refine⟨ala w0 fr.2 XE XY inv ν,λs=>s.sl,λs=>s.lh,λs=>(inv s.i).2.2,λs=>μ s.i,⟨i0,ν1,nV1,nS1,sl,lh,g1,g2,g0⟩,rfl,rfl,rfl,λs=>?_⟩;refine D5 (Y:=Ph cf cp un fr.1 bi' rd) (YU:=YU) YK Yh si sk sw rfl (abu YK Yh si sk sw) body bi _ _ _ s.ν s.nV s.nS s.sl s.lh _ _ hd s.hs (hx.step s.hn) s.hh (round s.i) λx e' h' g' ν' sl' lh' nV' nS' k0 k1 k2 k3=>?_;simp[bM]at k3;cases x with
 |normal=>
   let ⟨i',yam,k4,k5⟩:=k3
   let ⟨ν2,nV2,nS2,k8,k6,k7⟩:=k4 XE ν' nV' nS' sl' lh' k1 k2
   exact⟨⟨i',ν2,nV2,nS2,sl',lh',k6,k7,(s.hn.trans k0).trans k8⟩,rfl,rfl,yam,k5⟩
 |exit i=>exact hQ _ _ _ _ _ _ _ _ _ (s.hn.trans k0) k1 k2 k3|ret=>exact hQ _ _ _ _ _ _ _ _ _ (s.hn.trans k0) k1 k2 k3
end
section
variable {B:dj} {m:aJ} {lh:List av} {w:World}
mutual
theorem dS (h:ba B m lh w):∀ (d:V) (x:ah) (u:Value),d.fc=true->vr B.w0 lh Nu.nil d x->CL m x u->vr w [] Nu.nil d (bL u)
 |.int ..,x,u,_,hd,y=>by simp only[vr]at hd;subst hd;simp only[CL]at y;subst y;simp only[bL,vr]
 |.bool _,x,u,_,hd,y=>by simp only[vr]at hd;subst hd;simp only[CL]at y;subst y;simp only[bL,vr]
 |.kb _,x,u,_,hd,y=>by simp only[vr]at hd;subst hd;simp only[CL]at y;subst y;simp only[bL,vr]
 |.str _,x,u,_,hd,y=>by simp only[vr]at hd;subst hd;simp only[CL]at y;subst y;simp only[bL,vr]
 |.agg _,_,_,hc,_,_=>by cases hc
 |.tup _,_,_,hc,_,_=>by cases hc
 |.fn ..,_,_,hc,_,_=>by cases hc
 |.gd ..,_,_,hc,_,_=>by cases hc
 |.yl _,_,_,hc,_,_=>by cases hc
 |.sl n f,x,u,_,hd,y=>by
   simp only[vr]at hd ⊢;obtain⟨p,c,esz,rfl,Q,h3,h4,h5⟩:=hd;simp only[CL]at y;obtain⟨X1,rfl,hq⟩:=y;refine⟨X1.map .g,c,esz,by cases X1<;>rfl,Q,h3,by cases X1<;>trivial,λi hi=>?_⟩;obtain⟨p',az,rfl,g2,g3,g4⟩:=h5 i hi;obtain⟨a,us,g7,k1,k2⟩:=wh (X1:=X1.map λa=>a.add (i*esz)) h (by
    cases p' with
    |g a=>simp only[dR]at hq;subst hq;simp[dR,hU.add]|l k off=>simp only[dR]at hq;obtain⟨b,e1,rfl⟩:=hq;simp only[dR,hU.add];exact⟨b,e1,by simp[Addr.add]⟩) g2
   cases X1 with
   |none=>cases g7
   |some a0=>simp at g7;subst g7;exact⟨.g a0,_,rfl,k1,nB h (f i) az us g4 g3 k2,g4⟩
 |.sq n m f,x,u,_,hd,y=>by
   simp only[vr]at hd ⊢;obtain⟨p,c,esz,rfl,Q,h3,h4,h5⟩:=hd;simp only[CL]at y;obtain⟨X1,rfl,hq⟩:=y;refine⟨X1.map .g,c,esz,by cases X1<;>rfl,Q,h3,by cases X1<;>trivial,λi hi=>?_⟩;obtain⟨p',az,rfl,g2,g3,g4⟩:=h5 i hi;obtain⟨a,us,g7,k1,k2⟩:=wh (X1:=X1.map λa=>a.add (i*esz)) h (by
    cases p' with
    |g a=>simp only[dR]at hq;subst hq;simp[dR,hU.add]|l k off=>simp only[dR]at hq;obtain⟨b,e1,rfl⟩:=hq;simp only[dR,hU.add];exact⟨b,e1,by simp[Addr.add]⟩) g2
   cases X1 with
   |none=>cases g7
   |some a0=>simp at g7;subst g7;exact⟨.g a0,_,rfl,k1,nB h (f i) az us g4 g3 k2,g4⟩
 |.pd cs,x,u,_,hd,y=>by simp only[vr]at hd ⊢;obtain⟨p,az,rfl,_,h3,h4,h5⟩:=hd;simp only[CL]at y;obtain⟨X1,rfl,hq⟩:=y;obtain⟨a,us,rfl,k1,k2⟩:=wh h hq h3;exact⟨.g a,_,rfl,trivial,k1,nB h cs az us h5 h4 k2,h5⟩
 |.pl k off,x,u,_,hd,y=>by simp only[vr]at hd;obtain⟨b,c,e,N,Q⟩:=hd;cases N
 |.pe k i j,x,u,_,hd,y=>by simp only[vr]at hd;obtain⟨b,c,e,N,Q⟩:=hd;cases N
 |.ss k off n c,x,u,_,hd,y=>by simp only[vr]at hd;obtain⟨b,c,e,N,Q⟩:=hd;cases N
 |.gs k n,x,u,_,hd,y=>by simp only[vr]at hd;rcases hd with ⟨N,_⟩|⟨b,c,e,N,_⟩<;>cases N
 |.go k off n,x,u,_,hd,y=>by simp only[vr]at hd;rcases hd with ⟨N,_⟩|⟨b,c,e,o,N,_⟩<;>cases N
 |.ns,x,u,_,hd,y=>by simp only[vr]at hd;subst hd;simp only[CL,dR]at y;obtain⟨X1,rfl,rfl⟩:=y;simp only[bL,vr]
 |.np,x,u,_,hd,y=>by simp only[vr]at hd;subst hd;simp only[CL,dR]at y;obtain⟨X1,rfl,rfl⟩:=y;simp only[bL,vr]
 |.any,x,u,_,hd,y=>by simp only[vr]
theorem nB (h:ba B m lh w):∀ (ds:List V) (xs:List ah) (us:List Value),ds.all V.fc=true->bp B.w0 lh Nu.nil ds xs->aC m xs us->bp w [] Nu.nil ds (us.map bL)
 |[],xs,us,_,hd,y=>by simp[bp]at hd;subst hd;simp[aC]at y;subst y;simp[bp,OO]
 |d::ds,xs,us,hc,hd,y=>by simp only[Ib,DD]at hc;simp only[bp]at hd;obtain⟨x,xs',rfl,Q,h3⟩:=hd;simp only[aC]at y;obtain⟨u,us',rfl,h4,h5⟩:=y;simp only[Ja,bp];exact⟨_,_,rfl,dS h d x u hc.1 Q h4,nB h ds xs' us' hc.2 h3 h5⟩
end
mutual
theorem Gz (h:ba B m lh w):∀ (d:V) (x:ah) (u:Value),vr B.w0 lh Nu.nil d x->CL m x u->∃ x',CL (λ_=>none) x' u/\vr w [] Nu.nil d x'
 |.agg cs,x,u,hd,y=>by simp[vr]at hd;obtain⟨az,rfl,N⟩:=hd;simp[CL]at y;obtain⟨us,rfl,Q⟩:=y;obtain⟨xs',g1,g2⟩:=jS h cs az us.toList N Q;exact⟨.agg xs',by simp only[CL];exact⟨us,rfl,g1⟩,by simp only[vr];exact⟨_,rfl,g2⟩⟩
 |.tup cs,x,u,hd,y=>by simp[vr]at hd;obtain⟨az,rfl,N⟩:=hd;simp[CL]at y;obtain⟨us,rfl,Q⟩:=y;obtain⟨xs',g1,g2⟩:=jS h cs az us.toList N Q;exact⟨.tup xs',by simp only[CL];exact⟨us,rfl,g1⟩,by simp only[vr];exact⟨_,rfl,g2⟩⟩
 |.fn f xs ys,x,u,hd,y=>by simp[vr]at hd;obtain⟨us,vs,rfl,N,Q⟩:=hd;simp[CL]at y;obtain⟨us',vs',rfl,h3,h4⟩:=y;obtain⟨az,g1,g2⟩:=jS h xs us us'.toList N h3;obtain⟨bs,g3,g4⟩:=jS h ys vs vs'.toList Q h4;exact⟨.fn (.func f) az bs,by simp only[CL];exact⟨us',vs',rfl,g1,g3⟩,by simp only[vr];exact⟨az,bs,rfl,g2,g4⟩⟩
 |.gd b v,x,u,hd,y=>by
   simp[vr]at hd;cases b with
   |true=>obtain⟨x',g1,g2⟩:=Gz h v x u (hd.1 rfl) y;exact⟨x',g1,by simp only[vr];exact⟨λ_=>g2,λe=>by cases e⟩⟩
   |false=>obtain⟨l,rfl⟩:=hd.2 rfl;simp[CL]at y;obtain⟨vs,rfl,_⟩:=y;exact⟨.tup (vs.toList.map bL),by simp only[CL];exact⟨vs,rfl,cj _ _⟩,by simp only[vr];exact⟨(λe=>by cases e),λ_=>⟨_,rfl⟩⟩⟩
 |.int k n,x,u,hd,y=>⟨bL u,cn _ u,dS h (.int k n) x u rfl hd y⟩|.bool b,x,u,hd,y=>⟨bL u,cn _ u,dS h (.bool b) x u rfl hd y⟩|.kb b,x,u,hd,y=>⟨bL u,cn _ u,dS h (.kb b) x u rfl hd y⟩|.str b,x,u,hd,y=>⟨bL u,cn _ u,dS h (.str b) x u rfl hd y⟩|.sl n f,x,u,hd,y=>⟨bL u,cn _ u,dS h (.sl n f) x u rfl hd y⟩|.sq n m f,x,u,hd,y=>⟨bL u,cn _ u,dS h (.sq n m f) x u rfl hd y⟩|.pd b,x,u,hd,y=>⟨bL u,cn _ u,dS h (.pd b) x u rfl hd y⟩|.pl k off,x,u,hd,y=>⟨bL u,cn _ u,dS h (.pl k off) x u rfl hd y⟩|.pe k i j,x,u,hd,y=>⟨bL u,cn _ u,dS h (.pe k i j) x u rfl hd y⟩|.ss k off n c,x,u,hd,y=>⟨bL u,cn _ u,dS h (.ss k off n c) x u rfl hd y⟩|.gs k n,x,u,hd,y=>⟨bL u,cn _ u,dS h (.gs k n) x u rfl hd y⟩|.ns,x,u,hd,y=>⟨bL u,cn _ u,dS h .ns x u rfl hd y⟩|.np,x,u,hd,y=>⟨bL u,cn _ u,dS h .np x u rfl hd y⟩|.any,x,u,hd,y=>⟨bL u,cn _ u,dS h .any x u rfl hd y⟩|.go k off n,x,u,hd,y=>⟨bL u,cn _ u,dS h (.go k off n) x u rfl hd y⟩|.yl l,x,u,hd,y=>⟨jh l,by simp[vr]at hd;subst hd;simp[jh,CL]at y ⊢;exact y,by simp[vr]⟩
theorem jS (h:ba B m lh w):∀ (ds:List V) (xs:List ah) (us:List Value),bp B.w0 lh Nu.nil ds xs->aC m xs us->∃ xs',aC (λ_=>none) xs' us/\bp w [] Nu.nil ds xs'
 |[],xs,us,hd,y=>by simp[bp]at hd;subst hd;simp[aC]at y;subst y;exact⟨[],by simp[aC],by simp[bp]⟩
 |d::ds,xs,us,hd,y=>by
   simp[bp]at hd;obtain⟨x,xs',rfl,Q,h3⟩:=hd;simp[aC]at y;obtain⟨u,us',rfl,h4,h5⟩:=y
   let ⟨a,g1,g2⟩:=Gz h d x u Q h4
   let ⟨az,g3,g4⟩:=jS h ds xs' us' h3 h5
   exact⟨a::az,by simp only[aC];exact⟨_,_,rfl,g1,g3⟩,by simp only[bp];exact⟨_,_,rfl,g2,g4⟩⟩
end
end
section
variable {w0:World} {ν:Nu} {nV nS:Nat} {h:List AX} {lh:List av}
theorem alA (v:V):(qV v).fc=true:=by
 unfold qV;cases y:v.fc with
 |true=>simpa using y|false=>rfl
theorem ajD {v:V} {a:ah} (y:vr w0 lh Nu.nil v a):vr w0 lh Nu.nil (qV v) a:=by
 unfold qV;cases v.fc with
 |true=>exact y|false=>simp[cond,vr]
theorem rz (g:V->V) (l:List V):(l.map λv=>qV (g v)).all V.fc=true:=by rw[OC];intro x hx;rw[List.mem_map]at hx;obtain⟨v,_,rfl⟩:=hx;exact alA _
theorem RH {lh':List av} {ν':Nu} {g:V->V} (hg:∀ v a,vr w0 lh ν v a->vr w0 lh' ν' (g v) a):∀ {vs:List V} {az:List ah},bp w0 lh ν vs az->bp w0 lh' ν' (vs.map g) az
 |[],az,y=>by simp[bp]at y ⊢;subst y;simp[OO,bp]
 |v::vs,az,y=>by simp only[bp]at y;obtain⟨x,xs,rfl,N,Q⟩:=y;simp only[Ja,bp];exact⟨_,_,rfl,hg v x N,RH hg Q⟩
theorem m8 (hh:HR w0 ν nV nS h lh):∀ (fu:Nat) (v:V) (a:ah),vr w0 ν.z ν v a->vr w0 lh Nu.nil (kH h fu v) a
 |0,v,a,_=>by simp only[kH,vr]
 |fu+1,v,a,y=>by
   have ih:∀{vs:List V} {az:List ah},bp w0 ν.z ν vs az->bp w0 lh Nu.nil (vs.map (kH h fu)) az:=λY2=>RH (λv a=>m8 hh fu v a) Y2;have ihc:∀{vs:List V} {az:List ah},bp w0 ν.z ν vs az->bp w0 lh Nu.nil (vs.map λv=>qV (kH h fu v)) az:=λY2=>RH (λv a y=>ajD (m8 hh fu v a y)) Y2;unfold kH;split
   ·simp only[vr]at y ⊢;exact y
   ·simp only[vr]at y ⊢;exact y
   ·simp only[vr]at y ⊢;exact y
   ·simp only[vr]at y ⊢;exact y
   ·rename_i n f;exact kJ hh.zl _ _ (by simp only[vr]at y ⊢;exact y)
   ·rename_i n m f;exact kJ hh.zl _ _ (by simp only[vr]at y ⊢;exact y)
   ·rename_i cs;exact kJ hh.zl _ _ (by simp only[vr]at y ⊢;exact y)
   ·simp only[vr]at y ⊢;subst y;exact⟨none,0,0,rfl,Dm _,I,trivial,λi hi=>by omega⟩
   ·simp only[vr]at y ⊢;let ⟨az,N,Q⟩:=y;exact⟨az,N,ih Q⟩
   ·simp only[vr]at y ⊢;let ⟨us,vs,N,Q,h3⟩:=y;exact⟨us,vs,N,ih Q,ih h3⟩
   ·rename_i k off
    rw[bk];split
    ·rename_i cs ty hk
     rw[bS];cases hb:Nat.ble off cs.length with
     |false=>simp only[cond,vr]
     |true=>
       have Y3:=HS hb;simp only[cond]
       let ⟨b,c0,e0,az,N,Q,h3⟩:=hh.blk k _ hk
       simp only[vr]at y ⊢;obtain⟨b',c',e',g1,rfl⟩:=y;rw[N]at g1;obtain⟨rfl,rfl,rfl⟩:b=b'/\c0=c'/\e0=e':=by simpa using g1
       have hl:=bQ h3;refine⟨.l b off,az.drop off,rfl,by simp[UM,Q,isCells],?_,ihc (gm _ h3),rz _ _⟩;simp only[lds,Q,List.length_map,PG];rw[DL I,Q4 (by simp;omega)]
    ·simp only[vr]
   ·rename_i k n
    rw[bk];split
    ·rename_i e n' f ty hk
     cases hb:Nat.ble n n' with
     |false=>simp only[cond,vr]
     |true=>
       have Y3:=HS hb;simp only[cond];have hb:=hh.blk k _ hk;simp only[vr]at y ⊢;rcases hb with ⟨N,Q⟩|⟨b,c,az,N,Q,h3,h4,h5⟩
       ·rcases y with ⟨_,g2,rfl⟩|⟨b,c,e,g1,_⟩
        ·subst g2;exact⟨none,0,0,rfl,Dm _,I,trivial,λi hi=>by omega⟩
        ·rw[N]at g1;cases g1
       ·rcases y with ⟨g1,_⟩|⟨b',c',e',g1,rfl,g3⟩
        ·rw[N]at g1;cases g1
        ·rw [N]at g1
         obtain⟨rfl,rfl,rfl⟩:b=b'/\c=c'/\e=e':=by simpa using g1
         refine⟨some (.l b 0),c,e,rfl,g3,I,⟨az,ty,Q,Ho _⟩,λi hi=>?_⟩;have YC:i*e+e<=az.length:=by rw[h3,← Hs];exact Hw e I
         refine⟨_,_,rfl,?_,ihc (h5 i I).2,rz _ _⟩;simp only[hU.add,lds,Q,Ic];rw[DL I]
    ·simp only[vr]
   ·rename_i k off n c
    rw[bk];split
    ·rename_i cs ty hk
     rw[bS];cases hb:(Nat.ble n 9223372036854775807&&(Nat.ble n c&&Nat.ble (off+n*((cs.length-off) / c)) cs.length)) with
     |false=>simp only[cond,vr]
     |true=>
       simp only[DD]at hb;have b1:=HS hb.1;have b2:=HS hb.2.1;have n10:=HS hb.2.2;simp only[cond]
       let ⟨b,c0,e0,az,N,Q,h3⟩:=hh.blk k _ hk
       simp only[vr]at y ⊢;obtain⟨b',c',e',g1,rfl⟩:=y;rw[N]at g1;obtain⟨rfl,rfl,rfl⟩:b=b'/\c0=c'/\e0=e':=by simpa using g1
       have hl:=bQ h3;refine⟨some (.l b off),c,(cs.length-off) / c,rfl,⟨b2,b2⟩,b1,⟨az,ty,Q,I⟩,λi hi=>?_⟩;have YC:off+i*((cs.length-off) / c)+(cs.length-off) / c<=cs.length:=by have:(i+1)*((cs.length-off) / c)<=n*((cs.length-off) / c):=Hw _ I;rw[Hs]at this;omega
       refine⟨_,_,rfl,?_,gZ _ (gm _ (ihc h3)),EP _ _ (rz _ _)⟩;simp only[hU.add,lds,Q];rw[DL I]
    ·simp only[vr]
   ·simp only[vr]
theorem ajW (hz:tf ν.z lh) {v:V} {a:ah} (y:vr w0 ν.z ν v a):vr w0 lh Nu.nil (Bt v) a:=by
 unfold Bt;split
 ·simp[vr]at y ⊢;exact y
 ·simp[vr]at y ⊢;exact y
 ·simp[vr]at y ⊢;exact y
 ·simp[vr]at y ⊢;exact y
 ·exact kJ hz _ _ (by simp[vr]at y ⊢;exact y)
 ·exact kJ hz _ _ (by simp[vr]at y ⊢;exact y)
 ·simp[vr]
theorem aim (v:V):(Bt v).fc=true:=by cases v<;>rfl
theorem aew (l:List V):(l.map Bt).all V.fc=true:=by rw[OC];intro x hx;rw[List.mem_map]at hx;obtain⟨v,_,rfl⟩:=hx;exact aim _
def Pp (l:List (Nat×Nat)):Prop:=∀p,p∈l->p.1<=p.2
theorem GC {a b:List (Nat×Nat)} (h:Pp (v6 a b)):Pp a/\Pp b:=by rw[kL]at h;exact⟨λp hp=>h p (QB _ hp),λp hp=>h p (List.mem_append_right _ hp)⟩
theorem vK {α:Type} {LP:eZ} {X4:α->Prop}:∀ {l:List (Nat×Nat)} {x:Bj α},bM LP (Oc l x) X4->Pp l/\bM LP x X4
 |[],x,h=>⟨(λp hp=>by cases hp),h⟩
 |p::l,x,h=>by
   simp only[Oc,bM]at h
   let ⟨N,Q⟩:=vK h.2
   refine⟨λX1 hq=>?_,Q⟩;rcases List.mem_cons.1 hq with rfl|hq
   ·exact HS h.1
   ·exact N X1 hq
theorem Bo (hh:HR w0 ν nV nS h lh) {k n:Nat} {a:ah} (hm:Pp (FD h k n)) (y:vr w0 ν.z ν (.gs k n) a):vr w0 lh Nu.nil (E3 h k n) a:=by
 unfold FD at hm;unfold E3;rw[bk]at hm ⊢;split
 ·rename_i e n' f ty hk
  rw[hk]at hm;have Y3:n<=n':=hm (n,n') Li;have hb:=hh.blk k _ hk;cases Nat.beq e 6 with
  |true=>exact m8 hh 11 _ a y|false=>
  show vr w0 lh Nu.nil (.sl n (xw f)) a;simp only[vr]at y ⊢;rcases hb with ⟨N,Q⟩|⟨b,c,az,N,Q,h3,h4,h5⟩
  ·rcases y with ⟨_,g2,rfl⟩|⟨b,c,e,g1,_⟩
   ·subst g2;exact⟨none,0,0,rfl,Dm _,I,trivial,λi hi=>by omega⟩
   ·rw[N]at g1;cases g1
  ·rcases y with ⟨g1,_⟩|⟨b',c',e',g1,rfl,g3⟩
   ·rw[N]at g1;cases g1
   ·rw [N]at g1
    obtain⟨rfl,rfl,rfl⟩:b=b'/\c=c'/\e=e':=by simpa using g1
    refine⟨some (.l b 0),c,e,rfl,g3,I,⟨az,ty,Q,Ho _⟩,λi hi=>?_⟩;have YC:i*e+e<=az.length:=by rw[h3,← Hs];exact Hw e I
    refine⟨_,_,rfl,?_,RH (λv a y=>ajW hh.zl y) (h5 i I).2,aew _⟩;simp only[hU.add,lds,Q,Ic];rw[DL I]
 ·simp[vr]
theorem aks (hh:HR w0 ν nV nS h lh) {v:V} {a:ah} (hb:Pp (VJ h v)) (y:vr w0 ν.z ν v a):vr w0 lh Nu.nil (Fc h v) a:=by
 unfold Fc;split
 ·exact Bo hh hb y
 ·exact m8 hh 11 _ a y
theorem aan (hh:HR w0 ν nV nS h lh):∀ {vs:List V} {az:List ah},Pp (C5 h vs)->bp w0 ν.z ν vs az->bp w0 lh Nu.nil (vs.map (Fc h)) az
 |[],az,_,y=>by simp[bp,OO]at y ⊢;exact y
 |v::vs,az,hb,y=>by have hb:=GC hb;simp[bp]at y;obtain⟨x,xs,rfl,N,Q⟩:=y;simp only[Ja,bp];exact⟨_,_,rfl,aks hh hb.1 N,aan hh hb.2 Q⟩
theorem aiE (hh:HR w0 ν nV nS h lh) {v:V} {a:ah} (hb:Pp (Xs h v)) (y:vr w0 ν.z ν v a):vr w0 lh Nu.nil (qS h v) a:=by
 unfold qS;split
 ·exact Bo hh hb y
 ·simp[vr]at y ⊢
  let ⟨az,N,Q⟩:=y
  exact⟨az,N,aan hh hb Q⟩
 ·exact m8 hh 12 _ a y
theorem qv (hh:HR w0 ν nV nS h lh):∀ {vs:List V} {az:List ah},Pp (pk h vs)->bp w0 ν.z ν vs az->bp w0 lh Nu.nil (vs.map (qS h)) az
 |[],az,_,y=>by simp[bp,OO]at y ⊢;exact y
 |v::vs,az,hb,y=>by have hb:=GC hb;simp[bp]at y;obtain⟨x,xs,rfl,N,Q⟩:=y;simp only[Ja,bp];exact⟨_,_,rfl,aiE hh hb.1 N,qv hh hb.2 Q⟩
end
end Go.Dx
namespace Go.Sx
section
variable {P:Program} {Uc:FuncId->bT} {w0:World}
theorem gE (hS:∀ f,(Uc f).Ok P f):∀ (ops:List ia) (sl:List ah) (lh:List av) {K K':List ah->List av->Prop},(∀ s l,K s l->K' s l)->ff w0 Uc ops sl lh K->ff w0 Uc ops sl lh K'
 |[],_,_,_,_,hk,h=>hk _ _ h
 |o::rest,sl,lh,K,K',hk,h=>by
   have ih:=λsl lh=>gE hS rest sl lh hk;simp[ff]at h ⊢;split at h
   ·exact dJ hS (λ_ _=>ih _ _) h
   ·split at h
    ·exact⟨λe=>dJ hS (λ_ _=>ih _ _) (h.1 e),λe=>ih _ _ (h.2 e)⟩
    ·exact ih _ _ h
    ·exact ih _ _ h
    ·exact h.elim
theorem jA (hS:∀ f,(Uc f).Ok P f) {X4:Prop}:∀ (ops:List ia) (sl:List ah) (lh:List av),ff w0 Uc ops sl lh (λ_ _=>X4)->X4
 |[],_,_,h=>h
 |o::rest,sl,lh,h=>by
   have ih:=λsl lh=>jA hS (X4:=X4) rest sl lh;simp[ff]at h;split at h
   ·exact mz hS (dJ hS (λ_ _=>ih _ _) h)
   ·rename_i d want _
    split at h
    ·rename_i b _
     by_cases e:b=want
     ·exact mz hS (dJ hS (λ_ _=>ih _ _) (h.1 e))
     ·exact ih _ _ (h.2 (by cases b<;>cases want<;>simp_all))
    ·exact ih _ _ h
    ·exact ih _ _ h
    ·exact h.elim
theorem C86 (hS:∀ f,(Uc f).Ok P f) {Ws:List (List Nat)} {H:Nat} {K K':List ah->List av->Prop} (hk:∀ s l,K s l->K' s l):∀ (ds:List hJ) (i:Nat) (sl:List ah) (lh:List av),jk w0 Uc Ws H K ds i sl lh->jk w0 Uc Ws H K' ds i sl lh
 |[],_,_,_,h=>hk _ _ h|d::rest,i,sl,lh,h=>uE hS (λs l=>C86 hS hk rest (i+1) s l) h
theorem C63 (hS:∀ f,(Uc f).Ok P f) {Ws:List (List Nat)} {H:Nat} {X4:Prop}:∀ (ds:List hJ) (i:Nat) (sl:List ah) (lh:List av),jk w0 Uc Ws H (λ_ _=>X4) ds i sl lh->X4
 |[],_,_,_,h=>h|d::rest,i,sl,lh,h=>mS hS (lJ hS (λ_=>C63 hS rest (i+1) _ _) h)
theorem gO (hS:∀f,(Uc f).Ok P f) {ds:List hJ} {sl:List ah} {lh:List av} {K K':List ah->List av->Prop} (hk:∀s l,K s l->K' s l) (h:ma w0 Uc ds sl lh K):ma w0 Uc ds sl lh K':=⟨h.1,C86 hS hk ds 0 _ _ h.2⟩
theorem kT (hS:∀f,(Uc f).Ok P f) {ds:List hJ} {sl:List ah} {lh:List av} {X4:Prop} (h:ma w0 Uc ds sl lh (λ_ _=>X4)):X4:=C63 hS ds 0 _ _ h.2
section it
variable {l:Nat} {Y:YH}
theorem dC (hS:∀ f,(Uc f).Ok P f) (hY:∀ xs lh K K',(∀ x l,K x l->K' x l)->Y xs lh K->Y xs lh K'):∀ (ops:List mL) (sl:List ah) (lh:List av) (g:Option Ex) {K K':List ah->List av->Option Ex->Prop},(∀ s l g,K s l g->K' s l g)->cu w0 Uc l Y ops sl lh g K->cu w0 Uc l Y ops sl lh g K'
 |[],_,_,_,_,_,hk,h=>hk _ _ _ h
 |.op o::rest,sl,lh,g,_,_,hk,h=>by simp[cu]at h ⊢;exact gE hS _ _ _ (λ_ _=>dC hS hY rest _ _ g hk) h
 |.yld t d xs::rest,sl,lh,g,_,_,hk,h=>by simp[cu]at h ⊢;refine⟨h.1,h.2.1,hY _ _ _ _ (λx l hx=>?_) h.2.2⟩;cases x<;>exact dC hS hY rest _ _ _ hk hx
 |.yldG d want t dst xs::rest,sl,lh,g,_,_,hk,h=>by
   simp only[cu]at h ⊢;cases hx:sl.getD d .any with
   |bool b=>
     simp only[hx]at h ⊢;refine⟨λe=>?_,λe=>dC hS hY rest _ _ g hk (h.2 e)⟩
     let ⟨N,Q,h3⟩:=h.1 e
     refine⟨N,Q,hY _ _ _ _ (λx l hx=>?_) h3⟩;cases x<;>exact dC hS hY rest _ _ _ hk hx
   |tup vs=>simp only[hx]at h ⊢;exact dC hS hY rest _ _ g hk h|int k n=>simp only[hx]at h ⊢;exact dC hS hY rest _ _ g hk h|_=>simp only[hx]at h
theorem dH (hS:∀ f,(Uc f).Ok P f) (hY:∀ xs lh K K',(∀ x l,K x l->K' x l)->Y xs lh K->Y xs lh K') (ZZ:∀ xs lh (X4:Prop),Y xs lh (λ_ _=>X4)->X4) {X4:Prop}:∀ (ops:List mL) (sl:List ah) (lh:List av) (g:Option Ex),cu w0 Uc l Y ops sl lh g (λ_ _ _=>X4)->X4
 |[],_,_,_,h=>h
 |.op o::rest,sl,lh,g,h=>by simp[cu]at h;exact jA hS _ _ _ (gE hS _ _ _ (λ_ _=>dH hS hY ZZ rest _ _ g) h)
 |.yld t d xs::rest,sl,lh,g,h=>by simp[cu]at h;refine ZZ _ _ _ (hY _ _ _ _ (λx l hx=>?_) h.2.2);cases x<;>exact dH hS hY ZZ rest _ _ _ hx
 |.yldG d want t dst xs::rest,sl,lh,g,h=>by
   simp only[cu]at h;cases hx:sl.getD d .any with
   |bool b=>
     simp only[hx]at h;by_cases e:b=want
     ·let ⟨N,Q,h3⟩:=h.1 e
      refine ZZ _ _ _ (hY _ _ _ _ (λx l hx=>?_) h3);cases x<;>exact dH hS hY ZZ rest _ _ _ hx
     ·exact dH hS hY ZZ rest _ _ _ (h.2 (by cases b<;>cases want<;>simp_all))
   |tup vs=>simp only[hx]at h;exact dH hS hY ZZ rest _ _ _ h|int k n=>simp only[hx]at h;exact dH hS hY ZZ rest _ _ _ h|_=>simp only[hx]at h
theorem afQ (hS:∀ f,(Uc f).Ok P f) (hY:∀ xs lh K K',(∀ x l,K x l->K' x l)->Y xs lh K->Y xs lh K'):∀ (c:ik) (sl:List ah) (lh:List av) (g:Option Ex) {X4 Q':IQ},(∀ x s l g,X4 x s l g->Q' x s l g)->kh w0 Uc l Y c sl lh g X4->kh w0 Uc l Y c sl lh g Q':=by
 intro c;induction c with
 |reg ops=>intro sl lh g X4 Q' hq h;exact dC hS hY ops sl lh g (λ_ _ _=>hq _ _ _ _) h|draw ds=>intro sl lh g X4 Q' hq h;exact gO hS (λ_ _=>hq _ _ _ _) h|drawY ds xs=>intro sl lh g X4 Q' hq h;exact gO hS (λ_ _ h=>dC hS hY xs _ _ g (λ_ _ _=>hq _ _ _ _) h) h
 |seq a b iha ihb=>
   intro sl lh g X4 Q' hq h;refine iha sl lh g (λx s l g hx=>?_) h;cases x with
   |normal=>exact ihb _ _ _ hq hx|exit i=>exact hq _ _ _ _ hx|ret=>exact hq _ _ _ _ hx
 |cond c a b iha ihb=>
   intro sl lh g X4 Q' hq h;simp[kh]at h ⊢;split at h
   ·exact⟨λe=>iha _ _ _ hq (h.1 e),λe=>ihb _ _ _ hq (h.2 e)⟩
   ·exact h.elim
 |block id b ih=>
   intro sl lh g X4 Q' hq h;refine ih sl lh g (λx s l g hx=>?_) h;cases x with
   |normal=>exact hq _ _ _ _ hx|ret=>exact hq _ _ _ _ hx|exit i=>simp[u3]at hx ⊢;split at hx<;>rename_i e<;>simp[e,J6,IG]<;>exact hq _ _ _ _ hx
 |loop b ih=>
   intro sl lh g X4 Q' hq h;simp[kh]at h ⊢
   let ⟨ι,shs,shl,shg,μ,i0,N,Q,h3,hr⟩:=h
   refine⟨ι,shs,shl,shg,μ,i0,N,Q,h3,λi=>ih _ _ _ (λx s l g hx=>?_) (hr i)⟩;cases x with
   |normal=>exact hx|exit i=>exact hq _ _ _ _ hx|ret=>exact hq _ _ _ _ hx
 |scope b ih=>intro sl lh g X4 Q' hq h;exact ih sl lh g hq h|skip=>intro sl lh g X4 Q' hq h;exact hq _ _ _ _ h|exit i=>intro sl lh g X4 Q' hq h;exact hq _ _ _ _ h|ret=>intro sl lh g X4 Q' hq h;exact hq _ _ _ _ h
theorem adi (hS:∀ f,(Uc f).Ok P f) (hY:∀ xs lh K K',(∀ x l,K x l->K' x l)->Y xs lh K->Y xs lh K') (ZZ:∀ xs lh (X4:Prop),Y xs lh (λ_ _=>X4)->X4) {XX:Prop}:∀ (c:ik) (sl:List ah) (lh:List av) (g:Option Ex) {X4:IQ},(∀ x s l g,X4 x s l g->XX)->kh w0 Uc l Y c sl lh g X4->XX:=by
 intro c;induction c with
 |reg ops=>intro sl lh g X4 hq h;exact dH hS hY ZZ ops sl lh g (dC hS hY ops sl lh g (λ_ _ _=>hq _ _ _ _) h)|draw ds=>intro sl lh g X4 hq h;exact kT hS (gO hS (K':=λ_ _=>XX) (λ_ _=>hq _ _ _ _) h)|drawY ds xs=>intro sl lh g X4 hq h;exact kT hS (gO hS (K':=λ_ _=>XX) (λ_ _ h=>dH hS hY ZZ xs _ _ g (dC hS hY xs _ _ g (λ_ _ _=>hq _ _ _ _) h)) h)
 |seq a b iha ihb=>
   intro sl lh g X4 hq h;refine iha sl lh g (λx s l g hx=>?_) h;cases x with
   |normal=>exact ihb _ _ _ hq hx|exit i=>exact hq _ _ _ _ hx|ret=>exact hq _ _ _ _ hx
 |cond c a b iha ihb=>
   intro sl lh g X4 hq h;simp[kh]at h;split at h
   ·rename_i t _
    cases t with
    |true=>exact iha _ _ _ hq (h.1 rfl)|false=>exact ihb _ _ _ hq (h.2 rfl)
   ·exact h.elim
 |block id b ih=>
   intro sl lh g X4 hq h;refine ih sl lh g (λx s l g hx=>?_) h;cases x with
   |normal=>exact hq _ _ _ _ hx|ret=>exact hq _ _ _ _ hx|exit i=>simp[u3]at hx;split at hx<;>exact hq _ _ _ _ hx
 |loop b ih=>
   intro sl lh g X4 hq h;simp[kh]at h
   let ⟨ι,shs,shl,shg,μ,i0,N,Q,h3,hr⟩:=h
   have key:∀ k i,μ i=k->XX:=λk=>by
    induction k using Nat.strongRecOn with
    |_ k ihk=>
      intro i hi;refine ih _ _ _ (λx s l g hx=>?_) (hr i);cases x with
      |normal=>let ⟨i',_,_,_,XD⟩:=hx;exact ihk _ (by rw[← hi];exact XD) i' rfl
      |exit i=>exact hq _ _ _ _ hx|ret=>exact hq _ _ _ _ hx
   exact key _ i0 rfl
 |scope b ih=>intro sl lh g X4 hq h;exact ih sl lh g hq h|skip=>intro sl lh g X4 hq h;exact hq _ _ _ _ h|exit i=>intro sl lh g X4 hq h;exact hq _ _ _ _ h|ret=>intro sl lh g X4 hq h;exact hq _ _ _ _ h
end it
theorem io (hS:∀ f,(Uc f).Ok P f):∀ (t:OT) (sl:List ah) (lh:List av) {K K':List ah->List av->Prop},(∀ s l,K s l->K' s l)->oq w0 Uc t sl lh K->oq w0 Uc t sl lh K'
 |.done,sl,lh,K,K',hk,h=>hk _ _ h|.op o r,sl,lh,K,K',hk,h=>gE hS [o] sl lh (λs l h=>io hS r s l hk h) h|.alt a b,sl,lh,K,K',hk,h=>⟨io hS a sl lh hk h.1,io hS b sl lh hk h.2⟩
theorem ks (hS:∀ f,(Uc f).Ok P f):∀ (t:OT) (sl:List ah) (lh:List av) {XX:Prop},oq w0 Uc t sl lh (λ_ _=>XX)->XX
 |.done,sl,lh,XX,h=>h|.op o r,sl,lh,XX,h=>jA hS [o] sl lh (gE hS [o] sl lh (K':=λ_ _=>XX) (λs l h=>ks hS r s l h) h)|.alt a b,sl,lh,XX,h=>ks hS a sl lh h.1
theorem abH (hS:∀ f,(Uc f).Ok P f):∀ (c:gt),(∀ (nb:Nat) (sl:List ah) (lh:List av) {X4 Q':Ex->List ah->List av->Prop},(∀ x s l,X4 x s l->Q' x s l)->cm w0 Uc nb c sl lh X4->cm w0 Uc nb c sl lh Q') /\
 ∀(nb:Nat) (sl:List ah) (lh:List av) {X4:Ex->List ah->List av->Prop} {XX:Prop},(∀x s l,X4 x s l->XX)->cm w0 Uc nb c sl lh X4->XX:=by
 intro c;induction c with
 |reg ops=>exact⟨λnb sl lh X4 Q' hq h=>gE hS ops sl lh (λ_ _=>hq _ _ _) h,λnb sl lh X4 XX hq h=>jA hS ops sl lh (gE hS ops sl lh (λ_ _=>hq _ _ _) h)⟩|allo t=>exact⟨λnb sl lh X4 Q' hq h=>io hS t sl lh (λ_ _=>hq _ _ _) h,λnb sl lh X4 XX hq h=>ks hS t sl lh (io hS t sl lh (K':=λ_ _=>XX) (λ_ _=>hq _ _ _) h)⟩|alloq t=>exact⟨λnb sl lh X4 Q' hq h=>io (pD hS) t sl lh (λ_ _=>hq _ _ _) h,λnb sl lh X4 XX hq h=>ks (pD hS) t sl lh (io (pD hS) t sl lh (K':=λ_ _=>XX) (λ_ _=>hq _ _ _) h)⟩|draw ds=>exact⟨λnb sl lh X4 Q' hq h=>gO hS (λ_ _=>hq _ _ _) h,λnb sl lh X4 XX hq h=>kT hS (gO hS (K':=λ_ _=>XX) (λ_ _=>hq _ _ _) h)⟩
 |seq a b iha ihb=>
   refine⟨λnb sl lh X4 Q' hq h=>iha.1 nb sl lh (λx s l hx=>?_) h,λnb sl lh X4 XX hq h=>iha.2 nb sl lh (λx s l hx=>?_) h⟩
   ·cases x with|normal=>exact ihb.1 nb _ _ hq hx|exit i=>exact hq _ _ _ hx|ret=>exact hq _ _ _ hx
   ·cases x with|normal=>exact ihb.2 nb _ _ hq hx|exit i=>exact hq _ _ _ hx|ret=>exact hq _ _ _ hx
 |cond c a b iha ihb=>
   refine⟨λnb sl lh X4 Q' hq h=>?_,λnb sl lh X4 XX hq h=>?_⟩
   ·simp[cm]at h ⊢
    split at h
    ·exact⟨λe=>iha.1 nb _ _ hq (h.1 e),λe=>ihb.1 nb _ _ hq (h.2 e)⟩
    ·exact h.elim
   ·simp [cm]at h
    split at h
    ·rename_i t _
     cases t with
     |true=>exact iha.2 nb _ _ hq (h.1 rfl)|false=>exact ihb.2 nb _ _ hq (h.2 rfl)
    ·exact h.elim
 |block id b ih=>
   refine⟨λnb sl lh X4 Q' hq h=>ih.1 nb sl lh (λx s l hx=>?_) h,λnb sl lh X4 XX hq h=>ih.2 nb sl lh (λx s l hx=>?_) h⟩
   ·cases x with|normal=>exact hq _ _ _ hx|ret=>exact hq _ _ _ hx|exit i=>simp[uG]at hx ⊢;split at hx<;>rename_i e<;>simp[e,J6,IG]<;>exact hq _ _ _ hx
   ·cases x with|normal=>exact hq _ _ _ hx|ret=>exact hq _ _ _ hx|exit i=>simp[uG]at hx;split at hx<;>exact hq _ _ _ hx
 |loop b ih=>
   refine⟨λnb sl lh X4 Q' hq h=>?_,λnb sl lh X4 XX hq h=>?_⟩
   ·simp only[cm]at h ⊢
    let ⟨ι,shs,shl,μ,i0,N,hr⟩:=h
    refine⟨ι,shs,shl,μ,i0,N,λi=>ih.1 nb _ _ (λx s l hx=>?_) (hr i)⟩;cases x with
    |normal=>exact hx|exit i=>exact hq _ _ _ hx|ret=>exact hq _ _ _ hx
   ·simp only [cm]at h
    let ⟨ι,shs,shl,μ,i0,N,hr⟩:=h
    have key:∀ k i,μ i=k->XX:=λk=>by
     induction k using Nat.strongRecOn with
     |_ k ihk=>
       intro i hi;refine ih.2 nb _ _ (λx s l hx=>?_) (hr i);cases x with
       |normal=>let ⟨i',_,XD⟩:=hx;exact ihk _ (by rw[← hi];exact XD) i' rfl
       |exit i=>exact hq _ _ _ hx|ret=>exact hq _ _ _ hx
    exact key _ i0 rfl
 |scope b ih=>exact⟨λnb sl lh X4 Q' hq h=>ih.1 nb sl lh hq h,λnb sl lh X4 XX hq h=>ih.2 nb sl lh hq h⟩|skip=>exact⟨λnb sl lh X4 Q' hq h=>hq _ _ _ h,λnb sl lh X4 XX hq h=>hq _ _ _ h⟩|exit i=>exact⟨λnb sl lh X4 Q' hq h=>hq _ _ _ h,λnb sl lh X4 XX hq h=>hq _ _ _ h⟩|ret=>exact⟨λnb sl lh X4 Q' hq h=>hq _ _ _ h,λnb sl lh X4 XX hq h=>hq _ _ _ h⟩
 |range g ps asg body CJ iha ihb=>
   have hY:∀ (sl xs:List ah) (lh:List av) (K K':Ex->List av->Prop),(∀ x l,K x l->K' x l)->(xs.length=ps.length/\cm w0 Uc lh.length asg (kA sl ps xs) lh (sZ (λsl lh'=>cm w0 Uc lh.length body sl lh' λx _ lh=>K x lh) λ_ _ _=>False))->(xs.length=ps.length/\cm w0 Uc lh.length asg (kA sl ps xs) lh (sZ (λsl lh'=>cm w0 Uc lh.length body sl lh' λx _ lh=>K' x lh) λ_ _ _=>False)):=λsl xs lh K K' hk h=>by
    refine⟨h.1,iha.1 _ _ _ (λx s l hx=>?_) h.2⟩;cases x with
    |normal=>exact ihb.1 _ _ _ (λ_ _ _=>hk _ _) hx|exit i=>exact hx|ret=>exact hx
   have ZZ:∀ (sl xs:List ah) (lh:List av) (X4:Prop),(xs.length=ps.length/\cm w0 Uc lh.length asg (kA sl ps xs) lh (sZ (λsl lh'=>cm w0 Uc lh.length body sl lh' λ_ _ _=>X4) λ_ _ _=>False))->X4:=λsl xs lh X4 h=>by
    refine iha.2 _ _ _ (λx s l hx=>?_) h.2;cases x with
    |normal=>exact ihb.2 _ _ _ (λ_ _ _ h=>h) hx|exit i=>exact hx.elim|ret=>exact hx.elim
   refine⟨λnb sl lh X4 Q' hq h=>?_,λnb sl lh X4 XX hq h=>?_⟩
   ·simp [cm]at h ⊢
    split at h
    ·split at h
     ·exact λl=>afQ hS (λxs lh K K'=>hY sl xs lh K K') _ _ _ _ (λx s l g hx=>by cases x<;>cases g<;>first|exact hx|exact hq _ _ _ hx) (h l)
     ·exact h.elim
    ·exact h.elim
   ·simp [cm]at h
    split at h
    ·split at h
     ·exact adi hS (λxs lh K K'=>hY sl xs lh K K') (λxs lh X4=>ZZ sl xs lh X4) _ _ _ _ (λx s l g hx=>by cases x<;>cases g<;>first|exact hx.elim|exact hq _ _ _ hx) (h 0)
     ·exact h.elim
    ·exact h.elim
theorem lW:∀ (rs:List zS) (sl:List ah) (lh:List av) {K K':List ah->Prop},(∀ vs,K vs->K' vs)->iW w0 sl lh rs K->iW w0 sl lh rs K'
 |[],_,_,_,_,hk,h=>hk _ h|.tmp t::l,sl,lh,_,_,hk,h=>lW l sl lh (λ_=>hk _) h
 |.cell t n::l,sl,lh,_,_,hk,h=>by
   simp[iW]at h ⊢;split at h
   ·split at h
    ·let ⟨v,N,Q⟩:=h;exact⟨v,N,lW l sl lh (λ_=>hk _) Q⟩
    ·let ⟨v,N,Q⟩:=h;exact⟨v,N,lW l sl lh (λ_=>hk _) Q⟩
   ·exact h.elim
theorem jz {XX:Prop}:∀ (rs:List zS) (sl:List ah) (lh:List av),iW w0 sl lh rs (λ_=>XX)->XX
 |[],_,_,h=>h|.tmp t::l,sl,lh,h=>jz l sl lh h
 |.cell t n::l,sl,lh,h=>by
   simp only[iW]at h;split at h
   ·split at h
    ·let ⟨v,N,Q⟩:=h;exact jz l sl lh Q
    ·let ⟨v,N,Q⟩:=h;exact jz l sl lh Q
   ·exact h.elim
def Lf (Uc:FuncId->bT) (sf:aU):bT:=λw0 args lh K=>FH w0 Uc sf args lh K
theorem hp1 {BD : List TypeId} {CJ : List gX} {f : FuncId} {fn : Func} {sf : aU} (hS : ∀ g, (Uc g).Ok P g) (hE : ∀ t ∈ BD, dc P t) (hI : kG P BD CJ) (hf : P.funcs[f]? = some fn) (hn : (fn.name == "runtime.NumGoroutine") = false) (hc : ek P BD CJ fn = some sf) : (Lf Uc sf).Ok P f := by
 have mono:∀ w0 args lh K K',(∀ r l,K r l->K' r l)->Lf Uc sf w0 args lh K->Lf Uc sf w0 args lh K':=λw0 args lh K K' hk h=>
  (abH hS sf.body).1 _ _ _ (λx s l hx=>by cases x<;>first|exact hx|exact lW _ _ _ (λ_=>hk _ _) hx) h
 refine⟨nT hS hE hI hf hn hc λw0 args lh K _ _ h=>?_,mono,λw0 args lh X4 h=>(abH hS sf.body).2 _ _ _ (λx s l hx=>by cases x<;>first|exact hx.elim|exact jz _ _ _ hx) h⟩
 exact mono w0 args lh K _ (λr l hk=>⟨r,l,.inl ⟨rfl,by unfold lw;exact⟨.inr rfl,by simp[lw]⟩⟩,hk⟩) h
end
end Go.Sx
namespace Go.Dx
open Go.Sx
mutual
def cP:V->ah
 |.int k n=>.int k n|.bool b=>.bool b|.kb b=>.bool b|.str s=>.str s|.agg cs=>.agg (cA cs)|.tup cs=>.tup (cA cs)|.sl n f=>.fn (.func 0) [] ((List.range n).map λi=>.agg (cA (f i)))|_=>.any
def cA:List V->List ah
 |[]=>[]|v::vs=>cP v::cA vs
end
section
variable {w0:World} {lh:List av} {ν:Nu}
theorem lP:∀ {v:V},bC (cP v)=true->∀ a,vr w0 lh ν v a↔a=cP v
 |.int ..,_,a=>by simp[vr,cP]
 |.bool _,_,a=>by simp[vr,cP]
 |.kb _,_,a=>by simp[vr,cP]
 |.str _,_,a=>by simp[vr,cP]
 |.agg _,h,_=>by simp[cP,bC]at h
 |.tup _,h,_=>by simp[cP,bC]at h
 |.fn ..,h,_=>by simp[cP,bC]at h
 |.sl ..,h,_=>by simp[cP,bC]at h
 |.pd ..,h,_=>by simp[cP,bC]at h
 |.pl ..,h,_=>by simp[cP,bC]at h
 |.pe ..,h,_=>by simp[cP,bC]at h
 |.ss ..,h,_=>by simp[cP,bC]at h
 |.gs ..,h,_=>by simp[cP,bC]at h
 |.ns,h,_=>by simp[cP,bC]at h
 |.np,h,_=>by simp[cP,bC]at h
 |.any,h,_=>by simp[cP,bC]at h
 |.gd ..,h,_=>by simp[cP,bC]at h
 |.yl _,h,_=>by simp[cP,bC]at h
 |.go ..,h,_=>by simp[cP,bC]at h
 |.sq ..,h,_=>by simp[cP,bC]at h
theorem fi:∀ {vs:List V},(cA vs).all bC=true->∀ az,bp w0 lh ν vs az↔az=cA vs
 |[],_,az=>by simp[bp,cA]
 |v::vs,h,az=>by
   simp only[cA,Ib,DD]at h;simp only[bp,cA];constructor
   ·rintro⟨x,xs,rfl,N,Q⟩;rw[(lP h.1 x).1 N,(fi h.2 xs).1 Q]
   ·rintro rfl;exact⟨_,_,rfl,(lP h.1 _).2 rfl,(fi h.2 _).2 rfl⟩
theorem pj {v:V} (h:(match cP v with|.agg ds=>ds.all bC|a=>bC a)=true) (a:ah):vr w0 lh ν v a↔a=cP v:=by
 cases v with
 |agg cs=>
   simp only[cP]at h;simp only[vr,cP];constructor
   ·rintro⟨az,rfl,N⟩;rw[(fi h az).1 N]
   ·rintro rfl;exact⟨_,rfl,(fi h _).2 rfl⟩
 |_=>first|exact lP (by simpa[cP] using h) a|(simp[cP,bC]at h)
theorem mu:∀ {vs:List V},((cA vs).all λ|.agg ds=>ds.all bC|a=>bC a)=true->∀ az,bp w0 lh ν vs az↔az=cA vs
 |[],_,az=>by simp[bp,cA]
 |v::vs,h,az=>by
   simp only[cA,Ib,DD]at h;simp only[bp,cA];constructor
   ·rintro⟨x,xs,rfl,N,Q⟩;rw[(pj h.1 x).1 N,(mu h.2 xs).1 Q]
   ·rintro rfl;exact⟨_,_,rfl,(pj h.1 _).2 rfl,(mu h.2 _).2 rfl⟩
theorem abq {v:V} (h:plain (cP v)=true) (a:ah):vr w0 lh ν v a↔a=cP v:=by
 cases v with
 |tup cs=>
   simp only[cP,plain]at h;simp only[vr,cP];constructor
   ·rintro⟨az,rfl,N⟩;rw[(mu h az).1 N]
   ·rintro rfl;exact⟨_,rfl,(mu h _).2 rfl⟩
 |agg cs=>exact pj (by simpa[cP,plain] using h) a|_=>first|exact lP (by simpa[cP,plain] using h) a|(simp[cP,plain,bC]at h)
end
theorem uW:∀ vs:List V,(cA vs).length=vs.length
 |[]=>by simp[cA]
 |v::vs=>by simp[cA,uW vs]
theorem DO {n m:Nat} {f g:bl} (h:cP (.sl n f)=cP (.sl m g)):n=m/\∀i,i<n->cA (f i)=cA (g i):=by simp[cP,ah.fn.injEq,HJ]at h;have hl:=congrArg List.length h;simp[List.length_map,List.length_range]at hl;subst hl;refine⟨rfl,λi hi=>?_⟩;have:=congrArg (λl=>l[i]?) h;simpa[hi] using this
def oS:V->Option (Nat×(Nat->List V))
 |.sl n f=>some (n,f)|.tup (.sl n f::_)=>some (n,f)|_=>none
def CQ:V->List V
 |.tup (_::vs)=>vs|_=>[]
def ic11 (v:V):V->V
 |.tup (_::vs)=>.tup (v::vs)|_=>v
def oU (a:ah):V->ah
 |.tup (_::vs)=>.tup (a::cA vs)|_=>a
theorem R23 {r:V} {n:Nat} {f:bl} (h:oS r=some (n,f)):r=.sl n f∨∃ vs,r=.tup (.sl n f::vs):=by
 unfold oS at h;split at h
 ·cases h;exact .inl rfl
 ·cases h;exact .inr ⟨_,rfl⟩
 ·cases h
def Su (e:Nat) (r:V):Prop:=∃n f,oS r=some (n,f)/\n<=9223372036854775807/\(∀i,i<n->lY e (f i)=true/\(cA (f i)).all bC=true)/\(cA (CQ r)).all bC=true
def Hp (e:Nat) (ty:TypeId) (nb:Nat) (lh:List av) (n:Nat) (f:bl) (x:ah):Prop :=
 (n=0/\x=.slice none 0 0)∨∃b c az,nb<=b/\lh[b]? = some (.cells az ty)/\x=.slice (some (.l b 0)) n c/\az.length=c*e/\n<=c/\∀i,i<n->(az.drop (i*e)).take e=cA (f i)
theorem acB {m m':aJ} {x x':ah} {r:V} {n:Nat} {f:bl} {v:Value} (hr:oS r=some (n,f)) (hs:(cA (CQ r)).all bC=true) (hx:∀ u,CL m x u->CL m' x' u) (h:CL m (oU x r) v):CL m' (oU x' r) v:=by
 rcases R23 hr with rfl|⟨vs,rfl⟩
 ·exact hx v h
 ·simp[oU,CL]at h ⊢
  obtain⟨us,rfl,Q⟩:=h;refine⟨us,rfl,?_⟩;simp[aC]at Q ⊢
  let ⟨u,us',e,h3,h4⟩:=Q
  exact⟨u,us',e,hx u h3,i6 hs h4⟩
theorem yo {e:Nat} {f:bl}:∀ {n:Nat},(∀ i,i<n->(cA (f i)).length=e)->((List.range n).flatMap λi=>cA (f i)).length=n*e/\∀ i,i<n->(((List.range n).flatMap λi=>cA (f i)).drop (i*e)).take e=cA (f i)
 |0,_=>⟨aD,λi hi=>by omega⟩
 |n+1,h=>by
   let ⟨N,Q⟩:=yo (n:=n) λi hi=>h i I
   rw[List.range_succ,List.flatMap_append];simp only[List.flatMap_cons,List.flatMap_nil,Q7];have hn:=h n I;refine⟨by rw[Md,N,hn,Hs],λi hi=>?_⟩;by_cases e1:i=n
   ·subst e1;rw[Qi I,List.drop_of_length_le I,List.nil_append,Q4 I]
   ·have Y3:i*e+e<=n*e:=by rw[← Hs];exact Hw e I
    rw[Qi I,Qh (by rw[PG];omega)];exact Q i I
theorem twH {α:Type} {l l':List α} {XE a e:Nat} (h:l.take XE=l'.take XE) (ha:a+e<=XE):(l.drop a).take e=(l'.drop a).take e:=by
 have key:∀l:List α,(l.drop a).take e=((l.take XE).drop a).take e:=λl=>by rw[P9,Mi,PO I]
 rw[key l,key l',h]
theorem C78 {az:List ah} {e:Nat}:∀ {n:Nat},(∀ i,i<n->((az.drop (i*e)).take e).all bC=true)->(az.take (n*e)).all bC=true
 |0,_=>by simp
 |n+1,h=>by rw[Hs,List.take_add,List.all_append,C78 λi hi=>h i I,h n I];rfl
theorem R32 {m:aJ}:∀ vs:List Value,aC m (List.replicate vs.length .any) vs
 |[]=>by simp[aC]
 |v::vs=>by simp only[MN,O2,aC];exact⟨v,vs,rfl,trivial,R32 vs⟩
theorem afM {B:dj} {m:aJ} {lh:List av} {w:World} (h:ba B m lh w) {b:Nat} {az:List ah} {vs:Array Value} {ty:TypeId} (hb:w.heap[b]? = some (.cells vs ty (0,0)))
 (hs:aC (λk=>if k=lh.length then some b else m k) az vs.toList) (h0:B.w0.heap.size<=b) (N:B.wf.heap.size<=b) (hn:∀k b',m k=some b'->b'≠b):ba B (λk=>if k=lh.length then some b else m k) (lh++[.cells az ty]) w/\m.le (λk=>if k=lh.length then some b else m k):=by
 have Y3:m.le (λk=>if k=lh.length then some b else m k):=λk x hk=>by
  have:k≠lh.length:=λe=>by rw[e,h.dom _ (Dm _)]at hk;cases hk
  simp[Ck this];exact hk
 have hget:∀ k cs ty',(lh++[av.cells az ty])[k]? = some (.cells cs ty')->(k=lh.length/\cs=az/\ty'=ty)∨(k<lh.length/\lh[k]? = some (.cells cs ty')):=λk cs ty' hk=>by
  rw[JS]at hk;split at hk
  ·rename_i XD;exact .inr ⟨XD,hk⟩
  ·rename_i Z1
   have:k-lh.length=0:=by apply Classical.byContradiction;intro Yf;rw[IP (by simp;omega)]at hk;cases hk
   rw[this]at hk;simp[MM,H2,av.cells.injEq]at hk;exact .inl ⟨I,hk.1.symm,hk.2.symm⟩
 refine⟨⟨h.os,h.tape,h.output,h.size,h.old,h.fsize,h.kept,λk cs ty' hk=>?_,λk k' b' cs cs' ty1 ty2 hk YP hm Zl=>?_,λk hk=>?_,λk hk=>?_,λk b' hk=>?_⟩,Y3⟩
 ·rcases hget k cs ty' hk with ⟨rfl,rfl,rfl⟩|⟨XD,hk⟩
  ·exact⟨b,vs,aD,hs,hb,h0,.inl N⟩
  ·let ⟨b',vs',g1,g2,g3,g4,g5⟩:=h.loc k cs ty' hk
   exact⟨b',vs',Y3 _ _ g1,cH Y3 _ _ g2,g3,g4,g5⟩
 ·rcases hget k cs ty1 hk with ⟨e1,_,_⟩|⟨l1,g1⟩<;>rcases hget k' cs' ty2 YP with ⟨e2,_,_⟩|⟨l2,g2⟩
  ·omega
  ·simp[e1,J6]at hm;simp[Ck (OH l2)]at Zl;cases hm;exact(hn _ _ Zl rfl).elim
  ·simp[e2,J6]at Zl;simp[Ck (OH l1)]at hm;cases Zl;exact(hn _ _ hm rfl).elim
  ·simp[Ck (OH l1)]at hm;simp[Ck (OH l2)]at Zl;exact h.inj k k' b' cs cs' ty1 ty2 g1 g2 hm Zl
 ·simp[Md,MN,List.length_nil]at hk;simp[Ck (show k≠lh.length by omega)];exact h.dom k I
 ·rw [JS]at hk
  split at hk
  ·rename_i XD;simp[Ck (OH XD)];exact h.dead k hk
  ·rename_i Z1
   have:k-lh.length=0:=by apply Classical.byContradiction;intro Yf;rw[IP (by simp;omega)]at hk;cases hk
   rw[this]at hk;simp at hk
 ·by_cases e1:k=lh.length
  ·simp[e1,J6,H2]at hk;subst hk;exact(Array.getElem?_eq_some_iff.1 hb).1
  ·simp[Ck e1]at hk;exact h.rng k b' hk
abbrev aH:=List V->Option ((List V×List V)×Prop×V)
def Od (r:V):Prop:=∀(w0:World) (lh:List av),∃x new,vr w0 (List.replicate lh.length .dead++new) Nu.nil r x
inductive RJ where|con (C:aH)|conN (C:aH) (h:∀ds d p r,C ds=some (d,p,r)->d.1=d.2->p->Od r)|conZ (C:aH) (h:∀ds d p r,C ds=some (d,p,r)->d.1=d.2->p->∀w0 lh args,bp w0 lh Nu.nil ds args->∃x new,vr w0 (lh++new) Nu.nil r x)|inl (sf:aU) (un:kZ)
abbrev bo:=List (FuncId×RJ)
def jw:bo->FuncId->Option RJ
 |[],_=>none|(k,c)::l,f=>cond (Nat.beq f k) (some c) (jw l f)
def vP (C:aH):bT:=λw0 args lh K=>∃ds d p r,bp w0 lh Nu.nil ds args/\C ds=some (d,p,r)/\(d.1=d.2/\p)/\plain (cP r)=true/\K (cP r) lh
def vL (e:Nat) (ty:TypeId) (C:aH):bT:=λw0 args lh K=>∃ds d p r n f,bp w0 lh Nu.nil ds args/\C ds=some (d,p,r)/\(d.1=d.2/\p)/\oS r=some (n,f)/\Su e r/\∀x new,Hp e ty lh.length (lh++new) n f x->K (oU x r) (lh++new)
def vN (C:aH):bT:=λw0 args lh K=>∃ds d p r,bp w0 lh Nu.nil ds args/\C ds=some (d,p,r)/\(d.1=d.2/\p)/\Od r/\∀x new,vr w0 (List.replicate lh.length .dead++new) Nu.nil r x->K x (lh++new)
def vZ (C:aH):bT:=λw0 args lh K=>∃ds d p r X,bp w0 (hide X lh) Nu.nil ds args/\(∀k,k∉X->isCells lh[k]? = true∨lh.length<=k)/\C ds=some (d,p,r)/\(d.1=d.2/\p)/\(∃x new,vr w0 (hide X lh++new) Nu.nil r x)/\∀x new,vr w0 (hide X lh++new) Nu.nil r x->K x (lh++new)
def SV (ct:bo):A6
 |0,f=>match jw ct f with|some (.con C)=>vP C|some (.conN C _)=>vN C|some (.conZ C _)=>vZ C|_=>Yo
 |n+1,f=>match jw ct f with|some (.con C)=>vP C|some (.conN C _)=>vN C|some (.conZ C _)=>vZ C|some (.inl sf _)=>Lf (SV ct n) sf|none=>Yo
section
variable {α:Type}
def AE (C:aH) (vs:List V) (h:List AX) (K:V->Bj α):Bj α:=match C (vs.map (qS h)) with|none=>.fail 81|some (d,p,r)=>.obq d.1 d.2 (.obp p (.ob (plain (cP r)) (Oc (pk h vs) (K r))))
def uR (C:aH) (vs:List V) (h:List AX) (K:V->Bj α):Bj α:=match C (vs.map (qS h)) with|none=>.fail 86|some (d,p,r)=>.obq d.1 d.2 (.obp p (Oc (pk h vs) (K r)))
mutual
def mC:V->Bool
 |.int ..|.bool _|.kb _|.str _|.sl ..|.sq ..|.pd _|.ns|.np|.any=>true|.agg cs|.tup cs=>vj cs|_=>false
def vj:List V->Bool
 |[]=>true|v::vs=>mC v&&vj vs
end
def vm (C:aH) (vs:List V) (h:List AX) (K:V->Bj α):Bj α:=match C vs with|none=>.fail 87|some (d,p,r)=>.obq d.1 d.2 (.obp p (.ob (vj vs) (K r)))
def lZ (ct:bo):CP α:=λX1 f vs h K=>match jw ct f with|some (.con C)=>AE C vs h K|some (.conN C _)=>cond X1 (uR C vs h K) (.fail 80)|some (.conZ C _)=>cond X1 (vm C vs h K) (.fail 80)|_=>.fail 80
def mA (ct:bo):Nat->CF α
 |0,f,vs,h,K=>match jw ct f with
   |some (.con C)=>AE C vs h λv=>K v h
   |some (.conN C _)=>uR C vs h λv=>K v h
   |some (.conZ C _)=>vm C vs h λv=>K v h
   |_=>.fail 82
 |n+1,f,vs,h,K=>match jw ct f with
   |some (.con C)=>AE C vs h λv=>K v h
   |some (.conN C _)=>uR C vs h λv=>K v h
   |some (.conZ C _)=>vm C vs h λv=>K v h
   |some (.inl sf un)=>mK (mA ct n) (lZ ct) un n sf vs h K|none=>.fail 83
theorem qi {w0:World} {LP:eZ} {C:aH} {vs:List V} {h:List AX} {K:V->Bj α} {X4:α->Prop} {ν:Nu} {nV nS:Nat} {args:List ah} {lh:List av} {KA:ah->List av->Prop} (y:bp w0 ν.z ν vs args) (hh:HR w0 ν nV nS h lh) (hs:bM LP (AE C vs h K) X4)
 (hK:∀v a,vr w0 ν.z ν v a->bM LP (K v) X4->KA a lh):vP C w0 args lh KA:=by
 unfold AE at hs;split at hs
 ·exact hs.elim
 ·rename_i d p r hr
  simp[bM]at hs
  let ⟨hb,rJ⟩:=vK hs.2.2.2
  exact⟨_,d,p,r,qv hh hb y,hr,⟨hs.1,hs.2.1⟩,hs.2.2.1,hK r (cP r) ((abq hs.2.2.1 _).2 rfl) rJ⟩
theorem rI {w0:World} {LP:eZ} {C:aH} (hC:∀ ds d p r,C ds=some (d,p,r)->d.1=d.2->p->Od r) {vs:List V} {h:List AX} {K:V->Bj α} {X4:α->Prop} {ν:Nu} {nV nS:Nat} {args:List ah} {lh:List av} {KA:ah->List av->Prop} (y:bp w0 ν.z ν vs args) (hh:HR w0 ν nV nS h lh) (hs:bM LP (uR C vs h K) X4)
 (hK:∀v ν' a lh',(∃t,lh'=lh++t)->ν.sub ν'->HR w0 ν' nV nS h lh'->vr w0 ν'.z ν' v a->bM LP (K v) X4->KA a lh'):vN C w0 args lh KA:=by
 unfold uR at hs;split at hs
 ·exact hs.elim
 ·rename_i d p r hr
  simp[bM]at hs
  let ⟨hb,rJ⟩:=vK hs.2.2
  refine⟨_,d,p,r,qv hh hb y,hr,⟨hs.1,hs.2.1⟩,hC _ _ _ _ hr hs.1 hs.2.1,λx new hx=>?_⟩;have hz:∀k,k<lh.length->((List.range lh.length).map (λk=>(ν.z[k]?).getD av.dead)++new)[k]? = some ((ν.z[k]?).getD .dead):=λk hk=>by rw[Ht (by simpa using hk)];simp[hk]
  have f2:∀k,lh.length<=k->((List.range lh.length).map (λk=>(ν.z[k]?).getD av.dead)++new)[k]? = new[k-lh.length]? := λk hk=>by rw[KM (by simpa using hk)];simp
  have hsub:ν.sub ⟨ν.m,(List.range lh.length).map (λk=>(ν.z[k]?).getD av.dead)++new⟩:=⟨λ_ _ h=>h,λk az ty hk=>by have g:=hh.zl k az ty hk;have XD:=(List.getElem?_eq_some_iff.1 g).1;show((List.range lh.length).map (λk=>(ν.z[k]?).getD av.dead)++new)[k]? = _;rw[hz k XD,hk];rfl⟩;refine hK r _ x _ ⟨new,rfl⟩ hsub ⟨λk o hk=>?_,hh.inj,hh.dom,λk x1 hk=>by rw[Md];exact LI (hh.rng k x1 hk) I,λj az ty hj=>?_,λk x1 hl hk=>?_⟩ ?_ rJ
  ·by_cases hd:o=.dead
   ·subst hd
    let ⟨g1,g2,g3⟩:=hh.blk k _ hk
    exact⟨g1,g2,by rw[Ht (List.getElem?_eq_some_iff.1 g3).1];exact g3⟩
   ·exact dO hsub hd (λb az ty' g1 _=>by rw[Ht (List.getElem?_eq_some_iff.1 g1).1];exact g1) (hh.blk k _ hk)
  ·by_cases XD:j<lh.length
   ·rw [hz j XD]at hj
    cases hg:ν.z[j]? with
    |none=>rw[hg]at hj;cases hj
    |some o=>rw[hg]at hj;simp[Q5,H2]at hj;subst hj;rw[Ht XD];exact hh.zl j az ty hg
   ·rw[f2 j I]at hj;rw[KM I];exact hj
  ·have XD:=hh.rng k x1 hk
   have:=hh.zn k x1 hl hk;show isCells ((List.range lh.length).map (λk=>(ν.z[k]?).getD av.dead)++new)[x1.1]? = false;rw[hz _ XD];cases hg:ν.z[x1.1]? with
   |none=>rfl|some o=>rw[hg]at this;exact this
  ·refine nt (λk x h=>by cases h) r x (kJ (λk az ty hk=>?_) r x hx)
   by_cases XD:k<lh.length
   ·rw[Ht (by simpa using XD)]at hk;simp[XD]at hk
   ·rw[KM (by simp;omega)]at hk;rw[f2 k I];simpa using hk
mutual
theorem ah1 {w0:World} {lh:List av} {ν:Nu}:∀ (v:V) (a:ah),mC v=true->vr w0 lh ν v a->vr w0 lh Nu.nil v a
 |.int ..,a,_,h=>by simp[vr]at h ⊢;exact h
 |.bool _,a,_,h=>by simp[vr]at h ⊢;exact h
 |.kb _,a,_,h=>by simp[vr]at h ⊢;exact h
 |.str _,a,_,h=>by simp[vr]at h ⊢;exact h
 |.sl ..,a,_,h=>by simp[vr]at h ⊢;exact h
 |.sq ..,a,_,h=>by simp[vr]at h ⊢;exact h
 |.pd _,a,_,h=>by simp[vr]at h ⊢;exact h
 |.ns,a,_,h=>by simp[vr]at h ⊢;exact h
 |.np,a,_,h=>by simp[vr]at h ⊢;exact h
 |.any,a,_,h=>by simp[vr]
 |.agg cs,a,hn,h=>by simp[vr]at h ⊢;let ⟨az,e,h⟩:=h;exact⟨az,e,om cs az (by simpa[mC] using hn) h⟩
 |.tup cs,a,hn,h=>by simp[vr]at h ⊢;let ⟨az,e,h⟩:=h;exact⟨az,e,om cs az (by simpa[mC] using hn) h⟩
 |.fn ..,a,hn,h=>by simp[mC]at hn
 |.pl ..,a,hn,h=>by simp[mC]at hn
 |.pe ..,a,hn,h=>by simp[mC]at hn
 |.ss ..,a,hn,h=>by simp[mC]at hn
 |.gs ..,a,hn,h=>by simp[mC]at hn
 |.gd ..,a,hn,h=>by simp[mC]at hn
 |.yl ..,a,hn,h=>by simp[mC]at hn
 |.go ..,a,hn,h=>by simp[mC]at hn
theorem om {w0:World} {lh:List av} {ν:Nu}:∀ (vs:List V) (az:List ah),vj vs=true->bp w0 lh ν vs az->bp w0 lh Nu.nil vs az
 |[],az,_,h=>by simp[bp]at h ⊢;exact h
 |v::vs,az,hn,h=>by
   simp[vj,DD]at hn;simp[bp]at h ⊢
   let ⟨x,xs,e,N,Q⟩:=h
   exact⟨x,xs,e,ah1 v x hn.1 N,om vs xs hn.2 Q⟩
end
theorem rf {w0:World} {LP:eZ} {C:aH} (hC:∀ ds d p r,C ds=some (d,p,r)->d.1=d.2->p->∀ w0 lh args,bp w0 lh Nu.nil ds args->∃ x new,vr w0 (lh++new) Nu.nil r x) {vs:List V} {h:List AX} {K:V->Bj α} {X4:α->Prop} {ν:Nu} {nV nS:Nat} {args:List ah} {lh:List av} {KA:ah->List av->Prop} (y:bp w0 ν.z ν vs args) (hh:HR w0 ν nV nS h lh) (hs:bM LP (vm C vs h K) X4)
 (hK:∀v ν' a lh',(∃t,lh'=lh++t)->ν.sub ν'->HR w0 ν' nV nS h lh'->vr w0 ν'.z ν' v a->bM LP (K v) X4->KA a lh'):vZ C w0 args lh KA:=by
 unfold vm at hs;split at hs
 ·exact hs.elim
 ·rename_i d p r hr
  simp[bM]at hs
  let ⟨ZV,Zn,wa,rJ⟩:=hs
  have hX:∀k,k∈((List.range lh.length).filter λk=>!isCells ν.z[k]?)↔k<lh.length/\isCells ν.z[k]? = false:=λk=>by simp
  have j0:tf ν.z (hide ((List.range lh.length).filter λk=>!isCells ν.z[k]?) lh):=λk az ty hk=>by rw[Go.Sx.hide_get,Ck (λhm=>by have:=((hX k).1 hm).2;rw[hk]at this;simp[isCells]at this)];exact hh.zl k az ty hk
  have ha:bp w0 (hide ((List.range lh.length).filter λk=>!isCells ν.z[k]?) lh) Nu.nil vs args:=j5 j0 vs args (om vs args wa y);refine⟨vs,d,p,r,_,ha,λk hk=>?_,hr,⟨ZV,Zn⟩,hC _ _ _ _ hr ZV Zn _ _ _ ha,λx new hx=>?_⟩
  ·rcases M3 k lh.length with XD|Z1
   ·left
    cases hi:isCells ν.z[k]? with
    |false=>exact(hk ((hX k).2 ⟨XD,hi⟩)).elim
    |true=>
      cases hz:ν.z[k]? with
      |none=>rw[hz]at hi;cases hi
      |some o=>
        rw[hz]at hi;cases o with
        |cells az ty=>rw[hh.zl k az ty hz];rfl|_=>cases hi
   ·exact .inr Z1
  have hz:∀k,k<lh.length->((List.range lh.length).map (λk=>(ν.z[k]?).getD av.dead)++new)[k]? = some ((ν.z[k]?).getD .dead):=λk hk=>by rw[Ht (by simpa using hk)];simp[hk]
  have f2:∀k,lh.length<=k->((List.range lh.length).map (λk=>(ν.z[k]?).getD av.dead)++new)[k]? = new[k-lh.length]? := λk hk=>by rw[KM (by simpa using hk)];simp
  have hsub:ν.sub ⟨ν.m,(List.range lh.length).map (λk=>(ν.z[k]?).getD av.dead)++new⟩:=⟨λ_ _ h=>h,λk az ty hk=>by have g:=hh.zl k az ty hk;have XD:=(List.getElem?_eq_some_iff.1 g).1;show((List.range lh.length).map (λk=>(ν.z[k]?).getD av.dead)++new)[k]? = _;rw[hz k XD,hk];rfl⟩;refine hK r _ x _ ⟨new,rfl⟩ hsub ⟨λk o hk=>?_,hh.inj,hh.dom,λk x1 hk=>by rw[Md];exact LI (hh.rng k x1 hk) I,λj az ty hj=>?_,λk x1 hl hk=>?_⟩ ?_ rJ
  ·by_cases hd:o=.dead
   ·subst hd
    let ⟨g1,g2,g3⟩:=hh.blk k _ hk
    exact⟨g1,g2,by rw[Ht (List.getElem?_eq_some_iff.1 g3).1];exact g3⟩
   ·exact dO hsub hd (λb az ty' g1 _=>by rw[Ht (List.getElem?_eq_some_iff.1 g1).1];exact g1) (hh.blk k _ hk)
  ·by_cases XD:j<lh.length
   ·rw [hz j XD]at hj
    cases hg:ν.z[j]? with
    |none=>rw[hg]at hj;cases hj
    |some o=>rw[hg]at hj;simp[Q5,H2]at hj;subst hj;rw[Ht XD];exact hh.zl j az ty hg
   ·rw[f2 j I]at hj;rw[KM I];exact hj
  ·have XD:=hh.rng k x1 hk
   have:=hh.zn k x1 hl hk;show isCells ((List.range lh.length).map (λk=>(ν.z[k]?).getD av.dead)++new)[x1.1]? = false;rw[hz _ XD];cases hg:ν.z[x1.1]? with
   |none=>rfl|some o=>rw[hg]at this;exact this
  ·refine nt (λk x h=>by cases h) r x (kJ (λk az ty hk=>?_) r x hx)
   by_cases XD:k<lh.length
   ·rw [Ht (by rw[Go.Sx.hide_length];exact XD),Go.Sx.hide_get]at hk
    split at hk
    ·cases hg:lh[k]? <;> rw[hg]at hk<;>cases hk
    ·rename_i hm
     rw[hz k XD];cases hi:isCells ν.z[k]? with
     |false=>exact(hm ((hX k).2 ⟨XD,hi⟩)).elim
     |true=>
       cases hg:ν.z[k]? with
       |none=>rw[hg]at hi;cases hi
       |some o=>
         rw[hg]at hi;cases o with
         |cells as' ty'=>have:=hh.zl k as' ty' hg;rw[hk]at this;cases this;rfl|_=>cases hi
   ·rw[KM (by rw[Go.Sx.hide_length];omega),Go.Sx.hide_length]at hk;rw[f2 k I];exact hk
theorem NA {ct:bo} {lv:Nat} {f:FuncId} {C:aH} (hC:jw ct f=some (.con C)):SV ct lv f=vP C:=by cases lv<;>simp[SV,hC]
theorem hjp {ct:bo} {lv:Nat} {f:FuncId} {C:aH} {h} (hC:jw ct f=some (.conN C h)):SV ct lv f=vN C:=by cases lv<;>simp[SV,hC]
theorem hj' {ct:bo} {lv:Nat} {f:FuncId} {C:aH} {h} (hC:jw ct f=some (.conZ C h)):SV ct lv f=vZ C:=by cases lv<;>simp[SV,hC]
theorem oc (w0:World) (ct:bo) (LP:eZ) (lv:Nat):uJ w0 (SV ct lv) LP (lZ (α:=α) ct):=by
 refine⟨?_,?_⟩
 ·intro f vs h K X4 ν nV nS args lh KA y hh hs hK
  unfold lZ at hs;split at hs
  ·rename_i C hC;rw[NA hC];exact qi y hh hs hK
  ·exact hs.elim
  ·exact hs.elim
  ·exact hs.elim
 ·intro f vs h K X4 ν nV nS args lh KA y hh hs hK
  unfold lZ at hs;unfold wu;dsimp only at hs;split at hs
  ·rename_i C hC;rw[NA hC];exact qi y hh hs λv a N Q=>⟨⟨[],aD⟩,hK v h ν a lh (λe=>by cases e) (Nu.sub_refl ν) hh N Q⟩
  ·rename_i C vS hC;rw[hjp hC];exact rI vS y hh hs λv ν' a lh' h0 N Q h3 h4=>⟨h0,hK v h ν' a lh' (λe=>by cases e) N Q h3 h4⟩
  ·rename_i C vS hC;rw[hj' hC];exact rf vS y hh hs λv ν' a lh' h0 N Q h3 h4=>⟨h0,hK v h ν' a lh' (λe=>by cases e) N Q h3 h4⟩
  ·exact hs.elim
def ou:bo->Bool
 |[]=>true|(_,.con _)::l=>ou l|(_,.conN ..)::l=>ou l|(_,.conZ ..)::l=>ou l|(_,.inl sf _)::l=>fN sf.ntmps sf.body&&ou l
theorem acM:∀ {ct:bo} {f:FuncId} {sf:aU} {un:kZ},ou ct=true->jw ct f=some (.inl sf un)->fN sf.ntmps sf.body=true
 |[],_,_,_,_,h=>by cases h
 |(k,c)::l,f,sf,un,hd,h=>by
   simp[jw]at h;cases hb:Nat.beq f k with
   |true=>rw[hb]at h;simp[cond]at h;cases h;simp[ou,DD]at hd;exact hd.1
   |false=>
     rw[hb]at h;simp[cond]at h;refine acM (ct:=l) ?_ h;cases c with
     |con C=>exact hd|conN C h=>exact hd|conZ C h=>exact hd|inl sf' un'=>simp[ou,DD]at hd;exact hd.2
theorem nN (w0:World) (ct:bo) (hd:ou ct=true):∀ (lv:Nat),rC w0 (SV ct lv) (dq w0 (SV ct)) false (mA (α:=α) ct lv)
 |0=>by
   intro f vs h K X4 ν nV nS args lh KA y hh hs hK;simp[mA]at hs;split at hs
   ·rename_i C hC
    have:SV ct 0 f=vP C:=by simp[SV,hC]
    rw[this];exact qi y hh hs λv a y hs=>hK v h ν a lh (λe=>by cases e) (Nu.sub_refl ν) hh y hs
   ·rename_i C hC0 hC
    have:SV ct 0 f=vN C:=by simp[SV,hC]
    rw[this];exact rI hC0 y hh hs λv ν' a lh' _ g0 g1 g2 g3=>hK v h ν' a lh' (λe=>by cases e) g0 g1 g2 g3
   ·rename_i C hC0 hC
    have:SV ct 0 f=vZ C:=by simp[SV,hC]
    rw[this];exact rf hC0 y hh hs λv ν' a lh' _ g0 g1 g2 g3=>hK v h ν' a lh' (λe=>by cases e) g0 g1 g2 g3
   ·exact hs.elim
 |n+1=>by
   intro f vs h K X4 ν nV nS args lh KA y hh hs hK;simp[mA]at hs;split at hs
   ·rename_i C hC
    have:SV ct (n+1) f=vP C:=by simp[SV,hC]
    rw[this];exact qi y hh hs λv a y hs=>hK v h ν a lh (λe=>by cases e) (Nu.sub_refl ν) hh y hs
   ·rename_i C hC0 hC
    have:SV ct (n+1) f=vN C:=by simp[SV,hC]
    rw[this];exact rI hC0 y hh hs λv ν' a lh' _ g0 g1 g2 g3=>hK v h ν' a lh' (λe=>by cases e) g0 g1 g2 g3
   ·rename_i C hC0 hC
    have:SV ct (n+1) f=vZ C:=by simp[SV,hC]
    rw[this];exact rf hC0 y hh hs λv ν' a lh' _ g0 g1 g2 g3=>hK v h ν' a lh' (λe=>by cases e) g0 g1 g2 g3
   ·rename_i sf un hC
    have:SV ct (n+1) f=Lf (SV ct n) sf:=by simp[SV,hC]
    rw[this];exact qd (nN w0 ct hd n) (oc w0 ct _ n) (acM hd hC) y hh hs λv h' ν' a lh' g0 g1 g2 g3=>hK v h' ν' a lh' (λe=>by cases e) g0 (g1 nV nS) g2 g3
   ·exact hs.elim
end
inductive aX (P:Program) (BD:List TypeId) (CJ:List gX):bo->Prop
 |nil:aX P BD CJ []
 |con {f:FuncId} {C:aH} {ct:bo} (h:(vP C).Ok P f) (hl:aX P BD CJ ct):aX P BD CJ ((f,.con C)::ct)
 |conN {f:FuncId} {C:aH} {hC:∀ds d p r,C ds=some (d,p,r)->d.1=d.2->p->Od r} {ct:bo} (h:(vN C).Ok P f) (hl:aX P BD CJ ct):aX P BD CJ ((f,.conN C hC)::ct)
 |conZ {f:FuncId} {C:aH} {hC:∀ds d p r,C ds=some (d,p,r)->d.1=d.2->p->∀w0 lh args,bp w0 lh Nu.nil ds args->∃x new,vr w0 (lh++new) Nu.nil r x} {ct:bo} (h:(vZ C).Ok P f) (hl:aX P BD CJ ct):aX P BD CJ ((f,.conZ C hC)::ct)
 |inl {f : FuncId} {fn : Func} {sf : aU} {un : kZ} {ct : bo} (hf : P.funcs[f]? = some fn) (hn : (fn.name == "runtime.NumGoroutine") = false) (hc : ek P BD CJ fn = some sf) (hd : fN sf.ntmps sf.body = true) (hl : aX P BD CJ ct) : aX P BD CJ ((f, .inl sf un) :: ct)
theorem aX.look {P:Program} {BD:List TypeId} {CJ:List gX} {ct:bo} (h:aX P BD CJ ct):∀ {f:FuncId} {x:RJ},jw ct f=some x->match x with
 |.con C=>(vP C).Ok P f
 |.conN C _=>(vN C).Ok P f
 |.conZ C _=>(vZ C).Ok P f
 |.inl sf _ => ∃ fn, P.funcs[f]? = some fn /\ (fn.name == "runtime.NumGoroutine") = false /\ ek P BD CJ fn = some sf := by
 induction h with
 |nil=>intro f x h;cases h
 | @con k C ct h hl ih=>
   intro f x hx
   simp[jw]at hx
   cases hb:Nat.beq f k with
   |true=>rw[hb]at hx;simp[cond]at hx;cases hx;have:=G9 hb;subst this;exact h
   |false=>rw[hb]at hx;simp[cond]at hx;exact ih hx
 | @conN k C hC ct h hl ih=>
   intro f x hx
   simp[jw]at hx
   cases hb:Nat.beq f k with
   |true=>rw[hb]at hx;simp[cond]at hx;cases hx;have:=G9 hb;subst this;exact h
   |false=>rw[hb]at hx;simp[cond]at hx;exact ih hx
 | @conZ k C hC ct h hl ih=>
   intro f x hx
   simp[jw]at hx
   cases hb:Nat.beq f k with
   |true=>rw[hb]at hx;simp[cond]at hx;cases hx;have:=G9 hb;subst this;exact h
   |false=>rw[hb]at hx;simp[cond]at hx;exact ih hx
 | @inl k fn sf un ct hf hn hc hd hl ih=>
   intro f x hx
   simp[jw]at hx
   cases hb:Nat.beq f k with
   |true=>rw[hb]at hx;simp[cond]at hx;cases hx;have:=G9 hb;subst this;exact⟨fn,hf,hn,hc⟩
   |false=>rw[hb]at hx;simp[cond]at hx;exact ih hx
theorem aX.dst {P:Program} {BD:List TypeId} {CJ:List gX} {ct:bo} (h:aX P BD CJ ct):ou ct=true:=by
 induction h with
 |nil=>rfl|con h hl ih=>exact ih|conN h hl ih=>exact ih|conZ h hl ih=>exact ih|inl hf hn hc hd hl ih=>simp[ou,hd,ih,Q9]
theorem aX.ok {P:Program} {BD:List TypeId} {CJ:List gX} {ct:bo} (h:aX P BD CJ ct) (hE:∀ t∈BD,dc P t) (hI:kG P BD CJ):∀ (lv:Nat) (g:FuncId),(SV ct lv g).Ok P g
 |0,g=>by
   simp[SV];split
   ·rename_i C hC;exact h.look hC
   ·rename_i C hC0 hC;exact h.look hC
   ·rename_i C hC0 hC;exact h.look hC
   ·exact MS g
 |n+1,g=>by
   simp[SV];split
   ·rename_i C hC;exact h.look hC
   ·rename_i C hC0 hC;exact h.look hC
   ·rename_i C hC0 hC;exact h.look hC
   ·rename_i sf un hC
    let ⟨fn,N,Q,h3⟩:=h.look hC
    exact hp1 (h.ok hE hI n) hE hI N Q h3
   ·exact MS g
def LV:Nat:=12
def run (ct:bo) (un:kZ) (sf:aU) (ds:List V):Bj V:=mK (mA ct LV) (lZ ct) un LV sf ds [] λv _=>.ret v
theorem acw {α:Type} {P:Program} {BD:List TypeId} {CJ:List gX} {ct:bo} {f:FuncId} {fn:Func} {sf:aU} {un:kZ} {C:aH} {K0:V->Bj α} {Q0:V->α->Prop} (hK0:∀ w0 r v,bM (dq w0 (SV ct)) (K0 v) (Q0 r)->cP v=cP r) (hT:aX P BD CJ ct) (hE:∀ t∈BD,dc P t) (hI:kG P BD CJ) (hf:P.funcs[f]? = some fn)
 (hn : (fn.name == "runtime.NumGoroutine") = false) (hc : ek P BD CJ fn = some sf) (hd : fN sf.ntmps sf.body = true)
 (h:∀w0 ds d p r,C ds=some (d,p,r)->d.1=d.2->p->plain (cP r)=true->bM (dq w0 (SV ct)) (mK (mA ct LV) (lZ ct) un LV sf ds [] λv _=>K0 v) (Q0 r)):(vP C).Ok P f:=by
 refine⟨λB m lh w args vs K hrel hargs YR=>?_,λ_ _ _ _ _ hk ⟨ds,d,p,r,N,Q,h3,h4,h5⟩=>⟨ds,d,p,r,N,Q,h3,h4,hk _ _ h5⟩,λ_ _ _ _ ⟨_,_,_,_,_,_,_,_,h⟩=>h⟩
 let ⟨ds,d,p,r,N,Q,⟨Yq,h3⟩,h4,h5⟩:=YR
 let ⟨args',g1,g2⟩:=jS hrel ds args vs N hargs
 have hs:=nT (Sp:=λw0 args lh K=>lh=[]/\∃ ds d p r,bp w0 [] Nu.nil ds args/\C ds=some (d,p,r)/\(d.1=d.2/\p)/\plain (cP r)=true/\K (cP r) []) (hT.ok hE hI LV) hE hI hf hn hc (λw0 args lh K hw ha ⟨e,ds,d,p,r,k1,k2,⟨k30,k3⟩,k4,k5⟩=>by
  subst e
  refine qd (nN w0 ct hT.dst LV) (oc w0 ct _ LV) hd k1 (HR.none w0) (h w0 ds d p r k2 k30 k3 k4) λv h' ν' a lh' _ q1 q2 q3=>?_
  have q3:=hK0 _ _ _ q3
  have:=(abq (by rw[q3];exact k4) a).1 q2
  rw[q3]at this
  subst this
  exact aiG (lh:=[]) (l:=lh') (yaM k4) hw k5)
 let ⟨e1,e2⟩:=hs ⟨w,w,λ_=>False,[]⟩ (λ_=>none) [] w args' vs (λr' _=>r'=cP r) (ba.start w) g1 ⟨rfl,ds,d,p,r,g2,Q,⟨Yq,h3⟩,h4,rfl⟩
 refine⟨e1,e2.mono λe w' ⟨v,r',m1,lh1,he,y,_,hr,hk⟩=>?_⟩
 subst hk
 exact⟨v,_,m,lh,he,afb h4 y,iq.refl _ _,hrel.back hr,h5⟩
def Dy (e:Nat) (ty:TypeId) (h:List AX):V->V
 |.gs k n=>match gk h k with|some (.gl e' _ f ty')=>cond (Nat.beq e' e&&Nat.beq ty' ty) (.sl n f) .any|_=>.any
 |.ns=>.sl 0 λ_=>[]
 |_=>.any
def Fp (h:List AX):V->Bool
 |.gs k n=>match gk h k with|some (.gl _ n' _ _)=>decide (n<=n')|_=>true
 |_=>true
def HI (h:List AX):V->Bool
 |.tup (v::_)=>Fp h v|v=>Fp h v
def HX (e:Nat) (ty:TypeId) (h:List AX):V->V
 |.tup (v::vs)=>.tup (Dy e ty h v::vs)|v=>Dy e ty h v
section
variable {w0:World} {ν:Nu} {nV nS:Nat} {h:List AX} {lh:List av}
theorem EM (hh:HR w0 ν nV nS h lh) {e:Nat} {ty:TypeId} {v:V} {a:ah} {n:Nat} {f:bl} (y:vr w0 ν.z ν v a) (hs:∀ i,i<n->(cA (f i)).all bC=true) (hc:Fp h v=true) (ht:cP (Dy e ty h v)=cP (.sl n f)):Hp e ty 0 lh n f a:=by
 unfold Dy at ht;split at ht
 ·rename_i k n1
  unfold Fp at hc;dsimp only at hc;rw[bk]at ht hc;split at ht
  ·rename_i e' n' g ty' hk
   cases hb:(Nat.beq e' e&&Nat.beq ty' ty) with
   |false=>rw[hb]at ht;simp[cP]at ht
   |true=>
     rw[hb]at ht;simp only[DD]at hb;have e1:=G9 hb.1;have e2:=G9 hb.2;rw[hk]at hc;have e3:=HT hc;subst e1;subst e2
     let ⟨rfl,YO⟩:=DO ht
     simp only[vr]at y;rcases y with ⟨g1,rfl,rfl⟩|⟨b,c,e2,g1,rfl,g3⟩
     ·exact .inl ⟨rfl,rfl⟩
     ·rcases hh.blk k _ hk with ⟨N,Q⟩|⟨b',c',az,N,Q,h3,h4,h5⟩
      ·rw[N]at g1;cases g1
      ·rw[N]at g1
       obtain⟨rfl,rfl,rfl⟩:b'=b/\c'=c/\e'=e2:=by simpa using g1
       refine .inr ⟨b',c',az,Ho _,Q,rfl,h3,g3,λi hi=>?_⟩;have:=(fi (by rw[YO i hi];exact hs i hi) _).1 (h5 i I).2;rw[this,YO i hi]
  ·simp[cP]at ht
 ·simp only[vr]at y
  let ⟨rfl,_⟩:=DO ht
  exact .inl ⟨rfl,y⟩
 ·simp[cP]at ht
theorem yaU (hh:HR w0 ν nV nS h lh) {e:Nat} {ty:TypeId} {v r:V} {a:ah} {n:Nat} {f:bl} (y:vr w0 ν.z ν v a) (hr:oS r=some (n,f)) (ho:Su e r) (hc:HI h v=true) (ht:cP (HX e ty h v)=cP r):∃ x,Hp e ty 0 lh n f x/\a=oU x r:=by
 let ⟨n',f',hl,_,YO,te⟩:=ho
 rw[hr]at hl;cases hl;have hs:=λi hi=>(YO i hi).2;unfold HX at ht;rcases R23 hr with rfl|⟨us,rfl⟩
 ·split at ht
  ·simp[cP]at ht
  ·rename_i wz;exact⟨a,EM hh y hs (by unfold HI at hc;split at hc<;>first|exact(wz _ _ rfl).elim|exact hc) ht,rfl⟩
 ·split at ht
  ·rename_i u vs
   have ht1:cP (Dy e ty h u)=cP (.sl n f):=by simp[cP,cA,ah.tup.injEq,Hc]at ht ⊢;exact ht.1
   have ht2:cA vs=cA us:=by simp[cP,cA,ah.tup.injEq,Hc]at ht;exact ht.2
   simp[vr]at y;obtain⟨az,rfl,y⟩:=y;simp[bp]at y;obtain⟨x,xs,rfl,N,Q⟩:=y;refine⟨x,EM hh N hs hc ht1,?_⟩;simp[oU];rw[(fi (by rw[ht2];exact te) _).1 Q,ht2]
  ·have:∀ u,cP (Dy e ty h u)≠.tup (cA (.sl n f::us)):=λu=>by
    unfold Dy;split
    ·split
     ·rename_i e' n' g ty' _;cases (Nat.beq e' e&&Nat.beq ty' ty)<;>simp[cP]
     ·simp[cP]
    ·simp[cP]
    ·simp[cP]
   exact(this _ (by rw[ht];simp[cP])).elim
end
theorem exL {e:Nat} {ty:TypeId} {r:V} {n:Nat} {f:bl} (hr:oS r=some (n,f)) (ho:Su e r) (lh:List av):∃ x new,Hp e ty lh.length (lh++new) n f x:=by
 let ⟨n',f',hl,_,YO,_⟩:=ho
 rw[hr]at hl;cases hl
 let ⟨N,Q⟩:=yo (e:=e) (f:=f) (n:=n) λi hi=>by rw[uW];exact(mf (YO i hi).1).1
 exact⟨_,[.cells ((List.range n).flatMap λi=>cA (f i)) ty],.inr ⟨lh.length,n,(List.range n).flatMap λi=>cA (f i),Dm _,aD,rfl,N,Dm _,Q⟩⟩
theorem aca {α:Type} {P:Program} {BD:List TypeId} {CJ:List gX} {ct:bo} {f:FuncId} {fn:Func} {sf:aU} {un:kZ} {e:Nat} {ty:TypeId} {C:aH} {K0:V->List AX->Bj α} {Q0:V->α->Prop} (hK0:∀ w0 r v h,bM (dq w0 (SV ct)) (K0 v h) (Q0 r)->HI h v=true/\cP (HX e ty h v)=cP r) (hT:aX P BD CJ ct) (hE:∀ t∈BD,dc P t) (hI:kG P BD CJ) (hf:P.funcs[f]? = some fn)
 (hn : (fn.name == "runtime.NumGoroutine") = false) (hc : ek P BD CJ fn = some sf) (hd : fN sf.ntmps sf.body = true)
 (h:∀w0 ds d p r,C ds=some (d,p,r)->d.1=d.2->p->bM (dq w0 (SV ct)) (mK (mA ct LV) (lZ ct) un LV sf ds [] K0) (Q0 r)):(vL e ty C).Ok P f:=by
 refine⟨λB m lh w args vs K hrel hargs YR=>?_,λ_ _ _ _ _ hk ⟨ds,d,p,r,n,g,N,Q,h3,h4,h5,h6⟩=>⟨ds,d,p,r,n,g,N,Q,h3,h4,h5,λx new hx=>hk _ _ (h6 x new hx)⟩,λ_ _ lh _ ⟨_,_,_,_,_,_,_,_,_,h4,h5,h6⟩=>let ⟨x,new,hx⟩:=exL (ty:=ty) h4 h5 lh;h6 x new hx⟩
 let ⟨ds,d,p,r,n,g,N,Q,⟨Yq,h3⟩,h4,h5,h6⟩:=YR
 let ⟨args',g1,g2⟩:=jS hrel ds args vs N hargs
 have hs:=nT (Sp:=λw0 args lh K=>lh=[]/\∃ ds d p r n g,bp w0 [] Nu.nil ds args/\C ds=some (d,p,r)/\(d.1=d.2/\p)/\oS r=some (n,g)/\Su e r/\∀ x lh1,Hp e ty 0 lh1 n g x->K (oU x r) lh1) (hT.ok hE hI LV) hE hI hf hn hc (λw0 args lh K hw ha ⟨e,ds,d,p,r,n,g,k1,k2,⟨k30,k3⟩,k4,k5,k6⟩=>by
  subst e
  refine qd (nN w0 ct hT.dst LV) (oc w0 ct _ LV) hd k1 (HR.none w0) (h w0 ds d p r k2 k30 k3) λv h' ν' a lh' _ q1 q2 q3=>?_
  have q3:=hK0 _ _ _ _ q3
  obtain⟨x,hx,rfl⟩:=yaU (q1 0 0) q2 k4 k5 q3.1 q3.2
  exact⟨_,lh',.inl ⟨rfl,(⟨.inr rfl,trivial⟩:lw [_] [_])⟩,k6 x lh' hx⟩)
 let ⟨e1,e2⟩:=hs ⟨w,w,λ_=>False,[]⟩ (λ_=>none) [] w args' vs (λr' lh1=>∃x,Hp e ty 0 lh1 n g x/\r'=oU x r) (ba.start w) g1 ⟨rfl,ds,d,p,r,n,g,g2,Q,⟨Yq,h3⟩,h4,h5,λx lh1 hx=>⟨x,hx,rfl⟩⟩
 refine⟨e1,e2.mono λee w' ⟨v,r',m1,lh1,he,y,_,hr,⟨x,hx,hk⟩⟩=>?_⟩
 subst hk
 let ⟨n',g',hl,hmax,YO,te⟩:=h5
 have YM:=hl
 rw[h4]at YM;cases YM
 have hback:=hrel.back hr
 rcases hx with ⟨rfl,rfl⟩|⟨b,c,az,_,ZA,rfl,sP,ZS,hall⟩
 ·refine ⟨v,oU (.slice none 0 0) r,m,lh,he,acB h4 te (λu hu=>?_) y,iq.refl _ _,hback,?_⟩
  ·simp[CL]at hu ⊢;exact hu
  ·have:=h6 (.slice none 0 0) [] (.inl ⟨rfl,rfl⟩)
   rwa [Q7]at this
 ·let ⟨b0,us,m1b,Z3,hheap,Z1,_⟩:=hr.loc b az ty ZA
  have Y3:n*e<=az.length:=by rw[sP];exact Hw e ZS
  have hlen:=cB Z3
  have hnew:∀ k b',m k=some b'->b'≠b0:=λk b' hk e0=>by
   have:=hrel.rng k b' hk;simp only at Z1;omega
  have hsc:(az.take (n*e)).all bC=true:=C78 λi hi=>by rw[hall i hi];exact(YO i hi).2
  have Y2:aC (λk=>if k=lh.length then some b0 else m k) (az.take (n*e)++List.replicate (us.toList.drop (n*e)).length .any) us.toList:=by
   have:=dW (i6 (m':=λk=>if k=lh.length then some b0 else m k) hsc (fj (n*e) Z3)) (R32 (us.toList.drop (n*e)))
   rwa [Qk]at this
  let ⟨hH,hle'⟩:=afM hback (b:=b0) (ty:=ty) hheap Y2 (Jc hrel.size Z1) (Jc hrel.fsize Z1) hnew
  refine⟨v,oU (.slice (some (.l lh.length 0)) n c) r,_,_,he,acB h4 te (λu hu=>?_) y,⟨hle',λk hk=>⟨?_,?_⟩⟩,hH,h6 _ _ (.inr ⟨lh.length,c,az.take (n*e)++List.replicate (us.toList.drop (n*e)).length .any,Dm _,by rw[KM (Dm _),Nat.sub_self];rfl,rfl,?_,ZS,λi hi=>?_⟩)⟩
  ·simp only[CL,dR]at hu ⊢
   obtain⟨X1,rfl,b',Xw,rfl⟩:=hu
   rw[m1b]at Xw;cases Xw
   exact⟨_,rfl,b0,aD,rfl⟩
  ·rw[Ht (List.getElem?_eq_some_iff.1 hk).1];exact hk
  ·have:=(List.getElem?_eq_some_iff.1 hk).1
   simp[Ck (OH this)]
  ·simp only[Md,Qr,List.length_replicate,PG];omega
  ·rw[← hall i hi]
   refine twH (XE:=n*e) ?_ (by rw[← Hs];exact Hw e I)
   rw[Qh (by simp;omega),Mi,Nat.min_self]
inductive Ty where|int (k:IntKind)|bool|str|agg (ts:List Ty)|sl (ts:List Ty)|fn (f:FuncId) (xs ys:List Ty)|pd (ts:List Ty)
def iv:V->Int
 |.int _ n=>n|_=>0
def bv:V->Bool
 |.bool b=>b|.kb b=>b|_=>false
def sv:V->ByteArray
 |.str s=>s|_=>ByteArray.empty
def aL:V->Nat
 |.sl n _=>n|.sq n _ _=>n|_=>0
def HD:V->Nat
 |.sl n _=>n|.sq _ m _=>m|_=>0
def b7:V->Nat->List V
 |.sl _ f,i=>f i|.sq _ _ f,i=>f i|_,_=>[]
def du:V->List V
 |.agg cs=>cs|_=>[]
def GE:V->List V
 |.fn _ xs _=>xs|_=>[]
def Gt:V->List V
 |.fn _ _ ys=>ys|_=>[]
def EG:V->List V
 |.pd cs=>cs|_=>[]
def aI:List V->V
 |v::_=>v|[]=>.any
def L:List V->List V
 |_::vs=>vs|[]=>[]
def cq:Ty->Bool
 |.agg _=>false|.fn ..=>false|.pd _=>false|_=>true
mutual
def cV:Ty->V->V
 |.int k,v=>.int k (iv v)|.bool,v=>.bool (bv v)|.str,v=>.str (sv v)|.agg ts,v=>.agg (aw ts (du v))|.sl ts,v=>.sl (aL v) λi=>aw ts (b7 v i)
 |.fn f xs ys,v=>.fn f (aw xs (GE v)) (aw ys (Gt v))|.pd ts,v=>.pd (aw ts (EG v))
def aw:List Ty->List V->List V
 |[],_=>[]|t::ts,vs=>cV t (aI vs)::aw ts (L vs)
end
mutual
def cY:Ty->V->Prop
 |.int k,v=>v=.int k (iv v)|.bool,v=>v=.bool (bv v)∨v=.kb (bv v)|.str,v=>v=.str (sv v)|.agg ts,v=>v=.agg (du v)/\bF ts (du v)|.sl ts,v=>(v=.sl (aL v) (b7 v)∨v=.sq (aL v) (HD v) (b7 v))/\ts.all cq=true/\∀i,i<HD v->bF ts (b7 v i)|.fn f xs ys,v=>v=.fn f (GE v) (Gt v)/\bF xs (GE v)/\bF ys (Gt v)|.pd ts,v=>v=.pd (EG v)/\ts.all cq=true/\bF ts (EG v)
def bF:List Ty->List V->Prop
 |[],vs=>vs=[]|t::ts,vs=>vs=aI vs::L vs/\cY t (aI vs)/\bF ts (L vs)
end
theorem ng:∀ (ts:List Ty) (vs:List V),ts.all cq=true->(aw ts vs).all V.fc=true
 |[],_,_=>by simp[aw]
 |t::ts,vs,h=>by simp only[Ib,DD]at h;simp only[aw,Ib,DD];refine⟨?_,ng ts _ h.2⟩;cases t<;>first|rfl|(simp[cq]at h)|(simp[cV];rfl)
theorem R90:∀ {ts:List Ty} {vs:List V},bF ts vs->vs.length=ts.length
 |[],vs,h=>by simp[bF]at h;subst h;rfl
 |t::ts,vs,h=>by simp[bF]at h;rw[h.1];simp[R90 h.2.2]
section
variable {w0:World} {lh:List av}
theorem rU:∀ (ts:List Ty) (vs:List V),(aw ts vs).length=ts.length
 |[],_=>by simp[aw]
 |t::ts,vs=>by simp[aw,rU ts]
mutual
theorem hbr:∀ (t:Ty) (v:V) (a:ah),cY t v->vr w0 lh Nu.nil v a->vr w0 lh Nu.nil (cV t v) a
 |.int k,v,a,h,y=>by simp[cY]at h;simp[cV];rw[h]at y;exact y
 |.bool,v,a,h,y=>by simp[cY]at h;simp[cV,vr];rcases h with h|h<;>(rw[h]at y;simp[vr]at y;exact y)
 |.str,v,a,h,y=>by simp[cY]at h;simp[cV];rw[h]at y;exact y
 |.agg ts,v,a,h,y=>by
   simp[cY]at h;rw[h.1]at y;simp[cV,vr]at y ⊢
   let ⟨az,N,Q⟩:=y
   exact⟨az,N,fA ts _ az h.2 Q⟩
 |.sl ts,v,a,h,y=>by
   simp only[cY]at h;rcases h.1 with h0|h0
   ·have hb:HD v=aL v:=by rw[h0];rfl
    rw[h0]at y;simp only[cV,vr]at y ⊢
    let ⟨p,c,esz,N,Q,h3,h4,h5⟩:=y
    exact⟨p,c,esz,N,Q,h3,h4,λi hi=>let ⟨X1,az,g1,g2,g3,g4⟩:=h5 i hi;⟨X1,az,g1,g2,fA ts _ az (h.2.2 i I) g3,ng ts _ h.2.1⟩⟩
   ·rw[h0]at y
    simp only[cV,vr]at y ⊢
    let ⟨p,c,esz,N,⟨Q,h2'⟩,h3,h4,h5⟩:=y
    exact⟨p,c,esz,N,Q,h3,h4,λi hi=>let ⟨X1,az,g1,g2,g3,g4⟩:=h5 i hi;⟨X1,az,g1,g2,fA ts _ az (h.2.2 i I) g3,ng ts _ h.2.1⟩⟩
 |.fn f xs ys,v,a,h,y=>by
   simp[cY]at h;rw[h.1]at y;simp[cV,vr]at y ⊢
   let ⟨us,vs,N,Q,h3⟩:=y
   exact⟨us,vs,N,fA xs _ us h.2.1 Q,fA ys _ vs h.2.2 h3⟩
 |.pd ts,v,a,h,y=>by
   simp only[cY]at h;rw[h.1]at y;simp only[cV,vr]at y ⊢
   let ⟨p,az,N,Q,h3,h4,h5⟩:=y
   have hl:=R90 h.2.2;refine⟨p,az,N,Q,by rw[rU,← hl];exact h3,fA ts _ az h.2.2 h4,ng ts _ h.2.1⟩
theorem fA:∀ (ts:List Ty) (vs:List V) (az:List ah),bF ts vs->bp w0 lh Nu.nil vs az->bp w0 lh Nu.nil (aw ts vs) az
 |[],vs,az,h,y=>by simp[bF]at h;subst h;simpa[aw] using y
 |t::ts,vs,az,h,y=>by simp[bF]at h;rw[h.1]at y;simp[bp]at y;obtain⟨x,xs,rfl,N,Q⟩:=y;simp only[aw,bp];exact⟨x,xs,rfl,hbr t _ x h.2.1 N,fA ts _ xs h.2.2 Q⟩
end
end
mutual
def vl:Ty->Bool
 |.agg ts=>ge ts|.sl ts=>ts.all cq&&ge ts|.fn _ xs ys=>ge xs&&ge ys|.pd ts=>ts.all cq&&ge ts|_=>true
def ge:List Ty->Bool
 |[]=>true|t::ts=>vl t&&ge ts
end
def HN:Nat->(Nat->List V->List V)->List V->List V
 |0,_,k=>k|j+1,g,k=>g j (HN j g k)
mutual
def rQ:Ty->V->List V->List V
 |.agg ts,v,k=>.agg (du v)::lf ts (du v) k
 |.sl ts,v,k=>match v with|.sq _ m f=>HN m (λj k=>lf ts (f j) k) k|v=>cV (.sl ts) v::k
 |.fn f xs ys,v,k=>.fn f (GE v) (Gt v)::lf xs (GE v) (lf ys (Gt v) k)|.pd ts,v,k=>.pd (EG v)::lf ts (EG v) k|t,v,k=>cV t v::k
def lf:List Ty->List V->List V->List V
 |[],_,k=>.agg []::k|t::ts,vs,k=>.agg (aI vs::L vs)::rQ t (aI vs) (lf ts (L vs) k)
end
mutual
def rE:Ty->V->List V->List V
 |.agg ts,v,k=>v::ln ts (du v) k
 |.sl ts,v,k=>match v with|.sq _ m f=>HN m (λj k=>ln ts (f j) k) k|v=>v::k
 |.fn _ xs ys,v,k=>v::ln xs (GE v) (ln ys (Gt v) k)|.pd ts,v,k=>v::ln ts (EG v) k|_,v,k=>v::k
def ln:List Ty->List V->List V->List V
 |[],vs,k=>.agg vs::k|t::ts,vs,k=>.agg vs::rE t (aI vs) (ln ts (L vs) k)
end
theorem yI {P:Nat->Prop} {g g':Nat->List V->List V} (hg:∀ j k k',g j k=g' j k'->P j/\k=k'):∀ (m:Nat) (k k':List V),HN m g k=HN m g' k'->(∀ j,j<m->P j)/\k=k'
 |0,k,k',h=>⟨λj hj=>by omega,h⟩
 |m+1,k,k',h=>by
   simp[HN]at h
   let ⟨N,Q⟩:=hg m _ _ h
   let ⟨h3,h4⟩:=yI hg m k k' Q
   exact⟨λj hj=>by
    by_cases e:j=m
    ·subst e;exact N
    ·exact h3 j I,h4⟩
theorem tyT:∀(ts:List Ty) (vs:List V),ge ts=true->aw ts vs=vs->bF ts vs:=by have key:∀(ts:List Ty),ge ts=true->∀vs,aw ts vs=vs->bF ts vs:=λts ho vs h=>hasTys_of' ts vs ho h;exact λts vs ho h=>key ts ho vs h
 where
 hasTy_of':∀(t:Ty) (v:V),vl t=true->cV t v=v->cY t v
 |.int k,v,_,h=>by simp[cV]at h;simp[cY];exact h.symm
 |.bool,v,_,h=>by simp[cV]at h;simp[cY];exact .inl h.symm
 |.str,v,_,h=>by simp[cV]at h;simp[cY];exact h.symm
 |.agg ts,v,ho,h=>by
   simp[cV]at h;simp[vl]at ho;have Q:aw ts (du v)=du v:=by have:=congrArg du h;simpa[du] using this
   simp[cY];exact⟨by rw[Q]at h;exact h.symm,hasTys_of' ts _ ho Q⟩
 |.sl ts,v,ho,h=>by
   simp[cV]at h;simp[vl,DD]at ho;have Q:∀i,aw ts (b7 v i)=b7 v i:=λi=>by have:=congrArg (λu=>b7 u i) h;simpa[b7] using this
   simp[cY];refine⟨.inl ?_,ho.1,λi _=>hasTys_of' ts _ ho.2 (Q i)⟩;have h3:(λi=>aw ts (b7 v i))=b7 v:=funext Q;rw[h3]at h;exact h.symm
 |.fn f xs ys,v,ho,h=>by
   simp[cV]at h;simp[vl,DD]at ho;have Q:aw xs (GE v)=GE v:=by have:=congrArg GE h;simpa[GE] using this
   have h3:aw ys (Gt v)=Gt v:=by have:=congrArg Gt h;simpa[Gt] using this
   simp[cY];exact⟨by rw[Q,h3]at h;exact h.symm,hasTys_of' xs _ ho.1 Q,hasTys_of' ys _ ho.2 h3⟩
 |.pd ts,v,ho,h=>by
   simp[cV]at h;simp[vl,DD]at ho;have Q:aw ts (EG v)=EG v:=by have:=congrArg EG h;simpa[EG] using this
   simp[cY];exact⟨by rw[Q]at h;exact h.symm,ho.1,hasTys_of' ts _ ho.2 Q⟩
 hasTys_of':∀(ts:List Ty) (vs:List V),ge ts=true->aw ts vs=vs->bF ts vs
 |[],vs,_,h=>by simp only[aw]at h;simp only[bF];exact h.symm
 |t::ts,vs,ho,h=>by
   simp[aw]at h;simp[ge,DD]at ho;have Q:cV t (aI vs)=aI vs:=by have:=congrArg aI h;simpa[aI] using this
   have h3:aw ts (L vs)=L vs:=by have:=congrArg L h;simpa[L] using this
   simp[bF];exact⟨by rw[Q,h3]at h;exact h.symm,hasTy_of' t _ ho.1 Q,hasTys_of' ts _ ho.2 h3⟩
def A (ts:List Ty) (f:bl):Nat->List V:=λi=>aw ts (f i)
mutual
def Oe:Ty->V->V
 |.agg ts,v=>match v with|.agg cs=>.agg (ka ts cs)|v=>v
 |.sl ts,v=>match v with|.sq n _ f=>.sl n (A ts f)|v=>v
 |.fn _ xs ys,v=>match v with|.fn f us vs=>.fn f (ka xs us) (ka ys vs)|v=>v
 |.pd ts,v=>match v with|.pd cs=>.pd (ka ts cs)|v=>v
 |_,v=>v
def ka:List Ty->List V->List V
 |[],_=>[]
 |t::ts,vs=>match vs with|v::vs=>Oe t v::ka ts vs|[]=>[]
end
mutual
theorem m44:∀ (t:Ty) (v:V) (k k':List V),rQ t v k=rE t v k'->Oe t v=cV t v/\k=k'
 |.int _,v,k,k',h=>by simp[rQ,rE,Hc]at h;simp[Oe];exact⟨h.1.symm,h.2⟩
 |.bool,v,k,k',h=>by simp[rQ,rE,Hc]at h;simp[Oe];exact⟨h.1.symm,h.2⟩
 |.str,v,k,k',h=>by simp[rQ,rE,Hc]at h;simp[Oe];exact⟨h.1.symm,h.2⟩
 |.agg ts,v,k,k',h=>by
   simp[rQ,rE,Hc]at h
   let ⟨N,Q⟩:=gx ts _ k k' h.2
   obtain⟨cs,rfl⟩:∃cs,v=.agg cs:=⟨_,h.1.symm⟩;simp[du]at N;simp only[Oe,cV,du,N];exact⟨trivial,Q⟩
 |.sl ts,v,k,k',h=>by
   by_cases y:∃n m f,v=.sq n m f
   ·obtain⟨n,m,f,rfl⟩:=y
    simp[rQ,rE]at h
    let ⟨_,Q⟩:=yI (P:=λ_=>True) (λj k k' hj=>⟨trivial,(gx ts (f j) k k' hj).2⟩) m k k' h
    exact⟨rfl,Q⟩
   ·cases v<;>first|exact(y ⟨_,_,_,rfl⟩).elim|(simp[rQ,rE,Hc]at h;simp[Oe];exact⟨h.1.symm,h.2⟩)
 |.fn f xs ys,v,k,k',h=>by
   simp[rQ,rE,Hc]at h
   let ⟨N,Q⟩:=gx xs _ _ _ h.2
   let ⟨h3,h4⟩:=gx ys _ _ _ Q
   obtain⟨us,vs,rfl⟩:∃us vs,v=.fn f us vs:=⟨_,_,h.1.symm⟩;simp[GE]at N;simp[Gt]at h3;simp only[Oe,cV,GE,Gt,N,h3];exact⟨trivial,h4⟩
 |.pd ts,v,k,k',h=>by
   simp[rQ,rE,Hc]at h
   let ⟨N,Q⟩:=gx ts _ k k' h.2
   obtain⟨cs,rfl⟩:∃cs,v=.pd cs:=⟨_,h.1.symm⟩;simp[EG]at N;simp only[Oe,cV,EG,N];exact⟨trivial,Q⟩
theorem gx:∀ (ts:List Ty) (vs:List V) (k k':List V),lf ts vs k=ln ts vs k'->ka ts vs=aw ts vs/\k=k'
 |[],vs,k,k',h=>by simp[lf,ln,Hc,V.agg.injEq]at h;simp only[ka,aw];exact⟨trivial,h.2⟩
 |t::ts,vs,k,k',h=>by
   simp[lf,ln,Hc,V.agg.injEq]at h
   let ⟨N,Q⟩:=m44 t _ _ _ h.2
   let ⟨h3,h4⟩:=gx ts _ _ _ Q
   have h0:=h.1;cases vs with
   |nil=>cases h0
   |cons v vs=>simp[aI,L]at N h3;simp only[ka,aw,aI,L,N,h3];exact⟨trivial,h4⟩
end
mutual
theorem afj:∀ (t:Ty) (v:V) (k k':List V),vl t=true->rQ t v k=rE t v k'->cY t v/\k=k'
 |.int _,v,k,k',_,h=>by simp[rQ,rE,Hc]at h;simp[cV]at h;simp[cY];exact⟨h.1.symm,h.2⟩
 |.bool,v,k,k',_,h=>by simp[rQ,rE,Hc,cV]at h;simp[cY];exact⟨.inl h.1.symm,h.2⟩
 |.str,v,k,k',_,h=>by simp[rQ,rE,Hc]at h;simp[cV]at h;simp[cY];exact⟨h.1.symm,h.2⟩
 |.agg ts,v,k,k',ho,h=>by
   simp[rQ,rE,Hc]at h;simp[vl]at ho
   let ⟨N,Q⟩:=jj ts _ k k' ho h.2
   simp[cY];exact⟨⟨h.1.symm,N⟩,Q⟩
 |.sl ts,v,k,k',ho,h=>by
   have Zm:=ho;simp only[vl,DD]at ho;by_cases y:∃n m f,v=.sq n m f
   ·obtain⟨n,m,f,rfl⟩:=y
    simp only[rQ,rE]at h
    let ⟨N,Q⟩:=yI (P:=λj=>bF ts (f j)) (λj k k' hj=>jj ts (f j) k k' ho.2 hj) m k k' h
    simp only[cY,aL,b7,HD];exact⟨⟨.inr rfl,ho.1,N⟩,Q⟩
   ·have h':cV (.sl ts) v=v/\k=k':=by
     cases v<;>first|exact(y ⟨_,_,_,rfl⟩).elim|(simp[rQ,rE,Hc]at h;exact h)
    have:=tyT [.sl ts] [v] (by simp[ge,Zm,Bool.and_true]) (by simp[aw,aI,L,h'.1]);simp[bF,aI]at this;exact⟨this.2.1,h'.2⟩
 |.fn f xs ys,v,k,k',ho,h=>by
   simp[rQ,rE,Hc]at h;simp[vl,DD]at ho
   let ⟨N,Q⟩:=jj xs _ _ _ ho.1 h.2
   let ⟨h3,h4⟩:=jj ys _ _ _ ho.2 Q
   simp[cY];exact⟨⟨h.1.symm,N,h3⟩,h4⟩
 |.pd ts,v,k,k',ho,h=>by
   simp[rQ,rE,Hc]at h;simp[vl,DD]at ho
   let ⟨N,Q⟩:=jj ts _ k k' ho.2 h.2
   simp[cY];exact⟨⟨h.1.symm,ho.1,N⟩,Q⟩
theorem jj:∀ (ts:List Ty) (vs:List V) (k k':List V),ge ts=true->lf ts vs k=ln ts vs k'->bF ts vs/\k=k'
 |[],vs,k,k',_,h=>by simp only[lf,ln,Hc,V.agg.injEq]at h;simp only[bF];exact⟨h.1.symm,h.2⟩
 |t::ts,vs,k,k',ho,h=>by
   simp[lf,ln,Hc,V.agg.injEq]at h;simp[ge,DD]at ho
   let ⟨N,Q⟩:=afj t _ _ _ ho.1 h.2
   let ⟨h3,h4⟩:=jj ts _ _ _ ho.2 Q
   simp[bF];exact⟨⟨h.1.symm,N,h3⟩,h4⟩
end
def cG (ts:List Ty) (pre:List V->Prop) (r:List V->V):aH:=λds=>some ((lf ts ds [],ln ts ds []),pre (ka ts ds),r (ka ts ds))
theorem evM {α:Type} {P:Program} {BD:List TypeId} {CJ:List gX} {ct:bo} {f:FuncId} {fn:Func} {sf:aU} {un:kZ} {ts:List Ty} {pre:List V->Prop} {r:List V->V} {K0:V->Bj α} {Q0:V->α->Prop} (hK0:∀ w0 r v,bM (dq w0 (SV ct)) (K0 v) (Q0 r)->cP v=cP r) (hT:aX P BD CJ ct) (hE:∀ t∈BD,dc P t) (hI:kG P BD CJ) (hf:P.funcs[f]? = some fn)
 (hn : (fn.name == "runtime.NumGoroutine") = false) (hc : ek P BD CJ fn = some sf) (hd : fN sf.ntmps sf.body = true) (ho : ge ts = true)
 (h:∀w0 ds,pre (aw ts ds)->bM (dq w0 (SV ct)) (mK (mA ct LV) (lZ ct) un LV sf (aw ts ds) [] λv _=>K0 v) (Q0 (r (aw ts ds)))):(vP (cG ts pre r)).Ok P f:=by
 refine⟨λB m lh w args vs K hrel hargs YR=>?_,λ_ _ _ _ _ hk ⟨ds,d,p,r,N,Q,h3,h4,h5⟩=>⟨ds,d,p,r,N,Q,h3,h4,hk _ _ h5⟩,λ_ _ _ _ ⟨_,_,_,_,_,_,_,_,h⟩=>h⟩
 let ⟨ds,d,p,r',N,Q,⟨Yq,h3⟩,h4,h5⟩:=YR
 simp only[cG,H2,Prod.mk.injEq]at Q
 let ⟨rfl,rfl,rfl⟩:=Q
 have Ym:=(jj ts ds [] [] ho Yq).1
 rw[(gx ts ds [] [] Yq).1]at h3 h4 h5
 have key2:=acw (C:=λds'=>some ((ds',aw ts ds),pre (aw ts ds),r (aw ts ds))) (P:=P) (f:=f) hK0 hT hE hI hf hn hc hd (λw0 ds' d' p' r' e he hp _=>by
  simp only[H2,Prod.mk.injEq]at e
  let ⟨rfl,rfl,rfl⟩:=e
  simp only at he
  subst he
  exact h w0 ds hp)
 exact key2.sound B m lh w args vs K hrel hargs ⟨aw ts ds,_,_,_,fA ts ds args Ym N,rfl,⟨rfl,h3⟩,h4,h5⟩
theorem akE {α:Type} {P:Program} {BD:List TypeId} {CJ:List gX} {ct:bo} {f:FuncId} {fn:Func} {sf:aU} {un:kZ} {e:Nat} {ty:TypeId} {ts:List Ty} {pre:List V->Prop} {r:List V->V} {K0:V->List AX->Bj α} {Q0:V->α->Prop} (hK0:∀ w0 r v h,bM (dq w0 (SV ct)) (K0 v h) (Q0 r)->HI h v=true/\cP (HX e ty h v)=cP r) (hT:aX P BD CJ ct) (hE:∀ t∈BD,dc P t) (hI:kG P BD CJ) (hf:P.funcs[f]? = some fn)
 (hn : (fn.name == "runtime.NumGoroutine") = false) (hc : ek P BD CJ fn = some sf) (hd : fN sf.ntmps sf.body = true) (ho : ge ts = true)
 (h:∀w0 ds,pre (aw ts ds)->bM (dq w0 (SV ct)) (mK (mA ct LV) (lZ ct) un LV sf (aw ts ds) [] K0) (Q0 (r (aw ts ds)))):(vL e ty (cG ts pre r)).Ok P f:=by
 refine⟨λB m lh w args vs K hrel hargs YR=>?_,λ_ _ _ _ _ hk ⟨ds,d,p,r,n,g,N,Q,h3,h4,h5,h6⟩=>⟨ds,d,p,r,n,g,N,Q,h3,h4,h5,λx new hx=>hk _ _ (h6 x new hx)⟩,λ_ _ lh _ ⟨_,_,_,_,_,_,_,_,_,h4,h5,h6⟩=>let ⟨x,new,hx⟩:=exL (ty:=ty) h4 h5 lh;h6 x new hx⟩
 let ⟨ds,d,p,r',n,g,N,Q,⟨Yq,h3⟩,h4,h5,h6⟩:=YR
 simp only[cG,H2,Prod.mk.injEq]at Q
 let ⟨rfl,rfl,rfl⟩:=Q
 have Ym:=(jj ts ds [] [] ho Yq).1
 rw[(gx ts ds [] [] Yq).1]at h3 h4 h5 h6
 have key2:=aca (e:=e) (ty:=ty) (C:=λds'=>some ((ds',aw ts ds),pre (aw ts ds),r (aw ts ds))) (P:=P) (f:=f) hK0 hT hE hI hf hn hc hd (λw0 ds' d' p' r' e he hp=>by
  simp only[H2,Prod.mk.injEq]at e
  let ⟨rfl,rfl,rfl⟩:=e
  simp only at he
  subst he
  exact h w0 ds hp)
 exact key2.sound B m lh w args vs K hrel hargs ⟨aw ts ds,_,_,_,n,g,fA ts ds args Ym N,rfl,⟨rfl,h3⟩,h4,h5,h6⟩
abbrev mQ:=List (Option (Option Nat))
def dQ (ρ:mQ) (k:Nat):Option (Option Nat):=match gk ρ k with|some x=>x|none=>none
mutual
def cE (ρ:mQ):V->V->Prop
 |v,.any=>True∨v=.any|.int k a,.int k' b=>k=k'/\a=b|.bool a,.bool b=>a=b|.kb a,.bool b=>a=b|.kb a,.kb b=>a=b|.str a,.str b=>a=b|.agg xs,.agg ys=>fC ρ xs ys|.tup xs,.tup ys=>fC ρ xs ys|.fn f xs ys,.fn g us vs=>f=g/\fC ρ xs us/\fC ρ ys vs|.sl n f,.sl m g=>n=m/\f=g|.pd cs,.pd ds=>cs=ds|.pl k o,.pl k1 o1=>dQ ρ k1=some (some k)/\o=o1|.pe k i j,.pe k1 i1 j1=>dQ ρ k1=some (some k)/\i=i1/\j=j1|.ss k o n c,.ss k1 o1 n1 c1=>dQ ρ k1=some (some k)/\o=o1/\n=n1/\c=c1|.gs k n,.gs k1 n1=>dQ ρ k1=some (some k)/\n=n1|.ns,.gs k1 n1=>dQ ρ k1=some none/\n1=0|.ns,.ns=>True|.np,.np=>True|.yl l,.yl l1=>l=l1|.go k o n,.go k1 o1 n1=>dQ ρ k1=some (some k)/\o=o1/\n=n1|_,_=>False
def fC (ρ:mQ):List V->List V->Prop
 |[],[]=>True|x::xs,At::ys=>cE ρ x At/\fC ρ xs ys|_,_=>False
end
def ua (ρ:mQ) (e:bV):bV->Prop
 |[]=>True|(s,v)::l=>cE ρ (jc e s) v/\ua ρ e l
def Cn (ρ:mQ) (h:List AX) (k:Nat):AX->Prop
 |.cells cs ty=>∃j ds,dQ ρ k=some (some j)/\gk h j=some (.cells ds ty)/\fC ρ ds cs|.gl e n f ty=>(dQ ρ k=some none/\n=0)∨∃j m g,dQ ρ k=some (some j)/\gk h j=some (.gl e m g ty)/\n<=m/\∀i,i<n->lY e (f i)=true/\fC ρ (g i) (f i)|.dead=>False|.hid=>True
def tX (ρ:mQ) (h:List AX):Nat->List AX->Prop
 |_,[]=>True|k,o::l=>Cn ρ h k o/\tX ρ h (k+1) l
def QZ (x:Option (Option Nat)):mQ->Bool
 |[]=>true
 |At::l=>(match x,At with|some (some a),some (some b)=>!Nat.beq a b|_,_=>true)&&QZ x l
def Do:mQ->Bool
 |[]=>true|x::l=>QZ x l&&Do l
def MR (ρ:mQ):Nat->Bool
 |0=>true
 |k+1=>(match dQ ρ k with|some (some j)=>Nat.beq j k|_=>false)&&MR ρ k
def lK (ρ:mQ) (ν:Nu):Nu:=⟨λk=>match dQ ρ k with|some (some j)=>ν j|some none=>some none|none=>none,ν.z⟩
section
variable {w0:World} {ν:Nu} {ρ:mQ} {lh:List av}
mutual
theorem Gs:∀ (v v1:V) (a:ah),cE ρ v v1->vr w0 ν.z ν v a->vr w0 ν.z (lK ρ ν) v1 a
 |.int k n,v1,a,h,y=>by
   cases v1<;>simp[cE]at h
   case int=>let ⟨rfl,rfl⟩:=h;simp[vr]at y ⊢;exact y
   case any=>simp[vr]
 |.bool b,v1,a,h,y=>by
   cases v1<;>simp[cE]at h
   case bool=>subst h;simp[vr]at y ⊢;exact y
   case any=>simp[vr]
 |.kb b,v1,a,h,y=>by
   cases v1<;>simp[cE]at h
   case bool=>subst h;simp[vr]at y ⊢;exact y
   case kb=>subst h;simp[vr]at y ⊢;exact y
   case any=>simp[vr]
 |.str b,v1,a,h,y=>by
   cases v1<;>simp[cE]at h
   case str=>subst h;simp[vr]at y ⊢;exact y
   case any=>simp[vr]
 |.agg xs,v1,a,h,y=>by
   cases v1<;>simp[cE]at h
   case agg=>simp[vr]at y ⊢;let ⟨az,N,Q⟩:=y;exact⟨az,N,jb xs _ az h Q⟩
   case any=>simp[vr]
 |.tup xs,v1,a,h,y=>by
   cases v1<;>simp[cE]at h
   case tup=>simp[vr]at y ⊢;let ⟨az,N,Q⟩:=y;exact⟨az,N,jb xs _ az h Q⟩
   case any=>simp[vr]
 |.fn f xs ys,v1,a,h,y=>by
   cases v1<;>simp[cE]at h
   case fn=>let ⟨rfl,g1,g2⟩:=h;simp[vr]at y ⊢;let ⟨az,bs,N,Q,h3⟩:=y;exact⟨az,bs,N,jb xs _ az g1 Q,jb ys _ bs g2 h3⟩
   case any=>simp[vr]
 |.sl n f,v1,a,h,y=>by
   cases v1<;>simp[cE]at h
   case sl=>let ⟨rfl,rfl⟩:=h;simp[vr]at y ⊢;exact y
   case any=>simp[vr]
 |.pd cs,v1,a,h,y=>by
   cases v1<;>simp[cE]at h
   case pd=>subst h;simp[vr]at y ⊢;exact y
   case any=>simp[vr]
 |.pl k o,v1,a,h,y=>by
   cases v1<;>simp[cE]at h
   case pl=>let ⟨N,rfl⟩:=h;simp[vr]at y ⊢;simp[lK,N];exact y
   case any=>simp[vr]
 |.pe k i j,v1,a,h,y=>by
   cases v1<;>simp[cE]at h
   case pe=>let ⟨N,rfl,rfl⟩:=h;simp[vr]at y ⊢;simp[lK,N];exact y
   case any=>simp[vr]
 |.ss k o n c,v1,a,h,y=>by
   cases v1<;>simp[cE]at h
   case ss=>let ⟨N,rfl,rfl,rfl⟩:=h;simp[vr]at y ⊢;simp[lK,N];exact y
   case any=>simp[vr]
 |.gs k n,v1,a,h,y=>by
   cases v1<;>simp[cE]at h
   case gs=>let ⟨N,rfl⟩:=h;simp[vr]at y ⊢;simp[lK,N];exact y
   case any=>simp[vr]
 |.ns,v1,a,h,y=>by
   cases v1<;>simp[cE]at h
   case gs=>obtain⟨N,rfl⟩:=h;simp only[vr]at y ⊢;simp only[lK,N];exact .inl ⟨trivial,trivial,y⟩
   case ns=>simp[vr]at y ⊢;exact y
   case any=>simp[vr]
 |.np,v1,a,h,y=>by
   cases v1<;>simp[cE]at h
   case np=>simp[vr]at y ⊢;exact y
   case any=>simp[vr]
 |.any,v1,a,h,y=>by
   cases v1<;>simp[cE]at h
   case any=>simp[vr]
 |.gd b v,v1,a,h,y=>by
   cases v1<;>simp[cE]at h
   case any=>simp[vr]
 |.yl l,v1,a,h,y=>by
   cases v1<;>simp[cE]at h
   case yl=>subst h;simp[vr]at y ⊢;exact y
   case any=>simp[vr]
 |.go k o n,v1,a,h,y=>by
   cases v1<;>simp[cE]at h
   case go=>let ⟨N,rfl,rfl⟩:=h;simp[vr]at y ⊢;simp[lK,N];exact y
   case any=>simp[vr]
 |.sq n m f,v1,a,h,y=>by
   cases v1<;>simp[cE]at h
   case any=>simp[vr]
theorem jb:∀ (vs us:List V) (az:List ah),fC ρ vs us->bp w0 ν.z ν vs az->bp w0 ν.z (lK ρ ν) us az
 |[],[],az,_,y=>by simp[bp]at y ⊢;exact y
 |v::vs,u::us,az,h,y=>by
   simp[fC]at h;simp[bp]at y ⊢
   let ⟨x,xs,N,Q,h3⟩:=y
   exact⟨x,xs,N,Gs v u x h.1 Q,jb vs us xs h.2 h3⟩
 |[],_::_,_,h,_=>by simp[fC]at h
 |_::_,[],_,h,_=>by simp[fC]at h
end
theorem ab8:∀ {e e1:bV} (s:Nat),ua ρ e e1->jc e1 s=.any∨cE ρ (jc e s) (jc e1 s)
 |e,[],s,_=>.inl rfl
 |e,(d,v)::l,s,h=>by
   simp[ua]at h;rw[lr];by_cases hd:s=d
   ·subst hd;rw[DL rfl];exact .inr h.1
   ·rw[Ck hd];exact ab8 s h.2
theorem mn {h:List AX}:∀ {l:List AX} {k i:Nat} {o:AX},tX ρ h k l->l[i]? = some o->Cn ρ h (k+i) o
 |[],_,_,_,_,hi=>by simp at hi
 |x::l,k,0,o,hh,hi=>by simp at hi;subst hi;exact hh.1
 |x::l,k,i+1,o,hh,hi=>by have:=mn (i:=i) hh.2 (by simpa using hi);rwa [show k+1+i=k+(i+1) by omega]at this
theorem oX:∀ {l:mQ} {a i:Nat},QZ (some (some a)) l=true->gk l i=some (some (some a))->False
 |[],_,_,_,h=>by cases h
 |At::l,a,0,h,hi=>by simp[gk,H2]at hi;subst hi;simp[QZ]at h
 |At::l,a,i+1,h,hi=>by simp[QZ,DD]at h;exact oX h.2 hi
theorem EN:∀ {l:mQ} {a i j:Nat},Do l=true->gk l i=some (some (some a))->gk l j=some (some (some a))->i=j
 |[],_,_,_,_,h,_=>by cases h
 |x::l,a,0,0,_,_,_=>rfl
 |x::l,a,i+1,0,h,hi,hj=>by simp[Do,DD]at h;simp[gk,H2]at hj;subst hj;exact(oX h.1 hi).elim
 |x::l,a,0,j+1,h,hi,hj=>by simp[Do,DD]at h;simp[gk,H2]at hi;subst hi;exact(oX h.1 hj).elim
 |x::l,a,i+1,j+1,h,hi,hj=>by simp[Do,DD]at h;rw[EN h.2 hi hj]
theorem DT:∀ {n k:Nat},MR ρ n=true->k<n->dQ ρ k=some (some k)
 |n+1,k,h,hk=>by
   simp[MR,DD]at h;rcases Nat.lt_succ_iff_lt_or_eq.1 hk with hk|rfl
   ·exact DT h.2 hk
   ·have N:=h.1
    split at N
    ·rename_i j hj;rw[hj,G9 N]
    ·cases N
theorem aaN {k j:Nat} (h:dQ ρ k=some (some j)):gk ρ k=some (some (some j)):=by
 unfold dQ at h;split at h
 ·rename_i x hx;rw[hx,h]
 ·cases h
theorem j6.ren (w0:World) {nb:Nat} {e e1:bV} {h N:List AX} (ρ:mQ) (hl:Nat.beq (bU ρ) (bU N)=true) (hi:Do ρ=true) (hid:MR ρ nb=true) (he:ua ρ e e1) (hh:tX ρ h 0 N):j6 w0 nb e h e1 N:=by
 intro XE ν nV nS sl lh hs hr;have hlen:ρ.length=N.length:=by have:=G9 hl;rwa [bS,bS]at this
 have hlive:∀ k,bg N k->∀ x,lK ρ ν k=some (some x)->∃ j,dQ ρ k=some (some j)/\bg h j/\ν j=some (some x):=λk hk x hx=>by
  have Yr:=hx;simp[lK]at hx;split at hx
  ·rename_i j hj
   refine⟨j,hj,?_,hx⟩;rcases fT hk with ⟨cs,ty,hc⟩|⟨e',n,f,ty,hc⟩
   ·let ⟨j',ds,g1,g2,g3⟩:=mn (k:=0) (i:=k) hh hc
    rw[Ic,hj]at g1;cases g1;exact d8 (by rwa [bk]at g2)
   ·rcases mn (k:=0) (i:=k) hh hc with ⟨g1,_⟩|⟨j',m,g,g1,g2,_⟩
    ·rw[Ic,hj]at g1;cases g1
    ·rw[Ic,hj]at g1;cases g1;exact gC (by rwa [bk]at g2)
  ·cases hx
  ·cases hx
 refine⟨lK ρ ν,0,0,⟨λk x hk hx=>by simp[lK,DT hid hk];exact hx,lk _⟩,⟨hs.len,λi=>?_⟩,⟨λk o hk=>?_,λk k' x x' hk YP hx Yr ZM=>?_,λk hk=>?_,λk x hx=>?_,hr.zl,λk x hk hx=>let ⟨j,_,g2,g3⟩:=hlive k hk x hx;hr.zn j x g2 g3⟩⟩
 ·rcases ab8 i he with h0|h0
  ·rw[h0];simp[vr]
  ·exact Gs _ _ _ h0 (hs.at' i)
 ·have hb:=mn (k:=0) (i:=k) hh hk
  rw[Ic]at hb;cases o with
  |cells cs ty=>
    let ⟨j,ds,g1,g2,g3⟩:=hb
    rw[bk]at g2
    let ⟨b,c,e',az,k1,k2,k3⟩:=hr.blk j _ g2
    exact⟨b,c,e',az,by simp[lK,g1];exact k1,k2,jb _ _ _ g3 k3⟩
  |gl e' n f ty=>
    rcases hb with ⟨g1,rfl⟩|⟨j,m,g,g1,g2,g3,g4⟩
    ·exact .inl ⟨by simp[lK,g1],rfl⟩
    ·rw[bk]at g2
     rcases hr.blk j _ g2 with ⟨k1,k2⟩|⟨b,c,az,k1,k2,k3,k4,k5⟩
     ·exact .inl ⟨by simp[lK,g1];exact k1,I⟩
     ·exact .inr ⟨b,c,az,by simp[lK,g1];exact k1,k2,k3,⟨I,I⟩,λi hi=>⟨(g4 i hi).1,jb _ _ _ (g4 i hi).2 (k5 i I).2⟩⟩
  |dead=>exact hb.elim|hid=>trivial
 ·let ⟨j,g1,g2,g3⟩:=hlive k hk x hx
  let ⟨j',g1',g2',g3'⟩:=hlive k' YP x' Yr
  have:=hr.inj j j' x x' g2 g2' g3 g3' ZM;subst this;exact EN hi (aaN g1) (aaN g1')
 ·simp[lK,dQ,bk];rw[IP I]
 ·simp[lK]at hx
  split at hx
  ·exact hr.rng _ x hx
  ·cases hx
  ·cases hx
theorem j6.refl (w0:World) (nb:Nat) (e:bV) (h:List AX):j6 w0 nb e h e h:=λXE ν nV nS sl lh hs hr=>⟨ν,nV,nS,Dv.refl _ _,hs,hr⟩
theorem j6.trans {w0:World} {nb:Nat} {e e1 e2:bV} {h N Q:List AX} (a:j6 w0 nb e h e1 N) (b:j6 w0 nb e1 N e2 Q):j6 w0 nb e h e2 Q:=λXE ν nV nS sl lh hs hr=>by
 let ⟨ν1,nV1,nS1,g0,g1,g2⟩:=a XE ν nV nS sl lh hs hr
 let ⟨ν2,nV2,nS2,k0,k1,k2⟩:=b XE ν1 nV1 nS1 sl lh g1 g2
 exact⟨ν2,nV2,nS2,g0.trans k0,k1,k2⟩
end
def wE {α:Type}:Bj α->List Bool->Bj α
 |t,[]=>t|.br _ x At,p::ps=>cond p (wE x ps) (wE At ps)|.und x At,p::ps=>cond p (wE x ps) (wE At ps)|.asm _ x,ps=>wE x ps|.ob _ x,ps=>wE x ps|.obi _ _ x,ps=>wE x ps|.obp _ x,ps=>wE x ps|.obq _ _ x,ps=>wE x ps|t,_=>t
def xr {α:Type}:Bj α->Bj α
 |.ob _ x=>xr x|.obi _ _ x=>xr x|.obp _ x=>xr x|.obq _ _ x=>xr x|.asm _ x=>xr x|t=>t
def hT:Bj (Ex×bV×List AX)->List AX
 |.ret r=>r.2.2|_=>[]
def Pw {α:Type}:Bj α->Nat->Bj α
 |.all f=>f|_=>λ_=>.fail 0
def kd {α:Type} (t:Bj α) (p:List Bool):Bj α:=xr (wE t p)
theorem aeJ {ct:bo} {w0:World} (hd:ou ct=true) {lv nb:Nat} {un:kZ} {body:gt} {e:bV} {h:List AX} {Da:Ex->bV->List AX->Option Ex->Prop} (bi:Nat)
 (XY:Type) (inv:XY->bV×List AX) (μ:XY->Nat) (h0:∃i,j6 w0 nb e h (inv i).1 (inv i).2)
 (round:∀i,bM (dq w0 (SV ct)) (se (mA ct lv) (lZ ct) un (lv,nb) bi body (inv i).1 (inv i).2 λx e h=>.ret (x,e,h)) λr=>match r.1 with|.normal=>∃i',j6 w0 nb r.2.1 r.2.2 (inv i').1 (inv i').2/\μ i'<μ i|x=>Da x r.2.1 r.2.2 none):dq w0 (SV ct) (lv,nb) (.s body) e h none Da :=
 ybc (fr:=(lv,nb)) (nN w0 ct hd lv) (oc w0 ct _ lv) XY inv μ h0 round
theorem aag {ct:bo} {w0:World} (hd:ou ct=true) {lv nb:Nat} {un:kZ} {body:ik} {rd:RD} {e:bV} {h:List AX} {g:Option Ex} {Da:Ex->bV->List AX->Option Ex->Prop} (bi bi':Nat)
 (XY:Type) (inv:XY->bV×List AX×Option Ex) (μ:XY->Nat) (h0:∃i,g=(inv i).2.2/\j6 w0 nb e h (inv i).1 (inv i).2.1)
 (round:∀i,bM (dq w0 (SV ct)) (ml (mA ct lv) (lZ ct) un (lv,nb) rd (Ph (mA ct lv) (lZ ct) un lv bi' rd) bi body (inv i).1 (inv i).2.1 (inv i).2.2 λx e h g=>.ret (x,e,h,g)) λr=>match r.1 with|.normal=>∃i',r.2.2.2=(inv i').2.2/\j6 w0 nb r.2.1 r.2.2.1 (inv i').1 (inv i').2.1/\μ i'<μ i|x=>Da x r.2.1 r.2.2.1 r.2.2.2):dq w0 (SV ct) (lv,nb) (.i body rd) e h g Da :=
 aiA (fr:=(lv,nb)) (nN w0 ct hd lv) (oc w0 ct _ lv) XY inv μ h0 round
def gN (P:Program) (rec:TypeId->Option (List Ty)):List Field->Nat->Option (List Ty×Nat)
 |[],off=>some ([],off)
 |f::l,off=>match rec f.type,gN P rec l (off+P.cellsOf f.type) with
   |some ts,some (us,n)=>if f.offset=off/\ts.length=P.cellsOf f.type then some (ts++us,n) else none
   |_,_=>none
def jE (P:Program):Nat->TypeId->Option (List Ty)
 |0,_=>none
 |fu+1,t=>match P.underlying t with
   |some .bool=>some [.bool]|some (.int k)=>some [.int k]|some .string=>some [.str]
   |some (.slice e)=>match jE P fu e with
     |some ts=>if ts.length=P.cellsOf e then some [.sl ts] else none
     |none=>none
   |some (.struct fs)=>match gN P (jE P fu) fs.toList 0 with
     |some (ts,n)=>if n=P.cellsOf t then some ts else none
     |none=>none
   |some (.array n e)=>match jE P fu e with
     |some ts=>if ts.length=P.cellsOf e/\P.cellsOf t=n*P.cellsOf e then some (List.replicate n ts).flatten else none
     |none=>none
   |_=>none
def rgI:IntKind->Int->Prop
 |.u8,n=>0<=n/\n<=255|_,_=>True
theorem Ob {k:IntKind} {n:Int} (h:(Lit.int k n).wf=true):rgI k n:=by have N:(decide (k.min<=n)&&decide (n<=k.max))=true:=h;rw[DD,IJ,IJ]at N;cases k<;>first|trivial|exact⟨N.1,N.2⟩
mutual
def wG:Ty->V->Prop
 |.int k,v=>rgI k (iv v)|.str,v=>(sv v).size<=9223372036854775807|.agg ts,v=>gR ts (du v)|.sl ts,v=>∀i,i<aL v->gR ts (b7 v i)|_,_=>True
def gR:List Ty->List V->Prop
 |[],_=>True|t::ts,vs=>wG t (aI vs)/\gR ts (L vs)
end
mutual
theorem afa:∀ (t:Ty) (v:V),wG t v->wG t (cV t v)
 |.int k,v,h=>by simp[cV,wG,iv]at h ⊢;exact h
 |.bool,_,_=>trivial|.str,v,h=>by simp[cV,wG,sv]at h ⊢;exact h
 |.agg ts,v,h=>by simp[cV,wG,du]at h ⊢;exact iJ ts _ h
 |.sl ts,v,h=>by simp[cV,wG,aL,b7]at h ⊢;exact λi hi=>iJ ts _ (h i hi)
 |.fn ..,_,_=>trivial|.pd _,_,_=>trivial
theorem iJ:∀ (ts:List Ty) (vs:List V),gR ts vs->gR ts (aw ts vs)
 |[],_,_=>trivial|t::ts,vs,h=>by simp[gR,aw,aI,L]at h ⊢;exact⟨afa t _ h.1,iJ ts _ h.2⟩
end
section
variable {w:World}
theorem lR:∀ {ts us:List Ty} {vs xs:List V},bF ts vs->gR ts vs->gR us xs->gR (ts++us) (vs++xs)
 |[],_,_,_,h,_,k=>by simp[bF]at h;subst h;simpa using k
 |t::ts,us,vs,xs,h,hz,k=>by simp[bF]at h;rw[h.1];simp[gR]at hz;simp[PH,gR,aI,L];exact⟨hz.1,lR h.2.2 hz.2 k⟩
theorem kU:∀ {ts us:List Ty} {vs xs:List V},bF ts vs->bF us xs->bF (ts++us) (vs++xs)
 |[],_,_,_,h,k=>by simp[bF]at h;subst h;simpa using k
 |t::ts,us,vs,xs,h,k=>by simp[bF]at h;rw[h.1];simp only[PH,bF,aI,L];exact⟨trivial,h.2.1,kU h.2.2 k⟩
theorem jG {w:World} {a:Addr}:∀ (n i:Nat) (cs:List Value),(List.range' i n).mapM (λj=>w.cell? (a.add j))=some cs->gf w a i n=some (cs.map bL):=by
 intro n;induction n with
 |zero=>intro i cs h;simp at h;subst h;rfl
 |succ n ih=>
   intro i cs h;simp[O5,PU]at h;cases hc:w.cell? (a.add i) with
   |none=>simp[hc]at h
   |some v=>
     cases hr:(List.range' (i+1) n).mapM (λj=>w.cell? (a.add j)) with
     |none=>simp[hc,hr]at h
     |some l=>simp[hc,hr]at h;subst h;simp[gf,hc,ih (i+1) l hr]
theorem alZ {a:Addr} {n c esz:Nat} {ts:List Ty} (hn:n<=c) (hc:c<=maxLen) (hcell:ts.all cq=true)
 (h:∀i,i<n->∃cs:List Value,gf w (a.add (i*esz)) 0 esz=some (cs.map bL)/\∃vs,bp w [] Nu.nil vs (cs.map bL)/\(bF ts vs/\gR ts vs)/\vs.all V.fc=true) :
 ∃v,vr w [] Nu.nil v (.slice (some (.g a)) n c)/\(cY (.sl ts) v/\wG (.sl ts) v)/\v.fc=true:=by
 classical
 refine⟨.sl n λi=>if hi:i<n then(Classical.choose (Classical.choose_spec (h i hi)).2) else [],?_,?_,rfl⟩
 ·simp only[vr]
  refine⟨some (.g a),c,esz,rfl,hn,by unfold maxLen at hc;omega,trivial,λi hi=>?_⟩;have N:=Classical.choose_spec (h i hi);have Q:=Classical.choose_spec N.2;refine⟨.g a,(Classical.choose (h i hi)).map bL,rfl,?_,?_,?_⟩
  ·simp only[hU.add,lds];exact N.1
  ·simp only[hi,dite_true];exact Q.1
  ·simp only[hi,dite_true];exact Q.2.2
 ·simp only [cY,wG,aL,b7,HD]
  refine⟨⟨.inl rfl,hcell,λi hi=>?_⟩,λi hi=>?_⟩
  ·simp only[hi,dite_true];exact(Classical.choose_spec (Classical.choose_spec (h i hi)).2).2.1.1
  ·simp only[hi,dite_true];exact(Classical.choose_spec (Classical.choose_spec (h i hi)).2).2.1.2
end
theorem C69:∀ {ts:List Ty} {vs:List V},bF ts vs->ts.all cq=true->vs.all V.fc=true
 |[],vs,h,_=>by simp[bF]at h;subst h;rfl
 |t::ts,vs,h,ho=>by
   simp[bF]at h;simp only[Ib,DD]at ho;rw[h.1];simp only[Ib,DD];refine⟨?_,C69 h.2.2 ho.2⟩;have N:=h.2.1;cases t<;>simp[cY]at N
   case int=>rw[N];rfl
   case bool=>rcases N with N|N<;>(rw[N];rfl)
   case str=>rw[N];rfl
   case sl=>rcases N.1 with h0|h0<;>(rw[h0];rfl)
   all_goals simp[cq]at ho
section
variable {P:Program}
theorem C32 {rec:TypeId->Option (List Ty)} (hr:∀ t ts,rec t=some ts->ts.all cq=true):∀ {fs:List Field} {off n:Nat} {ts:List Ty},gN P rec fs off=some (ts,n)->ts.all cq=true
 |[],off,n,ts,h=>by simp[gN]at h;rw[h.1];rfl
 |f::l,off,n,ts,h=>by
   simp[gN]at h;split at h
   ·rename_i us vs m N Q
    split at h
    ·cases h;rw[List.all_append,hr _ _ N,C32 hr Q];rfl
    ·cases h
   ·cases h
theorem iE:∀ {fu:Nat} {t:TypeId} {ts:List Ty},jE P fu t=some ts->ts.all cq=true
 |0,_,_,h=>by cases h
 |fu+1,t,ts,h=>by
   simp[jE]at h;split at h
   ·cases h;rfl
   ·cases h;rfl
   ·cases h;rfl
   ·split at h
    ·split at h
     ·cases h;rfl
     ·cases h
    ·cases h
   ·split at h
    ·rename_i us n hf
     split at h
     ·cases h;exact C32 (λt ts=>iE (fu:=fu)) hf
     ·cases h
    ·cases h
   ·split at h
    ·rename_i us hu
     split at h
     ·cases h
      rw[OC];intro x hx
      let ⟨l,hl,hx⟩:=List.mem_flatten.1 hx
      rw[(List.mem_replicate.1 hl).2]at hx;exact List.all_eq_true.1 (iE hu) x hx
     ·cases h
    ·cases h
   ·cases h
variable {X9:Type} {enc:TypeId×Value->X9} {w:World} {base:Nat} {spare:Nat->Bool} {held:Bool}
theorem yak {rec:TypeId->Option (List Ty)} {fuel:Nat} (hr:∀ t ts cs d ps,rec t=some ts->DataW.trod enc P w base spare held fuel t cs=some (d,ps)->∃ vs,bp w [] Nu.nil vs (cs.map bL)/\bF ts vs/\gR ts vs) (cs:List Value) :
 ∀{fs:List Field} {off n:Nat} {ts:List Ty},gN P rec fs off=some (ts,n)->(∀f∈fs,∃x,DataW.trod enc P w base spare held fuel f.type ((cs.drop f.offset).take (P.cellsOf f.type))=some x)->cs.length=n ->
 ∃vs,bp w [] Nu.nil vs ((cs.drop off).map bL)/\bF ts vs/\gR ts vs
 |[],off,n,ts,h,_,hl=>by simp[gN]at h;obtain⟨rfl,rfl⟩:=h;exact⟨[],by rw[List.drop_eq_nil_of_le I];simp[bp],by simp[bF],trivial⟩
 |f::l,off,n,ts,h,hx,hl=>by
   simp[gN]at h;split at h
   ·rename_i us vs m N Q
    split at h
    ·rename_i hc
     cases h
     let ⟨rfl,hlen⟩:=hc
     let ⟨⟨d,ps⟩,ha⟩:=hx f Li
     let ⟨v1,g1,g2,z1⟩:=hr _ _ _ _ _ N ha
     let ⟨v2,g3,g4,z2⟩:=yak hr cs Q (λg hg=>hx g (Mw _ hg)) hl
     refine⟨v1++v2,?_,kU g2 g4,lR g2 z1 z2⟩;have e:cs.drop f.offset=(cs.drop f.offset).take (P.cellsOf f.type)++cs.drop (f.offset+P.cellsOf f.type):=by rw[← Ma];exact(Qk _ _).symm
     rw[e,List.map_append];exact kk g1 g3
    ·cases h
   ·cases h
theorem yaw {fuel k:Nat} {e:TypeId} {us:List Ty} (hr:∀ cs d ps,DataW.trod enc P w base spare held fuel e cs=some (d,ps)->∃ vs,bp w [] Nu.nil vs (cs.map bL)/\bF us vs/\gR us vs) (cs:List Value) :
 ∀(n m:Nat),cs.length=(m+n)*k->(∀i,m<=i->i<m+n->∃x,DataW.trod enc P w base spare held fuel e ((cs.drop (i*k)).take k)=some x)->∃vs,bp w [] Nu.nil vs ((cs.drop (m*k)).map bL)/\bF (List.replicate n us).flatten vs/\gR (List.replicate n us).flatten vs:=by
 intro n;induction n with
 |zero=>intro m hl _;exact⟨[],by rw[List.drop_eq_nil_of_le (by simp at hl;omega)];simp[bp],by simp[bF],trivial⟩
 |succ n ih=>
   intro m hl h
   let ⟨x,hx⟩:=h m (Dm _) I
   let ⟨d,ps⟩:=x
   let ⟨v1,g1,g2,z1⟩:=hr _ _ _ hx
   let ⟨v2,g3,g4,z2⟩:=ih (m+1) (by rw[hl];congr 1;omega) (λi N Q=>h i I I)
   refine⟨v1++v2,?_,by rw[O2,QF];exact kU g2 g4,by rw[O2,QF];exact lR g2 z1 z2⟩;have e:cs.drop (m*k)=(cs.drop (m*k)).take k++cs.drop ((m+1)*k):=by rw[Hs,← Ma];exact(Qk _ _).symm
   rw[e,List.map_append];exact kk g1 g3
theorem M4:∀ (fuel fu:Nat) (t:TypeId) (ts:List Ty) (cs:List Value) (d:DataW X9) (ps:List MemPlace),jE P fu t=some ts->DataW.trod enc P w base spare held fuel t cs=some (d,ps)->∃ vs,bp w [] Nu.nil vs (cs.map bL)/\bF ts vs/\gR ts vs:=by
 intro fuel;induction fuel with
 |zero=>intro fu t ts cs d ps _ h;cases h
 |succ fuel ih=>
   intro fu t ts cs d ps ht h;cases fu with
   |zero=>cases ht
   |succ fu=>
     have Z2:=iE ht;simp[jE]at ht;split at ht
     ·rename_i hu;cases ht;obtain⟨b,rfl,_⟩:=DataW.trod_bool hu h;exact⟨[.bool b],by simp[bp,vr,bL],by simp[bF,cY,aI,L,bv],trivial,trivial⟩
     ·rename_i k hu;cases ht;obtain⟨n,rfl,_,xI⟩:=DataW.trod_int hu h;exact⟨[.int k n],by simp[bp,vr,bL],by simp[bF,cY,aI,L,iv],Ob xI,trivial⟩
     ·rename_i hu;cases ht;obtain⟨b,rfl,_,hb⟩:=DataW.trod_string hu h;exact⟨[.str b],by simp[bp,vr,bL],by simp[bF,cY,aI,L,sv],(show b.size<=9223372036854775807 by unfold maxLen at hb;omega),trivial⟩
     ·rename_i e hu
      split at ht
      ·rename_i us Z3
       split at ht
       ·rename_i hlen
        cases ht;have hcell:=iE Z3;rcases DataW.trod_slice hu h with ⟨rfl,_⟩|⟨a,len,cap,elems,rest,n,hn,rfl,_,_,h3,h4,h5,h6,_⟩
        ·exact⟨[.sl 0 λ_=>[]],by simp only[Ja,OO,bL,bp,vr];exact⟨_,_,rfl,⟨none,0,0,rfl,Dm _,I,trivial,λi hi=>by omega⟩,rfl⟩,by simp only[bF,cY,aI,L,aL,HD];exact⟨trivial,⟨.inl rfl,hcell,λi hi=>by omega⟩,trivial⟩,(λi hi=>by simp[aL,aI]at hi),trivial⟩
        ·cases hn
         let ⟨v,g1,g2,_⟩:=alZ (w:=w) (a:=a) (n:=len) (c:=cap) (esz:=P.cellsOf e) (ts:=us) h3 h4 hcell (λi hi=>by
          have h7:=h6 i hi;rw[KO I]at h7;cases Zz:w.cells? base (a.add (i*P.cellsOf e)) (P.cellsOf e) with
          |none=>rw[Zz]at h7;cases h7
          |some cs'=>
            rw[Zz]at h7
            let ⟨vs,g1,g2,z2⟩:=ih fu e us cs' elems[i].1 elems[i].2 Z3 h7
            unfold World.cells? at Zz;split at Zz
            ·rw[Ql]at Zz;exact⟨cs',jG _ 0 cs' Zz,vs,g1,⟨g2,z2⟩,C69 g2 hcell⟩
            ·cases Zz)
         exact⟨[v],by simp only[Ja,OO,bL,bp];exact⟨_,_,rfl,g1,rfl⟩,by simp only[bF,aI,L];exact⟨trivial,g2.1,trivial⟩,g2.2,trivial⟩
       ·cases ht
      ·cases ht
     ·rename_i fs hu
      split at ht
      ·rename_i us n hf
       split at ht
       ·rename_i hn
        cases ht
        let ⟨xs,m,hm,_,h3,h4,h5⟩:=DataW.trod_struct hu h
        cases hm;have:=yak (off:=0) (λt ts cs d ps=>ih fu t ts cs d ps) cs hf (λf sV=>by obtain⟨i,hi,rfl⟩:=List.getElem_of_mem sV;simp at hi;have h6:=h5 i fs[i] (by simp[hi]);rw[KO I]at h6;exact⟨_,by simpa using h6⟩) (by rw[h3,hn]);simpa using this
       ·cases ht
      ·cases ht
     ·rename_i n e hu
      split at ht
      ·rename_i us Z3
       split at ht
       ·rename_i hc
        cases ht
        let ⟨xs,m,hm,_,h3,h4,h5⟩:=DataW.trod_array hu h
        cases hm;have:=yaw (k:=P.cellsOf e) (λcs d ps=>ih fu e us cs d ps Z3) cs n 0 (by rw[h3,hc.2];simp) (λi _ hi=>by have h6:=h5 i I;rw[KO I]at h6;exact⟨_,h6⟩);simpa using this
       ·cases ht
      ·cases ht
     ·cases ht
end
end Go.Dx
namespace Go.Dx
open Go.Sx Go.RowKit
def oV:Value->ah
 |.agg cs=>.agg (cs.toList.map bL)|v=>bL v
theorem yat (v:Value):CL (λ_=>none) (oV v) v:=by
 unfold oV;split
 ·rename_i cs;simp only[CL];exact⟨cs,rfl,cj _ _⟩
 ·exact cn _ _
theorem Ent:∀ vs:List Value,aC (λ_=>none) (vs.map oV) vs
 |[]=>by simp[aC]
 |v::vs=>by simp only[Ja,aC];exact⟨_,_,rfl,yat v,Ent vs⟩
def Jx (P:Program) (fu:Nat) (t:TypeId):Option Ty:=match P.underlying t with|some (.struct _)=>(jE P fu t).map .agg|some (.array _ _)=>(jE P fu t).map .agg|some (.int k)=>some (.int k)|some .bool=>some .bool|_=>none
def argTys (P:Program) (fu:Nat):List TypeId->Option (List Ty)
 |[]=>some []
 |t::ts=>match Jx P fu t,argTys P fu ts with|some x,some xs=>some (x::xs)|_,_=>none
section
variable {P:Program} {X9:Type} {enc:TypeId×Value->X9} {XI:World} {base:Nat}
theorem ahZ {fu:Nat} {t:TypeId} {ty:Ty} {v:Value} {d:DataW X9} {ps:List MemPlace} {b:Nat} {spare:Nat->Bool} {held:Bool} (ht:Jx P fu t=some ty) (y:Value.okWide P XI .any base t v) (h:DataW.Trod enc P XI b spare held t v d ps) :
 ∃x,vr XI [] Nu.nil x (oV v)/\cY ty x/\wG ty x:=by
 let ⟨fuel,h⟩:=h
 unfold Jx at ht;unfold Value.okWide at y;split at ht
 ·rename_i fs hu
  rw[hu]at y;obtain⟨cs,rfl,_,_⟩:=y;simp[HG]at ht;obtain⟨ts,rn,rfl⟩:=ht
  let ⟨vs,g1,g2,z2⟩:=M4 fuel fu t ts _ d ps rn h
  exact⟨.agg vs,by simp only[oV,vr];exact⟨_,rfl,g1⟩,by simp only[cY,du];exact⟨trivial,g2⟩,z2⟩
 ·rename_i n e hu
  rw[hu]at y;obtain⟨cs,rfl,_,_⟩:=y;simp[HG]at ht;obtain⟨ts,rn,rfl⟩:=ht
  let ⟨vs,g1,g2,z2⟩:=M4 fuel fu t ts _ d ps rn h
  exact⟨.agg vs,by simp only[oV,vr];exact⟨_,rfl,g1⟩,by simp only[cY,du];exact⟨trivial,g2⟩,z2⟩
 ·rename_i k hu
  cases ht
  let ⟨n,hc,_,xI⟩:=DataW.trod_int hu h
  have:v=.int k n:=by rw[hu]at y;unfold Cell.okWide at y;rw[hu]at y;cases v<;>simp_all [Value.cells,Cell.ok]
  subst this;exact⟨.int k n,by simp[oV,bL,vr],by simp[cY,iv],Ob xI⟩
 ·rename_i hu
  cases ht
  let ⟨n,hc,_⟩:=DataW.trod_bool hu h
  have:v=.bool n:=by rw[hu]at y;unfold Cell.okWide at y;rw[hu]at y;cases v<;>simp_all [Value.cells,Cell.ok]
  subst this;exact⟨.bool n,by simp[oV,bL,vr],by simp[cY,bv],trivial⟩
 ·cases ht
theorem Na {fu:Nat} {b:Nat} {spare:Nat->Bool} {held:Bool}:∀ {ts:List TypeId} {tys:List Ty} {vs:List Value} {ds:List (DataW X9)} {ps:List MemPlace},argTys P fu ts=some tys->(∀ (j:Nat) t v,ts[j]? = some t->vs[j]? = some v->Value.okWide P XI .any base t v)->DataW.TrodAll enc P XI b spare held ts vs ds ps ->
 ∃xs,bp XI [] Nu.nil xs (vs.map oV)/\bF tys xs/\gR tys xs
 |[],tys,[],[],ps,ht,_,h=>by simp[argTys,H2]at ht;subst ht;exact⟨[],by simp[bp],by simp[bF],trivial⟩
 |t::ts,tys,v::vs,d::ds,ps,ht,y,h=>by
   simp[argTys]at ht;split at ht
   ·rename_i x xs hx Ys
    cases ht
    let ⟨p,X1,N,Q,_⟩:=h
    let ⟨At,g1,g2,z1⟩:=ahZ hx (y 0 t v rfl rfl) N
    let ⟨ys,g3,g4,z2⟩:=Na Ys (λj t v hj w₂=>y (j+1) t v (by simpa using hj) (by simpa using w₂)) Q
    exact⟨At::ys,by simp only[Ja,bp];exact⟨_,_,rfl,g1,g3⟩,by simp only[bF,aI,L];exact⟨trivial,g2,g4⟩,z1,z2⟩
   ·cases ht
 |[],_,_::_,_,_,_,_,h=>by simp[DataW.TrodAll]at h
 |[],_,[],_::_,_,_,_,h=>by simp[DataW.TrodAll]at h
 |_::_,_,[],_,_,_,_,h=>by simp[DataW.TrodAll]at h
 |_::_,_,_::_,[],_,_,_,h=>by simp[DataW.TrodAll]at h
mutual
theorem adA:∀ (t:Ty) (v:V),cV t (cV t v)=cV t v
 |.int k,v=>by simp[cV,iv]
 |.bool,v=>by simp[cV,bv]
 |.str,v=>by simp[cV,sv]
 |.agg ts,v=>by simp[cV,du];rw[ea ts]
 |.sl ts,v=>by simp[cV,aL,b7];congr 1;funext i;exact ea ts _
 |.fn f xs ys,v=>by simp only[cV,GE,Gt];rw[ea xs,ea ys]
 |.pd ts,v=>by simp[cV,EG];rw[ea ts]
theorem ea:∀ (ts:List Ty) (vs:List V),aw ts (aw ts vs)=aw ts vs
 |[],vs=>by simp[aw]
 |t::ts,vs=>by simp only[aw,aI,L];rw[adA t,ea ts]
end
mutual
theorem aif:∀ (t:Ty) (v:V) (k:List V),rQ t (cV t v) k=rE t (cV t v) k
 |.int k,v,_=>by simp[cV,rQ,rE,iv]
 |.bool,v,_=>by simp[cV,rQ,rE,bv]
 |.str,v,_=>by simp[cV,rQ,rE,sv]
 |.agg ts,v,k=>by simp[cV,rQ,rE,du];rw[gL ts]
 |.sl ts,v,k=>by have:=adA (.sl ts) v;simp[cV]at this ⊢;simp[rQ,rE,cV,this]
 |.fn f xs ys,v,k=>by simp[cV,rQ,rE,GE,Gt];rw[gL ys,gL xs]
 |.pd ts,v,k=>by simp[cV,rQ,rE,EG];rw[gL ts]
theorem gL:∀ (ts:List Ty) (vs:List V) (k:List V),lf ts (aw ts vs) k=ln ts (aw ts vs) k
 |[],vs,k=>by simp[aw,lf,ln]
 |t::ts,vs,k=>by simp[aw,lf,ln,aI,L];rw[gL ts,aif t]
end
def lawC (tys:List Ty):aH:=cG tys (gR tys) λ_=>.bool true
theorem law_calls {f:FuncId} {fu b:Nat} {spare:Nat->Bool} {held:Bool} {tys:List Ty} {ts:List TypeId} {args:Array Value} {ds:List (DataW X9)} {ps:List MemPlace} (hOk:(vP (lawC tys)).Ok P f) (ht:argTys P fu ts=some tys)
 (y:∀(j:Nat) t v,ts[j]? = some t->args[j]? = some v->Value.okWide P XI .any base t v) (hA:DataW.TrodAll enc P XI b spare held ts args.toList ds ps) :
 Calls P f args XI λe W'=>e=.returned (.bool true)/\Below XI.heap.size XI W':=by
 let ⟨xs,g1,g2,z2⟩:=Na (vs:=args.toList) ht (λj t v hj w₂=>y j t v hj (by simpa using w₂)) hA
 let ⟨_,hc⟩:=hOk.sound ⟨XI,XI,λ_=>False,[]⟩ (λ_=>none) [] XI (args.toList.map oV) args.toList (λr _=>r=.bool true) (ba.start XI) (Ent _)
  ⟨aw tys xs,_,_,_,fA tys xs _ g2 g1,rfl,⟨gL tys xs [],by rw[(gx tys _ [] [] (gL tys xs [])).1];exact iJ tys _ (iJ tys xs z2)⟩,rfl,rfl⟩
 refine hc.mono λe w' ⟨v,r,m',lh',he,hr,_,hh,hk⟩=>?_;subst hk;simp[CL]at hr;subst hr;exact⟨he,hh.os,hh.tape,hh.output,hh.fsize,hh.old⟩
end
end Go.Dx
