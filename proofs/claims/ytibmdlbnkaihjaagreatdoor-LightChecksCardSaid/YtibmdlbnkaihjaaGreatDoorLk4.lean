/- Part 4 of a proof. No conditions. -/
import Derived.Test.YtibmdlbnkaihjaaGreatDoorLk3
import Derived.Laws.StructEq
import Derived.ChangeKeysEq
import Derived.Test.YtibmdlbnkaihjaaGreatDoorChecked
import Derived.IntWalk
import Derived.WalkKit
import Derived.Ground.NamesProg
import Derived.Shelf.Strings.SlTrimAscii
set_option maxRecDepth 100000
set_option linter.unusedVariables false
set_option linter.unusedSimpArgs false
namespace Go.Dx
open Go.Sx
inductive ck (J:Type) where
 | res (v:V)
 | head (j:J) (e:Env) (h:List O) (g:Option Ex)
structure Lp (J:Type) where
 fr:Nat × Nat
 body:vA
 k:Ex->Env->List O->Option Ex->T (ck J)
section
variable {α β:Type}
def dN:T α->(α->T β)->T β
 | .ret a,f=>f a
 | .br b x y,f=>.br b (dN x f) (dN y f)
 | .ob b x,f=>.ob b (dN x f)
 | .obi c d x,f=>.obi c d (dN x f)
 | .obp p x,f=>.obp p (dN x f)
 | .obq a b x,f=>.obq a b (dN x f)
 | .fail n,_=>.fail n
 | .loop fr b e h g k,f=>.loop fr b e h g fun x e h g=>dN (k x e h g) f
 | .all t,f=>.all fun l=>dN (t l) f
 | .und x y,f=>.und (dN x f) (dN y f)
 | .asm p x,f=>.asm p (dN x f)
theorem vM {LP:cY} {Q:β->Prop} (f:α->T β):∀ t:T α,sat LP (dN t f) Q=sat LP t fun a=>sat LP (f a) Q:=by
 intro t
 induction t with
 | ret a=>rfl
 | br b x y hx hy=>simp only [dN,sat,hx,hy]
 | ob b x hx=>simp only [dN,sat,hx]
 | obi c d x hx=>simp only [dN,sat,hx]
 | obp p x hx=>simp only [dN,sat,hx]
 | obq a b x hx=>simp only [dN,sat,hx]
 | fail n=>rfl
 | loop fr b e h g k hk=>simp only [dN,sat,hk]
 | all t ht=>simp only [dN,sat,ht]
 | und x y hx hy=>simp only [dN,sat,hx,hy]
 | asm p x hx=>simp only [dN,sat,hx]
theorem gE {LP:cY} (hLP:∀ fr b e h g (P P':Ex->Env->List O->Option Ex->Prop),(∀ x e h g,P x e h g->P' x e h g)->LP fr b e h g P->LP fr b e h g P') {Q Q':α->Prop} (hQ:∀ a,Q a->Q' a):∀ t:T α,sat LP t Q->sat LP t Q':=by
 intro t
 induction t with
 | ret a=>exact hQ a
 | br b x y hx hy=>exact fun h=>⟨fun e=>hx (h.1 e),fun e=>hy (h.2 e)⟩
 | ob b x hx=>exact fun h=>⟨h.1,hx h.2⟩
 | obi c d x hx=>exact fun h=>⟨h.1,hx h.2⟩
 | obp p x hx=>exact fun h=>⟨h.1,hx h.2⟩
 | obq a b x hx=>exact fun h=>⟨h.1,hx h.2⟩
 | fail n=>exact id
 | loop fr b e h g k hk=>exact fun hs=>hLP _ _ _ _ _ _ _ (fun x e h g=>hk x e h g) hs
 | all t ht=>exact fun h l=>ht l (h l)
 | und x y hx hy=>exact fun h=>⟨hx h.1,hy h.2⟩
 | asm p x hx=>exact fun h hp=>hx (h hp)
theorem eu (w0:World) (S:uT):∀ fr b e h g (P P':Ex->Env->List O->Option Ex->Prop),(∀ x e h g,P x e h g->P' x e h g)->bU w0 S fr b e h g P->bU w0 S fr b e h g P':=by
 intro fr b e h g P P' hP
 cases b with
 | s body=>exact fun hl N nbS ν nV nS sl lh QA h1 h2 h3 h4=>hl N nbS ν nV nS sl lh QA h1 h2 h3 fun ex e' h' ν' sl' lh' nV' nS' g0 g1 g2 g3=>h4 ex e' h' ν' sl' lh' nV' nS' g0 g1 g2 (hP _ _ _ _ g3)
 | i body rd=>exact fun hl N N0 ν nV nS sl sl0 lh QA h1 h2 h3 h4 h5 h6 h7 h8=>hl N N0 ν nV nS sl sl0 lh QA h1 h2 h3 h4 h5 h6 h7 fun ex e' h' g' ν' sl' lh' nV' nS' g0 g1 g2 g3=>h8 ex e' h' g' ν' sl' lh' nV' nS' g0 g1 g2 (hP _ _ _ _ g3)
end
mutual
def gS (ρ:Rho):V->V->V
 | .any,_=>.any
 | .int _ _,.int k a=>.int k a
 | .bool _,.bool a=>.bool a
 | .bool _,.kb a=>.bool a
 | .kb _,.kb a=>.kb a
 | .str _,.str a=>.str a
 | .agg ys,.agg xs=>.agg (jx ρ ys xs)
 | .tup ys,.tup xs=>.tup (jx ρ ys xs)
 | .fn _ us vs,.fn f xs ys=>.fn f (jx ρ us xs) (jx ρ vs ys)
 | .sl _ _,.sl n f=>.sl n f
 | .pd _,.pd cs=>.pd cs
 | .pl k1 _,.pl k o=>match cm ρ k1 with
   | some (some k')=>cond (Nat.beq k' k) (.pl k1 o) .any
   | _=>.any
 | .pe k1 _ _,.pe k i j=>match cm ρ k1 with
   | some (some k')=>cond (Nat.beq k' k) (.pe k1 i j) .any
   | _=>.any
 | .ss k1 _ _ _,.ss k o n c=>match cm ρ k1 with
   | some (some k')=>cond (Nat.beq k' k) (.ss k1 o n c) .any
   | _=>.any
 | .gs k1 _,.gs k n=>match cm ρ k1 with
   | some (some k')=>cond (Nat.beq k' k) (.gs k1 n) .any
   | _=>.any
 | .gs k1 _,.ns=>match cm ρ k1 with
   | some none=>.gs k1 0
   | _=>.any
 | .ns,.ns=>.ns
 | .np,.np=>.np
 | .yl _,.yl l=>.yl l
 | .go k1 _ _,.go k o n=>match cm ρ k1 with
   | some (some k')=>cond (Nat.beq k' k) (.go k1 o n) .any
   | _=>.any
 | _,_=>.any
def jx (ρ:Rho):List V->List V->List V
 | [],[]=>[]
 | y::ys,x::xs=>gS ρ y x::jx ρ ys xs
 | [],_::_=>[.any]
 | _::_,[]=>[]
end
section
variable {ρ:Rho}
theorem Bu {k k':Nat} {x y:V} (hb:cond (Nat.beq k' k) x V.any=y) (hy:y ≠ V.any):k'=k/\x=y:=by
 cases hc:Nat.beq k' k with
 | false=>rw [hc] at hb; exact (hy hb.symm).elim
 | true=>rw [hc] at hb; exact ⟨Nat.eq_of_beq_eq_true hc,hb⟩
mutual
theorem yT:∀ (t v:V),gS ρ t v=t->bw ρ v t
 | .any,v,_=>by cases v <;> simp [bw]
 | .int k n,v,h=>by cases v <;> simp only [gS] at h <;> cases h <;> simp [bw]
 | .bool b,v,h=>by cases v <;> simp only [gS] at h <;> cases h <;> simp [bw]
 | .kb b,v,h=>by cases v <;> simp only [gS] at h <;> cases h <;> simp [bw]
 | .str b,v,h=>by cases v <;> simp only [gS] at h <;> cases h <;> simp [bw]
 | .agg ys,v,h=>by
   cases v <;> simp only [gS] at h <;> first | (cases h; done) | skip
   simp only [V.agg.injEq] at h; simp only [bw]; exact fk ys _ h
 | .tup ys,v,h=>by
   cases v <;> simp only [gS] at h <;> first | (cases h; done) | skip
   simp only [V.tup.injEq] at h; simp only [bw]; exact fk ys _ h
 | .fn f us vs,v,h=>by
   cases v <;> simp only [gS] at h <;> first | (cases h; done) | skip
   simp only [V.fn.injEq] at h; simp only [bw]; exact ⟨h.1,fk us _ h.2.1,fk vs _ h.2.2⟩
 | .sl n f,v,h=>by cases v <;> simp only [gS] at h <;> cases h <;> simp [bw]
 | .pd cs,v,h=>by cases v <;> simp only [gS] at h <;> cases h <;> simp [bw]
 | .pl k1 o1,v,h=>by
   cases v <;> simp only [gS] at h <;> first | (cases h; done) | skip
   split at h
   ·rename_i k' hk
    obtain ⟨rfl,e⟩:=Bu h (by simp)
    simp only [V.pl.injEq,true_and] at e
    simp only [bw]; exact ⟨hk,e⟩
   ·cases h
 | .pe k1 i1 j1,v,h=>by
   cases v <;> simp only [gS] at h <;> first | (cases h; done) | skip
   split at h
   ·rename_i k' hk
    obtain ⟨rfl,e⟩:=Bu h (by simp)
    simp only [V.pe.injEq,true_and] at e
    simp only [bw]; exact ⟨hk,e⟩
   ·cases h
 | .ss k1 i1 j1 c1,v,h=>by
   cases v <;> simp only [gS] at h <;> first | (cases h; done) | skip
   split at h
   ·rename_i k' hk
    obtain ⟨rfl,e⟩:=Bu h (by simp)
    simp only [V.ss.injEq,true_and] at e
    simp only [bw]; exact ⟨hk,e⟩
   ·cases h
 | .gs k1 n1,v,h=>by
   cases v <;> simp only [gS] at h <;> first | (cases h; done) | skip
   ·split at h
    ·rename_i k' hk
     obtain ⟨rfl,e⟩:=Bu h (by simp)
     simp only [V.gs.injEq,true_and] at e
     simp only [bw]; exact ⟨hk,e⟩
    ·cases h
   ·split at h
    ·rename_i hk
     simp only [V.gs.injEq,true_and] at h
     simp only [bw]; exact ⟨hk,h.symm⟩
    ·cases h
 | .ns,v,h=>by cases v <;> simp only [gS] at h <;> cases h <;> simp [bw]
 | .np,v,h=>by cases v <;> simp only [gS] at h <;> cases h <;> simp [bw]
 | .yl l,v,h=>by cases v <;> simp only [gS] at h <;> cases h <;> simp [bw]
 | .gd b x,v,h=>by cases v <;> simp only [gS] at h <;> cases h
 | .go k1 i1 j1,v,h=>by
   cases v <;> simp only [gS] at h <;> first | (cases h; done) | skip
   split at h
   ·rename_i k' hk
    obtain ⟨rfl,e⟩:=Bu h (by simp)
    simp only [V.go.injEq,true_and] at e
    simp only [bw]; exact ⟨hk,e⟩
   ·cases h
 | .sq n m f,v,h=>by cases v <;> simp only [gS] at h <;> cases h
theorem fk:∀ (ts vs:List V),jx ρ ts vs=ts->dA ρ vs ts
 | [],[],_=>by simp [dA]
 | y::ys,x::xs,h=>by
   simp only [jx,List.cons.injEq] at h
   simp only [dA]; exact ⟨yT y x h.1,fk ys xs h.2⟩
 | [],_::_,h=>by simp [jx] at h
 | _::_,[],h=>by simp [jx] at h
end
mutual
theorem FY:∀ (v t:V),bw [] v t->bw ρ v t
 | .int ..,t,h=>by cases t <;> simp only [bw] at h ⊢ <;> exact h
 | .bool _,t,h=>by cases t <;> simp only [bw] at h ⊢ <;> exact h
 | .kb _,t,h=>by cases t <;> simp only [bw] at h ⊢ <;> exact h
 | .str _,t,h=>by cases t <;> simp only [bw] at h ⊢ <;> exact h
 | .agg xs,t,h=>by cases t <;> simp only [bw] at h ⊢ <;> first | exact gi _ _ h | exact h
 | .tup xs,t,h=>by cases t <;> simp only [bw] at h ⊢ <;> first | exact gi _ _ h | exact h
 | .fn f xs ys,t,h=>by cases t <;> simp only [bw] at h ⊢ <;> first | exact ⟨h.1,gi _ _ h.2.1,gi _ _ h.2.2⟩ | exact h
 | .sl ..,t,h=>by cases t <;> simp only [bw] at h ⊢ <;> exact h
 | .pd ..,t,h=>by cases t <;> simp only [bw] at h ⊢ <;> exact h
 | .pl ..,t,h=>by cases t <;> simp only [bw] at h ⊢ <;> first | exact h | (simp [cm,nth] at h)
 | .pe ..,t,h=>by cases t <;> simp only [bw] at h ⊢ <;> first | exact h | (simp [cm,nth] at h)
 | .ss ..,t,h=>by cases t <;> simp only [bw] at h ⊢ <;> first | exact h | (simp [cm,nth] at h)
 | .gs ..,t,h=>by cases t <;> simp only [bw] at h ⊢ <;> first | exact h | (simp [cm,nth] at h)
 | .ns,t,h=>by cases t <;> simp only [bw] at h ⊢ <;> first | exact h | (simp [cm,nth] at h)
 | .np,t,h=>by cases t <;> simp only [bw] at h ⊢ <;> exact h
 | .any,t,h=>by cases t <;> simp only [bw] at h ⊢ <;> exact h
 | .gd ..,t,h=>by cases t <;> simp only [bw] at h ⊢ <;> exact h
 | .yl _,t,h=>by cases t <;> simp only [bw] at h ⊢ <;> exact h
 | .go ..,t,h=>by cases t <;> simp only [bw] at h ⊢ <;> first | exact h | (simp [cm,nth] at h)
 | .sq ..,t,h=>by cases t <;> simp only [bw] at h ⊢ <;> exact h
theorem gi:∀ (vs ts:List V),dA [] vs ts->dA ρ vs ts
 | [],[],_=>by simp [dA]
 | v::vs,t::ts,h=>by simp only [dA] at h ⊢; exact ⟨FY v t h.1,gi vs ts h.2⟩
 | [],_::_,h=>by simp [dA] at h
 | _::_,[],h=>by simp [dA] at h
end
end
def uW (ts:List Ty) (n:Nat) (f:FnV):Prop:=∀ i,i < n->okE (bc ts) (ae ts (f i))=true/\dA [] (f i) (ae ts (f i))
structure VF where
 k:Nat
 ts:List Ty
 n:Nat
 f:Nat->List V
 ok:uW ts n f
theorem BO {t:Ty} (h:bl t=true) (v:V):(bN t v).one=true:=by cases t <;> first | (simp [bl] at h; done) | (simp only [bN]; rfl)
theorem rT:∀ {ts:List Ty},ts.all bl=true->∀ vs,(ae ts vs).all V.one=true
 | [],_,_=>by simp [ae]
 | t::ts,h,vs=>by
   simp only [List.all_cons,Bool.and_eq_true] at h
   simp only [ae,List.all_cons,Bool.and_eq_true]; exact ⟨BO h.1 _,rT h.2 _⟩
theorem ks {ts:List Ty} (h:ts.all bl=true) (vs:List V):okE (bc ts) (ae ts vs)=true:=xq (by rw [nK,a8]) (rT h vs)
theorem A2 {t:Ty} (h:bl t=true) (v:V):bw [] (bN t v) (bN t v):=by cases t <;> first | (simp [bl] at h; done) | (simp only [bN,bw]; try simp)
theorem oz:∀ {ts:List Ty},ts.all bl=true->∀ vs,dA [] (ae ts vs) (ae ts vs)
 | [],_,_=>by simp [ae,dA]
 | t::ts,h,vs=>by
   simp only [List.all_cons,Bool.and_eq_true] at h
   simp only [ae,dA]; exact ⟨A2 h.1 _,oz h.2 _⟩
theorem bZ {ts:List Ty} (h:ts.all bl=true) (n:Nat) (f:FnV):uW ts n (elV ts f):=fun i _=>by
 simp only [elV,dP]
 exact ⟨ks h _,oz h _⟩
theorem JH {ts:List Ty} {n m:Nat} {f g:Nat->List V} (h1:uW ts n f) (h2:uW ts m g):uW ts (n+m) (bf n f g):=fun i hi=>by
 unfold bf
 by_cases hlt:i < n
 ·have hb:Nat.blt i n=true:=Nat.ble_eq_true_of_le hlt
  rw [hb]; exact h1 i hlt
 ·have hb:Nat.blt i n=false:=by
   cases hb:Nat.blt i n with
   | false=>rfl
   | true=>have:=Nat.le_of_ble_eq_true hb; omega
  rw [hb]; exact h2 _ (by omega)
theorem BL {ts:List Ty} (h:ts.all bl=true) (n:Nat) {ds:List V} (hf:jx [] (ae ts ds) ds=ae ts ds):uW ts n fun _=>ds:=fun i _=>⟨ks h _,fk _ _ hf⟩
theorem tp {ts:List Ty} (h:ts.all bl=true) {n j:Nat} {ds:List V} {f:Nat->List V} (h1:uW ts n f) (hf:jx [] (ae ts ds) ds=ae ts ds):uW ts n fun i=>cond (Nat.beq i j) ds (f i):=fun i hi=>by
 show okE _ (ae ts (cond (Nat.beq i j) ds (f i)))=true/\dA [] (cond (Nat.beq i j) ds (f i)) (ae ts (cond (Nat.beq i j) ds (f i)))
 cases Nat.beq i j with
 | true=>exact ⟨ks h _,fk _ _ hf⟩
 | false=>exact h1 i hi
def uz (ρ:Rho) (e:Env):Env->Env
 | []=>[]
 | (s,t)::l=>(s,gS ρ t (fH e s))::uz ρ e l
theorem z8 {ρ:Rho} {e:Env}:∀ {e1:Env},uz ρ e e1=e1->pp ρ e e1
 | [],_=>trivial
 | (s,t)::l,h=>by
   simp only [uz,List.cons.injEq,Prod.mk.injEq,true_and] at h
   exact ⟨yT _ _ h.1,z8 h.2⟩
def qZ:List VF->Nat->Option VF
 | [],_=>none
 | v::l,k=>cond (Nat.beq k v.k) (some v) (qZ l k)
def E2 (ρ:Rho) (h:List O) (vf:List VF) (k:Nat):O->O
 | .cells cs ty=>match cm ρ k with
   | some (some j)=>match nth h j with
     | some (.cells ds ty')=>.cells (jx ρ cs ds) ty'
     | _=>.dead
   | _=>.dead
 | .gl e n f ty=>match cm ρ k with
   | some none=>.gl e 0 f ty
   | some (some j)=>match nth h j with
     | some (.gl e' m g ty')=>match qZ vf k with
       | some v=>.gl e' m (elV v.ts g) ty'
       | none=>.dead
     | _=>.dead
   | none=>.dead
 | .dead=>.hid
 | .hid=>.hid
def uw (ρ:Rho) (h:List O) (vf:List VF):Nat->List O->List O
 | _,[]=>[]
 | k,o::l=>E2 ρ h vf k o::uw ρ h vf (k+1) l
def kX (ρ:Rho) (h:List O):List VF->List (Nat × Nat × (Nat->List V))
 | []=>[]
 | v :: l=>(match cm ρ v.k with
   | some (some j)=>match nth h j with
     | some (.gl e m g _)=>(e,m,g)
     | _=>(0,0,fun _=>[])
   | _=>(0,0,fun _=>[]))::kX ρ h l
def kU:List VF->List (Nat × Nat × (Nat->List V))
 | []=>[]
 | v::l=>(bc v.ts,v.n,v.f)::kU l
theorem vp {ρ:Rho} {h:List O} {k:Nat} {v:VF}:∀ {vf:List VF},qZ vf k=some v->kX ρ h vf=kU vf->v.k=k/\(match cm ρ v.k with
 | some (some j)=>match nth h j with
   | some (.gl e m g _)=>(e,m,g)
   | _=>(0,0,fun _=>[])
 | _=>(0,0,fun _=>[]))=(bc v.ts,v.n,v.f)
 | [],h1,_=>by cases h1
 | x::l,h1,h2=>by
   simp only [kX,kU,List.cons.injEq] at h2
   simp only [qZ] at h1
   cases hb:Nat.beq k x.k with
   | true=>rw [hb] at h1; cases h1; exact ⟨(Nat.eq_of_beq_eq_true hb).symm,h2.1⟩
   | false=>rw [hb] at h1; exact vp h1 h2.2
theorem Ih {ρ:Rho} {h:List O} {vf:List VF} {k:Nat} {o:O} (hf:E2 ρ h vf k o=o) (hg:kX ρ h vf=kU vf):wj ρ h k o:=by
 cases o with
 | cells cs ty =>
   simp only [E2] at hf
   split at hf
   ·rename_i j hj
    split at hf
    ·rename_i ds ty' hn
     simp only [O.cells.injEq] at hf
     exact ⟨j,ds,hj,by rw [hn,hf.2],fk _ _ hf.1⟩
    ·cases hf
   ·cases hf
 | gl e n f ty =>
   simp only [E2] at hf
   split at hf
   ·rename_i hj
    simp only [O.gl.injEq,true_and,and_true] at hf
    exact .inl ⟨hj,hf.symm⟩
   ·rename_i j hj
    split at hf
    ·rename_i e' m g ty' hn
     split at hf
     ·rename_i v hv
      obtain ⟨rfl,h2⟩:=vp hv hg
      rw [hj] at h2
      simp only [hn,Prod.mk.injEq] at h2
      simp only [O.gl.injEq] at hf
      obtain ⟨rfl,rfl,rfl,rfl⟩:=hf
      obtain ⟨h3,h4,h5⟩:=h2
      refine .inr ⟨j,m,g,hj,hn,Nat.le_refl _,fun i hi=>?_⟩
      have:=v.ok i (by rw [← h4]; exact hi)
      rw [← h5,← h3] at this
      exact ⟨this.1,gi _ _ this.2⟩
     ·cases hf
    ·cases hf
   ·cases hf
 | dead=>simp only [E2] at hf; cases hf
 | hid=>trivial
theorem yZ {ρ:Rho} {h:List O} {vf:List VF} (hg:kX ρ h vf=kU vf):∀ {l:List O} {k:Nat},uw ρ h vf k l=l->pj ρ h k l
 | [],_,_=>trivial
 | o::l,k,hf=>by
   simp only [uw,List.cons.injEq] at hf
   exact ⟨Ih hf.1 hg,yZ hg hf.2⟩
def rm (ρ:Rho) (nb:Nat) (h1:List O):Bool:=Nat.beq (bc ρ) (bc h1) && (w4 ρ && Eu ρ nb)
theorem pb (w0:World) {ρ:Rho} {nb:Nat} {e e1:Env} {h h1:List O} {vf:List VF} (h0:rm ρ nb h1=true) (he:uz ρ e e1=e1) (hh:uw ρ h vf 0 h1=h1) (hg:kX ρ h vf=kU vf):gI w0 nb e h e1 h1:=by
 unfold rm at h0
 simp only [Bool.and_eq_true] at h0
 exact gI.ren w0 ρ h0.1 h0.2.1 h0.2.2 (z8 he) (yZ hg hh)
def frR (zs:List VF) (v v':V):Prop:=v'=v ∨ ∃ k n z,v=.gs k n/\z ∈ zs/\z.k=k/\n<=z.n/\v'=.sl n (elV z.ts z.f)
def J8 (zs:List VF):List V->List V->Prop
 | [],[]=>True
 | a::l,b::m=>frR zs a b/\J8 zs l m
 | _,_=>False
structure FR (zs:List VF) where
 k:Nat
 n:Nat
 f:Nat->List V
 g:Nat->List V
 ok:∀ i,i < n->J8 zs (f i) (g i)
section
variable {zs:List VF}
def AW:List (FR zs)->Nat->Option (FR zs)
 | [],_=>none
 | v::l,k=>cond (Nat.beq k v.k) (some v) (AW l k)
def Pn (fr:List (FR zs)) (k:Nat) (o:O):O:=match qZ zs k with
 | some _=>.hid
 | none=>match o with
   | .gl e n f ty=>match AW fr k with
     | some r=>.gl e n r.g ty
     | none=>.gl e n f ty
   | o=>o
def frzH (fr:List (FR zs)):Nat->List O->List O
 | _,[]=>[]
 | k,o::l=>Pn fr k o::frzH fr (k+1) l
def G9 (zs:List VF):Bool:=zs.all fun v=>v.ts.all bl
def A1 (h:List O):List VF->List (Option (Nat × Nat × (Nat->List V)))
 | []=>[]
 | v::l=>(match nth h v.k with
   | some (.gl e m g _)=>some (e,m,g)
   | _=>none)::A1 h l
def nr:List VF->List (Option (Nat × Nat × (Nat->List V)))
 | []=>[]
 | v::l=>some (bc v.ts,v.n,v.f)::nr l
def AS (h:List O):List (FR zs)->List (Option (Nat × (Nat->List V)))
 | []=>[]
 | v::l=>(match nth h v.k with
   | some (.gl _ m g _)=>some (m,g)
   | _=>none)::AS h l
def AZ:List (FR zs)->List (Option (Nat × (Nat->List V)))
 | []=>[]
 | v::l=>some (v.n,v.f)::AZ l
theorem yK {h:List O} {v:VF}:∀ {l:List VF},A1 h l=nr l->v ∈ l->∃ ty,h[v.k]? = some (.gl (bc v.ts) v.n v.f ty)
 | [],_,hm=>by cases hm
 | x :: l,he,hm=>by
   simp only [A1,nr,List.cons.injEq] at he
   rcases List.mem_cons.1 hm with rfl | hm
   ·have h1:=he.1
    rw [aP] at h1
    split at h1
    ·rename_i e m g ty hk
     simp only [Option.some.injEq,Prod.mk.injEq] at h1
     obtain ⟨rfl,rfl,rfl⟩:=h1
     exact ⟨ty,hk⟩
    ·cases h1
   ·exact yK he.2 hm
theorem xU {h:List O} {k:Nat} {r:FR zs}:∀ {l:List (FR zs)},AS h l=AZ l->AW l k=some r->∃ e ty,h[k]? = some (.gl e r.n r.f ty)
 | [],_,hm=>by cases hm
 | x :: l,he,hm=>by
   simp only [AS,AZ,List.cons.injEq] at he
   simp only [AW] at hm
   cases hb:Nat.beq k x.k with
   | true =>
     rw [hb] at hm; cases hm
     have h1:=he.1
     rw [aP,← Nat.eq_of_beq_eq_true hb] at h1
     split at h1
     ·rename_i e m g ty hk
      simp only [Option.some.injEq,Prod.mk.injEq] at h1
      obtain ⟨rfl,rfl⟩:=h1
      exact ⟨e,ty,hk⟩
     ·cases h1
   | false=>rw [hb] at hm; exact xU he.2 hm
theorem rC {v:VF}:∀ {l:List VF},v ∈ l->qZ l v.k ≠ none
 | x :: l,hm=>by
   simp only [qZ]
   cases hb:Nat.beq v.k x.k with
   | true=>simp
   | false =>
     rcases List.mem_cons.1 hm with rfl | hm
     ·simp at hb
     ·exact rC hm
theorem uc (fr:List (FR zs)):∀ (l:List O) (b k:Nat),(frzH fr b l)[k]? = (l[k]?).map (Pn fr (b+k))
 | [],b,k=>by simp [frzH]
 | o::l,b,0=>by simp [frzH]
 | o::l,b,k+1=>by
   simp only [frzH,List.getElem?_cons_succ]
   rw [uc fr l (b+1) k,show b+1+k=b+(k+1) by omega]
theorem Ij {v v':V} (h:frR zs v v') (hv:v.one=true):v'.one=true:=by
 rcases h with rfl | ⟨k,n,z,_,_,_,_,rfl⟩
 ·exact hv
 ·rfl
theorem vq:∀ {l m:List V},J8 zs l m->l.all V.one=true->bc m=bc l/\m.all V.one=true
 | [],[],_,_=>⟨rfl,rfl⟩
 | a::l,b::m,h,ho=>by
   simp only [List.all_cons,Bool.and_eq_true] at ho ⊢
   obtain ⟨h1,h2⟩:=vq h.2 ho.2
   exact ⟨by simp only [bc,h1],Ij h.1 ho.1,h2⟩
 | [],_::_,h,_=>h.elim
 | _::_,[],h,_=>h.elim
theorem z7 (w0:World) {nb:Nat} {e:Env} {h:List O} {fr:List (FR zs)} (hc:G9 zs=true) (hz:A1 h zs=nr zs) (hf:AS h fr=AZ fr):gI w0 nb e h e (frzH fr 0 h):=by
 classical
 intro N ν nV nS sl lh hs hr
 have hB:∀ v,v ∈ zs->∃ ty,h[v.k]? = some (.gl (bc v.ts) v.n v.f ty):=fun v hv=>yK hz hv
 let Bf:Nat->Prop:=fun j=>∃ v x,v ∈ zs/\ν v.k=some (some x)/\x.1=j
 let z1:List af:=lh.mapIdx fun j o=>if isCells ν.z[j]? = true ∨ Bf j then o else .hid
 have z1get:∀ j,z1[j]? = (lh[j]?).map fun o=>if isCells ν.z[j]? = true ∨ Bf j then o else .hid:=fun j=>by simp only [z1,List.getElem?_mapIdx]
 have hza:zle ν.z z1:=fun j az ty hj=>by
  rw [z1get,hr.zl j az ty hj]
  simp only [Option.map_some]
  rw [if_pos (.inl (by rw [hj]; rfl))]
 have hzb:zle z1 lh:=fun j az ty hj=>by
  rw [z1get] at hj
  cases hl:lh[j]? with
  | none=>rw [hl] at hj; cases hj
  | some o =>
    rw [hl] at hj
    simp only [Option.map_some,Option.some.injEq] at hj
    split at hj
    ·rw [hj]
    ·cases hj
 let ν1:Nu:=⟨ν.m,z1⟩
 have hsub:ν.sub ν1:=⟨fun _ _ h=>h,hza⟩
 have hfr:∀ {v v':V} {a:ab},frR zs v v'->vr w0 ν.z ν v a->vr w0 z1 ν1 v' a:=by
  intro v v' a hv hx
  rcases hv with rfl | ⟨k,n,z,rfl,hm,rfl,hn,rfl⟩
  ·exact Nc hsub _ _ hx
  ·obtain ⟨ty,hk⟩:=hB z hm
   have hts:z.ts.all bl=true:=by unfold G9 at hc; exact List.all_eq_true.1 hc z hm
   simp only [vr] at hx ⊢
   rcases hr.blk _ _ hk with ⟨h1,h2⟩ | ⟨b,c,az,h1,h2,h3,h4,h5⟩
   ·rcases hx with ⟨_,g2,rfl⟩ | ⟨b,c,e,g1,_⟩
    ·subst g2; exact ⟨none,0,0,rfl,Nat.le_refl _,by omega,trivial,fun i hi=>by omega⟩
    ·rw [h1] at g1; cases g1
   ·rcases hx with ⟨g1,_⟩ | ⟨b',c',e',g1,rfl,g3⟩
    ·rw [h1] at g1; cases g1
    ·rw [h1] at g1
     obtain ⟨rfl,rfl,rfl⟩:b=b'/\c=c'/\bc z.ts=e':=by simpa using g1
     have hb:z1[b]? = some (.cells az ty):=by
      rw [z1get,h2]
      simp only [Option.map_some]
      rw [if_pos (.inr ⟨z,_,hm,h1,rfl⟩)]
     refine ⟨some (.l b 0),c,bc z.ts,rfl,g3,by omega,⟨az,ty,hb,Nat.zero_le _⟩,fun i hi=>?_⟩
     have hi':i * bc z.ts+bc z.ts<=az.length:=by
      rw [h3,← Nat.succ_mul]; exact Nat.mul_le_mul_right _ (by omega)
     have hok:=z.ok i (by omega)
     refine ⟨_,_,rfl,?_,gG hza _ _ (eC (ν:=iQ [] ν) (fun k x hx=>?_) _ _ (fG _ _ _ hok.2 (h5 i (by omega)).2)),jY _ _ hts⟩
     ·simp only [Ptr.add,lds,hb,Nat.zero_add]
      rw [if_pos (by omega)]
     ·simp only [iQ,cm,nth] at hx; cases hx
 have hfrs:∀ {l m:List V} {az:List ab},J8 zs l m->vrs w0 ν.z ν l az->vrs w0 z1 ν1 m az:=by
  intro l
  induction l with
  | nil=>intro m az h1 h2; cases m with | nil=>simp only [vrs] at h2 ⊢; exact h2 | cons=>exact h1.elim
  | cons a l ih =>
    intro m az h1 h2
    cases m with
    | nil=>exact h1.elim
    | cons b m =>
      simp only [vrs] at h2 ⊢
      obtain ⟨x,xs,rfl,g1,g2⟩:=h2
      exact ⟨x,xs,rfl,hfr h1.1 g1,ih h1.2 g2⟩
 have hget:∀ k o,(frzH fr 0 h)[k]? = some o->o ≠ .hid->qZ zs k=none/\∃ o',h[k]? = some o'/\o=(match o' with
  | .gl e n f ty=>match AW fr k with
    | some r=>O.gl e n r.g ty
    | none=>.gl e n f ty
  | o=>o):=fun k o hk ho=>by
  rw [uc,Nat.zero_add] at hk
  cases hg:h[k]? with
  | none=>rw [hg] at hk; cases hk
  | some o' =>
    rw [hg] at hk
    simp only [Option.map_some,Option.some.injEq,Pn] at hk
    cases hv:qZ zs k with
    | some v=>rw [hv] at hk; exact (ho hk.symm).elim
    | none=>rw [hv] at hk; exact ⟨rfl,o',rfl,hk.symm⟩
 have hlive:∀ k,aK (frzH fr 0 h) k->qZ zs k=none/\aK h k:=fun k hk=>by
  rcases dc hk with ⟨cs,ty,g⟩ | ⟨e,n,f,ty,g⟩
  ·obtain ⟨h1,o',h2,h3⟩:=hget k _ g (by simp)
   refine ⟨h1,?_⟩
   cases o' with
   | cells cs' ty'=>exact ci h2
   | gl e n f ty=>exact dV h2
   | dead=>cases h3
   | hid=>cases h3
  ·obtain ⟨h1,o',h2,h3⟩:=hget k _ g (by simp)
   refine ⟨h1,?_⟩
   cases o' with
   | cells cs' ty'=>exact ci h2
   | gl e n f ty=>exact dV h2
   | dead=>cases h3
   | hid=>cases h3
 refine ⟨ν1,nV,nS,NuN.of hsub _,hs.mono hsub,⟨fun k o hk=>?_,fun k k' x x' h1 h2=>hr.inj k k' x x' (hlive k h1).2 (hlive k' h2).2,fun k hk=>hr.dom k ?_,hr.rng,hzb,fun k x hk hx=>?_⟩⟩
 ·by_cases ho:o=.hid
  ·subst ho; trivial
  ·obtain ⟨h1,o',h2,h3⟩:=hget k o hk ho
   have hb:=hr.blk k o' h2
   cases o' with
   | cells cs ty=>subst h3; exact bV hsub (by simp) (fun b az ty g _=>g) hb
   | dead=>subst h3; exact hb
   | hid=>subst h3; trivial
   | gl e n f ty =>
     cases hfa:AW fr k with
     | none=>rw [hfa] at h3; subst h3; exact bV hsub (by simp) (fun b az ty g _=>g) hb
     | some r =>
       rw [hfa] at h3; subst h3
       obtain ⟨e',ty',g⟩:=xU hf hfa
       rw [h2] at g
       simp only [Option.some.injEq,O.gl.injEq] at g
       obtain ⟨_,rfl,rfl,_⟩:=g
       rcases hb with ⟨k1,k2⟩ | ⟨b,c,az,k1,k2,k3,k4,k5⟩
       ·exact .inl ⟨k1,k2⟩
       ·refine .inr ⟨b,c,az,k1,k2,k3,k4,fun i hi=>?_⟩
        obtain ⟨q1,q2⟩:=k5 i hi
        unfold okE at q1 ⊢
        simp only [Bool.and_eq_true] at q1 ⊢
        obtain ⟨p1,p2⟩:=vq (r.ok i hi) q1.2
        exact ⟨⟨by rw [p1]; exact q1.1,p2⟩,hfrs (r.ok i hi) q2⟩
 ·have hl:(frzH fr 0 h).length=h.length:=by
   have gen:∀ (l:List O) (b:Nat),(frzH fr b l).length=l.length:=fun l=>by
    induction l with
    | nil=>intro b; rfl
    | cons o l ih=>intro b; simp [frzH,ih]
   exact gen h 0
  omega
 ·obtain ⟨h1,h2⟩:=hlive k hk
  have hx':ν k=some (some x):=hx
  have g1:=hr.zn k x h2 hx'
  show isCells z1[x.1]? = false
  rw [z1get]
  cases hl:lh[x.1]? with
  | none=>rfl
  | some o =>
    simp only [Option.map_some]
    rw [if_neg]
    ·rfl
    ·rintro (g2 | ⟨v,x',hv,g2,g3⟩)
     ·rw [g1] at g2; cases g2
     ·obtain ⟨ty,hk'⟩:=hB v hv
      have:=hr.inj v.k k x' x (dV hk') h2 g2 hx' g3
      rw [← this] at h1
      exact rC hv h1
end
inductive RT (S:Type) where
 | ret (v:V)
 | next (ρ:Rho) (s:S) (vf:List VF)
 | enter (ρ:Rho) (s:S) (vf:List VF)
 | nextz (zs:List VF) (fr:List (FR zs)) (ρ:Rho) (s:S) (vf:List VF)
 | enterz (zs:List VF) (fr:List (FR zs)) (ρ:Rho) (s:S) (vf:List VF)
 | br (b:Bool) (x y:RT S)
 | brt (x:RT S)
 | brf (y:RT S)
 | brx (b:Bool) (x:RT S)
 | bry (b:Bool) (y:RT S)
 | ob (b:Bool) (x:RT S)
 | obt (x:RT S)
 | obv (b:Bool) (h:b=true) (x:RT S)
 | obi (x:RT S)
 | obj (c b:Bool) (x:RT S)
 | obc (x:RT S)
 | obp (p:Prop) (x:RT S)
 | obe (ts:List Ty) (ds:List V) (x:RT S)
 | und (x y:RT S)
 | asm (p:Prop) (x:RT S)
 | all (f:Nat->RT S)
 | fail
structure LD (J S:Type) where
 id:S->J
 lp:J->Lp J
 inv:S->Env × List O × Option Ex
inductive FT (J:Type) where
 | res (v:V)
 | head (j:J) (g:Option Ex) (ok:Bool) (e:Env) (h:List O) (vs:List (Nat × Nat × (Nat->List V)))
 | loop (fr:Nat × Nat) (b:vA) (k:Ex->Env->List O->Option Ex->T (ck J)) (g:Option Ex) (ok:Bool) (e:Env) (h:List O) (vs:List (Nat × Nat × (Nat->List V)))
 | headz (c:Bool) (zg:List (Option (Nat × Nat × (Nat->List V)))) (fg:List (Option (Nat × (Nat->List V)))) (j:J) (g:Option Ex) (ok:Bool) (e:Env) (h:List O) (vs:List (Nat × Nat × (Nat->List V)))
 | loopz (c:Bool) (zg:List (Option (Nat × Nat × (Nat->List V)))) (fg:List (Option (Nat × (Nat->List V)))) (fr:Nat × Nat) (b:vA) (k:Ex->Env->List O->Option Ex->T (ck J)) (g:Option Ex) (ok:Bool) (e:Env) (h:List O) (vs:List (Nat × Nat × (Nat->List V)))
 | br (b:Bool) (x y:FT J)
 | brt (b:Bool) (x:FT J)
 | brf (b:Bool) (y:FT J)
 | brx (b:Bool) (x:FT J)
 | bry (b:Bool) (y:FT J)
 | ob (b:Bool) (x:FT J)
 | obt (b:Bool) (x:FT J)
 | obi (x:FT J)
 | obj (c b:Bool) (x:FT J)
 | obp (p:Prop) (x:FT J)
 | obe (a b:List V) (x:FT J)
 | und (x y:FT J)
 | asm (p:Prop) (x:FT J)
 | all (f:Nat->FT J)
 | fail (n:Nat)
section
variable {J S:Type}
def ybk (a b:List V) (k:RT S->FT J):RT S->FT J
 | .obe _ _ x=>.obe a b (k x)
 | t=>k t
def Va (a b:List V) (k:RT S->T (ck J)):RT S->T (ck J)
 | .obe _ _ x=>.obq a b (k x)
 | t=>.obq a a (k t)
def dd (D:LD J S):T (ck J)->RT S->FT J
 | .ret (.res v),.ret _=>.res v
 | .ret (.head j e h g),.next ρ s vf=>.head j g (rm ρ (D.lp j).fr.2 (D.inv s).2.1) (uz ρ e (D.inv s).1) (uw ρ h vf 0 (D.inv s).2.1) (kX ρ h vf)
 | .loop fr b e h g k,.enter ρ s vf=>.loop fr b k g (rm ρ fr.2 (D.inv s).2.1) (uz ρ e (D.inv s).1) (uw ρ h vf 0 (D.inv s).2.1) (kX ρ h vf)
 | .ret (.head j e h g),.nextz zs fz ρ s vf=>.headz (G9 zs) (A1 h zs) (AS h fz) j g (rm ρ (D.lp j).fr.2 (D.inv s).2.1) (uz ρ e (D.inv s).1) (uw ρ (frzH fz 0 h) vf 0 (D.inv s).2.1) (kX ρ (frzH fz 0 h) vf)
 | .loop fr b e h g k,.enterz zs fz ρ s vf=>.loopz (G9 zs) (A1 h zs) (AS h fz) fr b k g (rm ρ fr.2 (D.inv s).2.1) (uz ρ e (D.inv s).1) (uw ρ (frzH fz 0 h) vf 0 (D.inv s).2.1) (kX ρ (frzH fz 0 h) vf)
 | .br b x y,.br _ x' y'=>.br b (dd D x x') (dd D y y')
 | .br b x _,.brt x'=>.brt b (dd D x x')
 | .br b _ y,.brf y'=>.brf b (dd D y y')
 | .br b x _,.brx _ x'=>.brx b (dd D x x')
 | .br b _ y,.bry _ y'=>.bry b (dd D y y')
 | .ob b x,.ob _ x'=>.ob b (dd D x x')
 | .ob b x,.obt x'=>.obt b (dd D x x')
 | .ob b x,.obv _ _ x'=>.ob b (dd D x x')
 | .obp p x,.obc x'=>.obp p (dd D x x')
 | .obi _ d x,.obt x'=>.obt d (dd D x x')
 | .obi _ d x,.ob _ x'=>.ob d (dd D x x')
 | .obi _ d x,.obv _ _ x'=>.ob d (dd D x x')
 | .obi _ _ x,.obi x'=>.obi (dd D x x')
 | .obi c d x,.obj _ _ x'=>.obj c d (dd D x x')
 | .obp p x,.obp _ x'=>.obp p (dd D x x')
 | .obq a b x,t=>ybk a b (dd D x) t
 | .und x y,.und x' y'=>.und (dd D x x') (dd D y y')
 | .asm p x,.asm _ x'=>.asm p (dd D x x')
 | .all f,.all g=>.all fun l=>dd D (f l) (g l)
 | .fail _,.fail=>.fail 1
 | _,_=>.fail 0
def bo:T (ck J)->RT S->T (ck J)
 | .br b x y,.br _ x' y'=>.br b (bo x x') (bo y y')
 | .br b x y,.brt x'=>.br b (bo x x') y
 | .br b x y,.brf y'=>.br b x (bo y y')
 | .br b x y,.brx _ x'=>.br b (bo x x') y
 | .br b x y,.bry _ y'=>.br b x (bo y y')
 | .ob b x,.ob _ x'=>.ob b (bo x x')
 | .ob b x,.obt x'=>.ob b (bo x x')
 | .ob b x,.obv _ _ x'=>.ob b (bo x x')
 | .obp p x,.obp _ x'=>.obp p (bo x x')
 | .obp p x,.obc x'=>.obp p (bo x x')
 | .obi c d x,.obt x'=>.obi c d (bo x x')
 | .obi c d x,.ob _ x'=>.obi c d (bo x x')
 | .obi c d x,.obv _ _ x'=>.obi c d (bo x x')
 | .obi c _ x,.obi x'=>.obi c c (bo x x')
 | .obi c d x,.obj _ _ x'=>.obi c d (bo x x')
 | .obq a b x,t=>Va a b (bo x) t
 | .und x y,.und x' y'=>.und (bo x x') (bo y y')
 | .asm p x,.asm _ x'=>.asm p (bo x x')
 | .all f,.all g=>.all fun l=>bo (f l) (g l)
 | t,_=>t
def toF (D:LD J S):RT S->FT J
 | .ret v=>.res v
 | .next _ s vf=>.head (D.id s) (D.inv s).2.2 true (D.inv s).1 (D.inv s).2.1 (kU vf)
 | .enter _ s vf=>.loop (D.lp (D.id s)).fr (D.lp (D.id s)).body (D.lp (D.id s)).k (D.inv s).2.2 true (D.inv s).1 (D.inv s).2.1 (kU vf)
 | .nextz zs fz _ s vf=>.headz true (nr zs) (AZ fz) (D.id s) (D.inv s).2.2 true (D.inv s).1 (D.inv s).2.1 (kU vf)
 | .enterz zs fz _ s vf=>.loopz true (nr zs) (AZ fz) (D.lp (D.id s)).fr (D.lp (D.id s)).body (D.lp (D.id s)).k (D.inv s).2.2 true (D.inv s).1 (D.inv s).2.1 (kU vf)
 | .br b x y=>.br b (toF D x) (toF D y)
 | .brt x=>.brt true (toF D x)
 | .brf y=>.brf false (toF D y)
 | .brx b x=>.brx b (toF D x)
 | .bry b y=>.bry b (toF D y)
 | .ob b x=>.ob b (toF D x)
 | .obt x=>.obt true (toF D x)
 | .obv b _ x=>.ob b (toF D x)
 | .obi x=>.obi (toF D x)
 | .obj c b x=>.obj c b (toF D x)
 | .obc x=>.obp True (toF D x)
 | .obp p x=>.obp p (toF D x)
 | .obe ts ds x=>.obe (gP ts ds []) (gQ ts ds []) (toF D x)
 | .und x y=>.und (toF D x) (toF D y)
 | .asm p x=>.asm p (toF D x)
 | .all f=>.all fun l=>toF D (f l)
 | .fail=>.fail 1
def evR (Nx:S->V->Prop):RT S->V->Prop
 | .ret v,r=>toA v=toA r
 | .next _ s _,r=>Nx s r
 | .enter _ s _,r=>Nx s r
 | .nextz _ _ _ s _,r=>Nx s r
 | .enterz _ _ _ s _,r=>Nx s r
 | .br b x y,r=>(b=true->evR Nx x r)/\(b=false->evR Nx y r)
 | .brt x,r=>evR Nx x r
 | .brf y,r=>evR Nx y r
 | .brx b x,r=>b=true/\evR Nx x r
 | .bry b y,r=>b=false/\evR Nx y r
 | .ob b x,r=>b=true/\evR Nx x r
 | .obt x,r=>evR Nx x r
 | .obv _ _ x,r=>evR Nx x r
 | .obi x,r=>evR Nx x r
 | .obj c b x,r=>(c=true->b=true)/\evR Nx x r
 | .obc x,r=>evR Nx x r
 | .obp p x,r=>p/\evR Nx x r
 | .obe ts ds x,r=>gP ts ds []=gQ ts ds []/\evR Nx x r
 | .und x y,r=>evR Nx x r/\evR Nx y r
 | .asm p x,r=>p->evR Nx x r
 | .all f,r=>∀ l,evR Nx (f l) r
 | .fail,_=>False
def EvN (step:S->RT S):Nat->S->V->Prop
 | 0,_,_=>False
 | n+1,s,r=>evR (EvN step n) (step s) r
def Ev (step:S->RT S) (s:S) (r:V):Prop:=∃ n,EvN step n s r
theorem qB {Nx Ny:S->V->Prop} {r:V} (h:∀ s,Nx s r->Ny s r):∀ t:RT S,evR Nx t r->evR Ny t r:=by
 intro t
 induction t with
 | ret v=>exact id
 | next ρ s vf=>exact h s
 | enter ρ s vf=>exact h s
 | nextz zs fz ρ s vf=>exact h s
 | enterz zs fz ρ s vf=>exact h s
 | br b x y hx hy=>exact fun k=>⟨fun e=>hx (k.1 e),fun e=>hy (k.2 e)⟩
 | brt x hx=>exact hx
 | brf y hy=>exact hy
 | brx b x hx=>exact fun k=>⟨k.1,hx k.2⟩
 | bry b y hy=>exact fun k=>⟨k.1,hy k.2⟩
 | ob b x hx=>exact fun k=>⟨k.1,hx k.2⟩
 | obt x hx=>exact hx
 | obv b h x hx=>exact hx
 | obi x hx=>exact hx
 | obj c b x hx=>exact fun k=>⟨k.1,hx k.2⟩
 | obc x hx=>exact hx
 | obp p x hx=>exact fun k=>⟨k.1,hx k.2⟩
 | obe a b x hx=>exact fun k=>⟨k.1,hx k.2⟩
 | und x y hx hy=>exact fun k=>⟨hx k.1,hy k.2⟩
 | asm p x hx=>exact fun k hp=>hx (k hp)
 | all f hf=>exact fun k l=>hf l (k l)
 | fail=>exact id
theorem ul {step:S->RT S} {r:V}:∀ {n:Nat} {s:S},EvN step n s r->EvN step (n+1) s r
 | 0,s,h=>h.elim
 | n+1,s,h=>qB (fun s hs=>ul hs) _ h
theorem qd {step:S->RT S} {r:V} {n m:Nat} {s:S} (h:EvN step n s r) (hm:n<=m):EvN step m s r:=by
 induction hm with
 | refl=>exact h
 | step _ ih=>exact ul ih
section
variable {Nx:S->V->Prop} {r:V}
theorem ah {v:V} (h:toA v=toA r):evR Nx (.ret v) r:=h
theorem aw {b:Bool} {x y:RT S} (h1:b=true->evR Nx x r) (h2:b=false->evR Nx y r):evR Nx (.br b x y) r:=⟨h1,h2⟩
theorem dY {x:RT S} (h:evR Nx x r):evR Nx (.brt x) r:=h
theorem jJ {x:RT S} (h:evR Nx x r):evR Nx (.brf x) r:=h
theorem tnT {b:Bool} (h:(!b)=false):b=true:=by cases b; cases h; rfl
theorem tnF {b:Bool} (h:(!b)=true):b=false:=by cases b; rfl; cases h
theorem aH {b:Bool} {x:RT S} (h1:b=true) (h2:evR Nx x r):evR Nx (.ob b x) r:=⟨h1,h2⟩
theorem ac {x:RT S} (h:evR Nx x r):evR Nx (.obt x) r:=h
theorem UH {b:Bool} {hb:b=true} {x:RT S} (h:evR Nx x r):evR Nx (.obv b hb x) r:=h
theorem ak {x:RT S} (h:evR Nx x r):evR Nx (.obi x) r:=h
theorem oH {c b:Bool} {x:RT S} (h1:c=true->b=true) (h2:evR Nx x r):evR Nx (.obj c b x) r:=⟨h1,h2⟩
theorem ao {x:RT S} (h:evR Nx x r):evR Nx (.obc x) r:=h
theorem aO {p:Prop} {x:RT S} (h1:p) (h2:evR Nx x r):evR Nx (.obp p x) r:=⟨h1,h2⟩
theorem M2 {ts:List Ty} {ds:List V} {x:RT S} (h1:gP ts ds []=gQ ts ds []) (h2:evR Nx x r):evR Nx (.obe ts ds x) r:=⟨h1,h2⟩
theorem Vl {x y:RT S} (h1:evR Nx x r) (h2:evR Nx y r):evR Nx (.und x y) r:=⟨h1,h2⟩
theorem aE {p:Prop} {x:RT S} (h:p->evR Nx x r):evR Nx (.asm p x) r:=h
theorem yab {p:Prop} {x:RT S} (h:p->evR Nx x r):evR Nx (.asm (true=true->p) x) r:=fun k=>h (k rfl)
theorem aD {ρ:Rho} {s:S} {vf:List VF} (h:Nx s r):evR Nx (.enter ρ s vf) r:=h
theorem aR {ρ:Rho} {s:S} {vf:List VF} (h:Nx s r):evR Nx (.next ρ s vf) r:=h
end
def dD:RT S->Bool
 | .br _ x y=>dD x && dD y
 | .brt x=>dD x
 | .brf y=>dD y
 | .brx _ x=>dD x
 | .bry _ y=>dD y
 | .ob _ x=>dD x
 | .obt x=>dD x
 | .obv _ _ x=>dD x
 | .obi x=>dD x
 | .obj _ _ x=>dD x
 | .obc x=>dD x
 | .obp _ x=>dD x
 | .obe _ _ x=>dD x
 | .und x y=>dD x && dD y
 | .asm _ x=>dD x
 | .all _=>false
 | _=>true
theorem Pe {step:S->RT S} {r:V}:∀ t:RT S,dD t=true->evR (Ev step) t r->∃ n,evR (EvN step n) t r:=by
 intro t
 induction t with
 | ret v=>exact fun _ h=>⟨0,h⟩
 | next ρ s vf=>exact fun _ ⟨n,h⟩=>⟨n,h⟩
 | enter ρ s vf=>exact fun _ ⟨n,h⟩=>⟨n,h⟩
 | nextz zs fz ρ s vf=>exact fun _ ⟨n,h⟩=>⟨n,h⟩
 | enterz zs fz ρ s vf=>exact fun _ ⟨n,h⟩=>⟨n,h⟩
 | br b x y hx hy =>
   intro h0 h
   simp only [dD,Bool.and_eq_true] at h0
   cases b with
   | true=>obtain ⟨n,hn⟩:=hx h0.1 (h.1 rfl); exact ⟨n,fun _=>hn,fun e=>by cases e⟩
   | false=>obtain ⟨n,hn⟩:=hy h0.2 (h.2 rfl); exact ⟨n,(fun e=>by cases e),fun _=>hn⟩
 | brt x hx=>exact fun h0 h=>hx h0 h
 | brf y hy=>exact fun h0 h=>hy h0 h
 | brx b x hx=>exact fun h0 h=>let ⟨n,hn⟩:=hx h0 h.2; ⟨n,h.1,hn⟩
 | bry b y hy=>exact fun h0 h=>let ⟨n,hn⟩:=hy h0 h.2; ⟨n,h.1,hn⟩
 | ob b x hx=>exact fun h0 h=>let ⟨n,hn⟩:=hx h0 h.2; ⟨n,h.1,hn⟩
 | obt x hx=>exact fun h0 h=>hx h0 h
 | obv b h x hx=>exact fun h0 h=>hx h0 h
 | obi x hx=>exact fun h0 h=>hx h0 h
 | obj c b x hx=>exact fun h0 h=>let ⟨n,hn⟩:=hx h0 h.2; ⟨n,h.1,hn⟩
 | obc x hx=>exact fun h0 h=>hx h0 h
 | obp p x hx=>exact fun h0 h=>let ⟨n,hn⟩:=hx h0 h.2; ⟨n,h.1,hn⟩
 | obe a b x hx=>exact fun h0 h=>let ⟨n,hn⟩:=hx h0 h.2; ⟨n,h.1,hn⟩
 | und x y hx hy =>
   intro h0 h
   simp only [dD,Bool.and_eq_true] at h0
   obtain ⟨n,hn⟩:=hx h0.1 h.1
   obtain ⟨m,hm⟩:=hy h0.2 h.2
   exact ⟨max n m,qB (fun s hs=>qd hs (Nat.le_max_left _ _)) _ hn,qB (fun s hs=>qd hs (Nat.le_max_right _ _)) _ hm⟩
 | asm p x hx =>
   intro h0 h
   by_cases hp:p
   ·obtain ⟨n,hn⟩:=hx h0 (h hp); exact ⟨n,fun _=>hn⟩
   ·exact ⟨0,fun k=>(hp k).elim⟩
 | all f hf=>intro h0; cases h0
 | fail=>exact fun _ h=>h.elim
theorem Ev.of {step:S->RT S} {s:S} {r:V} (h0:dD (step s)=true) (h:evR (Ev step) (step s) r):Ev step s r :=
 let ⟨n,hn⟩:=Pe _ h0 h; ⟨n+1,hn⟩
theorem tL {w0:World} {LP:cY} {D:LD J S} {Q:ck J->Prop} {Nx:S->V->Prop} {r:V} (hres:∀ v,toA v=toA r->Q (.res v))
 (hhead:∀ s e h,Nx s r->gI w0 (D.lp (D.id s)).fr.2 e h (D.inv s).1 (D.inv s).2.1->Q (.head (D.id s) e h (D.inv s).2.2))
 (hloop:∀ s e h,Nx s r->gI w0 (D.lp (D.id s)).fr.2 e h (D.inv s).1 (D.inv s).2.1->LP (D.lp (D.id s)).fr (D.lp (D.id s)).body e h (D.inv s).2.2 fun x e h g=>sat LP ((D.lp (D.id s)).k x e h g) Q) :
 ∀ (t:T (ck J)) (rt:RT S),dd D t rt=toF D rt->bo t rt=t->evR Nx rt r->sat LP t Q:=by
 intro t
 induction t with
 | ret a =>
   intro rt hf _ hr
   cases a with
   | res v=>cases rt <;> simp only [dd,toF] at hf <;> cases hf; exact hres _ hr
   | head j e h g =>
     cases rt <;> simp only [dd,toF] at hf <;> first | (cases hf; done) | skip
     ·simp only [FT.head.injEq] at hf
      obtain ⟨rfl,rfl,h1,h2,h3,h4⟩:=hf
      exact hhead _ e h hr (pb w0 h1 h2 h3 h4)
     ·simp only [FT.headz.injEq] at hf
      obtain ⟨hc,hz,hfr,rfl,rfl,h1,h2,h3,h4⟩:=hf
      exact hhead _ e h hr ((z7 w0 hc hz hfr).trans (pb w0 h1 h2 h3 h4))
 | br b x y hx hy =>
   intro rt hf hs hr
   cases rt <;> simp only [dd,toF] at hf <;> first | (cases hf; done) | skip
   ·simp only [FT.br.injEq] at hf
    simp only [bo,T.br.injEq,true_and] at hs
    obtain ⟨rfl,h1,h2⟩:=hf
    exact ⟨fun e=>hx _ h1 hs.1 (hr.1 e),fun e=>hy _ h2 hs.2 (hr.2 e)⟩
   ·simp only [FT.brt.injEq] at hf
    simp only [bo,T.br.injEq,true_and] at hs
    obtain ⟨rfl,h1⟩:=hf
    exact ⟨fun e=>hx _ h1 hs.1 hr,fun e=>by cases e⟩
   ·simp only [FT.brf.injEq] at hf
    simp only [bo,T.br.injEq,true_and] at hs
    obtain ⟨rfl,h1⟩:=hf
    exact ⟨(fun e=>by cases e),fun e=>hy _ h1 hs hr⟩
   ·simp only [FT.brx.injEq] at hf
    simp only [bo,T.br.injEq,true_and] at hs
    obtain ⟨rfl,h1⟩:=hf
    exact ⟨fun e=>hx _ h1 hs.1 hr.2,fun e=>by rw [hr.1] at e; cases e⟩
   ·simp only [FT.bry.injEq] at hf
    simp only [bo,T.br.injEq,true_and] at hs
    obtain ⟨rfl,h1⟩:=hf
    exact ⟨(fun e=>by rw [hr.1] at e; cases e),fun e=>hy _ h1 hs hr.2⟩
 | ob b x hx =>
   intro rt hf hs hr
   cases rt <;> simp only [dd,toF] at hf <;> first | (cases hf; done) | skip
   ·simp only [FT.ob.injEq] at hf
    simp only [bo,T.ob.injEq,true_and] at hs
    obtain ⟨rfl,h1⟩:=hf
    exact ⟨hr.1,hx _ h1 hs hr.2⟩
   ·simp only [FT.obt.injEq] at hf
    simp only [bo,T.ob.injEq,true_and] at hs
    obtain ⟨rfl,h1⟩:=hf
    exact ⟨rfl,hx _ h1 hs hr⟩
   ·rename_i b' hb' x'
    simp only [FT.ob.injEq] at hf
    simp only [bo,T.ob.injEq,true_and] at hs
    obtain ⟨rfl,h1⟩:=hf
    exact ⟨hb',hx _ h1 hs hr⟩
 | obp p x hx =>
   intro rt hf hs hr
   cases rt <;> simp only [dd,toF] at hf <;> first | (cases hf; done) | skip
   ·simp only [FT.obp.injEq] at hf
    simp only [bo,T.obp.injEq,true_and] at hs
    obtain ⟨rfl,h1⟩:=hf
    exact ⟨trivial,hx _ h1 hs hr⟩
   ·simp only [FT.obp.injEq] at hf
    simp only [bo,T.obp.injEq,true_and] at hs
    obtain ⟨rfl,h1⟩:=hf
    exact ⟨hr.1,hx _ h1 hs hr.2⟩
 | obi c d x hx =>
   intro rt hf hs hr
   cases rt <;> simp only [dd,toF] at hf <;> first | (cases hf; done) | skip
   ·simp only [FT.ob.injEq] at hf
    simp only [bo,T.obi.injEq,true_and] at hs
    obtain ⟨rfl,h1⟩:=hf
    exact ⟨fun _=>hr.1,hx _ h1 hs hr.2⟩
   ·simp only [FT.obt.injEq] at hf
    simp only [bo,T.obi.injEq,true_and] at hs
    obtain ⟨rfl,h1⟩:=hf
    exact ⟨fun _=>rfl,hx _ h1 hs hr⟩
   ·rename_i b' hb' x'
    simp only [FT.ob.injEq] at hf
    simp only [bo,T.obi.injEq,true_and] at hs
    obtain ⟨rfl,h1⟩:=hf
    exact ⟨fun _=>hb',hx _ h1 hs hr⟩
   ·simp only [FT.obi.injEq] at hf
    simp only [bo,T.obi.injEq,true_and] at hs
    obtain ⟨h0,h1⟩:=hs
    subst h0
    exact ⟨id,hx _ hf h1 hr⟩
   ·simp only [FT.obj.injEq] at hf
    simp only [bo,T.obi.injEq,true_and] at hs
    obtain ⟨rfl,rfl,h1⟩:=hf
    exact ⟨hr.1,hx _ h1 hs hr.2⟩
 | obq a b x hx =>
   intro rt hf hs hr
   have gen:ybk a b (dd D x) rt=dd D x rt->Va a b (bo x) rt=.obq a a (bo x rt)->sat LP (.obq a b x) Q:=fun e1 e2=>by
    have hs':T.obq a a (bo x rt)=T.obq a b x:=e2.symm.trans hs
    simp only [T.obq.injEq,true_and] at hs'
    exact ⟨hs'.1,hx _ (e1.symm.trans hf) hs'.2 hr⟩
   cases rt <;> first | exact gen rfl rfl | skip
   rename_i ts ds x'
   have hf':FT.obe a b (dd D x x')=FT.obe (gP ts ds []) (gQ ts ds []) (toF D x'):=hf
   have hs':T.obq a b (bo x x')=T.obq a b x:=hs
   simp only [FT.obe.injEq] at hf'
   simp only [T.obq.injEq,true_and] at hs'
   obtain ⟨rfl,rfl,h1⟩:=hf'
   exact ⟨hr.1,hx _ h1 hs' hr.2⟩
 | fail n =>
   intro rt hf hs hr
   cases rt <;> simp only [dd,toF] at hf <;> first | (cases hf; done) | exact hr.elim
 | loop fr b e h g k hk =>
   intro rt hf hs hr
   cases rt <;> simp only [dd,toF] at hf <;> first | (cases hf; done) | skip
   ·simp only [FT.loop.injEq] at hf
    obtain ⟨rfl,rfl,rfl,rfl,h1,h2,h3,h4⟩:=hf
    exact hloop _ e h hr (pb w0 h1 h2 h3 h4)
   ·simp only [FT.loopz.injEq] at hf
    obtain ⟨hc,hz,hfr,rfl,rfl,rfl,rfl,h1,h2,h3,h4⟩:=hf
    exact hloop _ e h hr ((z7 w0 hc hz hfr).trans (pb w0 h1 h2 h3 h4))
 | all f hf0 =>
   intro rt hf hs hr
   cases rt <;> simp only [dd,toF] at hf <;> first | (cases hf; done) | skip
   simp only [FT.all.injEq] at hf
   simp only [bo,T.all.injEq] at hs
   exact fun l=>hf0 l _ (congrFun hf l) (congrFun hs l) (hr l)
 | und x y hx hy =>
   intro rt hf hs hr
   cases rt <;> simp only [dd,toF] at hf <;> first | (cases hf; done) | skip
   simp only [FT.und.injEq] at hf
   simp only [bo,T.und.injEq] at hs
   exact ⟨hx _ hf.1 hs.1 hr.1,hy _ hf.2 hs.2 hr.2⟩
 | asm p x hx =>
   intro rt hf hs hr
   cases rt <;> simp only [dd,toF] at hf <;> first | (cases hf; done) | skip
   simp only [FT.asm.injEq] at hf
   simp only [bo,T.asm.injEq,true_and] at hs
   obtain ⟨rfl,h1⟩:=hf
   exact fun hp=>hx _ h1 hs (hr hp)
def rdT (ct:aY) (un:Unr) (j:J) (l:Lp J) (e:Env) (h:List O) (g:Option Ex):T (ck J) :=
 match l.body with
 | .s body=>dN (evC (jq ct l.fr.1) (i6 ct) un l.fr 0 body e h fun x e h=>.ret (x,e,h)) fun r=>match r.1 with
   | .normal=>.ret (.head j r.2.1 r.2.2 none)
   | x=>l.k x r.2.1 r.2.2 none
 | .i body rd=>dN (ji (jq ct l.fr.1) (i6 ct) un l.fr rd (rdY (jq ct l.fr.1) (i6 ct) un l.fr.1 0 rd) 0 body e h g fun x e h g=>.ret (x,e,h,g)) fun r=>match r.1 with
   | .normal=>.ret (.head j r.2.1 r.2.2.1 r.2.2.2)
   | x=>l.k x r.2.1 r.2.2.1 r.2.2.2
def rdS (ct:aY) (un:Unr) (D:LD J S) (s:S):T (ck J):=rdT ct un (D.id s) (D.lp (D.id s)) (D.inv s).1 (D.inv s).2.1 (D.inv s).2.2
def QN (w0:World) (D:LD J S) (step:S->RT S) (r:V) (n:Nat):ck J->Prop
 | .res v=>toA v=toA r
 | .head j e h g=>∃ s,D.id s=j/\(D.inv s).2.2=g/\gI w0 (D.lp (D.id s)).fr.2 e h (D.inv s).1 (D.inv s).2.1/\EvN step n s r
theorem pg {w0:World} {D:LD J S} {step:S->RT S} {r:V} {n m:Nat} (hm:n<=m):∀ a,QN w0 D step r n a->QN w0 D step r m a
 | .res v,h=>h
 | .head j e h g,⟨s,h1,h2,h3,h4⟩=>⟨s,h1,h2,h3,qd h4 hm⟩
theorem Qi {w0:World} {S:uT} {fr:Nat × Nat} {body:dR} {e:Env} {h:List O} {g:Option Ex} {P:Ex->Env->List O->Option Ex->Prop} (hl:bU w0 S (fr.1,fr.2) (.s body) e h none P):bU w0 S fr (.s body) e h g P:=hl
theorem TA {ct:aY} {un:Unr} {w0:World} (hd:j7 ct=true) {D:LD J S} {step:S->RT S} {r:V} (hs:∀ s,dd D (rdS ct un D s) (step s)=toF D (step s)) (hq:∀ s,bo (rdS ct un D s) (step s)=rdS ct un D s) :
 ∀ (n:Nat) (s:S) (e:Env) (h:List O),EvN step n s r->gI w0 (D.lp (D.id s)).fr.2 e h (D.inv s).1 (D.inv s).2.1 ->
 bU w0 (SV ct) (D.lp (D.id s)).fr (D.lp (D.id s)).body e h (D.inv s).2.2 fun x e h g=>sat (bU w0 (SV ct)) ((D.lp (D.id s)).k x e h g) (QN w0 D step r n):=by
 intro n
 induction n using Nat.strongRecOn with
 | ind n ih =>
   intro s e h hn hsub
   have key:∀ (p:Nat) (s':S),p<=n->EvN step p s' r->∃ m,p=m+1/\sat (bU w0 (SV ct)) (rdS ct un D s') (QN w0 D step r m):=by
    intro p s' hp he
    match p,hp,he with
    | 0,_,he=>exact he.elim
    | m+1,hp,he =>
      exact ⟨m,rfl,tL (w0:=w0) (Nx:=EvN step m) (fun v hv=>hv) (fun s e h h1 h2=>⟨s,rfl,rfl,h2,h1⟩) (fun s e h h1 h2=>ih m (by omega) s e h h1 h2) _ _ (hs s') (hq s') he⟩
   generalize hj:D.id s=j at *
   match hb:(D.lp j).body with
   | .s body =>
     refine Qi (Ud (un:=un) hd 0 {p:Nat × S // p.1<=n/\EvN step p.1 p.2 r/\D.id p.2=j} (fun p=>((D.inv p.1.2).1,(D.inv p.1.2).2.1)) (fun p=>p.1.1) ⟨⟨(n,s),Nat.le_refl _,hn,hj⟩,hsub⟩ ?_)
     rintro ⟨⟨p,s'⟩,hp,he,hj'⟩
     obtain ⟨m,hpm,hk⟩:=key p s' hp he
     simp only at hj' hp hpm
     unfold rdS rdT at hk
     rw [hj',hb] at hk
     simp only [vM] at hk
     refine gE (eu _ _) (fun a ha=>?_) _ hk
     obtain ⟨x,e',h'⟩:=a
     cases x with
     | normal =>
       obtain ⟨s2,g1,g2,g3,g4⟩:=ha
       rw [g1] at g3
       exact ⟨⟨(m,s2),by omega,g4,g1⟩,g3,by simp only; omega⟩
     | exit i=>exact gE (eu _ _) (pg (by omega)) _ ha
     | ret=>exact gE (eu _ _) (pg (by omega)) _ ha
   | .i body rd =>
     refine Qy (un:=un) hd 0 0 {p:Nat × S // p.1<=n/\EvN step p.1 p.2 r/\D.id p.2=j} (fun p=>D.inv p.1.2) (fun p=>p.1.1) ⟨⟨(n,s),Nat.le_refl _,hn,hj⟩,rfl,hsub⟩ ?_
     rintro ⟨⟨p,s'⟩,hp,he,hj'⟩
     obtain ⟨m,hpm,hk⟩:=key p s' hp he
     simp only at hj' hp hpm
     unfold rdS rdT at hk
     rw [hj',hb] at hk
     simp only [vM] at hk
     refine gE (eu _ _) (fun a ha=>?_) _ hk
     obtain ⟨x,e',h',g'⟩:=a
     cases x with
     | normal =>
       obtain ⟨s2,g1,g2,g3,g4⟩:=ha
       rw [g1] at g3
       exact ⟨⟨(m,s2),by omega,g4,g1⟩,g2.symm,g3,by simp only; omega⟩
     | exit i=>exact gE (eu _ _) (pg (by omega)) _ ha
     | ret=>exact gE (eu _ _) (pg (by omega)) _ ha
def aN (J:Type) (ct:aY) (un:Unr) (sf:ay) (ds:List V):T (ck J):=jz (jq ct LV) (i6 ct) un LV sf ds [] fun v _=>.ret (.res v)
def ma (r:V):ck J->Prop
 | .res v=>toA v=toA r
 | .head ..=>True
theorem Ov {w0:World} {D:LD J S} {step:S->RT S} {r:V} {n:Nat}:∀ a,QN w0 D step r n a->ma r a
 | .res v,h=>h
 | .head ..,_=>trivial
theorem Rh {ct:aY} {un:Unr} {w0:World} (hd:j7 ct=true) {t:T (ck J)} (D:LD J S) (step:S->RT S) (m:RT S) {r:V} (h1:dd D t m=toF D m) (h2:bo t m=t)
 (hs:∀ s,dd D (rdS ct un D s) (step s)=toF D (step s)) (hq:∀ s,bo (rdS ct un D s) (step s)=rdS ct un D s) (hr:evR (Ev step) m r):sat (bU w0 (SV ct)) t (ma r) :=
 tL (w0:=w0) (Nx:=Ev step) (fun v hv=>hv) (fun _ _ _ _ _=>trivial) (fun s e h ⟨n,hn⟩ hsub=>eu _ _ _ _ _ _ _ _ _ (fun x e h g hk=>gE (eu _ _) Ov _ hk) (TA hd hs hq n s e h hn hsub)) _ _ h1 h2 hr
theorem tO {ts:List Ty} (h:ts.all bl=true) (n:Nat) (f:FnV):bL n (fun i=>okE (bc ts) (elV ts f i))=true:=dk fun i _=>ks h _
def lpT:T (ck J)->Lp J
 | .loop fr b _ _ _ k=>⟨fr,b,k⟩
 | _=>⟨(0,0),.s .skip,fun _ _ _ _=>.fail 0⟩
def noD:LD J Empty:=⟨fun s=>(Empty.elim s),fun _=>⟨(0,0),.s .skip,fun _ _ _ _=>.fail 0⟩,fun s=>(Empty.elim s)⟩
def noE:Empty->V->Prop:=fun s=>Empty.elim s
theorem Hl {ct:aY} {w0:World} (hd:j7 ct=true) {t:T (ck J)} (m:RT Empty) {r:V} (h1:dd noD t m=toF noD m) (h2:bo t m=t) (hr:evR noE m r):sat (bU w0 (SV ct)) t (ma r) :=
 tL (w0:=w0) (Nx:=noE) (fun v hv=>hv) (fun s=>(Empty.elim s)) (fun s=>(Empty.elim s)) _ _ h1 h2 hr
def Fit (D:LD J S) (t:T (ck J)) (m:RT S):Prop:=dd D t m=toF D m/\bo t m=t
def dw (ct:aY) (un:Unr) (D:LD J S) (t:T (ck J)) (m:RT S) (st:S->RT S):Prop:=Fit D t m/\∀ s,Fit D (rdS ct un D s) (st s)
def Run (ct:aY) (t:T (ck J)) (r:V):Prop:=j7 ct=true->∀ w0,sat (bU w0 (SV ct)) t (ma r)
theorem rf0 {ct:aY} {t:T (ck J)} {m:RT Empty} {r:V} (h:Fit noD t m) (hr:evR noE m r):Run ct t r:=fun hd _=>Hl hd m h.1 h.2 hr
theorem rfs {ct:aY} {un:Unr} {D:LD J S} {t:T (ck J)} {m:RT S} {st:S->RT S} {r:V} (h:dw ct un D t m st) (hr:evR (Ev st) m r):Run ct t r:=fun hd _=>Rh hd D st m h.1.1 h.1.2 (fun s=>(h.2 s).1) (fun s=>(h.2 s).2) hr
inductive Cx where
 | i (n:Int)
 | n (n:Nat)
 | b (b:Bool)
 | s (s:ByteArray)
 | f (f:FnV)
def cxi:List Cx->Nat->Int
 | .i n::_,0=>n
 | _::l,k+1=>cxi l k
 | _,_=>0
abbrev JJ:=Nat × List Cx
def zW (J:Type) (e:Nat) (ty:TypeId) (ct:aY) (un:Unr) (sf:ay) (ds:List V):T (ck J):=jz (jq ct LV) (i6 ct) un LV sf ds [] fun v h=>.ob (AT h v) (.ret (.res (A5 e ty h v)))
theorem wR {P:Program} {eqs:List TypeId} {its:List eM} {ct:aY} {f:FuncId} {fn:Func} {sf:ay} {un:Unr} {ts:List Ty} {pre:List V->Prop} {r:List V->V} (hT:aQ P eqs its ct) (hE:∀ t ∈ eqs,bP P t) (hI:hU P eqs its) (hf:P.funcs[f]? = some fn)
 (hn : (fn.name == "runtime.NumGoroutine") = false) (hc : c7 P eqs its fn = some sf) (hd : dL sf.ntmps sf.body = true) (ho : d0 ts = true)
 (h:∀ w0 ds,pre (ae ts ds)->sat (bU w0 (SV ct)) (aN J ct un sf (ae ts ds)) (ma (r (ae ts ds)))):(vP (mkC ts pre r)).Ok P f :=
 HZ (α:=ck J) (K0:=fun v=>.ret (.res v)) (Q0:=ma) (fun _ _ _ h=>h) hT hE hI hf hn hc hd ho h
theorem Jh {P:Program} {eqs:List TypeId} {its:List eM} {ct:aY} {f:FuncId} {fn:Func} {sf:ay} {un:Unr} {e:Nat} {ty:TypeId} {ts:List Ty} {pre:List V->Prop} {r:List V->V} (hT:aQ P eqs its ct) (hE:∀ t ∈ eqs,bP P t) (hI:hU P eqs its) (hf:P.funcs[f]? = some fn)
 (hn : (fn.name == "runtime.NumGoroutine") = false) (hc : c7 P eqs its fn = some sf) (hd : dL sf.ntmps sf.body = true) (ho : d0 ts = true)
 (h:∀ w0 ds,pre (ae ts ds)->sat (bU w0 (SV ct)) (zW J e ty ct un sf (ae ts ds)) (ma (r (ae ts ds)))):(vL e ty (mkC ts pre r)).Ok P f :=
 FI (α:=ck J) (K0:=fun v h=>.ob (AT h v) (.ret (.res (A5 e ty h v)))) (Q0:=ma) (fun _ _ _ _ h=>h) hT hE hI hf hn hc hd ho h
end
end Go.Dx
namespace Go.Sx
def mF (P:Program) (t:TypeId):Bool:=match P.underlying t with
 | some (.int _)=>true
 | _=>false
def ku (P:Program):List Field->Nat->Bool
 | [],_=>true
 | f :: fs, i => decide (f.name ≠ "_") && Nat.beq f.offset i && mF P f.type && ku P fs (i + 1)
section
variable {P:Program} {m:ar}
theorem pw {t:TypeId} (h:mF P t=true):∃ k,P.underlying t=some (.int k):=by
 unfold mF at h
 split at h
 ·rename_i k hk; exact ⟨k,hk⟩
 ·cases h
theorem fZ {t:TypeId} {k:IntKind} (ht:P.underlying t=some (.int k)) {us:Array Value} {i:Nat} {v:Value} (hv:us[i]? = some v) (w:World):(part t us i).run P w=.ok v w:=by
 unfold part
 have hi:(isAgg t).run P w=.ok false w:=by
  unfold isAgg
  rw [aa (av ht w)]; rfl
 rw [aa hi]
 simp only [Bool.false_eq_true,if_false,hv]
 rfl
theorem kV {d:Nat}:∀ (fs:List Field) (i:Nat) (xs ys:List ab) (us vs:Array Value) (b:Bool) (w:World),ku P fs i=true->fs.length=xs.length->al m xs (us.toList.drop i)->al m ys (vs.toList.drop i)->cg xs ys=some b ->
 (Op.eqFields (d+1) us vs fs).run P w=.ok b w
 | [],i,xs,ys,us,vs,b,w,_,hl,_,_,hb=>by
   cases xs with
   | cons _ _=>simp at hl
   | nil=>cases ys with
     | nil=>simp [cg] at hb; subst hb; rfl
     | cons _ _=>simp [cg] at hb
 | f :: fs,i,xs,ys,us,vs,b,w,hf,hl,hx,hy,hb=>by
   simp only [ku,Bool.and_eq_true,decide_eq_true_eq] at hf
   obtain ⟨⟨⟨h1,h2⟩,h3⟩,h4⟩:=hf
   obtain ⟨k,hk⟩:=pw h3
   have ho:=Nat.eq_of_beq_eq_true h2
   cases xs with
   | nil=>simp at hl
   | cons x xs=>cases ys with
     | nil=>cases x <;> simp [cg] at hb
     | cons y ys =>
       cases x <;> try (simp [cg] at hb; done)
       rename_i ka a
       cases y <;> try (simp [cg] at hb; done)
       rename_i kb c
       simp only [cg] at hb
       split at hb
       ·rename_i hkk
        subst hkk
        simp only [Option.map_eq_some_iff] at hb
        obtain ⟨b',hb',rfl⟩:=hb
        simp only [al] at hx hy
        obtain ⟨u,us',hu,hur,hus⟩:=hx
        obtain ⟨v,vs',hv,hvr,hvs⟩:=hy
        simp only [vrel] at hur hvr
        subst hur; subst hvr
        have gu:us[i]? = some (.int ka a):=by
         have:=congrArg (·[0]?) hu
         simpa using this
        have gv:vs[i]? = some (.int ka c):=by
         have:=congrArg (·[0]?) hv
         simpa using this
        have du:us.toList.drop (i+1)=us':=by rw [← List.drop_drop,hu]; rfl
        have dv:vs.toList.drop (i+1)=vs':=by rw [← List.drop_drop,hv]; rfl
        simp only [Op.eqFields]
        rw [if_pos h1,ho,aa (fZ hk gu w),aa (fZ hk gv w),aa (run_equalIn_int w d f.type ka k a c hk)]
        cases hac:(a == c) with
        | false=>simp only [Bool.not_false,if_true,Bool.false_and]; rfl
        | true =>
          simp only [Bool.not_true,Bool.false_eq_true,if_false,Bool.true_and]
          exact kV fs (i+1) xs ys us vs b' w h4 (by simpa using hl) (by rw [du]; exact hus) (by rw [dv]; exact hvs) hb'
       ·cases hb
theorem eg {t:TypeId} (ht:P.underlying t=some (.struct (P.fieldsOf t))) (hp:P.stoodInHeld t=false) (hg:P.eqGuardType P.depth t=false) (hn:(P.info? t).map (·.size)=some (P.fieldsOf t).toList.length) (hf:ku P (P.fieldsOf t).toList 0=true):bP P t:=by
 refine ⟨hg,fun n hn' xs ys us vs m b w hl hx hy hb=>?_⟩
 rw [hn] at hn'; cases hn'
 unfold Op.equal
 rw [show Op.maxDepth=9998+1+1 from rfl,run_equalIn_struct w _ t us vs ht hp]
 exact kV (d:=9998) _ 0 xs ys us vs b w hf hl.symm (by simpa using hx) (by simpa using hy) hb
theorem mu {d:Nat} {e:TypeId} (he:mF P e=true) (h1:P.cellsOf e=1):∀ (n i:Nat) (xs ys:List ab) (us vs:Array Value) (b:Bool) (w:World),n=xs.length->al m xs (us.toList.drop i)->al m ys (vs.toList.drop i)->cg xs ys=some b ->
 (Op.eqItems (d+1) e (P.cellsOf e) us vs (List.range' i n)).run P w=.ok b w
 | 0, i,xs,ys,us,vs,b,w,hl,_,_,hb=>by
   cases xs with
   | cons _ _=>simp at hl
   | nil=>cases ys with
     | nil=>simp [cg] at hb; subst hb; rfl
     | cons _ _=>simp [cg] at hb
 | n + 1, i,xs,ys,us,vs,b,w,hl,hx,hy,hb=>by
   obtain ⟨k,hk⟩:=pw he
   cases xs with
   | nil=>simp at hl
   | cons x xs=>cases ys with
     | nil=>cases x <;> simp [cg] at hb
     | cons y ys =>
       cases x <;> try (simp [cg] at hb; done)
       rename_i ka a
       cases y <;> try (simp [cg] at hb; done)
       rename_i kb c
       simp only [cg] at hb
       split at hb
       ·rename_i hkk
        subst hkk
        simp only [Option.map_eq_some_iff] at hb
        obtain ⟨b',hb',rfl⟩:=hb
        simp only [al] at hx hy
        obtain ⟨u,us',hu,hur,hus⟩:=hx
        obtain ⟨v,vs',hv,hvr,hvs⟩:=hy
        simp only [vrel] at hur hvr
        subst hur; subst hvr
        have gu:us[i]? = some (.int ka a):=by
         have:=congrArg (·[0]?) hu
         simpa using this
        have gv:vs[i]? = some (.int ka c):=by
         have:=congrArg (·[0]?) hv
         simpa using this
        have du:us.toList.drop (i+1)=us':=by rw [← List.drop_drop,hu]; rfl
        have dv:vs.toList.drop (i+1)=vs':=by rw [← List.drop_drop,hv]; rfl
        rw [List.range'_succ]
        simp only [Op.eqItems,h1,Nat.mul_one]
        rw [aa (fZ hk gu w),aa (fZ hk gv w),aa (run_equalIn_int w d e ka k a c hk)]
        cases hac:(a == c) with
        | false=>simp only [Bool.not_false,if_true,Bool.false_and]; rfl
        | true =>
          simp only [Bool.not_true,Bool.false_eq_true,if_false,Bool.true_and]
          have:=mu (d:=d) he h1 n (i+1) xs ys us vs b' w (by simpa using hl) (by rw [du]; exact hus) (by rw [dv]; exact hvs) hb'
          rw [h1] at this; exact this
       ·cases hb
theorem ti {t:TypeId} (e:TypeId) (n:Nat) (ht:P.underlying t=some (.array n e)) (hi:(P.info? e).isSome=true) (hg:P.eqGuardType P.depth t=false) (hn:(P.info? t).map (·.size)=some n) (h1:P.cellsOf e=1) (hf:mF P e=true):bP P t:=by
 obtain ⟨ie,hi⟩:=Option.isSome_iff_exists.1 hi
 refine ⟨hg,fun n' hn' xs ys us vs m b w hl hx hy hb=>?_⟩
 rw [hn] at hn'; cases hn'
 unfold Op.equal
 rw [show Op.maxDepth=9998+1+1 from rfl,run_equalIn_array w _ us vs ht hi,List.range_eq_range']
 exact mu (d:=9998) hf h1 n 0 xs ys us vs b w hl.symm (by simpa using hx) (by simpa using hy) hb
end
end Go.Sx
namespace Go.Dx
open Go.Sx
def sa (d a:Nat):SOp:=⟨some d,.mov (.t a),none⟩
def ea (d a:Nat):DOp:=⟨⟨some d,.mov (.t a),none⟩,none,[],[]⟩
def sb (d a:Nat):SOp:=⟨some d,.ld (.t a),none⟩
def eb (d a:Nat):DOp:=⟨⟨some d,.ld (.t a),none⟩,none,[],[]⟩
def sc (d n a:Nat):SOp:=⟨some d,.lds n (.t a),none⟩
def ec (d n a:Nat):DOp:=⟨⟨some d,.lds n (.t a),none⟩,none,[],[]⟩
def se (d n a:Nat):SOp:=⟨some d,.fa n (.t a),none⟩
def ee (d n a:Nat):DOp:=⟨⟨some d,.fa n (.t a),none⟩,none,[],[]⟩
def ki (n:Int):Arg:=.k (.int .i64 n)
def gt (d:Nat) (p:IOp) (g:Nat):DOp:=⟨⟨some d,p,some (g,true)⟩,none,[],[]⟩
def gf (d:Nat) (p:IOp) (g:Nat):DOp:=⟨⟨some d,p,some (g,false)⟩,none,[],[]⟩
def b1 (d:Nat) (o:BinOp) (a b:Nat):SOp:=⟨some d,.bin o (.t a) (.t b),none⟩
def d1 (d:Nat) (o:BinOp) (a b:Nat):DOp:=⟨⟨some d,.bin o (.t a) (.t b),none⟩,none,[],[]⟩
def b2 (d:Nat) (o:BinOp) (a:Nat) (n:Int):SOp:=⟨some d,.bin o (.t a) (.k (.int .i64 n)),none⟩
def d2 (d:Nat) (o:BinOp) (a:Nat) (n:Int):DOp:=⟨⟨some d,.bin o (.t a) (.k (.int .i64 n)),none⟩,none,[],[]⟩
def b3 (d f:Nat) (l:List Nat):SOp:=⟨some d,.call f (l.map .t),none⟩
def d3 (d f:Nat) (l:List Nat):DOp:=⟨⟨some d,.call f (l.map .t),none⟩,none,[],[]⟩
def b4 (d a:Nat):SOp:=⟨some d,.len (.t a),none⟩
def d4 (d a:Nat):DOp:=⟨⟨some d,.len (.t a),none⟩,none,[],[]⟩
def b5 (d a:Nat):SOp:=⟨some d,.un .not (.t a),none⟩
def b6 (d:Nat) (n:Int):SOp:=⟨some d,.mov (.k (.int .i64 n)),none⟩
def b7 (d n a b:Nat):SOp:=⟨some d,.iaS n (.t a) (.t b),none⟩
def d7 (d n a b:Nat):DOp:=⟨⟨some d,.iaS n (.t a) (.t b),none⟩,none,[],[]⟩
def zs (n:Nat):List ab:=List.replicate n (.int .i64 0)
def b8 (n a b:Nat):SOp:=⟨none,.st n (.t a) (.t b),none⟩
def rg (l:List SOp) (c:dR):dR:=.seq (.reg l) c
def so (d:Nat) (p:IOp):SOp:=⟨some d,p,none⟩
def eo (d:Nat) (p:IOp):DOp:=⟨⟨some d,p,none⟩,none,[],[]⟩
def dz (o:SOp):DOp:=⟨o,none,[],[]⟩
def its:List eM:=[⟨158,30,(.seq (.reg [.op ⟨(some 5),.fa 7 (.t 1),none⟩,.op ⟨(some 6),.ld (.t 5),none⟩,.op ⟨(some 7),.len (.t 6),none⟩,.op ⟨(some 8),.mov (ki 0),none⟩]) (.block 0 (.loop (.seq (.reg [.op ⟨(some 9),.bin .lss (.t 8) (.t 7),none⟩]) (.seq (.cond (.t 9) .skip (.exit 0)) (.seq (.block 1 (.seq (.reg [.op ⟨(some 10),.mov (.t 8),none⟩,.op ⟨(some 11),.iaS 1 (.t 6) (.t 8),none⟩,.op ⟨(some 12),.ld (.t 11),none⟩,.op ⟨(some 3),.mov (.t 10),none⟩,.op ⟨(some 4),.mov (.t 12),none⟩]) (.seq (.drawY [⟨⟨(some 13),.mov (.t 4),none⟩,none,[],[]⟩,⟨⟨(some 14),.bin .geq (.t 13) (ki 0),none⟩,none,[],[]⟩,⟨⟨(some 15),.mov (.t 14),none⟩,none,[],[]⟩,⟨⟨(some 16),.mov (.t 0),(some (15,true))⟩,none,[],[]⟩,⟨⟨(some 17),.lds 9 (.t 1),(some (15,true))⟩,none,[],[]⟩,⟨⟨(some 18),.mov (.t 3),(some (15,true))⟩,none,[],[]⟩,⟨⟨(some 19),.fa 3 (.t 1),(some (15,true))⟩,none,[],[]⟩,⟨⟨(some 20),.fa 3 (.t 19),(some (15,true))⟩,none,[],[]⟩,⟨⟨(some 21),.ld (.t 20),(some (15,true))⟩,none,[],[]⟩,⟨⟨(some 22),.mov (.t 3),(some (15,true))⟩,none,[],[]⟩,⟨⟨(some 23),.iaS 6 (.t 21) (.t 22),(some (15,true))⟩,none,[],[]⟩,⟨⟨(some 24),.lds 6 (.t 23),(some (15,true))⟩,none,[],[]⟩,⟨⟨(some 25),.agg [(.slice none 0 0),(.slice none 0 0),(.int .i64 0),(.slice none 0 0),(.slice none 0 0),(.slice none 0 0),(.slice none 0 0),(.slice none 0 0),(.slice none 0 0),(.int .i64 0),(.str ⟨#[]⟩),(.int .i64 0),(.int .i64 0),(.int .i64 0),(.int .i64 0),(.int .i64 0)] [(0,9,(.t 17)),(9,1,(.t 18)),(10,6,(.t 24))],(some (15,true))⟩,none,[],[]⟩] [.yldG 15 true 16 (some 26) [(.t 25)],.op ⟨(some 27),.un .not (.t 26),(some (15,true))⟩,.op ⟨(some 28),.pick (.t 15) (.t 27) (.k (.bool false)),none⟩]) (.cond (.t 28) .ret .skip)))) (.reg [.op ⟨(some 29),.bin .add (.t 8) (ki 1),none⟩,.op ⟨(some 8),.mov (.t 29),none⟩])))))))⟩,⟨227,38,(.seq (.seq (.reg [.op ⟨(some 7),.mov (.t 0),none⟩,.op ⟨(some 8),.ld (.t 1),none⟩,.yld 7 (some 9) [(.t 8)],.op ⟨(some 10),.un .not (.t 9),none⟩,.op ⟨(some 11),.mov (.t 10),none⟩,.op ⟨(some 12),.mov (.t 0),(some (11,false))⟩,.op ⟨(some 13),.ld (.t 2),(some (11,false))⟩,.yldG 11 false 12 (some 14) [(.t 13)],.op ⟨(some 15),.un .not (.t 14),(some (11,false))⟩,.op ⟨(some 16),.pick (.t 11) (.k (.bool true)) (.t 15),none⟩]) (.cond (.t 16) .ret .skip)) (.seq (.reg [.op ⟨(some 17),.ld (.t 3),none⟩,.op ⟨(some 18),.len (.t 17),none⟩,.op ⟨(some 19),.mov (ki 0),none⟩]) (.block 0 (.loop (.seq (.reg [.op ⟨(some 20),.bin .lss (.t 19) (.t 18),none⟩]) (.seq (.cond (.t 20) .skip (.exit 0)) (.seq (.block 1 (.seq (.reg [.op ⟨(some 21),.iaS 1 (.t 17) (.t 19),none⟩,.op ⟨(some 22),.ld (.t 21),none⟩,.op ⟨(some 6),.mov (.t 22),none⟩]) (.seq (.reg [.op ⟨(some 23),.ld (.t 1),none⟩,.op ⟨(some 24),.mov (.t 6),none⟩,.op ⟨(some 25),.bin .lss (.t 23) (.t 24),none⟩,.op ⟨(some 26),.mov (.t 25),none⟩,.op ⟨(some 27),.mov (.t 6),(some (26,true))⟩,.op ⟨(some 28),.ld (.t 2),(some (26,true))⟩,.op ⟨(some 29),.bin .lss (.t 27) (.t 28),(some (26,true))⟩,.op ⟨(some 30),.pick (.t 26) (.t 29) (.k (.bool false)),none⟩,.op ⟨(some 31),.mov (.t 30),none⟩,.op ⟨(some 32),.mov (.t 0),(some (31,true))⟩,.op ⟨(some 33),.mov (.t 6),(some (31,true))⟩,.yldG 31 true 32 (some 34) [(.t 33)],.op ⟨(some 35),.un .not (.t 34),(some (31,true))⟩,.op ⟨(some 36),.pick (.t 31) (.t 35) (.k (.bool false)),none⟩]) (.cond (.t 36) .ret .skip)))) (.reg [.op ⟨(some 37),.bin .add (.t 19) (ki 1),none⟩,.op ⟨(some 19),.mov (.t 37),none⟩]))))))))⟩,⟨311,46,(.seq (.reg [.op ⟨(some 6),.fa 2 (.t 1),none⟩,.op ⟨(some 7),.ld (.t 6),none⟩,.op ⟨(some 8),.len (.t 7),none⟩,.op ⟨(some 9),.bin .sub (.t 8) (ki 1),none⟩,.op ⟨(some 10),.mov (ki 0),none⟩]) (.block 0 (.loop (.seq (.reg [.op ⟨(some 11),.bin .lss (.t 10) (.t 9),none⟩]) (.seq (.cond (.t 11) .skip (.exit 0)) (.seq (.block 1 (.seq (.reg [.op ⟨(some 12),.mov (.t 10),none⟩,.op ⟨(some 3),.mov (.t 12),none⟩]) (.seq (.draw [⟨⟨(some 13),.fa 2 (.t 1),none⟩,none,[11,12],[]⟩,⟨⟨(some 14),.ld (.t 13),none⟩,none,[11,12],[]⟩,⟨⟨(some 15),.mov (.t 3),none⟩,none,[11,12],[]⟩,⟨⟨(some 16),.iaS 2 (.t 14) (.t 15),none⟩,none,[11,12],[]⟩,⟨⟨(some 17),.lds 2 (.t 16),none⟩,none,[11,12],[]⟩,⟨⟨(some 18),.fa 2 (.t 1),none⟩,none,[11,12,13],[]⟩,⟨⟨(some 19),.ld (.t 18),none⟩,none,[11,12,13],[]⟩,⟨⟨(some 20),.mov (.t 3),none⟩,none,[11,12,13],[]⟩,⟨⟨(some 21),.bin .add (.t 20) (ki 1),none⟩,none,[11,12,13],[]⟩,⟨⟨(some 22),.iaS 2 (.t 19) (.t 21),none⟩,none,[11,12,13],[]⟩,⟨⟨(some 23),.lds 2 (.t 22),none⟩,none,[11,12,13],[]⟩,⟨⟨(some 4),.new 45 (zs 2),none⟩,(some 0),[12],[.fresh 0]⟩,⟨⟨(some 5),.new 45 (zs 2),none⟩,(some 1),[11],[.fresh 1]⟩,⟨(b8 2 4 17),none,[],[.fresh 0]⟩,⟨(b8 2 5 23),none,[],[.fresh 1]⟩]) (.seq (.reg [.op ⟨(some 24),.mov (.t 0),none⟩,.op ⟨(some 25),.iaA 2 1 (.t 4) (ki 0),none⟩,.op ⟨(some 26),.ld (.t 25),none⟩,.op ⟨(some 27),.bin .mul (ki 2) (.t 26),none⟩,.op ⟨(some 28),.iaA 2 1 (.t 4) (ki 1),none⟩,.op ⟨(some 29),.ld (.t 28),none⟩,.op ⟨(some 30),.bin .mul (ki 2) (.t 29),none⟩,.op ⟨(some 31),.agg (zs 2) [(0,1,(.t 27)),(1,1,(.t 30))],none⟩,.op ⟨(some 32),.iaA 2 1 (.t 5) (ki 0),none⟩,.op ⟨(some 33),.ld (.t 32),none⟩,.op ⟨(some 34),.bin .mul (ki 2) (.t 33),none⟩,.op ⟨(some 35),.iaA 2 1 (.t 5) (ki 1),none⟩,.op ⟨(some 36),.ld (.t 35),none⟩,.op ⟨(some 37),.bin .mul (ki 2) (.t 36),none⟩,.op ⟨(some 38),.agg (zs 2) [(0,1,(.t 34)),(1,1,(.t 37))],none⟩,.op ⟨(some 39),.agg (zs 4) [(0,2,(.t 31)),(2,2,(.t 38))],none⟩,.op ⟨(some 40),.fa 3 (.t 1),none⟩,.op ⟨(some 41),.ld (.t 40),none⟩,.op ⟨(some 42),.agg (zs 5) [(0,4,(.t 39)),(4,1,(.t 41))],none⟩,.yld 24 (some 43) [(.t 42)],.op ⟨(some 44),.un .not (.t 43),none⟩]) (.cond (.t 44) .ret .skip))))) (.reg [.op ⟨(some 45),.bin .add (.t 10) (ki 1),none⟩,.op ⟨(some 10),.mov (.t 45),none⟩])))))))⟩]
def Wz:ay:=⟨65,[.tmp 6],(rg [(so 3 (.box 35 (.t 0))),(so 5 (.box 37 (.t 2))),(so 6 (.mov (.k (.bool false))))] (rg [(sc 16 9 3),(b3 17 22 [16]),(sa 15 17),(so 18 (.ext (.t 15) 0)),(so 19 (.ext (.t 15) 1)),(so 20 (.ext (.t 15) 2)),(sa 7 18),(sa 8 19),(sa 9 20)] (rg [(sc 22 9 3),(b3 23 23 [22]),(sa 21 23),(so 24 (.ext (.t 21) 0)),(so 25 (.ext (.t 21) 1)),(so 26 (.ext (.t 21) 2)),(sa 10 24),(sa 11 25),(sa 12 26)] (.seq (rg [(sa 27 7),(sa 28 10),(b1 29 .neq 27 28),(sa 30 29),⟨(some 31),.mov (.t 8),(some (30,false))⟩,⟨(some 32),.mov (.t 11),(some (30,false))⟩,⟨(some 33),.bin .neq (.t 31) (.t 32),(some (30,false))⟩,(so 34 (.pick (.t 30) (.k (.bool true)) (.t 33))),(sa 35 34),⟨(some 36),.mov (.t 9),(some (35,false))⟩,⟨(some 37),.mov (.t 12),(some (35,false))⟩,⟨(some 38),.bin .neq (.t 36) (.t 37),(some (35,false))⟩,(so 39 (.pick (.t 35) (.k (.bool true)) (.t 38)))] (.cond (.t 39) (rg [(so 6 (.mov (.k (.bool false))))] .ret) .skip)) (rg [(sc 41 9 3),(sa 42 1),(sc 43 4 5),(b3 44 24 [41,42,43]),(sa 40 44),(so 45 (.ext (.t 40) 0)),(so 46 (.ext (.t 40) 1)),(so 13 (.new 55 (zs 4))),(b8 4 13 45),(sa 9 46)] (rg [(sc 48 9 3),(sa 49 1),(sc 50 4 5),(b3 51 25 [48,49,50]),(sa 47 51),(so 52 (.ext (.t 47) 0)),(so 53 (.ext (.t 47) 1)),(so 14 (.new 55 (zs 4))),(b8 4 14 52),(sa 12 53)] (rg [(sc 54 4 13),(sc 55 4 14),(so 56 (.eqa false 4 (.t 54) (.t 55))),(sa 57 56),⟨(some 58),.mov (.t 9),(some (57,true))⟩,⟨(some 59),.mov (.t 12),(some (57,true))⟩,⟨(some 60),.bin .eql (.t 58) (.t 59),(some (57,true))⟩,(so 61 (.pick (.t 57) (.t 60) (.k (.bool false)))),(sa 62 61),⟨(some 63),.call 17 [],(some (62,true))⟩,(so 64 (.pick (.t 62) (.t 63) (.k (.bool false)))),(sa 6 64)] .ret)))))))⟩
def TG:ay:=⟨22,[.cell 4 (some 2),.tmp 5],(rg [(so 2 (.box 35 (.t 0))),(so 3 (.box 37 (.t 1))),(so 4 (.new 39 (zs 2))),(b6 5 0)] (rg [(sc 7 9 2),(b3 8 46 [7]),(sa 6 8)] (.seq (.block 0 (rg [(sa 10 6),(b2 11 .neq 10 0),(sa 9 11)] (.cond (.t 9) (rg [(so 12 (.agg (zs 2) [])),(sa 13 6),(b8 2 4 12),(sa 5 13)] .ret) (rg [(sc 15 4 3),(b3 16 47 [15]),(b5 17 16),(sa 14 17)] (.cond (.t 14) (rg [(so 18 (.agg (zs 2) [])),(b8 2 4 18),(b6 5 7)] .ret) .skip))))) (rg [(sc 19 9 2),(so 20 (.mkf (.func 49) [] [(.t 3)])),(b3 21 48 [19,20]),(b8 2 4 21),(b6 5 0)] .ret))))⟩
def Wg:ay:=⟨50,[.tmp 0],(rg [(so 0 (.mov (.k (.bool false))))] (rg [(so 8 (.call 53 [])),(so 9 (.agg (zs 4) [(0,1,(ki (-4000))),(2,1,(ki 4000)),(3,1,(ki 8000))])),(b3 10 15 [8,9]),(sa 7 10),(so 11 (.ext (.t 7) 0)),(so 12 (.ext (.t 7) 1)),(so 1 (.new 39 (zs 2))),(b8 2 1 11),(sa 2 12)] (rg [(so 14 (.call 53 [])),(so 15 (.agg (zs 4) [])),(so 16 (.call 18 [(.t 14),(.t 15),(ki 0),(ki 1)])),(sa 13 16),(so 17 (.ext (.t 13) 0)),(so 18 (.ext (.t 13) 1)),(so 3 (.new 39 (zs 2))),(b8 2 3 17),(sa 4 18)] (rg [(so 20 (.call 53 [])),(so 21 (.agg (zs 4) [(0,1,(ki (-4000))),(2,1,(ki (-4000)))])),(b3 22 15 [20,21]),(sa 19 22),(so 23 (.ext (.t 19) 0)),(so 24 (.ext (.t 19) 1)),(so 5 (.new 39 (zs 2))),(b8 2 5 23),(sa 6 24)] (rg [(sa 25 2),(b2 26 .eql 25 0),(sa 27 26),⟨(some 28),.mov (.t 4),(some (27,true))⟩,⟨(some 29),.bin .eql (.t 28) (ki 0),(some (27,true))⟩,(so 30 (.pick (.t 27) (.t 29) (.k (.bool false)))),(sa 31 30),⟨(some 32),.mov (.t 6),(some (31,true))⟩,⟨(some 33),.bin .eql (.t 32) (ki 0),(some (31,true))⟩,(so 34 (.pick (.t 31) (.t 33) (.k (.bool false)))),(sa 35 34),⟨(some 36),.lds 2 (.t 1),(some (35,true))⟩,⟨(some 37),.agg (zs 2) [(0,1,(ki 11)),(1,1,(ki 75))],(some (35,true))⟩,⟨(some 38),.eqa false 2 (.t 36) (.t 37),(some (35,true))⟩,(so 39 (.pick (.t 35) (.t 38) (.k (.bool false)))),(sa 40 39),⟨(some 41),.lds 2 (.t 3),(some (40,true))⟩,⟨(some 42),.agg (zs 2) [(0,1,(ki 3500)),(1,1,(ki 3500))],(some (40,true))⟩,⟨(some 43),.eqa false 2 (.t 41) (.t 42),(some (40,true))⟩,(so 44 (.pick (.t 40) (.t 43) (.k (.bool false)))),(sa 45 44),⟨(some 46),.lds 2 (.t 5),(some (45,true))⟩,⟨(some 47),.agg (zs 2) [(0,1,(ki 26)),(1,1,(ki 27))],(some (45,true))⟩,⟨(some 48),.eqa false 2 (.t 46) (.t 47),(some (45,true))⟩,(so 49 (.pick (.t 45) (.t 48) (.k (.bool false)))),(sa 0 49)] .ret)))))⟩
def VP:ay:=⟨40,[.cell 8 (some 2),.tmp 9],(rg [(so 4 (.box 35 (.t 0))),(so 5 (.box 37 (.t 1))),(so 8 (.new 39 (zs 2))),(b6 9 0)] (rg [(sc 12 9 4),(b3 13 46 [12]),(sa 14 2),(sa 15 3),(so 16 (.agg (zs 2) [(0,1,(.t 14)),(1,1,(.t 15))])),(so 11 (.new 116 (zs 2))),(sa 10 13),(b8 2 11 16)] (.seq (.block 0 (rg [(sa 18 10),(b2 19 .neq 18 0),(sa 17 19)] (.cond (.t 17) (rg [(so 20 (.agg (zs 2) [])),(sa 21 10),(b8 2 8 20),(sa 9 21)] .ret) (rg [(sc 23 4 5),(b3 24 47 [23]),(b5 25 24),(sa 22 25)] (.cond (.t 22) (rg [(so 26 (.agg (zs 2) [])),(b8 2 8 26),(b6 9 7)] .ret) (rg [(sc 28 2 11),(b3 29 54 [28]),(b5 30 29),(sa 27 30)] (.cond (.t 27) (rg [(so 31 (.agg (zs 2) [])),(b8 2 8 31),(b6 9 2)] .ret) (rg [(se 33 2 4),(sb 34 33),(b2 35 .lss 34 0),(sa 32 35)] (.cond (.t 32) (rg [(so 36 (.agg (zs 2) [])),(b8 2 8 36),(b6 9 4)] .ret) .skip))))))))) (rg [(sc 37 9 4),(so 38 (.mkf (.func 55) [] [(.t 5),(.t 11)])),(b3 39 48 [37,38]),(b8 2 8 39),(b6 9 0)] .ret))))⟩
def Lv:ay:=⟨147,[.tmp 2,.tmp 3,.tmp 4],(rg [(so 1 (.box 35 (.t 0))),(b6 2 0),(b6 3 0),(b6 4 0)] (.seq (rg [(se 18 0 1),(sc 19 2 18),(b3 20 59 [19]),(sa 17 20),(so 21 (.ext (.t 17) 0)),(so 22 (.ext (.t 17) 1)),(so 23 (.ext (.t 17) 2)),(sa 5 21),(sa 6 22),(sa 7 23)] (rg [(sa 24 7),(b2 25 .neq 24 0)] (.cond (.t 25) (rg [(sa 26 7),(b6 2 1),(b6 3 0),(sa 4 26)] .ret) .skip))) (.seq (rg [(se 28 3 1),(sc 29 4 28),(b3 30 60 [29]),(sa 27 30),(so 31 (.ext (.t 27) 0)),(so 32 (.ext (.t 27) 1)),(so 33 (.ext (.t 27) 2)),(sa 8 31),(sa 9 32),(sa 10 33)] (rg [(sa 34 10),(b2 35 .neq 34 0)] (.cond (.t 35) (rg [(sa 36 10),(b6 2 2),(b6 3 0),(sa 4 36)] .ret) .skip))) (rg [(se 37 3 1),(se 38 3 37),(sb 39 38),(b4 40 39),(sa 11 40)] (.seq (.block 0 (rg [(se 42 2 1),(sb 43 42),(se 44 0 1),(se 45 0 44),(sb 46 45),(b4 47 46),(b2 48 .sub 47 1),(so 49 (.call 61 [(.t 43),(ki (-1)),(.t 48)])),(b5 50 49),(sa 41 50)] (.cond (.t 41) (rg [(b6 2 3),(b6 3 0),(b6 4 4)] .ret) (rg [(se 52 2 1),(sb 53 52),(b2 54 .geq 53 0),(sa 55 54),⟨(some 56),.fa 0 (.t 1),(some (55,true))⟩,⟨(some 57),.fa 0 (.t 56),(some (55,true))⟩,⟨(some 58),.ld (.t 57),(some (55,true))⟩,⟨(some 59),.fa 2 (.t 1),(some (55,true))⟩,⟨(some 60),.ld (.t 59),(some (55,true))⟩,⟨(some 61),.iaS 6 (.t 58) (.t 60),(some (55,true))⟩,⟨(some 62),.lds 6 (.t 61),(some (55,true))⟩,⟨(some 63),.call 62 [(.t 62)],(some (55,true))⟩,⟨(some 64),.bin .gtr (.t 63) (ki 10000),(some (55,true))⟩,(so 65 (.pick (.t 55) (.t 64) (.k (.bool false)))),(sa 51 65)] (.cond (.t 51) (rg [(b6 2 3),(b6 3 0),(b6 4 7)] .ret) (rg [(se 67 7 1),(sb 68 67),(b4 69 68),(sa 70 11),(b1 71 .neq 69 70),(sa 72 71),⟨(some 73),.fa 8 (.t 1),(some (72,false))⟩,⟨(some 74),.ld (.t 73),(some (72,false))⟩,⟨(some 75),.len (.t 74),(some (72,false))⟩,⟨(some 76),.mov (.t 11),(some (72,false))⟩,⟨(some 77),.bin .neq (.t 75) (.t 76),(some (72,false))⟩,(so 78 (.pick (.t 72) (.k (.bool true)) (.t 77))),(sa 66 78)] (.cond (.t 66) (rg [(b6 2 4),(b6 3 0),(b6 4 2)] .ret) .skip))))))) (.seq (rg [(se 79 7 1),(sb 80 79),(b4 81 80),(b6 82 0)] (.block 1 (.loop (rg [(b1 83 .lss 82 81)] (.seq (.cond (.t 83) .skip (.exit 1)) (.seq (.block 2 (rg [(sa 84 82),(b7 85 1 80 82),(sb 86 85),(sa 12 84),(sa 13 86)] (rg [(se 87 8 1),(sb 88 87),(sa 89 12),(b7 90 3 88 89),(sc 91 3 90),(so 14 (.new 85 (zs 3))),(b8 3 14 91)] (.seq (.block 3 (rg [(sa 93 13),(se 94 0 1),(se 95 1 94),(sb 96 95),(b4 97 96),(b2 98 .sub 97 1),(so 99 (.call 61 [(.t 93),(ki (-1)),(.t 98)])),(b5 100 99),(sa 92 100)] (.cond (.t 92) (rg [(sa 101 12),(b6 2 4),(sa 3 101),(b6 4 4)] .ret) (rg [(se 103 0 14),(sb 104 103),(so 105 (.call 61 [(.t 104),(ki 0),(ki 200000)])),(b5 106 105),(sa 107 106),⟨(some 108),.fa 1 (.t 14),(some (107,false))⟩,⟨(some 109),.ld (.t 108),(some (107,false))⟩,⟨(some 110),.call 61 [(.t 109),(ki 0),(ki 600)],(some (107,false))⟩,⟨(some 111),.un .not (.t 110),(some (107,false))⟩,(so 112 (.pick (.t 107) (.k (.bool true)) (.t 111))),(sa 113 112),⟨(some 114),.fa 2 (.t 14),(some (113,false))⟩,⟨(some 115),.ld (.t 114),(some (113,false))⟩,⟨(some 116),.call 61 [(.t 115),(ki 0),(ki 1000)],(some (113,false))⟩,⟨(some 117),.un .not (.t 116),(some (113,false))⟩,(so 118 (.pick (.t 113) (.k (.bool true)) (.t 117))),(sa 102 118)] (.cond (.t 102) (rg [(sa 119 12),(b6 2 4),(sa 3 119),(b6 4 7)] .ret) (rg [(sa 121 13),(b2 122 .lss 121 0),(sa 120 122)] (.cond (.t 120) (.exit 2) .skip))))))) (rg [(se 123 0 1),(se 124 1 123),(sb 125 124),(sa 126 13),(b7 127 14 125 126),(sc 128 14 127),(so 15 (.new 128 [(.str ⟨#[]⟩),(.int .i64 0),(.int .i64 0),(.int .i64 0),(.int .i64 0),(.int .i64 0),(.int .i64 0),(.int .i64 0),(.int .i64 0),(.int .i64 0),(.int .i64 0),(.int .i64 0),(.int .i64 0),(.int .i64 0)])),(b8 14 15 128)] (rg [(se 129 0 1),(se 130 0 129),(sb 131 130),(se 132 1 15),(sb 133 132),(b7 134 6 131 133),(sc 135 6 134),(so 16 (.new 126 [(.str ⟨#[]⟩),(.slice none 0 0),(.slice none 0 0),(.slice none 0 0),(.int .i64 0),(.int .i64 0)])),(b8 6 16 135)] (.seq (.draw [(ec 136 6 16),(d3 137 62 [136]),(ee 138 5 16),(eb 139 138),(eo 140 (.mm true (.t 137) [(.t 139)])),(ee 141 3 15),(eb 142 141),(d1 143 .mul 140 142),(d2 144 .gtr 143 100000000000)]) (.cond (.t 144) (rg [(sa 145 12),(b6 2 4),(sa 3 145),(b6 4 7)] .ret) .skip)))))))) (.reg [(b2 146 .add 82 1),(sa 82 146)]))))))) (rg [(b6 2 0),(b6 3 0),(b6 4 0)] .ret)))))))⟩
def Mp:ay:=⟨82,[.tmp 2,.tmp 3,.tmp 4],(rg [(so 1 (.box 35 (.t 0))),(b6 2 0),(b6 3 0),(b6 4 0)] (rg [(se 12 0 1),(sc 13 2 12),(b3 14 63 [13]),(sa 11 14),(so 15 (.ext (.t 11) 0)),(so 16 (.ext (.t 11) 1)),(so 17 (.ext (.t 11) 2)),(sa 5 15),(sa 6 16),(sa 7 17)] (.seq (rg [(sa 18 7),(b2 19 .neq 18 0)] (.cond (.t 19) (rg [(sa 20 7),(b6 2 1),(b6 3 0),(sa 4 20)] .ret) .skip)) (rg [(se 22 3 1),(sc 23 4 22),(b3 24 64 [23]),(sa 21 24),(so 25 (.ext (.t 21) 0)),(so 26 (.ext (.t 21) 1)),(so 27 (.ext (.t 21) 2)),(sa 7 27)] (.seq (rg [(sa 28 7),(b2 29 .neq 28 0)] (.cond (.t 29) (rg [(sa 30 7),(b6 2 2),(b6 3 0),(sa 4 30)] .ret) .skip)) (.seq (rg [(se 31 2 1),(sb 32 31),(se 33 0 1),(se 34 0 33),(sb 35 34),(b4 36 35),(b2 37 .sub 36 1),(so 38 (.call 65 [(.t 32),(ki (-1)),(.t 37)])),(b5 39 38)] (.cond (.t 39) (rg [(b6 2 3),(b6 3 0),(b6 4 4)] .ret) .skip)) (.seq (rg [(se 40 2 1),(sb 41 40),(b2 42 .geq 41 0),(sa 43 42),⟨(some 44),.fa 0 (.t 1),(some (43,true))⟩,⟨(some 45),.fa 0 (.t 44),(some (43,true))⟩,⟨(some 46),.ld (.t 45),(some (43,true))⟩,⟨(some 47),.fa 2 (.t 1),(some (43,true))⟩,⟨(some 48),.ld (.t 47),(some (43,true))⟩,⟨(some 49),.iaS 6 (.t 46) (.t 48),(some (43,true))⟩,⟨(some 50),.lds 6 (.t 49),(some (43,true))⟩,⟨(some 51),.call 66 [(.t 50)],(some (43,true))⟩,⟨(some 52),.bin .gtr (.t 51) (ki 10000),(some (43,true))⟩,(so 53 (.pick (.t 43) (.t 52) (.k (.bool false))))] (.cond (.t 53) (rg [(b6 2 3),(b6 3 0),(b6 4 7)] .ret) .skip)) (rg [(se 54 3 1),(se 55 3 54),(sb 56 55),(b4 57 56),(sa 8 57)] (.seq (rg [(se 58 7 1),(sb 59 58),(b4 60 59),(sa 61 8),(b1 62 .neq 60 61),(sa 63 62),⟨(some 64),.fa 8 (.t 1),(some (63,false))⟩,⟨(some 65),.ld (.t 64),(some (63,false))⟩,⟨(some 66),.len (.t 65),(some (63,false))⟩,⟨(some 67),.mov (.t 8),(some (63,false))⟩,⟨(some 68),.bin .neq (.t 66) (.t 67),(some (63,false))⟩,(so 69 (.pick (.t 63) (.k (.bool true)) (.t 68)))] (.cond (.t 69) (rg [(b6 2 4),(b6 3 0),(b6 4 2)] .ret) .skip)) (.seq (rg [(b6 9 0)] (.block 0 (.loop (.seq (rg [(sa 70 9),(sa 71 8),(b1 72 .lss 70 71)] (.cond (.t 72) .skip (.exit 0))) (.seq (.block 1 (rg [(sc 75 9 1),(sa 76 9),(b3 77 67 [75,76]),(sa 10 77)] (rg [(sa 78 10),(b2 79 .neq 78 0)] (.cond (.t 79) (rg [(sa 80 9),(sa 81 10),(b6 2 4),(sa 3 80),(sa 4 81)] .ret) .skip)))) (.reg [(sa 73 9),(b2 74 .add 73 1),(sa 9 74)])))))) (rg [(b6 2 0),(b6 3 0),(b6 4 0)] .ret)))))))))))⟩
def WV:ay:=⟨39,[.cell 6 (some 4),.tmp 7],(rg [(so 3 (.box 35 (.t 0))),(so 5 (.box 37 (.t 2))),(so 6 (.new 55 (zs 4))),(b6 7 0)] (rg [(sc 9 9 3),(b3 10 46 [9]),(sa 8 10)] (.seq (.block 0 (rg [(sa 12 8),(b2 13 .neq 12 0),(sa 11 13)] (.cond (.t 11) (rg [(so 14 (.agg (zs 4) [])),(sa 15 8),(b8 4 6 14),(sa 7 15)] .ret) (rg [(sa 17 1),(se 18 3 3),(se 19 3 18),(sb 20 19),(b4 21 20),(b2 22 .sub 21 1),(so 23 (.call 61 [(.t 17),(ki 0),(.t 22)])),(b5 24 23),(sa 16 24)] (.cond (.t 16) (rg [(so 25 (.agg (zs 4) [])),(b8 4 6 25),(b6 7 4)] .ret) (rg [(sc 27 4 5),(b3 28 47 [27]),(b5 29 28),(sa 26 29)] (.cond (.t 26) (rg [(so 30 (.agg (zs 4) [])),(b8 4 6 30),(b6 7 7)] .ret) .skip))))))) (.seq (.draw [(ee 31 3 3),(ee 32 3 31),(eb 33 32),(ea 34 1),(d7 35 6 33 34),(ec 36 6 35),(ec 37 4 5),(d3 38 68 [36,37]),⟨(b8 4 6 38),none,[],[.slot 6]⟩,(eo 7 (.mov (ki 0)))]) .ret))))⟩
def V5:ay:=⟨40,[.cell 6 (some 4),.tmp 7],(rg [(so 3 (.box 35 (.t 0))),(so 5 (.box 37 (.t 2))),(so 6 (.new 55 (zs 4))),(b6 7 0)] (rg [(sc 9 9 3),(b3 10 69 [9]),(sa 8 10)] (.seq (rg [(sa 11 8),(b2 12 .eql 11 0),(sa 13 12),⟨(some 14),.mov (.t 1),(some (13,true))⟩,⟨(some 15),.fa 3 (.t 3),(some (13,true))⟩,⟨(some 16),.fa 3 (.t 15),(some (13,true))⟩,⟨(some 17),.ld (.t 16),(some (13,true))⟩,⟨(some 18),.len (.t 17),(some (13,true))⟩,⟨(some 19),.bin .sub (.t 18) (ki 1),(some (13,true))⟩,⟨(some 20),.call 65 [(.t 14),(ki 0),(.t 19)],(some (13,true))⟩,⟨(some 21),.un .not (.t 20),(some (13,true))⟩,(so 22 (.pick (.t 13) (.t 21) (.k (.bool false))))] (.cond (.t 22) (.reg [(b6 8 4)]) .skip)) (.seq (rg [(sa 23 8),(b2 24 .eql 23 0)] (.cond (.t 24) (.reg [(sc 25 9 3),(sc 26 4 5),(b3 27 51 [25,26]),(sa 8 27)]) .skip)) (.seq (rg [(sa 28 8),(b2 29 .neq 28 0)] (.cond (.t 29) (rg [(so 30 (.agg (zs 4) [])),(sa 31 8),(b8 4 6 30),(sa 7 31)] .ret) .skip)) (.seq (.draw [(ee 32 3 3),(ee 33 3 32),(eb 34 33),(ea 35 1),(d7 36 6 34 35),(ec 37 6 36),(ec 38 4 5),(d3 39 70 [37,38]),⟨(b8 4 6 39),none,[],[.slot 6]⟩,(eo 7 (.mov (ki 0)))]) .ret))))))⟩
def Ep:ay:=⟨63,[.cell 10 (some 2),.tmp 11],(rg [(so 5 (.box 25 (.t 0))),(so 7 (.box 85 (.t 2))),(so 8 (.box 55 (.t 3))),(so 10 (.new 39 (zs 2))),(b6 11 0)] (rg [(sc 17 2 5),(sa 18 1),(b3 19 85 [17,18]),(sa 16 19),(so 20 (.ext (.t 16) 0)),(so 21 (.ext (.t 16) 1)),(so 12 (.new 128 [(.str ⟨#[]⟩),(.int .i64 0),(.int .i64 0),(.int .i64 0),(.int .i64 0),(.int .i64 0),(.int .i64 0),(.int .i64 0),(.int .i64 0),(.int .i64 0),(.int .i64 0),(.int .i64 0),(.int .i64 0),(.int .i64 0)])),(b8 14 12 20),(sa 13 21)] (.seq (rg [(sa 22 13),(b2 23 .eql 22 0),(sa 24 23),⟨(some 25),.lds 3 (.t 7),(some (24,true))⟩,⟨(some 26),.call 86 [(.t 25)],(some (24,true))⟩,(so 27 (.pick (.t 24) (.t 26) (.k (.bool false))))] (.cond (.t 27) (.reg [(b6 13 7)]) .skip)) (.seq (rg [(sa 28 13),(b2 29 .eql 28 0)] (.cond (.t 29) (.reg [(sc 30 4 8),(sa 31 4),(b3 32 87 [30,31]),(sa 13 32)]) .skip)) (.seq (rg [(sa 33 13),(b2 34 .neq 33 0)] (.cond (.t 34) (rg [(so 35 (.agg (zs 2) [])),(sa 36 13),(b8 2 10 35),(sa 11 36)] .ret) .skip)) (.seq (.alloq (.op (sc 37 14 12) (.op (sc 38 3 7) (.op (se 40 0 5) (.op (sb 41 40) (.op (se 42 1 12) (.op (sb 43 42) (.op (b7 44 6 41 43) (.op (sc 45 6 44) (.op (sa 46 4) (.op (sc 48 4 8) (.alt (.op (b3 39 88 [37,38]) (.alt (.op (b3 47 89 [45,46]) (.alt (.op (b3 49 90 [47,48]) (.alt (.op (so 14 (.new 39 (zs 2))) (.op (so 15 (.new 39 (zs 2))) (.op (b8 2 14 39) (.op (b8 2 15 49) .done)))) (.op (so 15 (.new 39 (zs 2))) (.op (so 14 (.new 39 (zs 2))) (.op (b8 2 14 39) (.op (b8 2 15 49) .done)))))) (.alt (.op (so 14 (.new 39 (zs 2))) (.alt (.op (b3 49 90 [47,48]) (.op (so 15 (.new 39 (zs 2))) (.op (b8 2 14 39) (.op (b8 2 15 49) .done)))) (.op (so 15 (.new 39 (zs 2))) (.op (b3 49 90 [47,48]) (.op (b8 2 14 39) (.op (b8 2 15 49) .done)))))) (.op (so 15 (.new 39 (zs 2))) (.alt (.op (b3 49 90 [47,48]) (.op (so 14 (.new 39 (zs 2))) (.op (b8 2 14 39) (.op (b8 2 15 49) .done)))) (.op (so 14 (.new 39 (zs 2))) (.op (b3 49 90 [47,48]) (.op (b8 2 14 39) (.op (b8 2 15 49) .done))))))))) (.alt (.op (so 14 (.new 39 (zs 2))) (.alt (.op (b3 47 89 [45,46]) (.alt (.op (b3 49 90 [47,48]) (.op (so 15 (.new 39 (zs 2))) (.op (b8 2 14 39) (.op (b8 2 15 49) .done)))) (.op (so 15 (.new 39 (zs 2))) (.op (b3 49 90 [47,48]) (.op (b8 2 14 39) (.op (b8 2 15 49) .done)))))) (.op (so 15 (.new 39 (zs 2))) (.op (b3 47 89 [45,46]) (.op (b3 49 90 [47,48]) (.op (b8 2 14 39) (.op (b8 2 15 49) .done))))))) (.op (so 15 (.new 39 (zs 2))) (.alt (.op (b3 47 89 [45,46]) (.alt (.op (b3 49 90 [47,48]) (.op (so 14 (.new 39 (zs 2))) (.op (b8 2 14 39) (.op (b8 2 15 49) .done)))) (.op (so 14 (.new 39 (zs 2))) (.op (b3 49 90 [47,48]) (.op (b8 2 14 39) (.op (b8 2 15 49) .done)))))) (.op (so 14 (.new 39 (zs 2))) (.op (b3 47 89 [45,46]) (.op (b3 49 90 [47,48]) (.op (b8 2 14 39) (.op (b8 2 15 49) .done)))))))))) (.alt (.op (so 14 (.new 39 (zs 2))) (.alt (.op (b3 39 88 [37,38]) (.alt (.op (b3 47 89 [45,46]) (.alt (.op (b3 49 90 [47,48]) (.op (so 15 (.new 39 (zs 2))) (.op (b8 2 14 39) (.op (b8 2 15 49) .done)))) (.op (so 15 (.new 39 (zs 2))) (.op (b3 49 90 [47,48]) (.op (b8 2 14 39) (.op (b8 2 15 49) .done)))))) (.op (so 15 (.new 39 (zs 2))) (.op (b3 47 89 [45,46]) (.op (b3 49 90 [47,48]) (.op (b8 2 14 39) (.op (b8 2 15 49) .done))))))) (.op (so 15 (.new 39 (zs 2))) (.op (b3 39 88 [37,38]) (.op (b3 47 89 [45,46]) (.op (b3 49 90 [47,48]) (.op (b8 2 14 39) (.op (b8 2 15 49) .done)))))))) (.op (so 15 (.new 39 (zs 2))) (.alt (.op (b3 39 88 [37,38]) (.alt (.op (b3 47 89 [45,46]) (.alt (.op (b3 49 90 [47,48]) (.op (so 14 (.new 39 (zs 2))) (.op (b8 2 14 39) (.op (b8 2 15 49) .done)))) (.op (so 14 (.new 39 (zs 2))) (.op (b3 49 90 [47,48]) (.op (b8 2 14 39) (.op (b8 2 15 49) .done)))))) (.op (so 14 (.new 39 (zs 2))) (.op (b3 47 89 [45,46]) (.op (b3 49 90 [47,48]) (.op (b8 2 14 39) (.op (b8 2 15 49) .done))))))) (.op (so 14 (.new 39 (zs 2))) (.op (b3 39 88 [37,38]) (.op (b3 47 89 [45,46]) (.op (b3 49 90 [47,48]) (.op (b8 2 14 39) (.op (b8 2 15 49) .done))))))))))))))))))))) (.seq (.draw [(ee 50 0 15),(eb 51 50),(ee 52 0 14),(eb 53 52),(d1 54 .mul 51 53),(eo 55 (.call 91 [(.t 54),(ki 1000)])),(ee 56 1 15),(eb 57 56),(ee 58 1 14),(eb 59 58),(d1 60 .mul 57 59),(eo 61 (.call 92 [(.t 60),(ki 1000)])),(eo 62 (.agg (zs 2) [(0,1,(.t 55)),(1,1,(.t 61))])),⟨(b8 2 10 62),none,[],[.slot 10]⟩,(eo 11 (.mov (ki 0)))]) .ret)))))))⟩
def Nk:ay:=⟨13,[.tmp 2],(rg [(so 1 (.box 35 (.t 0))),(b6 2 0)] (rg [(sc 7 9 1),(b3 8 22 [7]),(sa 6 8),(so 9 (.ext (.t 6) 0)),(so 10 (.ext (.t 6) 1)),(so 11 (.ext (.t 6) 2)),(sa 3 9),(sa 4 10),(sa 5 11)] (rg [(sa 12 5),(sa 2 12)] .ret)))⟩
def M3:ay:=⟨27,[.tmp 2],(rg [(so 1 (.box 37 (.t 0))),(so 2 (.mov (.k (.bool false))))] (rg [(se 3 0 1),(sb 4 3),(se 5 2 1),(sb 6 5),(se 7 1 1),(sb 8 7),(se 9 3 1),(sb 10 9),(so 11 (.bsl 3 4 (zs 4) [(0,1,(.t 4)),(1,1,(.t 6)),(2,1,(.t 8)),(3,1,(.t 10))])),(b3 12 71 [11]),(sa 13 12),⟨(some 14),.fa 0 (.t 1),(some (13,true))⟩,⟨(some 15),.ld (.t 14),(some (13,true))⟩,⟨(some 16),.fa 2 (.t 1),(some (13,true))⟩,⟨(some 17),.ld (.t 16),(some (13,true))⟩,⟨(some 18),.bin .leq (.t 15) (.t 17),(some (13,true))⟩,(so 19 (.pick (.t 13) (.t 18) (.k (.bool false)))),(sa 20 19),⟨(some 21),.fa 1 (.t 1),(some (20,true))⟩,⟨(some 22),.ld (.t 21),(some (20,true))⟩,⟨(some 23),.fa 3 (.t 1),(some (20,true))⟩,⟨(some 24),.ld (.t 23),(some (20,true))⟩,⟨(some 25),.bin .leq (.t 22) (.t 24),(some (20,true))⟩,(so 26 (.pick (.t 20) (.t 25) (.k (.bool false)))),(sa 2 26)] .ret))⟩
def Tg:ay:=⟨27,[.cell 4 (some 2)],(rg [(so 2 (.box 35 (.t 0))),(so 3 (.box 111 (.t 1))),(so 4 (.new 39 (zs 2)))] (rg [(so 5 (.new 39 (zs 2)))] (.seq (rg [(sc 8 9 2),(b3 9 79 [8])] (.block 0 (.range (.t 9) [10] (.reg [(so 6 (.new 109 [(.slice none 0 0),(.slice none 0 0),(.int .i64 0),(.slice none 0 0),(.slice none 0 0),(.slice none 0 0),(.slice none 0 0),(.slice none 0 0),(.slice none 0 0),(.int .i64 0),(.str ⟨#[]⟩),(.int .i64 0),(.int .i64 0),(.int .i64 0),(.int .i64 0),(.int .i64 0)])),(b8 16 6 10)]) (.block 1 (rg [(sb 11 3),(sc 12 16 6),(so 13 (.callv (.t 11) [(.t 12)])),(so 7 (.new 39 (zs 2))),(b8 2 7 13)] (rg [(se 14 0 5),(sb 15 14),(se 16 0 7),(sb 17 16),(b1 18 .add 15 17),(se 19 0 5),(b8 1 19 18)] (.reg [(se 20 1 5),(sb 21 20),(se 22 1 7),(sb 23 22),(b1 24 .add 21 23),(se 25 1 5),(b8 1 25 24)])))) its))) (rg [(sc 26 2 5),(b8 2 4 26)] .ret))))⟩
def Xd:ay:=⟨7,[.cell 3 (some 2)],(rg [(so 2 (.box 109 (.t 0))),(so 3 (.new 39 (zs 2)))] (rg [(sc 4 16 2),(sc 5 4 1),(b3 6 50 [4,5]),(b8 2 3 6)] .ret))⟩
def UG:ay:=⟨67,[.cell 4 (some 2)],(rg [(so 2 (.box 109 (.t 0))),(so 3 (.box 37 (.t 1))),(so 4 (.new 39 (zs 2)))] (.seq (.draw [⟨(sc 11 16 2),none,[7],[]⟩,⟨(b3 12 111 [11]),none,[7],[]⟩,⟨(sc 13 16 2),none,[7],[]⟩,⟨(sc 14 4 3),none,[7],[]⟩,⟨(sc 15 16 2),none,[7],[]⟩,⟨(b3 16 111 [15]),none,[7],[]⟩,⟨(b3 17 112 [13,14,16]),none,[7],[]⟩,⟨(so 6 (.new 39 (zs 2))),(some 0),[],[.fresh 0]⟩,(ea 5 12),⟨(b8 2 6 17),none,[],[.fresh 0]⟩]) (rg [(sc 19 16 2),(sc 20 4 3),(b3 21 113 [19,20]),(sa 18 21),(so 22 (.ext (.t 18) 0)),(so 23 (.ext (.t 18) 1)),(sa 7 22),(sa 8 23)] (rg [(sa 24 7),(sa 25 5),(sa 26 5),(b1 27 .mul 25 26),(b1 28 .add 24 27),(sa 29 8),(sa 30 5),(sa 31 5),(b1 32 .mul 30 31),(b1 33 .add 29 32),(sa 7 28),(sa 8 33)] (rg [(se 34 0 6),(sb 35 34),(so 36 (.bin .mul (ki 1000) (.t 35))),(sa 37 5),(b1 38 .mul 36 37),(sa 39 8),(so 40 (.agg (zs 2) [(0,1,(.t 38)),(1,1,(.t 39))])),(b3 41 106 [40]),(so 42 (.bin .mul (ki 1000) (.t 41))),(sa 43 8),(b3 44 114 [43]),(so 45 (.agg (zs 2) [(0,1,(.t 42)),(1,1,(.t 44))])),(so 46 (.mkf (.func 106) [(.t 45)] [])),(sa 9 46)] (rg [(se 47 1 6),(sb 48 47),(so 49 (.bin .mul (ki 1000) (.t 48))),(sa 50 5),(b1 51 .mul 49 50),(sa 52 7),(so 53 (.agg (zs 2) [(0,1,(.t 51)),(1,1,(.t 52))])),(b3 54 108 [53]),(so 55 (.bin .mul (ki 1000) (.t 54))),(sa 56 7),(b3 57 115 [56]),(so 58 (.agg (zs 2) [(0,1,(.t 55)),(1,1,(.t 57))])),(so 59 (.mkf (.func 108) [(.t 58)] [])),(sa 10 59)] (.seq (.draw [(ec 60 16 2),(ec 61 4 3),(ea 62 9),(eo 63 (.callv (.t 62) [])),(ea 64 10),(eo 65 (.callv (.t 64) [])),(d3 66 116 [60,61,63,65]),⟨(b8 2 4 66),none,[],[.slot 4]⟩]) .ret)))))))⟩
def Wm:ay:=⟨49,[.tmp 4],(rg [(so 2 (.box 35 (.t 0))),(so 3 (.box 37 (.t 1))),(b6 4 0)] (rg [(sc 6 9 2),(b3 7 69 [6]),(sa 5 7)] (.seq (rg [(sa 8 5),(b2 9 .eql 8 0),(sa 10 9),⟨(some 11),.fa 0 (.t 3),(some (10,true))⟩,⟨(some 12),.ld (.t 11),(some (10,true))⟩,⟨(some 13),.call 74 [(.t 12)],(some (10,true))⟩,⟨(some 14),.un .not (.t 13),(some (10,true))⟩,⟨(some 15),.mov (.t 14),(some (10,true))⟩,⟨(some 16),.fa 2 (.t 3),(some (15,false))⟩,⟨(some 17),.ld (.t 16),(some (15,false))⟩,⟨(some 18),.call 74 [(.t 17)],(some (15,false))⟩,⟨(some 19),.un .not (.t 18),(some (15,false))⟩,⟨(some 20),.pick (.t 15) (.k (.bool true)) (.t 19),(some (10,true))⟩,⟨(some 21),.mov (.t 20),(some (10,true))⟩,⟨(some 22),.fa 1 (.t 3),(some (21,false))⟩,⟨(some 23),.ld (.t 22),(some (21,false))⟩,⟨(some 24),.call 74 [(.t 23)],(some (21,false))⟩,⟨(some 25),.un .not (.t 24),(some (21,false))⟩,⟨(some 26),.pick (.t 21) (.k (.bool true)) (.t 25),(some (10,true))⟩,⟨(some 27),.mov (.t 26),(some (10,true))⟩,⟨(some 28),.fa 3 (.t 3),(some (27,false))⟩,⟨(some 29),.ld (.t 28),(some (27,false))⟩,⟨(some 30),.call 74 [(.t 29)],(some (27,false))⟩,⟨(some 31),.un .not (.t 30),(some (27,false))⟩,⟨(some 32),.pick (.t 27) (.k (.bool true)) (.t 31),(some (10,true))⟩,⟨(some 33),.mov (.t 32),(some (10,true))⟩,⟨(some 34),.fa 0 (.t 3),(some (33,false))⟩,⟨(some 35),.ld (.t 34),(some (33,false))⟩,⟨(some 36),.fa 2 (.t 3),(some (33,false))⟩,⟨(some 37),.ld (.t 36),(some (33,false))⟩,⟨(some 38),.bin .gtr (.t 35) (.t 37),(some (33,false))⟩,⟨(some 39),.pick (.t 33) (.k (.bool true)) (.t 38),(some (10,true))⟩,⟨(some 40),.mov (.t 39),(some (10,true))⟩,⟨(some 41),.fa 1 (.t 3),(some (40,false))⟩,⟨(some 42),.ld (.t 41),(some (40,false))⟩,⟨(some 43),.fa 3 (.t 3),(some (40,false))⟩,⟨(some 44),.ld (.t 43),(some (40,false))⟩,⟨(some 45),.bin .gtr (.t 42) (.t 44),(some (40,false))⟩,⟨(some 46),.pick (.t 40) (.k (.bool true)) (.t 45),(some (10,true))⟩,(so 47 (.pick (.t 10) (.t 46) (.k (.bool false))))] (.cond (.t 47) (.reg [(b6 5 7)]) .skip)) (rg [(sa 48 5),(sa 4 48)] .ret))))⟩
def To:ay:=⟨30,[.cell 0 (some 9)],(rg [(so 0 (.new 35 [(.slice none 0 0),(.slice none 0 0),(.int .i64 0),(.slice none 0 0),(.slice none 0 0),(.slice none 0 0),(.slice none 0 0),(.slice none 0 0),(.slice none 0 0)]))] (rg [(so 3 (.call 123 [])),(so 1 (.new 25 [(.slice none 0 0),(.slice none 0 0)])),(b8 2 1 3)] (rg [(se 4 0 1),(sb 5 4),(so 6 (.bsl 3 2 (zs 2) [(0,1,(ki (-5000))),(1,1,(ki 5000))])),(so 7 (.bsl 3 2 (zs 2) [(0,1,(ki (-5000))),(1,1,(ki 5000))])),(so 8 (.bsl 3 2 (zs 2) [(0,1,(ki 700)),(1,1,(ki 700))])),(so 9 (.bsl 3 2 (zs 2) [(0,1,(ki 700)),(1,1,(ki 700))])),(so 10 (.bsl 32 2 [(.slice none 0 0),(.slice none 0 0)] [(0,1,(.t 8)),(1,1,(.t 9))])),(so 11 (.agg [(.str ⟨#[]⟩),(.slice none 0 0),(.slice none 0 0),(.slice none 0 0),(.int .i64 0),(.int .i64 0)] [(0,1,(.k (.str ⟨#[97,115,112,104,97,108,116]⟩))),(1,1,(.t 6)),(2,1,(.t 7)),(3,1,(.t 10))])),(so 12 (.bsl 126 1 [(.str ⟨#[]⟩),(.slice none 0 0),(.slice none 0 0),(.slice none 0 0),(.int .i64 0),(.int .i64 0)] [(0,6,(.t 11))])),(so 13 (.app 126 6 104 [(.str ⟨#[]⟩),(.slice none 0 0),(.slice none 0 0),(.slice none 0 0),(.int .i64 0),(.int .i64 0)] (.t 5) (.t 12))),(se 14 0 1),(b8 1 14 13)] (rg [(so 15 (.agg (zs 2) [(0,1,(ki 0)),(1,1,(ki 0))])),(so 16 (.agg (zs 2) [(0,1,(ki 10000)),(1,1,(ki 0))])),(so 17 (.agg (zs 2) [(0,1,(ki 10000)),(1,1,(ki 10000))])),(so 18 (.bsl 45 3 (zs 6) [(0,2,(.t 15)),(2,2,(.t 16)),(4,2,(.t 17))])),(so 19 (.agg [(.str ⟨#[]⟩),(.int .i64 0),(.slice none 0 0),(.int .i64 0)] [(0,1,(.k (.str ⟨#[104,105,103,104]⟩))),(1,1,(ki 0)),(2,1,(.t 18)),(3,1,(ki 4000))])),(so 20 (.bsl 189 1 [(.str ⟨#[]⟩),(.int .i64 0),(.slice none 0 0),(.int .i64 0)] [(0,4,(.t 19))])),(so 21 (.agg [(.str ⟨#[]⟩),(.int .i64 0),(.int .i64 0),(.int .i64 0),(.int .i64 0),(.int .i64 0)] [(0,1,(.k (.str ⟨#[99]⟩))),(3,1,(ki 80)),(5,1,(ki 1))])),(so 22 (.bsl 82 1 [(.str ⟨#[]⟩),(.int .i64 0),(.int .i64 0),(.int .i64 0),(.int .i64 0),(.int .i64 0)] [(0,6,(.t 21))])),(so 23 (.agg [(.slice none 0 0),(.slice none 0 0),(.slice none 0 0),(.slice none 0 0)] [(0,1,(.t 20)),(3,1,(.t 22))])),(so 2 (.new 31 [(.slice none 0 0),(.slice none 0 0),(.slice none 0 0),(.slice none 0 0)])),(b8 4 2 23)] (rg [(sc 24 2 1),(sc 25 4 2),(so 26 (.bsl 3 1 [(.int .i64 0)] [(0,1,(ki 0))])),(so 27 (.agg (zs 3) [(2,1,(ki 1000))])),(so 28 (.bsl 85 1 (zs 3) [(0,3,(.t 27))])),(so 29 (.agg [(.slice none 0 0),(.slice none 0 0),(.int .i64 0),(.slice none 0 0),(.slice none 0 0),(.slice none 0 0),(.slice none 0 0),(.slice none 0 0),(.slice none 0 0)] [(0,2,(.t 24)),(2,1,(ki 1)),(3,4,(.t 25)),(7,1,(.t 26)),(8,1,(.t 28))])),(b8 9 0 29)] .ret)))))⟩
def VL:ay:=⟨16,[.tmp 2],(rg [(so 1 (.box 116 (.t 0))),(so 2 (.mov (.k (.bool false))))] (rg [(se 3 0 1),(sb 4 3),(so 5 (.call 61 [(.t 4),(ki (-1000)),(ki 1000)])),(sa 6 5),⟨(some 7),.fa 1 (.t 1),(some (6,true))⟩,⟨(some 8),.ld (.t 7),(some (6,true))⟩,⟨(some 9),.call 61 [(.t 8),(ki (-1000)),(ki 1000)],(some (6,true))⟩,(so 10 (.pick (.t 6) (.t 9) (.k (.bool false)))),(sa 11 10),⟨(some 12),.lds 2 (.t 1),(some (11,true))⟩,⟨(some 13),.agg (zs 2) [],(some (11,true))⟩,⟨(some 14),.eqa true 2 (.t 12) (.t 13),(some (11,true))⟩,(so 15 (.pick (.t 11) (.t 14) (.k (.bool false)))),(sa 2 15)] .ret))⟩
def V8:ay:=⟨9,[.cell 4 (some 2)],(rg [(so 3 (.box 109 (.t 0))),(so 4 (.new 39 (zs 2)))] (rg [(sc 5 16 3),(sc 6 4 1),(sc 7 2 2),(b3 8 56 [5,6,7]),(b8 2 4 8)] .ret))⟩
def TM:ay:=⟨82,[.cell 6 (some 2)],(rg [(so 3 (.box 109 (.t 0))),(so 4 (.box 37 (.t 1))),(so 5 (.box 116 (.t 2))),(so 6 (.new 39 (zs 2)))] (.seq (.draw [⟨(sc 11 16 3),none,[7],[]⟩,⟨(b3 12 111 [11]),none,[7],[]⟩,⟨(sc 13 16 3),none,[7],[]⟩,⟨(sc 14 4 4),none,[7],[]⟩,⟨(sc 15 16 3),none,[7],[]⟩,⟨(b3 16 111 [15]),none,[7],[]⟩,⟨(b3 17 112 [13,14,16]),none,[7],[]⟩,⟨(so 8 (.new 39 (zs 2))),(some 0),[],[.fresh 0]⟩,(ea 7 12),⟨(b8 2 8 17),none,[],[.fresh 0]⟩]) (.seq (.draw [⟨(se 19 0 3),none,[37],[]⟩,⟨(se 20 0 19),none,[37],[]⟩,⟨(sc 21 2 20),none,[37],[]⟩,⟨(se 22 0 3),none,[37],[]⟩,⟨(se 23 2 22),none,[37],[]⟩,⟨(sb 24 23),none,[37],[]⟩,⟨(sc 25 2 5),none,[37],[]⟩,⟨(se 26 10 3),none,[37],[]⟩,⟨(se 27 1 26),none,[37],[]⟩,⟨(sb 28 27),none,[37],[]⟩,⟨(se 29 2 4),none,[37],[]⟩,⟨(sb 30 29),none,[37],[]⟩,⟨(b1 31 .sub 28 30),none,[37],[]⟩,⟨(se 32 10 3),none,[37],[]⟩,⟨(se 33 1 32),none,[37],[]⟩,⟨(sb 34 33),none,[37],[]⟩,⟨(se 35 0 4),none,[37],[]⟩,⟨(sb 36 35),none,[37],[]⟩,⟨(b1 37 .sub 34 36),none,[37],[]⟩,⟨(se 38 10 3),none,[37],[]⟩,⟨(se 39 2 38),none,[37],[]⟩,⟨(sb 40 39),none,[37],[]⟩,⟨(se 41 3 4),none,[37],[]⟩,⟨(sb 42 41),none,[37],[]⟩,⟨(b1 43 .sub 40 42),none,[37],[]⟩,⟨(se 44 10 3),none,[37],[]⟩,⟨(se 45 2 44),none,[37],[]⟩,⟨(sb 46 45),none,[37],[]⟩,⟨(se 47 1 4),none,[37],[]⟩,⟨(sb 48 47),none,[37],[]⟩,⟨(b1 49 .sub 46 48),none,[37],[]⟩,⟨(b3 50 125 [25,31,37,43,49]),none,[37],[]⟩,⟨(sa 51 7),none,[37],[]⟩,⟨(b3 52 124 [21,24,50,51]),none,[37],[]⟩,⟨(sa 18 52),none,[37],[]⟩,⟨(so 53 (.ext (.t 18) 0)),none,[37],[]⟩,⟨(so 54 (.ext (.t 18) 1)),none,[37,38],[]⟩,⟨(so 9 (.new 39 (zs 2))),(some 0),[],[.fresh 0]⟩,⟨(b8 2 9 53),none,[],[.fresh 0]⟩,(ea 10 54)]) (.seq (.draw [(ec 55 16 3),(ec 56 4 4),(ee 57 0 8),(eb 58 57),(eo 59 (.bin .mul (ki 1000) (.t 58))),(ee 60 0 9),(eb 61 60),(d1 62 .mul 59 61),(ea 63 7),(ea 64 7),(d1 65 .mul 63 64),(eo 66 (.agg (zs 2) [(0,1,(.t 62)),(1,1,(.t 65))])),(d3 67 106 [66]),(eo 68 (.bin .mul (ki 100) (.t 67))),(ee 69 1 8),(eb 70 69),(eo 71 (.bin .mul (ki 1000) (.t 70))),(ee 72 1 9),(eb 73 72),(d1 74 .mul 71 73),(ea 75 7),(ea 76 7),(d1 77 .mul 75 76),(eo 78 (.agg (zs 2) [(0,1,(.t 74)),(1,1,(.t 77))])),(d3 79 108 [78]),(eo 80 (.bin .mul (ki 100) (.t 79))),(d3 81 116 [55,56,68,80]),⟨(b8 2 6 81),none,[],[.slot 6]⟩]) .ret))))⟩
def UF:ay:=⟨36,[.tmp 2,.tmp 3,.tmp 4],(rg [(so 1 (.box 25 (.t 0))),(b6 2 0),(b6 3 0),(b6 4 0)] (.seq (rg [(se 5 0 1),(sb 6 5),(b4 7 6),(b2 8 .gtr 7 10),(sa 9 8),⟨(some 10),.fa 1 (.t 1),(some (9,false))⟩,⟨(some 11),.ld (.t 10),(some (9,false))⟩,⟨(some 12),.len (.t 11),(some (9,false))⟩,⟨(some 13),.bin .gtr (.t 12) (ki 20),(some (9,false))⟩,(so 14 (.pick (.t 9) (.k (.bool true)) (.t 13)))] (.cond (.t 14) (rg [(b6 2 0),(b6 3 0),(b6 4 3)] .ret) .skip)) (.seq (rg [(se 16 0 1),(sb 17 16),(so 18 (.call 127 [(.t 17),(.k (.fn (.func 128) [] [])),(.k (.fn (.func 129) [] []))])),(sa 15 18),(so 19 (.ext (.t 15) 0)),(so 20 (.ext (.t 15) 1)),(sa 3 19),(sa 4 20)] (rg [(sa 21 4),(b2 22 .neq 21 0)] (.cond (.t 22) (rg [(sa 23 3),(sa 24 4),(b6 2 1),(sa 3 23),(sa 4 24)] .ret) .skip))) (rg [(se 26 1 1),(sb 27 26),(so 28 (.mkf (.func 132) [] [(.t 1)])),(so 29 (.call 130 [(.t 27),(.k (.fn (.func 131) [] [])),(.t 28)])),(sa 25 29),(so 30 (.ext (.t 25) 0)),(so 31 (.ext (.t 25) 1)),(sa 3 30),(sa 4 31)] (.seq (rg [(sa 32 4),(b2 33 .neq 32 0)] (.cond (.t 33) (rg [(sa 34 3),(sa 35 4),(b6 2 2),(sa 3 34),(sa 4 35)] .ret) .skip)) (rg [(b6 2 0),(b6 3 0),(b6 4 0)] .ret))))))⟩
def s23:ay:=⟨75,[.tmp 2,.tmp 3,.tmp 4],(rg [(so 1 (.box 31 (.t 0))),(b6 2 0),(b6 3 0),(b6 4 0)] (.seq (rg [(se 13 0 1),(sb 14 13),(b4 15 14),(b2 16 .gtr 15 8),(sa 17 16),⟨(some 18),.fa 1 (.t 1),(some (17,false))⟩,⟨(some 19),.ld (.t 18),(some (17,false))⟩,⟨(some 20),.len (.t 19),(some (17,false))⟩,⟨(some 21),.bin .gtr (.t 20) (ki 12),(some (17,false))⟩,(so 22 (.pick (.t 17) (.k (.bool true)) (.t 21))),(sa 23 22),⟨(some 24),.fa 2 (.t 1),(some (23,false))⟩,⟨(some 25),.ld (.t 24),(some (23,false))⟩,⟨(some 26),.len (.t 25),(some (23,false))⟩,⟨(some 27),.bin .gtr (.t 26) (ki 8),(some (23,false))⟩,(so 28 (.pick (.t 23) (.k (.bool true)) (.t 27))),(sa 29 28),⟨(some 30),.fa 3 (.t 1),(some (29,false))⟩,⟨(some 31),.ld (.t 30),(some (29,false))⟩,⟨(some 32),.len (.t 31),(some (29,false))⟩,⟨(some 33),.bin .gtr (.t 32) (ki 24),(some (29,false))⟩,(so 34 (.pick (.t 29) (.k (.bool true)) (.t 33)))] (.cond (.t 34) (rg [(b6 2 0),(b6 3 0),(b6 4 3)] .ret) .skip)) (.seq (rg [(se 36 0 1),(sb 37 36),(so 38 (.call 135 [(.t 37),(.k (.fn (.func 136) [] []))])),(sa 35 38),(so 39 (.ext (.t 35) 0)),(so 40 (.ext (.t 35) 1)),(sa 5 39),(sa 6 40)] (rg [(sa 41 6),(b2 42 .neq 41 0)] (.cond (.t 42) (rg [(sa 43 5),(sa 44 6),(b6 2 1),(sa 3 43),(sa 4 44)] .ret) .skip))) (.seq (rg [(se 46 1 1),(sb 47 46),(so 48 (.call 137 [(.t 47),(.k (.fn (.func 138) [] []))])),(sa 45 48),(so 49 (.ext (.t 45) 0)),(so 50 (.ext (.t 45) 1)),(sa 7 49),(sa 8 50)] (rg [(sa 51 8),(b2 52 .neq 51 0)] (.cond (.t 52) (rg [(sa 53 7),(sa 54 8),(b6 2 2),(sa 3 53),(sa 4 54)] .ret) .skip))) (.seq (rg [(se 56 2 1),(sb 57 56),(so 58 (.call 139 [(.t 57),(.k (.fn (.func 140) [] []))])),(sa 55 58),(so 59 (.ext (.t 55) 0)),(so 60 (.ext (.t 55) 1)),(sa 9 59),(sa 10 60)] (rg [(sa 61 10),(b2 62 .neq 61 0)] (.cond (.t 62) (rg [(sa 63 9),(sa 64 10),(b6 2 3),(sa 3 63),(sa 4 64)] .ret) .skip))) (.seq (rg [(se 66 3 1),(sb 67 66),(so 68 (.call 141 [(.t 67),(.k (.fn (.func 142) [] []))])),(sa 65 68),(so 69 (.ext (.t 65) 0)),(so 70 (.ext (.t 65) 1)),(sa 11 69),(sa 12 70)] (rg [(sa 71 12),(b2 72 .neq 71 0)] (.cond (.t 72) (rg [(sa 73 11),(sa 74 12),(b6 2 4),(sa 3 73),(sa 4 74)] .ret) .skip))) (rg [(b6 2 0),(b6 3 0),(b6 4 0)] .ret)))))))⟩
def My:ay:=⟨15,[.tmp 6],(rg [(so 6 (.mov (.k (.bool false))))] (rg [(sa 7 1),(sa 8 0),(b1 9 .leq 7 8),(sa 10 9),⟨(some 11),.mov (.t 0),(some (10,true))⟩,⟨(some 12),.mov (.t 2),(some (10,true))⟩,⟨(some 13),.bin .leq (.t 11) (.t 12),(some (10,true))⟩,(so 14 (.pick (.t 10) (.t 13) (.k (.bool false)))),(sa 6 14)] .ret))⟩
def Nj:ay:=⟨21,[.tmp 2],(rg [(so 1 (.box 126 (.t 0))),(b6 2 0)] (rg [(se 6 4 1),(sb 7 6),(sa 3 7)] (.seq (rg [(se 8 3 1),(sb 9 8),(b4 10 9),(b6 11 0)] (.block 0 (.loop (rg [(b1 12 .lss 11 10)] (.seq (.cond (.t 12) .skip (.exit 0)) (.seq (.block 1 (rg [(b7 13 1 9 11),(sb 14 13),(sa 5 14)] (.reg [(sa 15 3),(sa 16 5),(b3 17 143 [16]),(so 18 (.mm true (.t 15) [(.t 17)])),(sa 3 18)]))) (.reg [(b2 19 .add 11 1),(sa 11 19)]))))))) (rg [(sa 20 3),(sa 2 20)] .ret))))⟩
def M7:ay:=⟨47,[.tmp 2,.tmp 3,.tmp 4],(rg [(so 1 (.box 25 (.t 0))),(b6 2 0),(b6 3 0),(b6 4 0)] (.seq (rg [(se 9 0 1),(sb 10 9),(b4 11 10),(b2 12 .gtr 11 10),(sa 13 12),⟨(some 14),.fa 1 (.t 1),(some (13,false))⟩,⟨(some 15),.ld (.t 14),(some (13,false))⟩,⟨(some 16),.len (.t 15),(some (13,false))⟩,⟨(some 17),.bin .gtr (.t 16) (ki 20),(some (13,false))⟩,(so 18 (.pick (.t 13) (.k (.bool true)) (.t 17)))] (.cond (.t 18) (rg [(b6 2 0),(b6 3 0),(b6 4 3)] .ret) .skip)) (.seq (rg [(b6 5 0)] (.block 0 (.loop (.seq (rg [(sa 19 5),(se 20 0 1),(sb 21 20),(b4 22 21),(b1 23 .lss 19 22)] (.cond (.t 23) .skip (.exit 0))) (.seq (.block 1 (rg [(sc 26 2 1),(sa 27 5),(b3 28 144 [26,27]),(sa 6 28)] (rg [(sa 29 6),(b2 30 .neq 29 0)] (.cond (.t 30) (rg [(sa 31 5),(sa 32 6),(b6 2 1),(sa 3 31),(sa 4 32)] .ret) .skip)))) (.reg [(sa 24 5),(b2 25 .add 24 1),(sa 5 25)])))))) (.seq (rg [(b6 7 0)] (.block 2 (.loop (.seq (rg [(sa 33 7),(se 34 1 1),(sb 35 34),(b4 36 35),(b1 37 .lss 33 36)] (.cond (.t 37) .skip (.exit 2))) (.seq (.block 3 (rg [(sc 40 2 1),(sa 41 7),(b3 42 145 [40,41]),(sa 8 42)] (rg [(sa 43 8),(b2 44 .neq 43 0)] (.cond (.t 44) (rg [(sa 45 7),(sa 46 8),(b6 2 2),(sa 3 45),(sa 4 46)] .ret) .skip)))) (.reg [(sa 38 7),(b2 39 .add 38 1),(sa 7 39)])))))) (rg [(b6 2 0),(b6 3 0),(b6 4 0)] .ret)))))⟩
def s24:ay:=⟨123,[.tmp 2,.tmp 3,.tmp 4],(rg [(so 1 (.box 31 (.t 0))),(b6 2 0),(b6 3 0),(b6 4 0)] (.seq (rg [(se 13 0 1),(sb 14 13),(b4 15 14),(b2 16 .gtr 15 8),(sa 17 16),⟨(some 18),.fa 1 (.t 1),(some (17,false))⟩,⟨(some 19),.ld (.t 18),(some (17,false))⟩,⟨(some 20),.len (.t 19),(some (17,false))⟩,⟨(some 21),.bin .gtr (.t 20) (ki 12),(some (17,false))⟩,(so 22 (.pick (.t 17) (.k (.bool true)) (.t 21))),(sa 23 22),⟨(some 24),.fa 2 (.t 1),(some (23,false))⟩,⟨(some 25),.ld (.t 24),(some (23,false))⟩,⟨(some 26),.len (.t 25),(some (23,false))⟩,⟨(some 27),.bin .gtr (.t 26) (ki 8),(some (23,false))⟩,(so 28 (.pick (.t 23) (.k (.bool true)) (.t 27))),(sa 29 28),⟨(some 30),.fa 3 (.t 1),(some (29,false))⟩,⟨(some 31),.ld (.t 30),(some (29,false))⟩,⟨(some 32),.len (.t 31),(some (29,false))⟩,⟨(some 33),.bin .gtr (.t 32) (ki 24),(some (29,false))⟩,(so 34 (.pick (.t 29) (.k (.bool true)) (.t 33)))] (.cond (.t 34) (rg [(b6 2 0),(b6 3 0),(b6 4 3)] .ret) .skip)) (.seq (rg [(b6 5 0)] (.block 0 (.loop (.seq (rg [(sa 35 5),(se 36 0 1),(sb 37 36),(b4 38 37),(b1 39 .lss 35 38)] (.cond (.t 39) .skip (.exit 0))) (.seq (.block 1 (rg [(sc 42 4 1),(sa 43 5),(b3 44 146 [42,43]),(sa 6 44)] (rg [(sa 45 6),(b2 46 .neq 45 0)] (.cond (.t 46) (rg [(sa 47 5),(sa 48 6),(b6 2 1),(sa 3 47),(sa 4 48)] .ret) .skip)))) (.reg [(sa 40 5),(b2 41 .add 40 1),(sa 5 41)])))))) (.seq (rg [(b6 7 0)] (.block 2 (.loop (.seq (rg [(sa 49 7),(se 50 1 1),(sb 51 50),(b4 52 51),(b1 53 .lss 49 52)] (.cond (.t 53) .skip (.exit 2))) (.seq (.block 3 (rg [(se 56 1 1),(sb 57 56),(sa 58 7),(b7 59 5 57 58),(sc 60 5 59),(so 8 (.new 138 (zs 5))),(b8 5 8 60)] (rg [(se 61 0 8),(sb 62 61),(se 63 1 8),(sb 64 63),(so 65 (.bsl 3 2 (zs 2) [(0,1,(.t 62)),(1,1,(.t 64))])),(b3 66 147 [65]),(b5 67 66),(sa 68 67),⟨(some 69),.fa 2 (.t 8),(some (68,false))⟩,⟨(some 70),.ld (.t 69),(some (68,false))⟩,⟨(some 71),.call 148 [(.t 70),(ki 1),(ki 20000)],(some (68,false))⟩,⟨(some 72),.un .not (.t 71),(some (68,false))⟩,(so 73 (.pick (.t 68) (.k (.bool true)) (.t 72))),(sa 74 73),⟨(some 75),.fa 3 (.t 8),(some (74,false))⟩,⟨(some 76),.ld (.t 75),(some (74,false))⟩,⟨(some 77),.bin .lss (.t 76) (ki 0),(some (74,false))⟩,(so 78 (.pick (.t 74) (.k (.bool true)) (.t 77))),(sa 79 78),⟨(some 80),.fa 3 (.t 8),(some (79,false))⟩,⟨(some 81),.ld (.t 80),(some (79,false))⟩,⟨(some 82),.fa 4 (.t 8),(some (79,false))⟩,⟨(some 83),.ld (.t 82),(some (79,false))⟩,⟨(some 84),.bin .geq (.t 81) (.t 83),(some (79,false))⟩,(so 85 (.pick (.t 79) (.k (.bool true)) (.t 84))),(sa 86 85),⟨(some 87),.fa 4 (.t 8),(some (86,false))⟩,⟨(some 88),.ld (.t 87),(some (86,false))⟩,⟨(some 89),.bin .gtr (.t 88) (ki 1000),(some (86,false))⟩,(so 90 (.pick (.t 86) (.k (.bool true)) (.t 89)))] (.cond (.t 90) (rg [(sa 91 7),(b6 2 2),(sa 3 91),(b6 4 7)] .ret) .skip)))) (.reg [(sa 54 7),(b2 55 .add 54 1),(sa 7 55)])))))) (.seq (rg [(b6 9 0)] (.block 4 (.loop (.seq (rg [(sa 92 9),(se 93 2 1),(sb 94 93),(b4 95 94),(b1 96 .lss 92 95)] (.cond (.t 96) .skip (.exit 4))) (.seq (.block 5 (rg [(se 99 2 1),(sb 100 99),(sa 101 9),(b7 102 5 100 101),(sc 103 5 102),(b3 104 149 [103]),(sa 10 104)] (rg [(sa 105 10),(b2 106 .neq 105 0)] (.cond (.t 106) (rg [(sa 107 9),(sa 108 10),(b6 2 3),(sa 3 107),(sa 4 108)] .ret) .skip)))) (.reg [(sa 97 9),(b2 98 .add 97 1),(sa 9 98)])))))) (.seq (rg [(b6 11 0)] (.block 6 (.loop (.seq (rg [(sa 109 11),(se 110 3 1),(sb 111 110),(b4 112 111),(b1 113 .lss 109 112)] (.cond (.t 113) .skip (.exit 6))) (.seq (.block 7 (rg [(sc 116 4 1),(sa 117 11),(b3 118 150 [116,117]),(sa 12 118)] (rg [(sa 119 12),(b2 120 .neq 119 0)] (.cond (.t 120) (rg [(sa 121 11),(sa 122 12),(b6 2 4),(sa 3 121),(sa 4 122)] .ret) .skip)))) (.reg [(sa 114 11),(b2 115 .add 114 1),(sa 11 115)])))))) (rg [(b6 2 0),(b6 3 0),(b6 4 0)] .ret)))))))⟩
def S8:ay:=⟨15,[.tmp 6],(rg [(so 6 (.mov (.k (.bool false))))] (rg [(sa 7 0),(sa 8 1),(b1 9 .geq 7 8),(sa 10 9),⟨(some 11),.mov (.t 0),(some (10,true))⟩,⟨(some 12),.mov (.t 2),(some (10,true))⟩,⟨(some 13),.bin .leq (.t 11) (.t 12),(some (10,true))⟩,(so 14 (.pick (.t 10) (.t 13) (.k (.bool false)))),(sa 6 14)] .ret))⟩
def Mq:ay:=⟨36,[.tmp 2],(rg [(so 1 (.box 126 (.t 0))),(b6 2 0)] (rg [(se 6 4 1),(sb 7 6),(sa 3 7)] (.seq (rg [(b6 4 0)] (.block 0 (.loop (.seq (rg [(sa 8 4),(se 9 3 1),(sb 10 9),(b4 11 10),(b1 12 .lss 8 11)] (.cond (.t 12) .skip (.exit 0))) (.seq (.block 1 (rg [(b6 5 0)] (.block 2 (.loop (.seq (rg [(sa 15 5),(se 16 3 1),(sb 17 16),(sa 18 4),(b7 19 1 17 18),(sb 20 19),(b4 21 20),(b1 22 .lss 15 21)] (.cond (.t 22) .skip (.exit 2))) (.seq (.block 3 (.reg [(sa 25 3),(se 26 3 1),(sb 27 26),(sa 28 4),(b7 29 1 27 28),(sb 30 29),(sa 31 5),(b7 32 1 30 31),(sb 33 32),(so 34 (.mm true (.t 25) [(.t 33)])),(sa 3 34)])) (.reg [(sa 23 5),(b2 24 .add 23 1),(sa 5 24)]))))))) (.reg [(sa 13 4),(b2 14 .add 13 1),(sa 4 14)])))))) (rg [(sa 35 3),(sa 2 35)] .ret))))⟩
def VM:ay:=⟨67,[.tmp 4],(rg [(so 2 (.box 35 (.t 0))),(b6 4 0)] (.seq (.draw [⟨(se 9 7 2),none,[10],[]⟩,⟨(sb 10 9),none,[10],[]⟩,⟨(sa 11 1),none,[10],[]⟩,⟨(b7 12 1 10 11),none,[10],[]⟩,⟨(sb 13 12),none,[10],[]⟩,⟨(se 14 8 2),none,[10],[]⟩,⟨(sb 15 14),none,[10],[]⟩,⟨(sa 16 1),none,[10],[]⟩,⟨(b7 17 3 15 16),none,[10],[]⟩,⟨(sc 18 3 17),none,[10],[]⟩,⟨(so 6 (.new 85 (zs 3))),(some 0),[],[.fresh 0]⟩,(ea 5 13),⟨(b8 3 6 18),none,[],[.fresh 0]⟩]) (.seq (rg [(sa 19 5),(se 20 0 2),(se 21 1 20),(sb 22 21),(b4 23 22),(b2 24 .sub 23 1),(so 25 (.call 65 [(.t 19),(ki (-1)),(.t 24)])),(b5 26 25)] (.cond (.t 26) (rg [(b6 4 4)] .ret) .skip)) (.seq (rg [(se 27 0 6),(sb 28 27),(so 29 (.call 65 [(.t 28),(ki 0),(ki 200000)])),(b5 30 29),(sa 31 30),⟨(some 32),.fa 1 (.t 6),(some (31,false))⟩,⟨(some 33),.ld (.t 32),(some (31,false))⟩,⟨(some 34),.call 65 [(.t 33),(ki 0),(ki 600)],(some (31,false))⟩,⟨(some 35),.un .not (.t 34),(some (31,false))⟩,(so 36 (.pick (.t 31) (.k (.bool true)) (.t 35))),(sa 37 36),⟨(some 38),.fa 2 (.t 6),(some (37,false))⟩,⟨(some 39),.ld (.t 38),(some (37,false))⟩,⟨(some 40),.call 65 [(.t 39),(ki 0),(ki 1000)],(some (37,false))⟩,⟨(some 41),.un .not (.t 40),(some (37,false))⟩,(so 42 (.pick (.t 37) (.k (.bool true)) (.t 41)))] (.cond (.t 42) (rg [(b6 4 7)] .ret) .skip)) (.seq (rg [(sa 43 5),(b2 44 .geq 43 0)] (.cond (.t 44) (rg [(se 45 0 2),(se 46 1 45),(sb 47 46),(sa 48 5),(b7 49 14 47 48),(sc 50 14 49),(so 7 (.new 128 [(.str ⟨#[]⟩),(.int .i64 0),(.int .i64 0),(.int .i64 0),(.int .i64 0),(.int .i64 0),(.int .i64 0),(.int .i64 0),(.int .i64 0),(.int .i64 0),(.int .i64 0),(.int .i64 0),(.int .i64 0),(.int .i64 0)])),(b8 14 7 50)] (rg [(se 51 0 2),(se 52 0 51),(sb 53 52),(se 54 1 7),(sb 55 54),(b7 56 6 53 55),(sc 57 6 56),(so 8 (.new 126 [(.str ⟨#[]⟩),(.slice none 0 0),(.slice none 0 0),(.slice none 0 0),(.int .i64 0),(.int .i64 0)])),(b8 6 8 57)] (.seq (.draw [(ec 58 6 8),(d3 59 66 [58]),(ee 60 5 8),(eb 61 60),(eo 62 (.mm true (.t 59) [(.t 61)])),(ee 63 3 7),(eb 64 63),(d1 65 .mul 62 64),(d2 66 .gtr 65 100000000000)]) (.cond (.t 66) (rg [(b6 4 7)] .ret) .skip)))) .skip)) (rg [(b6 4 0)] .ret))))))⟩
def yX:ay:=⟨31,[.cell 4 (some 4)],(rg [(so 2 (.box 82 (.t 0))),(so 3 (.box 37 (.t 1))),(so 4 (.new 55 (zs 4)))] (rg [(se 5 4 2),(sb 6 5),(se 7 5 2),(sb 8 7),(so 9 (.agg (zs 2) [(0,1,(.t 6)),(1,1,(.t 8))])),(se 10 0 3),(sb 11 10),(se 12 1 2),(sb 13 12),(b1 14 .sub 11 13),(se 15 2 3),(sb 16 15),(se 17 1 2),(sb 18 17),(b1 19 .sub 16 18),(se 20 1 3),(sb 21 20),(se 22 2 2),(sb 23 22),(b1 24 .sub 21 23),(se 25 3 3),(sb 26 25),(se 27 2 2),(sb 28 27),(b1 29 .sub 26 28),(b3 30 125 [9,14,19,24,29]),(b8 4 4 30)] .ret))⟩
def WO:ay:=⟨13,[.tmp 2],(rg [(so 1 (.box 35 (.t 0))),(b6 2 0)] (rg [(sc 7 9 1),(b3 8 23 [7]),(sa 6 8),(so 9 (.ext (.t 6) 0)),(so 10 (.ext (.t 6) 1)),(so 11 (.ext (.t 6) 2)),(sa 3 9),(sa 4 10),(sa 5 11)] (rg [(sa 12 5),(sa 2 12)] .ret)))⟩
def TI:ay:=⟨30,[.cell 4 (some 4)],(rg [(so 2 (.box 82 (.t 0))),(so 3 (.box 37 (.t 1))),(so 4 (.new 55 (zs 4)))] (rg [(se 5 0 3),(sb 6 5),(se 7 1 2),(sb 8 7),(b1 9 .sub 6 8),(se 10 2 3),(sb 11 10),(se 12 1 2),(sb 13 12),(b1 14 .sub 11 13),(se 15 1 3),(sb 16 15),(se 17 2 2),(sb 18 17),(b1 19 .sub 16 18),(se 20 3 3),(sb 21 20),(se 22 2 2),(sb 23 22),(b1 24 .sub 21 23),(se 25 4 2),(sb 26 25),(se 27 5 2),(sb 28 27),(b3 29 151 [9,14,19,24,26,28]),(b8 4 4 29)] .ret))⟩
def NV:ay:=⟨6,[.tmp 2],(rg [(so 2 (.mov (.k (.bool false))))] (rg [(sa 3 0),(so 4 (.call 152 [(.t 3),(.k (.fn (.func 153) [] []))])),(b5 5 4),(sa 2 5)] .ret))⟩
def VU:ay:=⟨5,[.tmp 2],(rg [(so 2 (.mov (.k (.bool false))))] (rg [(sa 3 0),(so 4 (.call 65 [(.t 3),(ki (-100000)),(ki 100000)])),(sa 2 4)] .ret))⟩
def Tv:ay:=⟨4,[.tmp 2],(rg [(so 1 (.box 35 (.t 0))),(so 2 (.mov (.k (.raw .nilFunc))))] (rg [(so 3 (.mkf (.func 158) [] [(.t 1)])),(sa 2 3)] .ret))⟩
def s44:ay:=⟨37,[.tmp 4],(rg [(so 2 (.box 31 (.t 0))),(b6 4 0)] (rg [(sc 10 4 2),(b3 11 60 [10]),(sa 9 11),(so 12 (.ext (.t 9) 0)),(so 13 (.ext (.t 9) 1)),(so 14 (.ext (.t 9) 2)),(sa 5 12),(sa 6 13),(sa 7 14)] (.seq (rg [(b6 8 0)] (.block 0 (.loop (.seq (rg [(sa 15 8),(sa 16 1),(b4 17 16),(b1 18 .lss 15 17),(sa 19 18),⟨(some 20),.mov (.t 7),(some (19,true))⟩,⟨(some 21),.bin .eql (.t 20) (ki 0),(some (19,true))⟩,(so 22 (.pick (.t 19) (.t 21) (.k (.bool false))))] (.cond (.t 22) .skip (.exit 0))) (.seq (.block 1 (.seq (.draw [(ea 25 1),(ea 26 8),(d7 27 1 25 26),(eb 28 27),(ea 29 1),(ea 30 8),(d2 31 .add 30 1),(d7 32 1 29 31),(eb 33 32),(d2 34 .sub 33 1),(eo 35 (.call 161 [(.t 28),(ki 0),(.t 34)]))]) (.cond (.t 35) (.reg [(b6 7 4)]) .skip))) (.reg [(sa 23 8),(b2 24 .add 23 2),(sa 8 24)])))))) (rg [(sa 36 7),(sa 4 36)] .ret))))⟩
def Wy:ay:=⟨34,[.cell 4 (some 14),.tmp 5],(rg [(so 2 (.box 25 (.t 0))),(so 4 (.new 128 [(.str ⟨#[]⟩),(.int .i64 0),(.int .i64 0),(.int .i64 0),(.int .i64 0),(.int .i64 0),(.int .i64 0),(.int .i64 0),(.int .i64 0),(.int .i64 0),(.int .i64 0),(.int .i64 0),(.int .i64 0),(.int .i64 0)])),(b6 5 0)] (rg [(sc 10 2 2),(b3 11 59 [10]),(sa 9 11),(so 12 (.ext (.t 9) 0)),(so 13 (.ext (.t 9) 1)),(so 14 (.ext (.t 9) 2)),(sa 6 12),(sa 7 13),(sa 8 14)] (.seq (.block 0 (rg [(sa 16 8),(b2 17 .neq 16 0),(sa 15 17)] (.cond (.t 15) (rg [(so 18 (.agg [(.str ⟨#[]⟩),(.int .i64 0),(.int .i64 0),(.int .i64 0),(.int .i64 0),(.int .i64 0),(.int .i64 0),(.int .i64 0),(.int .i64 0),(.int .i64 0),(.int .i64 0),(.int .i64 0),(.int .i64 0),(.int .i64 0)] [])),(sa 19 8),(b8 14 4 18),(sa 5 19)] .ret) (rg [(sa 21 1),(se 22 1 2),(sb 23 22),(b4 24 23),(b2 25 .sub 24 1),(so 26 (.call 133 [(.t 21),(ki 0),(.t 25)])),(b5 27 26),(sa 20 27)] (.cond (.t 20) (rg [(so 28 (.agg [(.str ⟨#[]⟩),(.int .i64 0),(.int .i64 0),(.int .i64 0),(.int .i64 0),(.int .i64 0),(.int .i64 0),(.int .i64 0),(.int .i64 0),(.int .i64 0),(.int .i64 0),(.int .i64 0),(.int .i64 0),(.int .i64 0)] [])),(b8 14 4 28),(b6 5 4)] .ret) .skip))))) (rg [(se 29 1 2),(sb 30 29),(sa 31 1),(b7 32 14 30 31),(sc 33 14 32),(b8 14 4 33),(b6 5 0)] .ret))))⟩
def TB:ay:=⟨19,[.tmp 2],(rg [(so 1 (.box 85 (.t 0))),(so 2 (.mov (.k (.bool false))))] (rg [(se 3 0 1),(sb 4 3),(so 5 (.call 133 [(.t 4),(ki 0),(ki 200000)])),(b5 6 5),(sa 7 6),⟨(some 8),.fa 1 (.t 1),(some (7,false))⟩,⟨(some 9),.ld (.t 8),(some (7,false))⟩,⟨(some 10),.call 133 [(.t 9),(ki 0),(ki 600)],(some (7,false))⟩,⟨(some 11),.un .not (.t 10),(some (7,false))⟩,(so 12 (.pick (.t 7) (.k (.bool true)) (.t 11))),(sa 13 12),⟨(some 14),.fa 2 (.t 1),(some (13,false))⟩,⟨(some 15),.ld (.t 14),(some (13,false))⟩,⟨(some 16),.call 133 [(.t 15),(ki 0),(ki 1000)],(some (13,false))⟩,⟨(some 17),.un .not (.t 16),(some (13,false))⟩,(so 18 (.pick (.t 13) (.k (.bool true)) (.t 17))),(sa 2 18)] .ret))⟩
def Tr:ay:=⟨35,[.tmp 4],(rg [(so 2 (.box 55 (.t 0))),(b6 4 0)] (.seq (.block 0 (rg [(sa 6 1),(so 7 (.call 133 [(.t 6),(ki 1),(ki 30000)])),(b5 8 7),(sa 9 8),⟨(some 10),.fa 0 (.t 2),(some (9,false))⟩,⟨(some 11),.ld (.t 10),(some (9,false))⟩,⟨(some 12),.fa 1 (.t 2),(some (9,false))⟩,⟨(some 13),.ld (.t 12),(some (9,false))⟩,⟨(some 14),.fa 2 (.t 2),(some (9,false))⟩,⟨(some 15),.ld (.t 14),(some (9,false))⟩,⟨(some 16),.fa 3 (.t 2),(some (9,false))⟩,⟨(some 17),.ld (.t 16),(some (9,false))⟩,⟨(some 18),.bsl 3 4 (zs 4) [(0,1,(.t 11)),(1,1,(.t 13)),(2,1,(.t 15)),(3,1,(.t 17))],(some (9,false))⟩,⟨(some 19),.call 164 [(.t 18),(ki (-200000)),(ki 200000)],(some (9,false))⟩,⟨(some 20),.un .not (.t 19),(some (9,false))⟩,(so 21 (.pick (.t 9) (.k (.bool true)) (.t 20))),(sa 5 21)] (.cond (.t 5) (rg [(b6 4 7)] .ret) (rg [(se 23 0 2),(sb 24 23),(se 25 1 2),(sb 26 25),(b1 27 .gtr 24 26),(sa 28 27),⟨(some 29),.fa 2 (.t 2),(some (28,false))⟩,⟨(some 30),.ld (.t 29),(some (28,false))⟩,⟨(some 31),.fa 3 (.t 2),(some (28,false))⟩,⟨(some 32),.ld (.t 31),(some (28,false))⟩,⟨(some 33),.bin .gtr (.t 30) (.t 32),(some (28,false))⟩,(so 34 (.pick (.t 28) (.k (.bool true)) (.t 33))),(sa 22 34)] (.cond (.t 22) (rg [(b6 4 2)] .ret) .skip))))) (rg [(b6 4 0)] .ret)))⟩
def Tx:ay:=⟨26,[.cell 4 (some 2)],(rg [(so 2 (.box 128 (.t 0))),(so 3 (.box 85 (.t 1))),(so 4 (.new 39 (zs 2)))] (.seq (.draw [(ee 5 3 2),(eb 6 5),(ee 7 7 2),(ee 8 1 7),(eb 9 8),(ee 10 9 2),(ee 11 1 10),(eb 12 11),(ec 13 3 3),(eo 14 (.call 165 [(.t 6),(.t 9),(.t 12),(.t 13),(.k (.fn (.func 91) [] []))])),(ee 15 3 2),(eb 16 15),(ee 17 7 2),(ee 18 0 17),(eb 19 18),(ee 20 9 2),(ee 21 0 20),(eb 22 21),(ec 23 3 3),(eo 24 (.call 165 [(.t 16),(.t 19),(.t 22),(.t 23),(.k (.fn (.func 92) [] []))])),(eo 25 (.agg (zs 2) [(0,1,(.t 14)),(1,1,(.t 24))])),⟨(b8 2 4 25),none,[],[.slot 4]⟩]) .ret))⟩
def Wn:ay:=⟨18,[.cell 4 (some 9)],(rg [(so 2 (.box 126 (.t 0))),(so 3 (.box 3 (.t 1))),(so 4 (.new 161 [(.str ⟨#[]⟩),(.slice none 0 0),(.slice none 0 0),(.slice none 0 0),(.int .i64 0),(.int .i64 0),(.slice none 0 0),(.slice none 0 0),(.int .i64 0)]))] (rg [(so 6 (.mkf (.func 166) [] [(.t 3)])),(sa 5 6)] (.seq (.alloq (.op (sc 7 6 2) (.op (sa 8 5) (.op (se 9 1 2) (.op (sb 10 9) (.op (sa 12 5) (.op (se 13 2 2) (.op (sb 14 13) (.op (sb 16 3) (.op (so 11 (.callv (.t 8) [(.t 10)])) (.op (so 15 (.callv (.t 12) [(.t 14)])) (.op (so 17 (.agg [(.str ⟨#[]⟩),(.slice none 0 0),(.slice none 0 0),(.slice none 0 0),(.int .i64 0),(.int .i64 0),(.slice none 0 0),(.slice none 0 0),(.int .i64 0)] [(0,6,(.t 7)),(6,1,(.t 11)),(7,1,(.t 15)),(8,1,(.t 16))])) (.op (b8 9 4 17) .done))))))))))))) .ret)))⟩
def yB:ay:=⟨66,[.cell 4 (some 2)],(rg [(so 2 (.box 161 (.t 0))),(so 3 (.box 55 (.t 1))),(so 4 (.new 39 (zs 2)))] (.seq (.draw [⟨(se 12 0 3),none,[12,13],[]⟩,⟨(sb 13 12),none,[12,13],[]⟩,⟨(so 14 (.bin .mul (ki 1000) (.t 13))),none,[12,13],[]⟩,⟨(se 15 1 3),none,[12,13],[]⟩,⟨(sb 16 15),none,[12,13],[]⟩,⟨(so 17 (.bin .mul (ki 1000) (.t 16))),none,[12,13],[]⟩,⟨(se 18 2 3),none,[12,13],[]⟩,⟨(sb 19 18),none,[12,13],[]⟩,⟨(so 20 (.bin .mul (ki 1000) (.t 19))),none,[12,13],[]⟩,⟨(se 21 3 3),none,[12,13,16],[]⟩,⟨(sb 22 21),none,[12,13,16],[]⟩,⟨(so 23 (.bin .mul (ki 1000) (.t 22))),none,[12,13,16],[]⟩,⟨(so 7 (.new 3 [(.int .i64 0)])),(some 0),[13],[.fresh 0]⟩,⟨(so 8 (.new 3 [(.int .i64 0)])),(some 1),[12],[.fresh 1]⟩,(ea 5 14),(ea 6 17),⟨(b8 1 7 20),none,[],[.fresh 0]⟩,⟨(b8 1 8 23),none,[],[.fresh 1]⟩]) (.seq (.draw [⟨(sc 24 9 2),none,[18],[]⟩,⟨(sa 25 5),none,[18],[]⟩,⟨(sb 26 7),none,[18],[]⟩,⟨(b3 27 168 [24,25,26]),none,[18],[]⟩,⟨(sc 28 9 2),none,[18],[]⟩,⟨(sa 29 5),none,[18],[]⟩,⟨(sb 30 8),none,[18],[]⟩,⟨(b3 31 168 [28,29,30]),none,[18],[]⟩,⟨(sc 32 9 2),none,[18],[]⟩,⟨(sa 33 6),none,[18],[]⟩,⟨(sb 34 7),none,[18],[]⟩,⟨(b3 35 168 [32,33,34]),none,[18],[]⟩,⟨(sc 36 9 2),none,[18],[]⟩,⟨(sa 37 6),none,[18],[]⟩,⟨(sb 38 8),none,[18],[]⟩,⟨(b3 39 168 [36,37,38]),none,[18],[]⟩,⟨(so 40 (.bsl 39 3 (zs 6) [(0,2,(.t 31)),(2,2,(.t 35)),(4,2,(.t 39))])),(some 0),[18],[.fresh 0]⟩,⟨(b3 41 167 [27,40]),none,[18],[]⟩,⟨(so 9 (.new 39 (zs 2))),(some 1),[16],[.fresh 1]⟩,⟨(b8 2 9 41),none,[],[.fresh 1]⟩]) (.seq (rg [(se 42 6 2),(sb 43 42),(sa 44 5),(sa 45 6),(b3 46 169 [43,44,45])] (.block 0 (.range (.t 46) [47] (.reg [(so 10 (.new 3 [(.int .i64 0)])),(b8 1 10 47)]) (.block 1 (rg [(se 48 7 2),(sb 49 48),(sb 50 7),(sb 51 8),(b3 52 169 [49,50,51])] (.block 2 (.range (.t 52) [53] (.reg [(sa 11 53)]) (.block 3 (rg [(sc 54 9 2),(sb 55 10),(sa 56 11),(b3 57 170 [54,55,56])] (.cond (.t 57) (.draw [⟨(sc 58 2 9),none,[5],[]⟩,(ec 59 9 2),(eb 60 10),(ea 61 11),(d3 62 168 [59,60,61]),⟨(so 63 (.bsl 39 1 (zs 2) [(0,2,(.t 62))])),(some 0),[],[.fresh 0]⟩,(d3 64 167 [58,63]),⟨(b8 2 9 64),none,[],[.slot 9]⟩]) .skip))) its)))) its))) (rg [(sc 65 2 9),(b8 2 4 65)] .ret)))))⟩
def UR:ay:=⟨16,[.tmp 4],(rg [(b6 4 0)] (rg [(sa 6 0),(sa 7 1),(b1 8 .quo 6 7),(sa 5 8)] (.seq (rg [(sa 9 0),(sa 10 1),(b1 11 .rem 9 10),(b2 12 .lss 11 0)] (.cond (.t 12) (.reg [(sa 13 5),(b2 14 .sub 13 1),(sa 5 14)]) .skip)) (rg [(sa 15 5),(sa 4 15)] .ret))))⟩
def Te:ay:=⟨10,[.tmp 4],(rg [(b6 4 0)] (rg [(sa 5 0),(so 6 (.un .neg (.t 5))),(sa 7 1),(b3 8 91 [6,7]),(so 9 (.un .neg (.t 8))),(sa 4 9)] .ret))⟩
def Xb:ay:=⟨10,[.tmp 4],(rg [(b6 4 0)] (rg [(sa 5 0),(so 6 (.un .neg (.t 5))),(sa 7 1),(b3 8 120 [6,7]),(so 9 (.un .neg (.t 8))),(sa 4 9)] .ret))⟩
def TD:ay:=⟨18,[.tmp 2],(rg [(so 1 (.box 176 (.t 0))),(b6 2 0)] (rg [(se 4 0 1),(sb 5 4),(se 6 1 1),(sb 7 6),(b1 8 .quo 5 7),(sa 3 8)] (.seq (rg [(se 9 0 1),(sb 10 9),(se 11 1 1),(sb 12 11),(b1 13 .rem 10 12),(b2 14 .lss 13 0)] (.cond (.t 14) (.reg [(sa 15 3),(b2 16 .sub 15 1),(sa 3 16)]) .skip)) (rg [(sa 17 3),(sa 2 17)] .ret))))⟩
def Tk:ay:=⟨11,[.tmp 2],(rg [(so 1 (.box 176 (.t 0))),(b6 2 0)] (rg [(se 3 0 1),(sb 4 3),(so 5 (.un .neg (.t 4))),(se 6 1 1),(sb 7 6),(so 8 (.agg (zs 2) [(0,1,(.t 5)),(1,1,(.t 7))])),(b3 9 106 [8]),(so 10 (.un .neg (.t 9))),(sa 2 10)] .ret))⟩
def Ui:ay:=⟨7,[.tmp 2],(rg [(so 1 (.box 109 (.t 0))),(b6 2 0)] (rg [(se 3 10 1),(se 4 3 3),(sb 5 4),(so 6 (.bin .mul (ki 100) (.t 5))),(sa 2 6)] .ret))⟩
def Db:ay:=⟨36,[.cell 6 (some 2)],(rg [(so 3 (.box 109 (.t 0))),(so 4 (.box 37 (.t 1))),(so 6 (.new 39 (zs 2)))] (.seq (.draw [⟨(se 10 0 3),none,[26],[]⟩,⟨(se 11 0 10),none,[26],[]⟩,⟨(sc 12 2 11),none,[26],[]⟩,⟨(se 13 0 3),none,[26],[]⟩,⟨(se 14 7 13),none,[26],[]⟩,⟨(sb 15 14),none,[26],[]⟩,⟨(se 16 9 3),none,[26],[]⟩,⟨(sb 17 16),none,[26],[]⟩,⟨(b7 18 1 15 17),none,[26],[]⟩,⟨(sb 19 18),none,[26],[]⟩,⟨(se 20 0 3),none,[26],[]⟩,⟨(se 21 8 20),none,[26],[]⟩,⟨(sb 22 21),none,[26],[]⟩,⟨(se 23 9 3),none,[26],[]⟩,⟨(sb 24 23),none,[26],[]⟩,⟨(b7 25 3 22 24),none,[26],[]⟩,⟨(sc 26 3 25),none,[26],[]⟩,⟨(se 27 10 3),none,[26],[]⟩,⟨(sc 28 6 27),none,[26],[]⟩,⟨(sc 29 4 4),none,[26],[]⟩,⟨(b3 30 68 [28,29]),none,[26],[]⟩,⟨(sa 31 2),none,[26],[]⟩,⟨(b3 32 33 [12,19,26,30,31]),none,[26],[]⟩,⟨(sa 9 32),none,[26],[]⟩,⟨(so 33 (.ext (.t 9) 0)),none,[26],[]⟩,⟨(so 34 (.ext (.t 9) 1)),none,[26,27],[]⟩,⟨(so 7 (.new 39 (zs 2))),(some 0),[],[.fresh 0]⟩,⟨(b8 2 7 33),none,[],[.fresh 0]⟩,(ea 8 34)]) (rg [(sc 35 2 7),(b8 2 6 35)] .ret)))⟩
def Xa:ay:=⟨48,[.tmp 4,.tmp 5],(rg [(so 2 (.box 109 (.t 0))),(so 3 (.box 37 (.t 1))),(b6 4 0),(b6 5 0)] (rg [(se 11 0 3),(sb 12 11),(se 13 10 2),(se 14 1 13),(sb 15 14),(b1 16 .sub 12 15),(se 17 2 3),(sb 18 17),(se 19 10 2),(se 20 1 19),(sb 21 20),(b1 22 .sub 18 21),(b3 23 159 [16,22]),(sa 10 23),(so 24 (.ext (.t 10) 0)),(so 25 (.ext (.t 10) 1)),(sa 6 24),(sa 7 25)] (rg [(se 27 1 3),(sb 28 27),(se 29 10 2),(se 30 2 29),(sb 31 30),(b1 32 .sub 28 31),(se 33 3 3),(sb 34 33),(se 35 10 2),(se 36 2 35),(sb 37 36),(b1 38 .sub 34 37),(b3 39 159 [32,38]),(sa 26 39),(so 40 (.ext (.t 26) 0)),(so 41 (.ext (.t 26) 1)),(sa 8 40),(sa 9 41)] (rg [(sa 42 6),(sa 43 8),(b1 44 .add 42 43),(sa 45 7),(sa 46 9),(b1 47 .add 45 46),(sa 4 44),(sa 5 47)] .ret))))⟩
def K6:ay:=⟨14,[.tmp 2],(rg [(b6 2 0)] (rg [(sa 4 0),(b3 5 115 [4]),(sa 3 5)] (.seq (rg [(sa 6 3),(sa 7 3),(b1 8 .mul 6 7),(sa 9 0),(b1 10 .lss 8 9)] (.cond (.t 10) (.reg [(sa 11 3),(b2 12 .add 11 1),(sa 3 12)]) .skip)) (rg [(sa 13 3),(sa 2 13)] .ret))))⟩
def ES:ay:=⟨22,[.tmp 2],(rg [(b6 2 0)] (rg [(b6 3 0)] (.seq (rg [(b6 4 1073741824)] (.block 0 (.loop (.seq (rg [(sa 5 4),(b2 6 .gtr 5 0)] (.cond (.t 6) .skip (.exit 0))) (.seq (.block 1 (rg [(sa 9 3),(sa 10 4),(b1 11 .add 9 10),(sa 12 3),(sa 13 4),(b1 14 .add 12 13),(b1 15 .mul 11 14),(sa 16 0),(b1 17 .leq 15 16)] (.cond (.t 17) (.reg [(sa 18 3),(sa 19 4),(b1 20 .add 18 19),(sa 3 20)]) .skip))) (.reg [(sa 7 4),(b2 8 .quo 7 2),(sa 4 8)])))))) (rg [(sa 21 3),(sa 2 21)] .ret))))⟩
def Dz:ay:=⟨30,[.cell 8 (some 2)],(rg [(so 4 (.box 109 (.t 0))),(so 5 (.box 37 (.t 1))),(so 8 (.new 39 (zs 2)))] (.seq (rg [(se 12 0 4),(se 13 3 12),(sc 14 4 13),(se 15 9 4),(sb 16 15),(sc 17 4 5),(b3 18 188 [14,16,17]),(sa 11 18),(so 19 (.ext (.t 11) 0)),(so 20 (.ext (.t 11) 1)),(sa 9 19),(sa 10 20)] (rg [(sa 21 9)] (.block 0 (rg [(b2 23 .eql 21 2),(sa 22 23)] (.cond (.t 22) (rg [(so 24 (.agg (zs 2) [])),(b8 2 8 24)] .ret) (rg [(b2 26 .eql 21 1),(sa 25 26)] (.cond (.t 25) (.reg [(b6 2 0)]) .skip))))))) (rg [(sa 27 2),(sa 28 3),(so 29 (.agg (zs 2) [(0,1,(.t 27)),(1,1,(.t 28))])),(b8 2 8 29)] .ret)))⟩
def W7:ay:=⟨16,[.tmp 4],(rg [(b6 4 0)] (.seq (rg [(sa 5 0),(sa 6 1),(b1 7 .rem 5 6),(b2 8 .lss 7 0)] (.cond (.t 8) (rg [(sa 9 0),(sa 10 1),(b1 11 .quo 9 10),(b2 12 .sub 11 1),(sa 4 12)] .ret) .skip)) (rg [(sa 13 0),(sa 14 1),(b1 15 .quo 13 14),(sa 4 15)] .ret)))⟩
def UT:ay:=⟨14,[.tmp 2],(rg [(b6 2 0)] (rg [(sa 4 0),(b3 5 122 [4]),(sa 3 5)] (.seq (rg [(sa 6 3),(sa 7 3),(b1 8 .mul 6 7),(sa 9 0),(b1 10 .lss 8 9)] (.cond (.t 10) (.reg [(sa 11 3),(b2 12 .add 11 1),(sa 3 12)]) .skip)) (rg [(sa 13 3),(sa 2 13)] .ret))))⟩
def ML:ay:=⟨22,[.tmp 2],(rg [(b6 2 0)] (rg [(b6 3 0),(b6 4 2000000000)] (.seq (.block 0 (.loop (.seq (rg [(sa 6 4),(sa 7 3),(b1 8 .sub 6 7),(b2 9 .gtr 8 1)] (.cond (.t 9) .skip (.exit 0))) (.block 1 (rg [(sa 10 3),(sa 11 4),(b1 12 .add 10 11),(b2 13 .quo 12 2),(sa 5 13)] (rg [(sa 14 5),(sa 15 5),(b1 16 .mul 14 15),(sa 17 0),(b1 18 .leq 16 17)] (.cond (.t 18) (.reg [(sa 19 5),(sa 3 19)]) (.reg [(sa 20 5),(sa 4 20)])))))))) (rg [(sa 21 3),(sa 2 21)] .ret))))⟩
def Wr:ay:=⟨14,[.cell 0 (some 2)],(rg [(so 0 (.new 25 [(.slice none 0 0),(.slice none 0 0)]))] (rg [(so 1 (.bsl 3 3 (zs 3) [(0,1,(ki (-1000))),(1,1,(ki 0)),(2,1,(ki 2000))])),(so 2 (.bsl 3 2 (zs 2) [(0,1,(ki (-1000))),(1,1,(ki 1000))])),(so 3 (.bsl 3 2 (zs 2) [(0,1,(ki 100)),(1,1,(ki 300))])),(so 4 (.bsl 3 2 (zs 2) [(0,1,(ki 200)),(1,1,(ki 600))])),(so 5 (.bsl 3 2 (zs 2) [(0,1,(ki 0)),(1,1,(ki 100))])),(so 6 (.bsl 32 3 [(.slice none 0 0),(.slice none 0 0),(.slice none 0 0)] [(0,1,(.t 3)),(1,1,(.t 4)),(2,1,(.t 5))])),(so 7 (.agg [(.str ⟨#[]⟩),(.slice none 0 0),(.slice none 0 0),(.slice none 0 0),(.int .i64 0),(.int .i64 0)] [(0,1,(.k (.str ⟨#[119,105,100,101]⟩))),(1,1,(.t 1)),(2,1,(.t 2)),(3,1,(.t 6)),(4,1,(ki 50)),(5,1,(ki 5))])),(so 8 (.bsl 126 1 [(.str ⟨#[]⟩),(.slice none 0 0),(.slice none 0 0),(.slice none 0 0),(.int .i64 0),(.int .i64 0)] [(0,6,(.t 7))])),(so 9 (.agg (zs 2) [(0,1,(ki 2)),(1,1,(ki 4))])),(so 10 (.agg (zs 2) [(0,1,(ki 3)),(1,1,(ki 5))])),(so 11 (.agg [(.str ⟨#[]⟩),(.int .i64 0),(.int .i64 0),(.int .i64 0),(.int .i64 0),(.int .i64 0),(.int .i64 0),(.int .i64 0),(.int .i64 0),(.int .i64 0),(.int .i64 0),(.int .i64 0),(.int .i64 0),(.int .i64 0)] [(0,1,(.k (.str ⟨#[104,101,97,100]⟩))),(2,1,(ki 1)),(3,1,(ki 8000)),(4,1,(ki 60000)),(5,1,(ki 500)),(6,1,(ki 50)),(7,2,(.t 9)),(9,2,(.t 10)),(11,1,(ki 100000)),(12,1,(ki 200))])),(so 12 (.bsl 128 1 [(.str ⟨#[]⟩),(.int .i64 0),(.int .i64 0),(.int .i64 0),(.int .i64 0),(.int .i64 0),(.int .i64 0),(.int .i64 0),(.int .i64 0),(.int .i64 0),(.int .i64 0),(.int .i64 0),(.int .i64 0),(.int .i64 0)] [(0,14,(.t 11))])),(so 13 (.agg [(.slice none 0 0),(.slice none 0 0)] [(0,1,(.t 8)),(1,1,(.t 12))])),(b8 2 0 13)] .ret))⟩
def Vw:ay:=⟨32,[.cell 8 (some 2),.tmp 9],(rg [(so 4 (.box 25 (.t 0))),(so 6 (.box 55 (.t 2))),(so 8 (.new 39 (zs 2))),(b6 9 0)] (rg [(sc 11 2 4),(sa 12 1),(b3 13 190 [11,12]),(sa 10 13)] (.seq (rg [(sa 14 10),(b2 15 .eql 14 0)] (.cond (.t 15) (.reg [(sc 16 4 6),(sa 17 3),(b3 18 87 [16,17]),(sa 10 18)]) .skip)) (.seq (rg [(sa 19 10),(b2 20 .neq 19 0)] (.cond (.t 20) (rg [(so 21 (.agg (zs 2) [])),(sa 22 10),(b8 2 8 21),(sa 9 22)] .ret) .skip)) (.seq (.alloq (.op (se 23 0 4) (.op (sb 24 23) (.op (sa 25 1) (.op (b7 26 6 24 25) (.op (sc 27 6 26) (.op (sa 28 3) (.op (sc 30 4 6) (.op (b3 29 89 [27,28]) (.op (b3 31 90 [29,30]) (.op (b8 2 8 31) (.op (b6 9 0) .done)))))))))))) .ret)))))⟩
def zQ:ay:=⟨57,[.cell 10 (some 4)],(rg [(so 5 (.box 116 (.t 0))),(so 10 (.new 55 (zs 4)))] (rg [(sa 17 1),(sa 18 3),(so 19 (.agg (zs 2) [(0,1,(.t 17)),(1,1,(.t 18))])),(sa 20 1),(sa 21 4),(so 22 (.agg (zs 2) [(0,1,(.t 20)),(1,1,(.t 21))])),(sa 23 2),(sa 24 3),(so 25 (.agg (zs 2) [(0,1,(.t 23)),(1,1,(.t 24))])),(sa 26 2),(sa 27 4),(so 28 (.agg (zs 2) [(0,1,(.t 26)),(1,1,(.t 27))])),(so 29 (.agg (zs 8) [(0,2,(.t 19)),(2,2,(.t 22)),(4,2,(.t 25)),(6,2,(.t 28))])),(so 11 (.new 235 (zs 8))),(b8 8 11 29)] (rg [(sc 30 2 5),(b3 31 156 [30]),(so 32 (.bin .mul (ki 1000000) (.t 31))),(sa 12 32)] (rg [(sa 33 12),(b3 34 115 [33]),(sa 35 12),(b3 36 114 [35]),(so 13 (.new 3 [(.int .i64 0)])),(so 14 (.new 3 [(.int .i64 0)])),(b8 1 13 34),(b8 1 14 36)] (rg [(so 37 (.mkf (.func 191) [] [(.t 11),(.t 14),(.t 13)])),(sa 15 37)] (rg [(so 16 (.new 55 (zs 4)))] (rg [(sa 39 15),(sc 40 2 5),(so 41 (.mkf (.func 155) [(.t 40)] [])),(so 42 (.callv (.t 39) [(.t 41)])),(sa 38 42),(so 43 (.ext (.t 38) 0)),(so 44 (.ext (.t 38) 1)),(se 45 0 16),(b8 1 45 43),(se 46 1 16),(b8 1 46 44)] (rg [(sa 48 15),(sc 49 2 5),(so 50 (.mkf (.func 154) [(.t 49)] [])),(so 51 (.callv (.t 48) [(.t 50)])),(sa 47 51),(so 52 (.ext (.t 47) 0)),(so 53 (.ext (.t 47) 1)),(se 54 2 16),(b8 1 54 52),(se 55 3 16),(b8 1 55 53)] (rg [(sc 56 4 16),(b8 4 10 56)] .ret)))))))))⟩
def Ll:ay:=⟨40,[.tmp 6,.tmp 7],(rg [(so 4 (.box 194 (.t 1))),(b6 6 0),(b6 7 0)] (.seq (rg [(sa 12 0),(b4 13 12),(b6 14 0)] (.block 0 (.loop (rg [(b1 15 .lss 14 13)] (.seq (.cond (.t 15) .skip (.exit 0)) (.seq (.block 1 (rg [(sa 16 14),(b7 17 6 12 14),(sc 18 6 17),(so 9 (.new 126 [(.str ⟨#[]⟩),(.slice none 0 0),(.slice none 0 0),(.slice none 0 0),(.int .i64 0),(.int .i64 0)])),(sa 8 16),(b8 6 9 18)] (rg [(sa 19 2),(sc 20 6 9),(so 21 (.callv (.t 19) [(.t 20)])),(sa 10 21)] (.seq (rg [(so 22 (.mkf (.func 195) [] [(.t 4),(.t 9)])),(sa 11 22)] (.block 2 (rg [(sb 24 4),(sc 25 6 9),(so 26 (.callv (.t 24) [(.t 25)])),(b3 27 196 [26]),(b5 28 27),(sa 23 28)] (.cond (.t 23) (.reg [(b6 10 6)]) (rg [(sa 30 0),(sa 31 8),(so 32 (.slS 6 (.t 30) none (some (.t 31)) none)),(sa 33 11),(b3 34 197 [32,33]),(sa 29 34)] (.cond (.t 29) (.reg [(b6 10 5)]) .skip)))))) (rg [(sa 35 10),(b2 36 .neq 35 0)] (.cond (.t 36) (rg [(sa 37 8),(sa 38 10),(sa 6 37),(sa 7 38)] .ret) .skip)))))) (.reg [(b2 39 .add 14 1),(sa 14 39)]))))))) (rg [(b6 6 0),(b6 7 0)] .ret)))⟩
def UE:ay:=⟨5,[.tmp 2],(rg [(so 1 (.box 126 (.t 0))),(so 2 (.mov (.k (.str ⟨#[]⟩))))] (rg [(se 3 0 1),(sb 4 3),(sa 2 4)] .ret))⟩
def LS:ay:=⟨69,[.tmp 2],(rg [(so 1 (.box 126 (.t 0))),(b6 2 0)] (rg [(so 5 (.mkf (.func 198) [] [(.t 1)])),(sa 3 5)] (rg [(so 4 (.mov (.k (.fn (.func 199) [] []))))] (.seq (.block 0 (rg [(se 7 1 1),(sb 8 7),(b4 9 8),(so 10 (.call 133 [(.t 9),(ki 2),(ki 12)])),(b5 11 10),(sa 12 11),⟨(some 13),.fa 2 (.t 1),(some (12,false))⟩,⟨(some 14),.ld (.t 13),(some (12,false))⟩,⟨(some 15),.len (.t 14),(some (12,false))⟩,⟨(some 16),.call 133 [(.t 15),(ki 2),(ki 12)],(some (12,false))⟩,⟨(some 17),.un .not (.t 16),(some (12,false))⟩,(so 18 (.pick (.t 12) (.k (.bool true)) (.t 17))),(sa 6 18)] (.cond (.t 6) (rg [(b6 2 3)] .ret) (rg [(se 20 1 1),(sb 21 20),(so 22 (.call 164 [(.t 21),(ki (-5000)),(ki 5000)])),(b5 23 22),(sa 24 23),⟨(some 25),.fa 2 (.t 1),(some (24,false))⟩,⟨(some 26),.ld (.t 25),(some (24,false))⟩,⟨(some 27),.call 164 [(.t 26),(ki (-5000)),(ki 5000)],(some (24,false))⟩,⟨(some 28),.un .not (.t 27),(some (24,false))⟩,(so 29 (.pick (.t 24) (.k (.bool true)) (.t 28))),(sa 19 29)] (.cond (.t 19) (rg [(b6 2 7)] .ret) (rg [(se 31 1 1),(sb 32 31),(b3 33 200 [32]),(b5 34 33),(sa 35 34),⟨(some 36),.fa 2 (.t 1),(some (35,false))⟩,⟨(some 37),.ld (.t 36),(some (35,false))⟩,⟨(some 38),.call 200 [(.t 37)],(some (35,false))⟩,⟨(some 39),.un .not (.t 38),(some (35,false))⟩,(so 40 (.pick (.t 35) (.k (.bool true)) (.t 39))),(sa 30 40)] (.cond (.t 30) (rg [(b6 2 2)] .ret) (rg [(se 42 3 1),(sb 43 42),(b4 44 43),(se 45 1 1),(sb 46 45),(b4 47 46),(b1 48 .neq 44 47),(sa 49 48),⟨(some 50),.fa 3 (.t 1),(some (49,false))⟩,⟨(some 51),.ld (.t 50),(some (49,false))⟩,⟨(some 52),.mov (.t 3),(some (49,false))⟩,⟨(some 53),.call 201 [(.t 51),(.t 52)],(some (49,false))⟩,(so 54 (.pick (.t 49) (.k (.bool true)) (.t 53))),(sa 41 54)] (.cond (.t 41) (rg [(b6 2 6)] .ret) (rg [(se 56 3 1),(sb 57 56),(sa 58 4),(b3 59 201 [57,58]),(sa 60 59),⟨(some 61),.mov (.t 4),(some (60,false))⟩,⟨(some 62),.fa 4 (.t 1),(some (60,false))⟩,⟨(some 63),.ld (.t 62),(some (60,false))⟩,⟨(some 64),.fa 5 (.t 1),(some (60,false))⟩,⟨(some 65),.ld (.t 64),(some (60,false))⟩,⟨(some 66),.bsl 3 2 (zs 2) [(0,1,(.t 63)),(1,1,(.t 65))],(some (60,false))⟩,⟨(some 67),.callv (.t 61) [(.t 66)],(some (60,false))⟩,(so 68 (.pick (.t 60) (.k (.bool true)) (.t 67))),(sa 55 68)] (.cond (.t 55) (rg [(b6 2 7)] .ret) .skip))))))))))) (rg [(b6 2 0)] .ret)))))⟩
def LA:ay:=⟨40,[.tmp 6,.tmp 7],(rg [(so 4 (.box 197 (.t 1))),(b6 6 0),(b6 7 0)] (.seq (rg [(sa 12 0),(b4 13 12),(b6 14 0)] (.block 0 (.loop (rg [(b1 15 .lss 14 13)] (.seq (.cond (.t 15) .skip (.exit 0)) (.seq (.block 1 (rg [(sa 16 14),(b7 17 14 12 14),(sc 18 14 17),(so 9 (.new 128 [(.str ⟨#[]⟩),(.int .i64 0),(.int .i64 0),(.int .i64 0),(.int .i64 0),(.int .i64 0),(.int .i64 0),(.int .i64 0),(.int .i64 0),(.int .i64 0),(.int .i64 0),(.int .i64 0),(.int .i64 0),(.int .i64 0)])),(sa 8 16),(b8 14 9 18)] (rg [(sa 19 2),(sc 20 14 9),(so 21 (.callv (.t 19) [(.t 20)])),(sa 10 21)] (.seq (rg [(so 22 (.mkf (.func 202) [] [(.t 4),(.t 9)])),(sa 11 22)] (.block 2 (rg [(sb 24 4),(sc 25 14 9),(so 26 (.callv (.t 24) [(.t 25)])),(b3 27 196 [26]),(b5 28 27),(sa 23 28)] (.cond (.t 23) (.reg [(b6 10 6)]) (rg [(sa 30 0),(sa 31 8),(so 32 (.slS 14 (.t 30) none (some (.t 31)) none)),(sa 33 11),(b3 34 203 [32,33]),(sa 29 34)] (.cond (.t 29) (.reg [(b6 10 5)]) .skip)))))) (rg [(sa 35 10),(b2 36 .neq 35 0)] (.cond (.t 36) (rg [(sa 37 8),(sa 38 10),(sa 6 37),(sa 7 38)] .ret) .skip)))))) (.reg [(b2 39 .add 14 1),(sa 14 39)]))))))) (rg [(b6 6 0),(b6 7 0)] .ret)))⟩
def WW:ay:=⟨5,[.tmp 2],(rg [(so 1 (.box 128 (.t 0))),(so 2 (.mov (.k (.str ⟨#[]⟩))))] (rg [(se 3 0 1),(sb 4 3),(sa 2 4)] .ret))⟩
def W2:ay:=⟨77,[.tmp 3],(rg [(so 2 (.box 128 (.t 0))),(b6 3 0)] (rg [(se 5 3 2),(sb 6 5),(so 7 (.call 133 [(.t 6),(ki 1),(ki 1000000)])),(sa 8 7),⟨(some 9),.fa 4 (.t 2),(some (8,true))⟩,⟨(some 10),.ld (.t 9),(some (8,true))⟩,⟨(some 11),.call 133 [(.t 10),(ki 1),(ki 5000000)],(some (8,true))⟩,(so 12 (.pick (.t 8) (.t 11) (.k (.bool false)))),(sa 13 12),⟨(some 14),.fa 5 (.t 2),(some (13,true))⟩,⟨(some 15),.ld (.t 14),(some (13,true))⟩,⟨(some 16),.fa 4 (.t 2),(some (13,true))⟩,⟨(some 17),.ld (.t 16),(some (13,true))⟩,⟨(some 18),.call 133 [(.t 15),(ki 0),(.t 17)],(some (13,true))⟩,(so 19 (.pick (.t 13) (.t 18) (.k (.bool false)))),(sa 20 19),⟨(some 21),.fa 6 (.t 2),(some (20,true))⟩,⟨(some 22),.ld (.t 21),(some (20,true))⟩,⟨(some 23),.call 133 [(.t 22),(ki 0),(ki 1000)],(some (20,true))⟩,(so 24 (.pick (.t 20) (.t 23) (.k (.bool false)))),(sa 4 24)] (rg [(sa 25 4),(sa 26 25),⟨(some 27),.fa 7 (.t 2),(some (26,true))⟩,⟨(some 28),.lds 2 (.t 27),(some (26,true))⟩,⟨(some 29),.call 134 [(.t 28),(ki 0),(ki 1000)],(some (26,true))⟩,(so 30 (.pick (.t 26) (.t 29) (.k (.bool false)))),(sa 31 30),⟨(some 32),.fa 9 (.t 2),(some (31,true))⟩,⟨(some 33),.lds 2 (.t 32),(some (31,true))⟩,⟨(some 34),.call 134 [(.t 33),(ki 0),(ki 1000)],(some (31,true))⟩,(so 35 (.pick (.t 31) (.t 34) (.k (.bool false)))),(sa 36 35),⟨(some 37),.fa 11 (.t 2),(some (36,true))⟩,⟨(some 38),.ld (.t 37),(some (36,true))⟩,⟨(some 39),.call 133 [(.t 38),(ki 1),(ki 200000)],(some (36,true))⟩,(so 40 (.pick (.t 36) (.t 39) (.k (.bool false)))),(sa 41 40),⟨(some 42),.fa 12 (.t 2),(some (41,true))⟩,⟨(some 43),.ld (.t 42),(some (41,true))⟩,⟨(some 44),.call 133 [(.t 43),(ki 0),(ki 1000)],(some (41,true))⟩,(so 45 (.pick (.t 41) (.t 44) (.k (.bool false)))),(sa 46 45),⟨(some 47),.fa 13 (.t 2),(some (46,true))⟩,⟨(some 48),.ld (.t 47),(some (46,true))⟩,⟨(some 49),.call 133 [(.t 48),(ki 0),(ki 3600)],(some (46,true))⟩,(so 50 (.pick (.t 46) (.t 49) (.k (.bool false)))),(sa 4 50)] (.seq (.block 0 (rg [(se 52 1 2),(sb 53 52),(se 54 0 1),(sb 55 54),(b4 56 55),(b2 57 .sub 56 1),(so 58 (.call 133 [(.t 53),(ki 0),(.t 57)])),(b5 59 58),(sa 51 59)] (.cond (.t 51) (rg [(b6 3 4)] .ret) (rg [(se 61 2 2),(sb 62 61),(so 63 (.call 133 [(.t 62),(ki 1),(ki 3)])),(b5 64 63),(sa 60 64)] (.cond (.t 60) (rg [(b6 3 2)] .ret) (rg [(sa 66 4),(b5 67 66),(sa 65 67)] (.cond (.t 65) (rg [(b6 3 7)] .ret) (rg [(se 69 2 2),(sb 70 69),(b2 71 .eql 70 1),(sa 72 71),⟨(some 73),.fa 13 (.t 2),(some (72,true))⟩,⟨(some 74),.ld (.t 73),(some (72,true))⟩,⟨(some 75),.bin .gtr (.t 74) (ki 0),(some (72,true))⟩,(so 76 (.pick (.t 72) (.t 75) (.k (.bool false)))),(sa 68 76)] (.cond (.t 68) (rg [(b6 3 2)] .ret) .skip))))))))) (rg [(b6 3 0)] .ret)))))⟩
def WL:ay:=⟨15,[.tmp 6],(rg [(so 6 (.mov (.k (.bool false))))] (rg [(sa 7 1),(sa 8 0),(b1 9 .leq 7 8),(sa 10 9),⟨(some 11),.mov (.t 0),(some (10,true))⟩,⟨(some 12),.mov (.t 2),(some (10,true))⟩,⟨(some 13),.bin .leq (.t 11) (.t 12),(some (10,true))⟩,(so 14 (.pick (.t 10) (.t 13) (.k (.bool false)))),(sa 6 14)] .ret))⟩
def WX:ay:=⟨24,[.tmp 6],(rg [(so 3 (.box 39 (.t 0))),(so 6 (.mov (.k (.bool false))))] (rg [(sa 7 1),(se 8 0 3),(sb 9 8),(b1 10 .leq 7 9),(sa 11 10),⟨(some 12),.fa 0 (.t 3),(some (11,true))⟩,⟨(some 13),.ld (.t 12),(some (11,true))⟩,⟨(some 14),.fa 1 (.t 3),(some (11,true))⟩,⟨(some 15),.ld (.t 14),(some (11,true))⟩,⟨(some 16),.bin .leq (.t 13) (.t 15),(some (11,true))⟩,(so 17 (.pick (.t 11) (.t 16) (.k (.bool false)))),(sa 18 17),⟨(some 19),.fa 1 (.t 3),(some (18,true))⟩,⟨(some 20),.ld (.t 19),(some (18,true))⟩,⟨(some 21),.mov (.t 2),(some (18,true))⟩,⟨(some 22),.bin .leq (.t 20) (.t 21),(some (18,true))⟩,(so 23 (.pick (.t 18) (.t 22) (.k (.bool false)))),(sa 6 23)] .ret))⟩
def s62:ay:=⟨27,[.tmp 4,.tmp 5],(rg [(b6 4 0),(b6 5 0)] (.seq (rg [(sa 9 0),(b4 10 9),(b6 11 0)] (.block 0 (.loop (rg [(b1 12 .lss 11 10)] (.seq (.cond (.t 12) .skip (.exit 0)) (.seq (.block 1 (rg [(sa 13 11),(b7 14 4 9 11),(sc 15 4 14),(so 7 (.new 189 [(.str ⟨#[]⟩),(.int .i64 0),(.slice none 0 0),(.int .i64 0)])),(sa 6 13),(b8 4 7 15)] (.seq (.draw [(ea 16 1),(ea 17 0),(ea 18 6),(eo 19 (.slS 4 (.t 17) none (some (.t 18)) none)),(ec 20 4 7),(eo 21 (.callv (.t 16) [(.t 19),(.t 20)])),(ea 8 21)]) (rg [(sa 22 8),(b2 23 .neq 22 0)] (.cond (.t 23) (rg [(sa 24 6),(sa 25 8),(sa 4 24),(sa 5 25)] .ret) .skip))))) (.reg [(b2 26 .add 11 1),(sa 11 26)]))))))) (rg [(b6 4 0),(b6 5 0)] .ret)))⟩
def s63:ay:=⟨61,[.tmp 4],(rg [(so 3 (.box 189 (.t 1))),(b6 4 0)] (rg [(so 7 (.mkf (.func 204) [] [(.t 3)])),(sa 5 7)] (rg [(so 6 (.mov (.k (.fn (.func 205) [] []))))] (.seq (.block 0 (rg [(se 9 0 3),(sb 10 9),(b3 11 207 [10]),(b5 12 11),(sa 8 12)] (.cond (.t 8) (rg [(b6 4 6)] .ret) (rg [(sa 14 0),(sa 15 5),(b3 16 208 [14,15]),(sa 13 16)] (.cond (.t 13) (rg [(b6 4 5)] .ret) (rg [(se 18 1 3),(sb 19 18),(so 20 (.call 161 [(.t 19),(ki 0),(ki 3)])),(sa 17 20)] (.cond (.t 17) (rg [(b6 4 2)] .ret) (rg [(se 22 2 3),(sb 23 22),(b4 24 23),(b2 25 .lss 24 2),(sa 21 25)] (.cond (.t 21) (rg [(b6 4 4)] .ret) (rg [(se 27 2 3),(sb 28 27),(b4 29 28),(b2 30 .gtr 29 8),(sa 26 30)] (.cond (.t 26) (rg [(b6 4 3)] .ret) (rg [(se 32 2 3),(sb 33 32),(sa 34 6),(b3 35 209 [33,34]),(sa 36 35),⟨(some 37),.fa 3 (.t 3),(some (36,false))⟩,⟨(some 38),.ld (.t 37),(some (36,false))⟩,⟨(some 39),.call 161 [(.t 38),(ki 100),(ki 30000)],(some (36,false))⟩,(so 40 (.pick (.t 36) (.k (.bool true)) (.t 39))),(sa 31 40)] (.cond (.t 31) (rg [(b6 4 7)] .ret) (.seq (.allo (.op (se 42 2 3) (.op (se 47 2 3) (.alt (.op (sb 43 42) (.alt (.op (b3 44 211 [43]) (.alt (.op (b3 45 210 [44]) (.op (b4 46 45) (.op (sb 48 47) (.op (b4 49 48) (.op (b1 50 .lss 46 49) (.op (sa 41 50) .done)))))) (.op (sb 48 47) (.op (b4 49 48) (.op (b3 45 210 [44]) (.op (b4 46 45) (.op (b1 50 .lss 46 49) (.op (sa 41 50) .done)))))))) (.op (sb 48 47) (.op (b4 49 48) (.op (b3 44 211 [43]) (.op (b3 45 210 [44]) (.op (b4 46 45) (.op (b1 50 .lss 46 49) (.op (sa 41 50) .done))))))))) (.op (sb 48 47) (.op (b4 49 48) (.op (sb 43 42) (.op (b3 44 211 [43]) (.op (b3 45 210 [44]) (.op (b4 46 45) (.op (b1 50 .lss 46 49) (.op (sa 41 50) .done)))))))))))) (.cond (.t 41) (rg [(b6 4 2)] .ret) (rg [(se 52 1 3),(sb 53 52),(b2 54 .eql 53 3),(sa 55 54),⟨(some 56),.fa 2 (.t 3),(some (55,true))⟩,⟨(some 57),.ld (.t 56),(some (55,true))⟩,⟨(some 58),.len (.t 57),(some (55,true))⟩,⟨(some 59),.bin .gtr (.t 58) (ki 2),(some (55,true))⟩,(so 60 (.pick (.t 55) (.t 59) (.k (.bool false)))),(sa 51 60)] (.cond (.t 51) (rg [(b6 4 2)] .ret) .skip))))))))))))))))) (rg [(b6 4 0)] .ret)))))⟩
def s64:ay:=⟨27,[.tmp 4,.tmp 5],(rg [(b6 4 0),(b6 5 0)] (.seq (rg [(sa 9 0),(b4 10 9),(b6 11 0)] (.block 0 (.loop (rg [(b1 12 .lss 11 10)] (.seq (.cond (.t 12) .skip (.exit 0)) (.seq (.block 1 (rg [(sa 13 11),(b7 14 5 9 11),(sc 15 5 14),(so 7 (.new 138 (zs 5))),(sa 6 13),(b8 5 7 15)] (.seq (.draw [(ea 16 1),(ea 17 0),(ea 18 6),(eo 19 (.slS 5 (.t 17) none (some (.t 18)) none)),(ec 20 5 7),(eo 21 (.callv (.t 16) [(.t 19),(.t 20)])),(ea 8 21)]) (rg [(sa 22 8),(b2 23 .neq 22 0)] (.cond (.t 23) (rg [(sa 24 6),(sa 25 8),(sa 4 24),(sa 5 25)] .ret) .skip))))) (.reg [(b2 26 .add 11 1),(sa 11 26)]))))))) (rg [(b6 4 0),(b6 5 0)] .ret)))⟩
def s65:ay:=⟨29,[.tmp 4],(rg [(so 3 (.box 138 (.t 1))),(b6 4 0)] (.seq (rg [(se 5 0 3),(sb 6 5),(se 7 1 3),(sb 8 7),(so 9 (.bsl 3 2 (zs 2) [(0,1,(.t 6)),(1,1,(.t 8))])),(b3 10 206 [9]),(sa 11 10),⟨(some 12),.fa 2 (.t 3),(some (11,false))⟩,⟨(some 13),.ld (.t 12),(some (11,false))⟩,⟨(some 14),.call 161 [(.t 13),(ki 1),(ki 20000)],(some (11,false))⟩,(so 15 (.pick (.t 11) (.k (.bool true)) (.t 14))),(sa 16 15),⟨(some 17),.fa 3 (.t 3),(some (16,false))⟩,⟨(some 18),.ld (.t 17),(some (16,false))⟩,⟨(some 19),.fa 4 (.t 3),(some (16,false))⟩,⟨(some 20),.ld (.t 19),(some (16,false))⟩,⟨(some 21),.bin .sub (.t 20) (ki 1),(some (16,false))⟩,⟨(some 22),.call 161 [(.t 18),(ki 0),(.t 21)],(some (16,false))⟩,(so 23 (.pick (.t 16) (.k (.bool true)) (.t 22))),(sa 24 23),⟨(some 25),.fa 4 (.t 3),(some (24,false))⟩,⟨(some 26),.ld (.t 25),(some (24,false))⟩,⟨(some 27),.call 161 [(.t 26),(ki 1),(ki 1000)],(some (24,false))⟩,(so 28 (.pick (.t 24) (.k (.bool true)) (.t 27)))] (.cond (.t 28) (rg [(b6 4 7)] .ret) .skip)) (rg [(b6 4 0)] .ret)))⟩
def s66:ay:=⟨27,[.tmp 4,.tmp 5],(rg [(b6 4 0),(b6 5 0)] (.seq (rg [(sa 9 0),(b4 10 9),(b6 11 0)] (.block 0 (.loop (rg [(b1 12 .lss 11 10)] (.seq (.cond (.t 12) .skip (.exit 0)) (.seq (.block 1 (rg [(sa 13 11),(b7 14 5 9 11),(sc 15 5 14),(so 7 (.new 146 [(.int .i64 0),(.int .i64 0),(.int .i64 0),(.int .i64 0),(.slice none 0 0)])),(sa 6 13),(b8 5 7 15)] (.seq (.draw [(ea 16 1),(ea 17 0),(ea 18 6),(eo 19 (.slS 5 (.t 17) none (some (.t 18)) none)),(ec 20 5 7),(eo 21 (.callv (.t 16) [(.t 19),(.t 20)])),(ea 8 21)]) (rg [(sa 22 8),(b2 23 .neq 22 0)] (.cond (.t 23) (rg [(sa 24 6),(sa 25 8),(sa 4 24),(sa 5 25)] .ret) .skip))))) (.reg [(b2 26 .add 11 1),(sa 11 26)]))))))) (rg [(b6 4 0),(b6 5 0)] .ret)))⟩
def s67:ay:=⟨37,[.tmp 4],(rg [(so 3 (.box 146 (.t 1))),(b6 4 0)] (rg [(so 5 (.mov (.k (.fn (.func 212) [] []))))] (.seq (.block 0 (rg [(se 7 0 3),(so 8 (.iaA 2 1 (.t 7) (ki 0))),(sb 9 8),(se 10 0 3),(so 11 (.iaA 2 1 (.t 10) (ki 1))),(sb 12 11),(se 13 2 3),(so 14 (.iaA 2 1 (.t 13) (ki 0))),(sb 15 14),(se 16 2 3),(so 17 (.iaA 2 1 (.t 16) (ki 1))),(sb 18 17),(so 19 (.bsl 3 4 (zs 4) [(0,1,(.t 9)),(1,1,(.t 12)),(2,1,(.t 15)),(3,1,(.t 18))])),(b3 20 206 [19]),(sa 6 20)] (.cond (.t 6) (rg [(b6 4 7)] .ret) (rg [(se 22 0 3),(sc 23 2 22),(se 24 2 3),(sc 25 2 24),(so 26 (.eqa false 2 (.t 23) (.t 25))),(sa 21 26)] (.cond (.t 21) (rg [(b6 4 2)] .ret) (rg [(se 28 4 3),(sb 29 28),(b4 30 29),(b2 31 .gtr 30 6),(sa 27 31)] (.cond (.t 27) (rg [(b6 4 3)] .ret) (rg [(se 33 4 3),(sb 34 33),(sa 35 5),(b3 36 213 [34,35]),(sa 32 36)] (.cond (.t 32) (rg [(b6 4 7)] .ret) .skip))))))))) (rg [(b6 4 0)] .ret))))⟩
def s68:ay:=⟨27,[.tmp 4,.tmp 5],(rg [(b6 4 0),(b6 5 0)] (.seq (rg [(sa 9 0),(b4 10 9),(b6 11 0)] (.block 0 (.loop (rg [(b1 12 .lss 11 10)] (.seq (.cond (.t 12) .skip (.exit 0)) (.seq (.block 1 (rg [(sa 13 11),(b7 14 6 9 11),(sc 15 6 14),(so 7 (.new 82 [(.str ⟨#[]⟩),(.int .i64 0),(.int .i64 0),(.int .i64 0),(.int .i64 0),(.int .i64 0)])),(sa 6 13),(b8 6 7 15)] (.seq (.draw [(ea 16 1),(ea 17 0),(ea 18 6),(eo 19 (.slS 6 (.t 17) none (some (.t 18)) none)),(ec 20 6 7),(eo 21 (.callv (.t 16) [(.t 19),(.t 20)])),(ea 8 21)]) (rg [(sa 22 8),(b2 23 .neq 22 0)] (.cond (.t 23) (rg [(sa 24 6),(sa 25 8),(sa 4 24),(sa 5 25)] .ret) .skip))))) (.reg [(b2 26 .add 11 1),(sa 11 26)]))))))) (rg [(b6 4 0),(b6 5 0)] .ret)))⟩
def s69:ay:=⟨47,[.tmp 4],(rg [(so 3 (.box 82 (.t 1))),(b6 4 0)] (rg [(so 6 (.mkf (.func 214) [] [(.t 3)])),(sa 5 6)] (.seq (.block 0 (rg [(se 8 0 3),(sb 9 8),(b3 10 207 [9]),(b5 11 10),(sa 7 11)] (.cond (.t 7) (rg [(b6 4 6)] .ret) (rg [(sa 13 0),(sa 14 5),(b3 15 215 [13,14]),(sa 12 15)] (.cond (.t 12) (rg [(b6 4 5)] .ret) (rg [(se 17 1 3),(sb 18 17),(se 19 2 3),(sb 20 19),(so 21 (.bsl 3 2 (zs 2) [(0,1,(.t 18)),(1,1,(.t 20))])),(b3 22 206 [21]),(sa 23 22),⟨(some 24),.fa 3 (.t 3),(some (23,false))⟩,⟨(some 25),.ld (.t 24),(some (23,false))⟩,⟨(some 26),.call 161 [(.t 25),(ki 1),(ki 200)],(some (23,false))⟩,(so 27 (.pick (.t 23) (.k (.bool true)) (.t 26))),(sa 28 27),⟨(some 29),.fa 4 (.t 3),(some (28,false))⟩,⟨(some 30),.ld (.t 29),(some (28,false))⟩,⟨(some 31),.call 161 [(.t 30),(ki (-1000)),(ki 1000)],(some (28,false))⟩,(so 32 (.pick (.t 28) (.k (.bool true)) (.t 31))),(sa 33 32),⟨(some 34),.fa 5 (.t 3),(some (33,false))⟩,⟨(some 35),.ld (.t 34),(some (33,false))⟩,⟨(some 36),.call 161 [(.t 35),(ki (-1000)),(ki 1000)],(some (33,false))⟩,(so 37 (.pick (.t 33) (.k (.bool true)) (.t 36))),(sa 16 37)] (.cond (.t 16) (rg [(b6 4 7)] .ret) (rg [(se 39 4 3),(sb 40 39),(b2 41 .eql 40 0),(sa 42 41),⟨(some 43),.fa 5 (.t 3),(some (42,true))⟩,⟨(some 44),.ld (.t 43),(some (42,true))⟩,⟨(some 45),.bin .eql (.t 44) (ki 0),(some (42,true))⟩,(so 46 (.pick (.t 42) (.t 45) (.k (.bool false)))),(sa 38 46)] (.cond (.t 38) (rg [(b6 4 2)] .ret) .skip))))))))) (rg [(b6 4 0)] .ret))))⟩
def Nb:ay:=⟨25,[.tmp 2],(rg [(b6 2 0)] (.seq (rg [(sa 5 0),(b4 6 5),(b2 7 .lss 6 1)] (.cond (.t 7) (.reg [(so 8 (.ext (ki 0) 0)),⟨none,.ext (ki 0) 0,none⟩]) .skip)) (rg [(sa 9 0),(so 10 (.iaS 1 (.t 9) (ki 0))),(sb 11 10),(sa 3 11)] (.seq (rg [(b6 4 1)] (.block 0 (.loop (.seq (rg [(sa 12 4),(sa 13 0),(b4 14 13),(b1 15 .lss 12 14)] (.cond (.t 15) .skip (.exit 0))) (.seq (.block 1 (.reg [(sa 18 3),(sa 19 0),(sa 20 4),(b7 21 1 19 20),(sb 22 21),(so 23 (.mm true (.t 18) [(.t 22)])),(sa 3 23)])) (.reg [(sa 16 4),(b2 17 .add 16 1),(sa 4 17)])))))) (rg [(sa 24 3),(sa 2 24)] .ret)))))⟩
def Lj:ay:=⟨132,[.tmp 4],(rg [(so 2 (.box 25 (.t 0))),(b6 4 0)] (rg [(se 17 0 2),(sb 18 17),(sa 19 1),(b7 20 6 18 19),(sc 21 6 20),(so 5 (.new 126 [(.str ⟨#[]⟩),(.slice none 0 0),(.slice none 0 0),(.slice none 0 0),(.int .i64 0),(.int .i64 0)])),(b8 6 5 21)] (.seq (rg [(se 22 0 5),(sb 23 22),(b3 24 216 [23]),(b5 25 24)] (.cond (.t 25) (rg [(b6 4 6)] .ret) .skip)) (.seq (rg [(b6 6 0)] (.block 0 (.loop (.seq (rg [(sa 26 6),(sa 27 1),(b1 28 .lss 26 27)] (.cond (.t 28) .skip (.exit 0))) (.seq (.block 1 (.seq (.draw [(ee 31 0 2),(eb 32 31),(ea 33 6),(d7 34 6 32 33),(ee 35 0 34),(eb 36 35),(ee 37 0 5),(eb 38 37),(d1 39 .eql 36 38)]) (.cond (.t 39) (rg [(b6 4 5)] .ret) .skip))) (.reg [(sa 29 6),(b2 30 .add 29 1),(sa 6 30)])))))) (rg [(se 41 1 5),(sb 42 41),(b3 43 217 [42]),(sa 40 43),(so 44 (.ext (.t 40) 0)),(so 45 (.ext (.t 40) 1)),(so 46 (.ext (.t 40) 2)),(sa 7 44),(sa 8 45),(sa 9 46)] (rg [(se 48 2 5),(sb 49 48),(b3 50 217 [49]),(sa 47 50),(so 51 (.ext (.t 47) 0)),(so 52 (.ext (.t 47) 1)),(so 53 (.ext (.t 47) 2)),(sa 10 51),(sa 11 52),(sa 12 53)] (.seq (rg [(sa 54 7),(b5 55 54),(sa 56 55),⟨(some 57),.mov (.t 10),(some (56,false))⟩,⟨(some 58),.un .not (.t 57),(some (56,false))⟩,(so 59 (.pick (.t 56) (.k (.bool true)) (.t 58)))] (.cond (.t 59) (rg [(b6 4 3)] .ret) .skip)) (.seq (rg [(sa 60 8),(b5 61 60),(sa 62 61),⟨(some 63),.mov (.t 11),(some (62,false))⟩,⟨(some 64),.un .not (.t 63),(some (62,false))⟩,(so 65 (.pick (.t 62) (.k (.bool true)) (.t 64)))] (.cond (.t 65) (rg [(b6 4 7)] .ret) .skip)) (.seq (rg [(sa 66 9),(b5 67 66),(sa 68 67),⟨(some 69),.mov (.t 12),(some (68,false))⟩,⟨(some 70),.un .not (.t 69),(some (68,false))⟩,(so 71 (.pick (.t 68) (.k (.bool true)) (.t 70)))] (.cond (.t 71) (rg [(b6 4 2)] .ret) .skip)) (.seq (rg [(se 72 3 5),(sb 73 72),(b4 74 73),(se 75 1 5),(sb 76 75),(b4 77 76),(b1 78 .neq 74 77)] (.cond (.t 78) (rg [(b6 4 6)] .ret) .skip)) (rg [(se 79 4 5),(sb 80 79),(so 81 (.call 180 [(.t 80),(ki 0),(ki 10000000)])),(sa 82 81),⟨(some 83),.fa 5 (.t 5),(some (82,true))⟩,⟨(some 84),.ld (.t 83),(some (82,true))⟩,⟨(some 85),.call 180 [(.t 84),(ki 0),(ki 10000000)],(some (82,true))⟩,(so 86 (.pick (.t 82) (.t 85) (.k (.bool false)))),(sa 13 86)] (.seq (rg [(b6 14 0)] (.block 2 (.loop (.seq (rg [(sa 87 14),(se 88 3 5),(sb 89 88),(b4 90 89),(b1 91 .lss 87 90)] (.cond (.t 91) .skip (.exit 2))) (.seq (.block 3 (.seq (.draw [(ee 94 3 5),(eb 95 94),(ea 96 14),(d7 97 1 95 96),(eb 98 97),(d4 99 98),(ee 100 2 5),(eb 101 100),(d4 102 101),(d1 103 .neq 99 102)]) (.cond (.t 103) (rg [(b6 4 6)] .ret) .skip))) (.reg [(sa 92 14),(b2 93 .add 92 1),(sa 14 93)])))))) (.seq (rg [(b6 15 0)] (.block 4 (.loop (.seq (rg [(sa 104 15),(se 105 3 5),(sb 106 105),(b4 107 106),(b1 108 .lss 104 107)] (.cond (.t 108) .skip (.exit 4))) (.seq (.block 5 (rg [(b6 16 0)] (.block 6 (.loop (.seq (rg [(sa 111 16),(se 112 2 5),(sb 113 112),(b4 114 113),(b1 115 .lss 111 114)] (.cond (.t 115) .skip (.exit 6))) (.seq (.block 7 (.reg [(sa 118 13),(sa 119 118),⟨(some 120),.fa 3 (.t 5),(some (119,true))⟩,⟨(some 121),.ld (.t 120),(some (119,true))⟩,⟨(some 122),.mov (.t 15),(some (119,true))⟩,⟨(some 123),.iaS 1 (.t 121) (.t 122),(some (119,true))⟩,⟨(some 124),.ld (.t 123),(some (119,true))⟩,⟨(some 125),.mov (.t 16),(some (119,true))⟩,⟨(some 126),.iaS 1 (.t 124) (.t 125),(some (119,true))⟩,⟨(some 127),.ld (.t 126),(some (119,true))⟩,⟨(some 128),.call 180 [(.t 127),(ki 0),(ki 10000000)],(some (119,true))⟩,(so 129 (.pick (.t 119) (.t 128) (.k (.bool false)))),(sa 13 129)])) (.reg [(sa 116 16),(b2 117 .add 116 1),(sa 16 117)]))))))) (.reg [(sa 109 15),(b2 110 .add 109 1),(sa 15 110)])))))) (.seq (rg [(sa 130 13),(b5 131 130)] (.cond (.t 131) (rg [(b6 4 7)] .ret) .skip)) (rg [(b6 4 0)] .ret)))))))))))))))⟩
def Lm:ay:=⟨102,[.tmp 4],(rg [(so 2 (.box 25 (.t 0))),(b6 4 0)] (rg [(se 7 1 2),(sb 8 7),(sa 9 1),(b7 10 14 8 9),(sc 11 14 10),(so 5 (.new 128 [(.str ⟨#[]⟩),(.int .i64 0),(.int .i64 0),(.int .i64 0),(.int .i64 0),(.int .i64 0),(.int .i64 0),(.int .i64 0),(.int .i64 0),(.int .i64 0),(.int .i64 0),(.int .i64 0),(.int .i64 0),(.int .i64 0)])),(b8 14 5 11)] (.seq (rg [(se 12 0 5),(sb 13 12),(b3 14 216 [13]),(b5 15 14)] (.cond (.t 15) (rg [(b6 4 6)] .ret) .skip)) (.seq (rg [(b6 6 0)] (.block 0 (.loop (.seq (rg [(sa 16 6),(sa 17 1),(b1 18 .lss 16 17)] (.cond (.t 18) .skip (.exit 0))) (.seq (.block 1 (.seq (.draw [(ee 21 1 2),(eb 22 21),(ea 23 6),(d7 24 14 22 23),(ee 25 0 24),(eb 26 25),(ee 27 0 5),(eb 28 27),(d1 29 .eql 26 28)]) (.cond (.t 29) (rg [(b6 4 5)] .ret) .skip))) (.reg [(sa 19 6),(b2 20 .add 19 1),(sa 6 20)])))))) (.seq (rg [(se 30 1 5),(sb 31 30),(se 32 0 2),(sb 33 32),(b4 34 33),(b2 35 .sub 34 1),(so 36 (.call 180 [(.t 31),(ki 0),(.t 35)])),(b5 37 36)] (.cond (.t 37) (rg [(b6 4 4)] .ret) .skip)) (.seq (rg [(se 38 2 5),(sb 39 38),(so 40 (.call 180 [(.t 39),(ki 1),(ki 3)])),(b5 41 40)] (.cond (.t 41) (rg [(b6 4 2)] .ret) .skip)) (.seq (rg [(se 42 3 5),(sb 43 42),(so 44 (.call 180 [(.t 43),(ki 1),(ki 1000000)])),(b5 45 44),(sa 46 45),⟨(some 47),.fa 4 (.t 5),(some (46,false))⟩,⟨(some 48),.ld (.t 47),(some (46,false))⟩,⟨(some 49),.call 180 [(.t 48),(ki 1),(ki 5000000)],(some (46,false))⟩,⟨(some 50),.un .not (.t 49),(some (46,false))⟩,(so 51 (.pick (.t 46) (.k (.bool true)) (.t 50))),(sa 52 51),⟨(some 53),.fa 5 (.t 5),(some (52,false))⟩,⟨(some 54),.ld (.t 53),(some (52,false))⟩,⟨(some 55),.fa 4 (.t 5),(some (52,false))⟩,⟨(some 56),.ld (.t 55),(some (52,false))⟩,⟨(some 57),.call 180 [(.t 54),(ki 0),(.t 56)],(some (52,false))⟩,⟨(some 58),.un .not (.t 57),(some (52,false))⟩,(so 59 (.pick (.t 52) (.k (.bool true)) (.t 58))),(sa 60 59),⟨(some 61),.fa 6 (.t 5),(some (60,false))⟩,⟨(some 62),.ld (.t 61),(some (60,false))⟩,⟨(some 63),.call 180 [(.t 62),(ki 0),(ki 1000)],(some (60,false))⟩,⟨(some 64),.un .not (.t 63),(some (60,false))⟩,(so 65 (.pick (.t 60) (.k (.bool true)) (.t 64)))] (.cond (.t 65) (rg [(b6 4 7)] .ret) .skip)) (.seq (rg [(se 66 7 5),(sc 67 2 66),(so 68 (.call 218 [(.t 67),(ki 0),(ki 1000)])),(b5 69 68),(sa 70 69),⟨(some 71),.fa 9 (.t 5),(some (70,false))⟩,⟨(some 72),.lds 2 (.t 71),(some (70,false))⟩,⟨(some 73),.call 218 [(.t 72),(ki 0),(ki 1000)],(some (70,false))⟩,⟨(some 74),.un .not (.t 73),(some (70,false))⟩,(so 75 (.pick (.t 70) (.k (.bool true)) (.t 74))),(sa 76 75),⟨(some 77),.fa 11 (.t 5),(some (76,false))⟩,⟨(some 78),.ld (.t 77),(some (76,false))⟩,⟨(some 79),.call 180 [(.t 78),(ki 1),(ki 200000)],(some (76,false))⟩,⟨(some 80),.un .not (.t 79),(some (76,false))⟩,(so 81 (.pick (.t 76) (.k (.bool true)) (.t 80))),(sa 82 81),⟨(some 83),.fa 12 (.t 5),(some (82,false))⟩,⟨(some 84),.ld (.t 83),(some (82,false))⟩,⟨(some 85),.call 180 [(.t 84),(ki 0),(ki 1000)],(some (82,false))⟩,⟨(some 86),.un .not (.t 85),(some (82,false))⟩,(so 87 (.pick (.t 82) (.k (.bool true)) (.t 86))),(sa 88 87),⟨(some 89),.fa 13 (.t 5),(some (88,false))⟩,⟨(some 90),.ld (.t 89),(some (88,false))⟩,⟨(some 91),.call 180 [(.t 90),(ki 0),(ki 3600)],(some (88,false))⟩,⟨(some 92),.un .not (.t 91),(some (88,false))⟩,(so 93 (.pick (.t 88) (.k (.bool true)) (.t 92)))] (.cond (.t 93) (rg [(b6 4 7)] .ret) .skip)) (.seq (rg [(se 94 2 5),(sb 95 94),(b2 96 .eql 95 1),(sa 97 96),⟨(some 98),.fa 13 (.t 5),(some (97,true))⟩,⟨(some 99),.ld (.t 98),(some (97,true))⟩,⟨(some 100),.bin .neq (.t 99) (ki 0),(some (97,true))⟩,(so 101 (.pick (.t 97) (.t 100) (.k (.bool false))))] (.cond (.t 101) (rg [(b6 4 2)] .ret) .skip)) (rg [(b6 4 0)] .ret))))))))))⟩
def s70:ay:=⟨98,[.tmp 4],(rg [(so 2 (.box 31 (.t 0))),(b6 4 0)] (rg [(se 9 0 2),(sb 10 9),(sa 11 1),(b7 12 4 10 11),(sc 13 4 12),(so 5 (.new 189 [(.str ⟨#[]⟩),(.int .i64 0),(.slice none 0 0),(.int .i64 0)])),(b8 4 5 13)] (.seq (rg [(se 14 0 5),(sb 15 14),(b3 16 219 [15]),(b5 17 16)] (.cond (.t 17) (rg [(b6 4 6)] .ret) .skip)) (.seq (rg [(b6 6 0)] (.block 0 (.loop (.seq (rg [(sa 18 6),(sa 19 1),(b1 20 .lss 18 19)] (.cond (.t 20) .skip (.exit 0))) (.seq (.block 1 (.seq (.draw [(ee 23 0 2),(eb 24 23),(ea 25 6),(d7 26 4 24 25),(ee 27 0 26),(eb 28 27),(ee 29 0 5),(eb 30 29),(d1 31 .eql 28 30)]) (.cond (.t 31) (rg [(b6 4 5)] .ret) .skip))) (.reg [(sa 21 6),(b2 22 .add 21 1),(sa 6 22)])))))) (.seq (rg [(se 32 1 5),(sb 33 32),(so 34 (.call 148 [(.t 33),(ki 0),(ki 3)])),(b5 35 34)] (.cond (.t 35) (rg [(b6 4 2)] .ret) .skip)) (.seq (rg [(se 36 2 5),(sb 37 36),(b4 38 37),(b2 39 .lss 38 2)] (.cond (.t 39) (rg [(b6 4 4)] .ret) .skip)) (.seq (rg [(se 40 2 5),(sb 41 40),(b4 42 41),(b2 43 .gtr 42 8)] (.cond (.t 43) (rg [(b6 4 3)] .ret) .skip)) (.seq (rg [(b6 7 0)] (.block 2 (.loop (.seq (rg [(sa 44 7),(se 45 2 5),(sb 46 45),(b4 47 46),(b1 48 .lss 44 47)] (.cond (.t 48) .skip (.exit 2))) (.seq (.block 3 (.seq (.draw [(ee 51 2 5),(eb 52 51),(ea 53 7),(d7 54 2 52 53),(eo 55 (.iaA 2 1 (.t 54) (ki 0))),(eb 56 55),(ee 57 2 5),(eb 58 57),(ea 59 7),(d7 60 2 58 59),(eo 61 (.iaA 2 1 (.t 60) (ki 1))),(eb 62 61),⟨(so 63 (.bsl 3 2 (zs 2) [(0,1,(.t 56)),(1,1,(.t 62))])),(some 0),[],[.fresh 0]⟩,(d3 64 147 [63]),(eo 65 (.un .not (.t 64)))]) (.cond (.t 65) (rg [(b6 4 7)] .ret) .skip))) (.reg [(sa 49 7),(b2 50 .add 49 1),(sa 7 50)])))))) (.seq (rg [(se 66 3 5),(sb 67 66),(so 68 (.call 148 [(.t 67),(ki 100),(ki 30000)])),(b5 69 68)] (.cond (.t 69) (rg [(b6 4 7)] .ret) .skip)) (.seq (rg [(b6 8 1)] (.block 4 (.loop (.seq (rg [(sa 70 8),(se 71 2 5),(sb 72 71),(b4 73 72),(b1 74 .lss 70 73)] (.cond (.t 74) .skip (.exit 4))) (.seq (.block 5 (.seq (.draw [(ee 77 2 5),(eb 78 77),(ea 79 8),(d7 80 2 78 79),(ec 81 2 80),(ee 82 2 5),(eb 83 82),(ea 84 8),(d2 85 .sub 84 1),(d7 86 2 83 85),(ec 87 2 86),(eo 88 (.eqa false 2 (.t 81) (.t 87)))]) (.cond (.t 88) (rg [(b6 4 2)] .ret) .skip))) (.reg [(sa 75 8),(b2 76 .add 75 1),(sa 8 76)])))))) (.seq (rg [(se 89 1 5),(sb 90 89),(b2 91 .eql 90 3),(sa 92 91),⟨(some 93),.fa 2 (.t 5),(some (92,true))⟩,⟨(some 94),.ld (.t 93),(some (92,true))⟩,⟨(some 95),.len (.t 94),(some (92,true))⟩,⟨(some 96),.bin .gtr (.t 95) (ki 2),(some (92,true))⟩,(so 97 (.pick (.t 92) (.t 96) (.k (.bool false))))] (.cond (.t 97) (rg [(b6 4 2)] .ret) .skip)) (rg [(b6 4 0)] .ret))))))))))))⟩
def s51:ay:=⟨16,[.tmp 2],(rg [(so 2 (.mov (.k (.bool false))))] (.seq (rg [(b6 3 0)] (.block 0 (.loop (.seq (rg [(sa 4 3),(sa 5 0),(b4 6 5),(b1 7 .lss 4 6)] (.cond (.t 7) .skip (.exit 0))) (.seq (.block 1 (rg [(sa 10 0),(sa 11 3),(b7 12 1 10 11),(sb 13 12),(so 14 (.call 148 [(.t 13),(ki (-100000)),(ki 100000)])),(b5 15 14)] (.cond (.t 15) (rg [(so 2 (.mov (.k (.bool false))))] .ret) .skip))) (.reg [(sa 8 3),(b2 9 .add 8 1),(sa 3 9)])))))) (rg [(so 2 (.mov (.k (.bool true))))] .ret)))⟩
def s71:ay:=⟨15,[.tmp 6],(rg [(so 6 (.mov (.k (.bool false))))] (rg [(sa 7 0),(sa 8 1),(b1 9 .geq 7 8),(sa 10 9),⟨(some 11),.mov (.t 0),(some (10,true))⟩,⟨(some 12),.mov (.t 2),(some (10,true))⟩,⟨(some 13),.bin .leq (.t 11) (.t 12),(some (10,true))⟩,(so 14 (.pick (.t 10) (.t 13) (.k (.bool false)))),(sa 6 14)] .ret))⟩
def s72:ay:=⟨73,[.tmp 2],(rg [(so 1 (.box 146 (.t 0))),(b6 2 0)] (.seq (rg [(se 5 0 1),(so 6 (.iaA 2 1 (.t 5) (ki 0))),(sb 7 6),(se 8 0 1),(so 9 (.iaA 2 1 (.t 8) (ki 1))),(sb 10 9),(se 11 2 1),(so 12 (.iaA 2 1 (.t 11) (ki 0))),(sb 13 12),(se 14 2 1),(so 15 (.iaA 2 1 (.t 14) (ki 1))),(sb 16 15),(so 17 (.bsl 3 4 (zs 4) [(0,1,(.t 7)),(1,1,(.t 10)),(2,1,(.t 13)),(3,1,(.t 16))])),(b3 18 147 [17]),(b5 19 18)] (.cond (.t 19) (rg [(b6 2 7)] .ret) .skip)) (.seq (rg [(se 20 0 1),(sc 21 2 20),(se 22 2 1),(sc 23 2 22),(so 24 (.eqa false 2 (.t 21) (.t 23)))] (.cond (.t 24) (rg [(b6 2 2)] .ret) .skip)) (.seq (rg [(se 25 4 1),(sb 26 25),(b4 27 26),(b2 28 .gtr 27 6)] (.cond (.t 28) (rg [(b6 2 3)] .ret) .skip)) (.seq (rg [(b6 3 0)] (.block 0 (.loop (.seq (rg [(sa 29 3),(se 30 4 1),(sb 31 30),(b4 32 31),(b1 33 .lss 29 32)] (.cond (.t 33) .skip (.exit 0))) (.seq (.block 1 (rg [(se 36 4 1),(sb 37 36),(sa 38 3),(b7 39 4 37 38),(sc 40 4 39),(so 4 (.new 148 (zs 4))),(b8 4 4 40)] (rg [(se 41 0 4),(sb 42 41),(b2 43 .lss 42 0),(sa 44 43),⟨(some 45),.fa 0 (.t 4),(some (44,false))⟩,⟨(some 46),.ld (.t 45),(some (44,false))⟩,⟨(some 47),.fa 1 (.t 4),(some (44,false))⟩,⟨(some 48),.ld (.t 47),(some (44,false))⟩,⟨(some 49),.bin .geq (.t 46) (.t 48),(some (44,false))⟩,(so 50 (.pick (.t 44) (.k (.bool true)) (.t 49))),(sa 51 50),⟨(some 52),.fa 1 (.t 4),(some (51,false))⟩,⟨(some 53),.ld (.t 52),(some (51,false))⟩,⟨(some 54),.bin .gtr (.t 53) (ki 1000),(some (51,false))⟩,(so 55 (.pick (.t 51) (.k (.bool true)) (.t 54))),(sa 56 55),⟨(some 57),.fa 2 (.t 4),(some (56,false))⟩,⟨(some 58),.ld (.t 57),(some (56,false))⟩,⟨(some 59),.bin .lss (.t 58) (ki 0),(some (56,false))⟩,(so 60 (.pick (.t 56) (.k (.bool true)) (.t 59))),(sa 61 60),⟨(some 62),.fa 2 (.t 4),(some (61,false))⟩,⟨(some 63),.ld (.t 62),(some (61,false))⟩,⟨(some 64),.fa 3 (.t 4),(some (61,false))⟩,⟨(some 65),.ld (.t 64),(some (61,false))⟩,⟨(some 66),.bin .geq (.t 63) (.t 65),(some (61,false))⟩,(so 67 (.pick (.t 61) (.k (.bool true)) (.t 66))),(sa 68 67),⟨(some 69),.fa 3 (.t 4),(some (68,false))⟩,⟨(some 70),.ld (.t 69),(some (68,false))⟩,⟨(some 71),.bin .gtr (.t 70) (ki 1000),(some (68,false))⟩,(so 72 (.pick (.t 68) (.k (.bool true)) (.t 71)))] (.cond (.t 72) (rg [(b6 2 7)] .ret) .skip)))) (.reg [(sa 34 3),(b2 35 .add 34 1),(sa 3 35)])))))) (rg [(b6 2 0)] .ret))))))⟩
def s73:ay:=⟨63,[.tmp 4],(rg [(so 2 (.box 31 (.t 0))),(b6 4 0)] (rg [(se 7 3 2),(sb 8 7),(sa 9 1),(b7 10 6 8 9),(sc 11 6 10),(so 5 (.new 82 [(.str ⟨#[]⟩),(.int .i64 0),(.int .i64 0),(.int .i64 0),(.int .i64 0),(.int .i64 0)])),(b8 6 5 11)] (.seq (rg [(se 12 0 5),(sb 13 12),(b3 14 219 [13]),(b5 15 14)] (.cond (.t 15) (rg [(b6 4 6)] .ret) .skip)) (.seq (rg [(b6 6 0)] (.block 0 (.loop (.seq (rg [(sa 16 6),(sa 17 1),(b1 18 .lss 16 17)] (.cond (.t 18) .skip (.exit 0))) (.seq (.block 1 (.seq (.draw [(ee 21 3 2),(eb 22 21),(ea 23 6),(d7 24 6 22 23),(ee 25 0 24),(eb 26 25),(ee 27 0 5),(eb 28 27),(d1 29 .eql 26 28)]) (.cond (.t 29) (rg [(b6 4 5)] .ret) .skip))) (.reg [(sa 19 6),(b2 20 .add 19 1),(sa 6 20)])))))) (.seq (rg [(se 30 1 5),(sb 31 30),(se 32 2 5),(sb 33 32),(so 34 (.bsl 3 2 (zs 2) [(0,1,(.t 31)),(1,1,(.t 33))])),(b3 35 147 [34]),(b5 36 35),(sa 37 36),⟨(some 38),.fa 3 (.t 5),(some (37,false))⟩,⟨(some 39),.ld (.t 38),(some (37,false))⟩,⟨(some 40),.call 148 [(.t 39),(ki 1),(ki 200)],(some (37,false))⟩,⟨(some 41),.un .not (.t 40),(some (37,false))⟩,(so 42 (.pick (.t 37) (.k (.bool true)) (.t 41))),(sa 43 42),⟨(some 44),.fa 4 (.t 5),(some (43,false))⟩,⟨(some 45),.ld (.t 44),(some (43,false))⟩,⟨(some 46),.call 148 [(.t 45),(ki (-1000)),(ki 1000)],(some (43,false))⟩,⟨(some 47),.un .not (.t 46),(some (43,false))⟩,(so 48 (.pick (.t 43) (.k (.bool true)) (.t 47))),(sa 49 48),⟨(some 50),.fa 5 (.t 5),(some (49,false))⟩,⟨(some 51),.ld (.t 50),(some (49,false))⟩,⟨(some 52),.call 148 [(.t 51),(ki (-1000)),(ki 1000)],(some (49,false))⟩,⟨(some 53),.un .not (.t 52),(some (49,false))⟩,(so 54 (.pick (.t 49) (.k (.bool true)) (.t 53)))] (.cond (.t 54) (rg [(b6 4 7)] .ret) .skip)) (.seq (rg [(se 55 4 5),(sb 56 55),(b2 57 .eql 56 0),(sa 58 57),⟨(some 59),.fa 5 (.t 5),(some (58,true))⟩,⟨(some 60),.ld (.t 59),(some (58,true))⟩,⟨(some 61),.bin .eql (.t 60) (ki 0),(some (58,true))⟩,(so 62 (.pick (.t 58) (.t 61) (.k (.bool false))))] (.cond (.t 62) (rg [(b6 4 2)] .ret) .skip)) (rg [(b6 4 0)] .ret)))))))⟩
def Uc:ay:=⟨82,[.cell 12 (some 4)],(rg [(so 12 (.new 55 (zs 4)))] (rg [(so 13 (.mov (.k (.slice none 0 0)))),(so 14 (.mov (.k (.slice none 0 0))))] (.seq (rg [(b6 15 0)] (.block 0 (.loop (.seq (rg [(sa 19 15),(b2 20 .lss 19 4)] (.cond (.t 20) .skip (.exit 0))) (.seq (.block 1 (rg [(sa 23 0),(sa 24 2),(sa 16 23),(sa 17 24)] (.seq (rg [(sa 25 15),(b2 26 .rem 25 2),(b2 27 .eql 26 1)] (.cond (.t 27) (.reg [(sa 28 1),(sa 16 28)]) .skip)) (.seq (rg [(sa 29 15),(b2 30 .quo 29 2),(b2 31 .eql 30 1)] (.cond (.t 31) (.reg [(sa 32 3),(sa 17 32)]) .skip)) (.reg [(sa 33 13),(sa 34 16),(sa 35 5),(b1 36 .mul 34 35),(sa 37 17),(sa 38 4),(b1 39 .mul 37 38),(b1 40 .sub 36 39),(so 41 (.bsl 3 1 [(.int .i64 0)] [(0,1,(.t 40))])),(so 42 (.app 3 1 8 [(.int .i64 0)] (.t 33) (.t 41))),(sa 43 14),(sa 44 16),(sa 45 4),(b1 46 .mul 44 45),(sa 47 17),(sa 48 5),(b1 49 .mul 47 48),(b1 50 .add 46 49),(so 51 (.bsl 3 1 [(.int .i64 0)] [(0,1,(.t 50))])),(so 52 (.app 3 1 8 [(.int .i64 0)] (.t 43) (.t 51))),(sa 13 42),(sa 14 52)]))))) (.reg [(sa 21 15),(b2 22 .add 21 1),(sa 15 22)])))))) (rg [(so 18 (.new 55 (zs 4)))] (rg [(sa 54 13),(sa 55 4),(sa 56 4),(b1 57 .mul 55 56),(sa 58 5),(sa 59 5),(b1 60 .mul 58 59),(b1 61 .add 57 60),(b3 62 220 [54,61]),(sa 53 62),(so 63 (.ext (.t 53) 0)),(so 64 (.ext (.t 53) 1)),(se 65 0 18),(b8 1 65 63),(se 66 1 18),(b8 1 66 64)] (rg [(sa 68 14),(sa 69 4),(sa 70 4),(b1 71 .mul 69 70),(sa 72 5),(sa 73 5),(b1 74 .mul 72 73),(b1 75 .add 71 74),(b3 76 220 [68,75]),(sa 67 76),(so 77 (.ext (.t 67) 0)),(so 78 (.ext (.t 67) 1)),(se 79 2 18),(b8 1 79 77),(se 80 3 18),(b8 1 80 78)] (rg [(sc 81 4 18),(b8 4 12 81)] .ret)))))))⟩
def s99:ay:=⟨9,[.tmp 4],(rg [(so 4 (.mov (.k (.bool false))))] (rg [(sa 5 0),(sa 6 1),(b3 7 221 [5,6]),(b2 8 .geq 7 0),(sa 4 8)] .ret))⟩
def LO:ay:=⟨6,[.tmp 2],(rg [(so 2 (.mov (.k (.bool false))))] (rg [(sa 3 0),(so 4 (.call 61 [(.t 3),(ki (-100000)),(ki 100000)])),(b5 5 4),(sa 2 5)] .ret))⟩
def LQ:ay:=⟨16,[.tmp 6],(rg [(so 3 (.box 116 (.t 0))),(b6 6 0)] (rg [(sa 7 1),(se 8 0 3),(sb 9 8),(b1 10 .mul 7 9),(sa 11 2),(se 12 1 3),(sb 13 12),(b1 14 .mul 11 13),(b1 15 .add 10 14),(sa 6 15)] .ret))⟩
def NN:ay:=⟨16,[.tmp 6],(rg [(so 3 (.box 116 (.t 0))),(b6 6 0)] (rg [(sa 7 1),(se 8 1 3),(sb 9 8),(b1 10 .mul 7 9),(sa 11 2),(se 12 0 3),(sb 13 12),(b1 14 .mul 11 13),(b1 15 .sub 10 14),(sa 6 15)] .ret))⟩
def Ns:ay:=⟨14,[.tmp 2],(rg [(so 1 (.box 116 (.t 0))),(b6 2 0)] (rg [(se 3 0 1),(sb 4 3),(se 5 0 1),(sb 6 5),(b1 7 .mul 4 6),(se 8 1 1),(sb 9 8),(se 10 1 1),(sb 11 10),(b1 12 .mul 9 11),(b1 13 .add 7 12),(sa 2 13)] .ret))⟩
def Vp:ay:=⟨25,[.tmp 4,.tmp 5],(rg [(b6 4 0),(b6 5 0)] (rg [(sa 6 0),(sa 7 0),(b1 8 .mul 6 7),(sa 9 1),(sa 10 1),(b1 11 .mul 9 10),(so 12 (.mm false (.t 8) [(.t 11)])),(sa 13 0),(sa 14 0),(b1 15 .mul 13 14),(sa 16 1),(sa 17 1),(b1 18 .mul 16 17),(so 19 (.mm true (.t 15) [(.t 18)])),(sa 4 12),(sa 5 19)] (.seq (rg [(sa 20 0),(sa 21 1),(so 22 (.call 61 [(ki 0),(.t 20),(.t 21)]))] (.cond (.t 22) (.reg [(b6 4 0)]) .skip)) (rg [(sa 23 4),(sa 24 5),(sa 4 23),(sa 5 24)] .ret))))⟩
def s86:ay:=⟨15,[.tmp 6],(rg [(so 6 (.mov (.k (.bool false))))] (rg [(sa 7 0),(sa 8 1),(b1 9 .lss 7 8),(sa 10 9),⟨(some 11),.mov (.t 0),(some (10,false))⟩,⟨(some 12),.mov (.t 2),(some (10,false))⟩,⟨(some 13),.bin .gtr (.t 11) (.t 12),(some (10,false))⟩,(so 14 (.pick (.t 10) (.k (.bool true)) (.t 13))),(sa 6 14)] .ret))⟩
def Mr:ay:=⟨11,[.tmp 6],(rg [(so 4 (.box 3 (.t 1))),(so 5 (.box 3 (.t 2))),(so 6 (.mov (.k (.bool false))))] (rg [(sa 7 0),(so 8 (.mkf (.func 222) [] [(.t 4),(.t 5)])),(b3 9 152 [7,8]),(b5 10 9),(sa 6 10)] .ret))⟩
def NK:ay:=⟨37,[.tmp 10],(rg [(so 8 (.box 85 (.t 3))),(b6 10 0)] (rg [(sa 11 4),(sa 12 0),(sa 13 1),(se 14 0 8),(sb 15 14),(b1 16 .mul 13 15),(so 17 (.bin .sub (ki 1000000) (.t 16))),(so 18 (.mm true (.t 17) [(ki 0)])),(b1 19 .mul 12 18),(so 20 (.callv (.t 11) [(.t 19),(ki 1000000)])),(sa 0 20)] (rg [(sa 21 4),(sa 22 0),(sa 23 2),(se 24 1 8),(sb 25 24),(b1 26 .mul 23 25),(so 27 (.bin .sub (ki 1000) (.t 26))),(so 28 (.mm true (.t 27) [(ki 0)])),(b1 29 .mul 22 28),(so 30 (.callv (.t 21) [(.t 29),(ki 1000)])),(sa 0 30)] (rg [(sa 31 4),(sa 32 0),(se 33 2 8),(sb 34 33),(b1 35 .mul 32 34),(so 36 (.callv (.t 31) [(.t 35),(ki 1000)])),(sa 10 36)] .ret))))⟩
def NS:ay:=⟨21,[.tmp 3],(rg [(so 3 (.mov (.k (.slice none 0 0))))] (rg [(so 4 (.mov (.k (.slice none 0 0))))] (.seq (rg [(sa 7 0),(b4 8 7),(b6 9 0)] (.block 0 (.loop (rg [(b1 10 .lss 9 8)] (.seq (.cond (.t 10) .skip (.exit 0)) (.seq (.block 1 (rg [(b7 11 1 7 9),(sb 12 11),(sa 6 12)] (.reg [(sa 13 4),(sa 14 6),(sb 15 1),(b1 16 .mul 14 15),(so 17 (.bsl 3 1 [(.int .i64 0)] [(0,1,(.t 16))])),(so 18 (.app 3 1 8 [(.int .i64 0)] (.t 13) (.t 17))),(sa 4 18)]))) (.reg [(b2 19 .add 9 1),(sa 9 19)]))))))) (rg [(sa 20 4),(sa 3 20)] .ret))))⟩
def iJ:ay:=⟨26,[.cell 4 (some 2)],(rg [(so 2 (.box 39 (.t 0))),(so 4 (.new 39 (zs 2)))] (.seq (rg [(sa 7 1),(b4 8 7),(b6 9 0)] (.block 0 (.loop (rg [(b1 10 .lss 9 8)] (.seq (.cond (.t 10) .skip (.exit 0)) (.seq (.block 1 (rg [(b7 11 2 7 9),(sc 12 2 11),(so 6 (.new 39 (zs 2))),(b8 2 6 12)] (.reg [(se 13 0 2),(sb 14 13),(se 15 0 6),(sb 16 15),(so 17 (.mm false (.t 14) [(.t 16)])),(se 18 1 2),(sb 19 18),(se 20 1 6),(sb 21 20),(so 22 (.mm true (.t 19) [(.t 21)])),(so 23 (.agg (zs 2) [(0,1,(.t 17)),(1,1,(.t 22))])),(b8 2 2 23)]))) (.reg [(b2 24 .add 9 1),(sa 9 24)]))))))) (rg [(sc 25 2 2),(b8 2 4 25)] .ret)))⟩
def qS:ay:=⟨48,[.cell 6 (some 2)],(rg [(so 3 (.box 161 (.t 0))),(so 5 (.box 3 (.t 2))),(so 6 (.new 39 (zs 2)))] (.seq (rg [(sc 10 9 3),(sa 11 1),(sb 12 5),(b3 13 170 [10,11,12]),(b5 14 13)] (.cond (.t 14) (rg [(se 15 0 3),(se 16 4 15),(sb 17 16),(so 18 (.agg (zs 2) [(1,1,(.t 17))])),(b8 2 6 18)] .ret) .skip)) (.seq (.draw [⟨(se 19 6 3),none,[8],[]⟩,⟨(sb 20 19),none,[8],[]⟩,⟨(sa 21 1),none,[8],[]⟩,⟨(b3 22 223 [20,21]),none,[8],[]⟩,⟨(se 23 7 3),none,[8],[]⟩,⟨(sb 24 23),none,[8],[]⟩,⟨(sb 25 5),none,[8],[]⟩,⟨(b3 26 223 [24,25]),none,[8],[]⟩,⟨(so 8 (.new 3 [(.int .i64 0)])),(some 0),[],[.fresh 0]⟩,(ea 7 22),⟨(b8 1 8 26),none,[],[.fresh 0]⟩]) (rg [(so 27 (.mkf (.func 224) [] [(.t 3),(.t 8),(.t 5)])),(sa 9 27)] (.seq (.draw [(ea 28 9),(ea 29 7),(eo 30 (.callv (.t 28) [(.t 29)])),(ea 31 9),(ea 32 7),(d2 33 .add 32 1),(eo 34 (.callv (.t 31) [(.t 33)])),(ee 35 6 3),(eb 36 35),(ea 37 7),(d7 38 1 36 37),(eb 39 38),(ee 40 6 3),(eb 41 40),(ea 42 7),(d2 43 .add 42 1),(d7 44 1 41 43),(eb 45 44),(ea 46 1),(d3 47 225 [30,34,39,45,46]),⟨(b8 2 6 47),none,[],[.slot 6]⟩]) .ret)))))⟩
def WG:ay:=⟨8,[.tmp 6],(rg [(so 3 (.box 32 (.t 0))),(so 4 (.box 3 (.t 1))),(so 5 (.box 3 (.t 2))),(so 6 (.mov (.k (.raw .nilFunc))))] (rg [(so 7 (.mkf (.func 227) [] [(.t 4),(.t 5),(.t 3)])),(sa 6 7)] .ret))⟩
def Wp:ay:=⟨37,[.tmp 6],(rg [(so 3 (.box 161 (.t 0))),(so 6 (.mov (.k (.bool false))))] (.seq (.draw [(ea 7 1),(ee 8 6 3),(eb 9 8),(eo 10 (.iaS 1 (.t 9) (ki 0))),(eb 11 10),(ee 12 6 3),(eb 13 12),(ee 14 6 3),(eb 15 14),(d4 16 15),(d2 17 .sub 16 1),(d7 18 1 13 17),(eb 19 18),(d3 20 133 [7,11,19]),(ea 21 20),(dz ⟨(some 22),.mov (.t 2),(some (21,true))⟩),(dz ⟨(some 23),.fa 7 (.t 3),(some (21,true))⟩),(dz ⟨(some 24),.ld (.t 23),(some (21,true))⟩),(dz ⟨(some 25),.iaS 1 (.t 24) (ki 0),(some (21,true))⟩),(dz ⟨(some 26),.ld (.t 25),(some (21,true))⟩),(dz ⟨(some 27),.fa 7 (.t 3),(some (21,true))⟩),(dz ⟨(some 28),.ld (.t 27),(some (21,true))⟩),(dz ⟨(some 29),.fa 7 (.t 3),(some (21,true))⟩),(dz ⟨(some 30),.ld (.t 29),(some (21,true))⟩),(dz ⟨(some 31),.len (.t 30),(some (21,true))⟩),(dz ⟨(some 32),.bin .sub (.t 31) (ki 1),(some (21,true))⟩),(dz ⟨(some 33),.iaS 1 (.t 28) (.t 32),(some (21,true))⟩),(dz ⟨(some 34),.ld (.t 33),(some (21,true))⟩),(dz ⟨(some 35),.call 133 [(.t 22),(.t 26),(.t 34)],(some (21,true))⟩),(eo 36 (.pick (.t 21) (.t 35) (.k (.bool false)))),(ea 6 36)]) .ret))⟩
def Vh:ay:=⟨15,[.tmp 6],(rg [(so 6 (.mov (.k (.bool false))))] (rg [(sa 7 0),(sa 8 1),(b1 9 .geq 7 8),(sa 10 9),⟨(some 11),.mov (.t 0),(some (10,true))⟩,⟨(some 12),.mov (.t 2),(some (10,true))⟩,⟨(some 13),.bin .leq (.t 11) (.t 12),(some (10,true))⟩,(so 14 (.pick (.t 10) (.t 13) (.k (.bool false)))),(sa 6 14)] .ret))⟩
def s17:ay:=⟨57,[.tmp 6,.tmp 7],(rg [(so 3 (.box 31 (.t 0))),(so 5 (.box 37 (.t 2))),(b6 6 0),(b6 7 0)] (rg [(sc 14 4 3),(sa 15 1),(se 16 3 3),(sb 17 16),(b4 18 17),(so 19 (.bsl 3 2 (zs 2) [(0,1,(.t 15)),(1,1,(.t 18))])),(b3 20 81 [14,19]),(sa 8 20)] (.seq (.block 0 (rg [(sa 22 8),(b2 23 .neq 22 0),(sa 21 23)] (.cond (.t 21) (rg [(sa 24 8),(b6 6 0),(sa 7 24)] .ret) (rg [(sc 26 4 5),(b3 27 235 [26]),(sa 25 27)] (.cond (.t 25) (rg [(b6 6 0),(b6 7 7)] .ret) .skip))))) (rg [(b6 9 0)] (.seq (rg [(se 28 1 3),(sb 29 28),(b4 30 29),(b6 31 0)] (.block 1 (.loop (rg [(b1 32 .lss 31 30)] (.seq (.cond (.t 32) .skip (.exit 1)) (.seq (.block 2 (rg [(b7 33 5 29 31),(sc 34 5 33),(so 11 (.new 138 (zs 5))),(b8 5 11 34)] (.seq (.draw [⟨(se 35 3 3),none,[7],[]⟩,⟨(sb 36 35),none,[7],[]⟩,⟨(sa 37 1),none,[7],[]⟩,⟨(b7 38 6 36 37),none,[7],[]⟩,⟨(sc 39 6 38),none,[7],[]⟩,⟨(sc 40 5 11),none,[7],[]⟩,⟨(b3 41 236 [39,40]),none,[7],[]⟩,⟨(so 12 (.new 267 [(.int .i64 0),(.int .i64 0),(.int .i64 0),(.int .i64 0),(.int .i64 0),(.int .i64 0),(.int .i64 0),(.int .i64 0),(.bool false)])),(some 0),[],[.fresh 0]⟩,⟨(b8 9 12 41),none,[],[.fresh 0]⟩]) (rg [(sc 42 4 5),(b3 43 237 [42]),(so 13 (.new 269 (zs 8))),(b8 8 13 43)] (.block 3 (rg [(so 45 (.slA 4 2 (.t 13) none none none)),(so 46 (.mkf (.func 239) [] [(.t 12)])),(b3 47 238 [45,46]),(b5 48 47),(sa 44 48)] (.cond (.t 44) (.reg [(b6 9 2)]) (rg [(sc 50 9 12),(sc 51 4 5),(b3 52 241 [50,51]),(sa 49 52)] (.cond (.t 49) (.reg [(sa 53 9),(so 54 (.mm true (.t 53) [(ki 1)])),(sa 9 54)]) .skip))))))))) (.reg [(b2 55 .add 31 1),(sa 31 55)]))))))) (rg [(sa 56 9),(sa 6 56),(b6 7 0)] .ret))))))⟩
def We:ay:=⟨26,[.tmp 4],(rg [(so 2 (.box 25 (.t 0))),(b6 4 0)] (rg [(sc 9 2 2),(b3 10 59 [9]),(sa 8 10),(so 11 (.ext (.t 8) 0)),(so 12 (.ext (.t 8) 1)),(so 13 (.ext (.t 8) 2)),(sa 5 11),(sa 6 12),(sa 7 13)] (.seq (rg [(sa 14 7),(b2 15 .eql 14 0),(sa 16 15),⟨(some 17),.mov (.t 1),(some (16,true))⟩,⟨(some 18),.fa 0 (.t 2),(some (16,true))⟩,⟨(some 19),.ld (.t 18),(some (16,true))⟩,⟨(some 20),.len (.t 19),(some (16,true))⟩,⟨(some 21),.bin .sub (.t 20) (ki 1),(some (16,true))⟩,⟨(some 22),.call 133 [(.t 17),(ki 0),(.t 21)],(some (16,true))⟩,⟨(some 23),.un .not (.t 22),(some (16,true))⟩,(so 24 (.pick (.t 16) (.t 23) (.k (.bool false))))] (.cond (.t 24) (.reg [(b6 7 4)]) .skip)) (rg [(sa 25 7),(sa 4 25)] .ret))))⟩
def Gr:ay:=⟨51,[.tmp 5,.tmp 6],(rg [(b6 5 0),(b6 6 0)] (rg [(so 7 (.new 236 (zs 4)))] (.seq (rg [(sc 14 8 1),(b6 15 0)] (.block 0 (.loop (rg [(b2 16 .lss 15 4)] (.seq (.cond (.t 16) .skip (.exit 0)) (.seq (.block 1 (rg [(sa 17 15),(so 18 (.ixA 4 2 (some 2) (.t 14) (.t 15))),(so 9 (.new 45 (zs 2))),(sa 8 17),(b8 2 9 18)] (.reg [(sa 19 8),(sa 20 0),(so 21 (.iaA 2 1 (.t 9) (ki 0))),(sb 22 21),(so 23 (.iaA 2 1 (.t 9) (ki 1))),(sb 24 23),(so 25 (.callv (.t 20) [(.t 22),(.t 24)])),(so 26 (.bin .mul (ki 1000) (.t 25))),(so 27 (.iaA 4 1 (.t 7) (.t 19))),(b8 1 27 26)]))) (.reg [(b2 28 .add 15 1),(sa 15 28)]))))))) (.seq (.draw [(eo 29 (.slA 4 1 (.t 7) none none none)),(d3 30 192 [29]),(eo 31 (.slA 4 1 (.t 7) none none none)),(d3 32 143 [31]),(ea 10 30),(ea 11 32)]) (.seq (.draw [(eb 33 2),(eb 34 3),(ea 12 33),(ea 13 34)]) (.seq (rg [(sa 35 10),(b2 36 .lss 35 0)] (.cond (.t 36) (.reg [(sb 37 3),(sa 12 37)]) .skip)) (.seq (rg [(sa 38 11),(b2 39 .lss 38 0)] (.cond (.t 39) (.reg [(sb 40 2),(sa 13 40)]) .skip)) (rg [(sa 41 10),(sa 42 12),(so 43 (.agg (zs 2) [(0,1,(.t 41)),(1,1,(.t 42))])),(b3 44 106 [43]),(b3 45 193 [44]),(sa 46 11),(sa 47 13),(so 48 (.agg (zs 2) [(0,1,(.t 46)),(1,1,(.t 47))])),(b3 49 108 [48]),(b3 50 193 [49]),(sa 5 45),(sa 6 50)] .ret))))))))⟩
def Nr:ay:=⟨25,[.tmp 2],(rg [(b6 2 0)] (.seq (rg [(sa 5 0),(b4 6 5),(b2 7 .lss 6 1)] (.cond (.t 7) (.reg [(so 8 (.ext (ki 0) 0)),⟨none,.ext (ki 0) 0,none⟩]) .skip)) (rg [(sa 9 0),(so 10 (.iaS 1 (.t 9) (ki 0))),(sb 11 10),(sa 3 11)] (.seq (rg [(b6 4 1)] (.block 0 (.loop (.seq (rg [(sa 12 4),(sa 13 0),(b4 14 13),(b1 15 .lss 12 14)] (.cond (.t 15) .skip (.exit 0))) (.seq (.block 1 (.reg [(sa 18 3),(sa 19 0),(sa 20 4),(b7 21 1 19 20),(sb 22 21),(so 23 (.mm false (.t 18) [(.t 22)])),(sa 3 23)])) (.reg [(sa 16 4),(b2 17 .add 16 1),(sa 4 17)])))))) (rg [(sa 24 3),(sa 2 24)] .ret)))))⟩
def Nn:ay:=⟨6,[.tmp 2],(rg [(b6 2 0)] (rg [(sa 3 0),(so 4 (.mm true (.t 3) [(ki (-200000))])),(so 5 (.mm false (.t 4) [(ki 200000)])),(sa 2 5)] .ret))⟩
def Vv:ay:=⟨12,[.tmp 4],(rg [(so 3 (.box 126 (.t 0))),(so 4 (.mov (.k (.bool false))))] (.seq (.draw [(eb 5 1),(ec 6 6 3),(eo 7 (.callv (.t 5) [(.t 6)])),(eb 8 1),(ec 9 6 2),(eo 10 (.callv (.t 8) [(.t 9)])),(d1 11 .eql 7 10),(ea 4 11)]) .ret))⟩
def Wu:ay:=⟨9,[.tmp 4],(rg [(so 4 (.mov (.k (.bool false))))] (rg [(sa 5 0),(sa 6 1),(b3 7 247 [5,6]),(b2 8 .geq 7 0),(sa 4 8)] .ret))⟩
def Ta:ay:=⟨10,[.tmp 3],(rg [(so 3 (.mov (.k (.bool false))))] (rg [(sa 4 0),(b4 5 4),(se 6 2 1),(sb 7 6),(b4 8 7),(b1 9 .neq 5 8),(sa 3 9)] .ret))⟩
def Ug:ay:=⟨6,[.tmp 2],(rg [(so 2 (.mov (.k (.bool false))))] (rg [(sa 3 0),(so 4 (.call 164 [(.t 3),(ki 0),(ki 10000000)])),(b5 5 4),(sa 2 5)] .ret))⟩
def LY:ay:=⟨20,[.tmp 2],(rg [(so 2 (.mov (.k (.bool false))))] (.seq (rg [(b6 3 1)] (.block 0 (.loop (.seq (rg [(sa 4 3),(sa 5 0),(b4 6 5),(b1 7 .lss 4 6)] (.cond (.t 7) .skip (.exit 0))) (.seq (.block 1 (.seq (.draw [(ea 10 0),(ea 11 3),(d2 12 .sub 11 1),(d7 13 1 10 12),(eb 14 13),(ea 15 0),(ea 16 3),(d7 17 1 15 16),(eb 18 17),(d1 19 .geq 14 18)]) (.cond (.t 19) (rg [(so 2 (.mov (.k (.bool false))))] .ret) .skip))) (.reg [(sa 8 3),(b2 9 .add 8 1),(sa 3 9)])))))) (rg [(so 2 (.mov (.k (.bool true))))] .ret)))⟩
def UD:ay:=⟨9,[.tmp 4],(rg [(so 4 (.mov (.k (.bool false))))] (rg [(sa 5 0),(sa 6 1),(b3 7 248 [5,6]),(b2 8 .geq 7 0),(sa 4 8)] .ret))⟩
def Tp:ay:=⟨12,[.tmp 4],(rg [(so 3 (.box 128 (.t 0))),(so 4 (.mov (.k (.bool false))))] (.seq (.draw [(eb 5 1),(ec 6 14 3),(eo 7 (.callv (.t 5) [(.t 6)])),(eb 8 1),(ec 9 14 2),(eo 10 (.callv (.t 8) [(.t 9)])),(d1 11 .eql 7 10),(ea 4 11)]) .ret))⟩
def Uy:ay:=⟨9,[.tmp 4],(rg [(so 4 (.mov (.k (.bool false))))] (rg [(sa 5 0),(sa 6 1),(b3 7 249 [5,6]),(b2 8 .geq 7 0),(sa 4 8)] .ret))⟩
def Zq:ay:=⟨9,[.tmp 3],(rg [(so 2 (.box 189 (.t 0))),(so 3 (.mov (.k (.bool false))))] (rg [(se 4 0 2),(sb 5 4),(se 6 0 1),(sb 7 6),(b1 8 .eql 5 7),(sa 3 8)] .ret))⟩
def Yd:ay:=⟨9,[.tmp 2],(rg [(so 1 (.box 45 (.t 0))),(so 2 (.mov (.k (.bool false))))] (rg [(so 3 (.iaA 2 1 (.t 1) (ki 0))),(sb 4 3),(so 5 (.iaA 2 1 (.t 1) (ki 1))),(sb 6 5),(so 7 (.bsl 3 2 (zs 2) [(0,1,(.t 4)),(1,1,(.t 6))])),(b3 8 206 [7]),(sa 2 8)] .ret))⟩
def s45:ay:=⟨5,[.tmp 2],(rg [(so 2 (.mov (.k (.bool false))))] (rg [(sa 3 0),(so 4 (.call 152 [(.t 3),(.k (.fn (.func 250) [] []))])),(sa 2 4)] .ret))⟩
def YW:ay:=⟨27,[.tmp 2],(rg [(so 2 (.mov (.k (.bool false))))] (rg [(sa 4 0),(so 5 (.call 251 [(.t 4),(.k (.str ⟨#[97,98,99,100,101,102,103,104,105,106,107,108,109,110,111,112,113,114,115,116,117,118,119,120,121,122,48,49,50,51,52,53,54,55,56,57,45]⟩))])),(sa 3 5)] (rg [(sa 6 0),(so 7 (.bin .neq (.t 6) (.k (.str ⟨#[]⟩)))),(sa 8 7),⟨(some 9),.mov (.t 0),(some (8,true))⟩,⟨(some 10),.lenT (.t 9),(some (8,true))⟩,⟨(some 11),.bin .leq (.t 10) (ki 24),(some (8,true))⟩,(so 12 (.pick (.t 8) (.t 11) (.k (.bool false)))),(sa 13 12),⟨(some 14),.mov (.t 3),(some (13,true))⟩,⟨(some 15),.bin .eql (.t 14) (.k (.str ⟨#[]⟩)),(some (13,true))⟩,(so 16 (.pick (.t 13) (.t 15) (.k (.bool false)))),(sa 17 16),⟨(some 18),.mov (.t 0),(some (17,true))⟩,⟨(some 19),.ixS (.t 18) (ki 0),(some (17,true))⟩,⟨(some 20),.bin .geq (.t 19) (.k (.int .u8 97)),(some (17,true))⟩,(so 21 (.pick (.t 17) (.t 20) (.k (.bool false)))),(sa 22 21),⟨(some 23),.mov (.t 0),(some (22,true))⟩,⟨(some 24),.ixS (.t 23) (ki 0),(some (22,true))⟩,⟨(some 25),.bin .leq (.t 24) (.k (.int .u8 122)),(some (22,true))⟩,(so 26 (.pick (.t 22) (.t 25) (.k (.bool false)))),(sa 2 26)] .ret)))⟩
def s90:ay:=⟨9,[.tmp 4],(rg [(so 4 (.mov (.k (.bool false))))] (rg [(sa 5 0),(sa 6 1),(b3 7 252 [5,6]),(b2 8 .geq 7 0),(sa 4 8)] .ret))⟩
def Ze:ay:=⟨9,[.tmp 4],(rg [(so 4 (.mov (.k (.bool false))))] (rg [(sa 5 0),(sa 6 1),(b3 7 253 [5,6]),(b2 8 .geq 7 0),(sa 4 8)] .ret))⟩
def S6:ay:=⟨61,[.tmp 2],(rg [(so 2 (.mov (.k (.slice none 0 0))))] (.seq (rg [(sa 6 0),(b4 7 6),(b2 8 .lss 7 2)] (.cond (.t 8) (rg [(sa 9 0),(sa 2 9)] .ret) .skip)) (.seq (rg [(b6 3 1)] (.block 0 (.loop (.seq (rg [(sa 10 3),(sa 11 0),(b4 12 11),(b1 13 .lss 10 12)] (.cond (.t 13) .skip (.exit 0))) (.seq (.block 1 (.seq (.draw [(ea 16 0),(ea 17 3),(d7 18 2 16 17),(ec 19 2 18),(ea 20 0),(ea 21 3),(d2 22 .sub 21 1),(d7 23 2 20 22),(ec 24 2 23),(eo 25 (.eqa false 2 (.t 19) (.t 24)))]) (.cond (.t 25) (rg [(sa 26 0),(sa 27 3),(so 28 (.slS 2 (.t 26) (some (.t 27)) none none)),(sa 4 28)] (.seq (rg [(b6 5 1)] (.block 2 (.loop (.seq (rg [(sa 29 5),(sa 30 4),(b4 31 30),(b1 32 .lss 29 31)] (.cond (.t 32) .skip (.exit 2))) (.seq (.block 3 (.seq (.draw [(ea 35 4),(ea 36 5),(d7 37 2 35 36),(ec 38 2 37),(ea 39 4),(ea 40 5),(d2 41 .sub 40 1),(d7 42 2 39 41),(ec 43 2 42),(eo 44 (.eqa true 2 (.t 38) (.t 43)))]) (.cond (.t 44) (rg [(sa 45 0),(sa 46 3),(sa 47 4),(sa 48 5),(b7 49 2 47 48),(sc 50 2 49),(b7 51 2 45 46),(b8 2 51 50)] (.reg [(sa 52 3),(b2 53 .add 52 1),(sa 3 53)])) .skip))) (.reg [(sa 33 5),(b2 34 .add 33 1),(sa 5 34)])))))) (rg [(sa 54 0),(sa 55 3),(so 56 (.slS 2 (.t 54) (some (.t 55)) none none)),⟨none,.clr 2 (zs 2) (.t 56),none⟩] (rg [(sa 57 0),(sa 58 3),(so 59 (.slS 2 (.t 57) none (some (.t 58)) none)),(sa 2 59)] .ret)))) .skip))) (.reg [(sa 14 3),(b2 15 .add 14 1),(sa 3 15)])))))) (rg [(sa 60 0),(sa 2 60)] .ret))))⟩
def WN:ay:=⟨8,[.tmp 2],(rg [(so 2 (.mov (.k (.slice none 0 0))))] (.seq (rg [(sa 3 0),(so 4 (.isn false (.t 3)))] (.cond (.t 4) (rg [(so 2 (.mov (.k (.slice none 0 0))))] .ret) .skip)) (rg [(so 5 (.bsl 45 0 [] [])),(sa 6 0),(so 7 (.app 45 2 16 (zs 2) (.t 5) (.t 6))),(sa 2 7)] .ret)))⟩
def Y0:ay:=⟨27,[.tmp 2],(rg [(so 1 (.box 148 (.t 0))),(so 2 (.mov (.k (.bool false))))] (rg [(se 3 1 1),(sb 4 3),(so 5 (.call 161 [(.t 4),(ki 1),(ki 1000)])),(sa 6 5),⟨(some 7),.fa 0 (.t 1),(some (6,false))⟩,⟨(some 8),.ld (.t 7),(some (6,false))⟩,⟨(some 9),.fa 1 (.t 1),(some (6,false))⟩,⟨(some 10),.ld (.t 9),(some (6,false))⟩,⟨(some 11),.bin .sub (.t 10) (ki 1),(some (6,false))⟩,⟨(some 12),.call 161 [(.t 8),(ki 0),(.t 11)],(some (6,false))⟩,(so 13 (.pick (.t 6) (.k (.bool true)) (.t 12))),(sa 14 13),⟨(some 15),.fa 3 (.t 1),(some (14,false))⟩,⟨(some 16),.ld (.t 15),(some (14,false))⟩,⟨(some 17),.call 161 [(.t 16),(ki 1),(ki 1000)],(some (14,false))⟩,(so 18 (.pick (.t 14) (.k (.bool true)) (.t 17))),(sa 19 18),⟨(some 20),.fa 2 (.t 1),(some (19,false))⟩,⟨(some 21),.ld (.t 20),(some (19,false))⟩,⟨(some 22),.fa 3 (.t 1),(some (19,false))⟩,⟨(some 23),.ld (.t 22),(some (19,false))⟩,⟨(some 24),.bin .sub (.t 23) (ki 1),(some (19,false))⟩,⟨(some 25),.call 161 [(.t 21),(ki 0),(.t 24)],(some (19,false))⟩,(so 26 (.pick (.t 19) (.k (.bool true)) (.t 25))),(sa 2 26)] .ret))⟩
def YF:ay:=⟨9,[.tmp 4],(rg [(so 4 (.mov (.k (.bool false))))] (rg [(sa 5 0),(sa 6 1),(b3 7 254 [5,6]),(b2 8 .geq 7 0),(sa 4 8)] .ret))⟩
def Zh:ay:=⟨9,[.tmp 3],(rg [(so 2 (.box 82 (.t 0))),(so 3 (.mov (.k (.bool false))))] (rg [(se 4 0 2),(sb 5 4),(se 6 0 1),(sb 7 6),(b1 8 .eql 5 7),(sa 3 8)] .ret))⟩
def XT:ay:=⟨9,[.tmp 4],(rg [(so 4 (.mov (.k (.bool false))))] (rg [(sa 5 0),(sa 6 1),(b3 7 255 [5,6]),(b2 8 .geq 7 0),(sa 4 8)] .ret))⟩
def Lw:ay:=⟨57,[.tmp 2],(rg [(so 2 (.mov (.k (.bool false))))] (.seq (rg [(sa 4 0),(so 5 (.lenT (.t 4))),(b2 6 .lss 5 1),(sa 7 6),⟨(some 8),.mov (.t 0),(some (7,false))⟩,⟨(some 9),.lenT (.t 8),(some (7,false))⟩,⟨(some 10),.bin .gtr (.t 9) (ki 24),(some (7,false))⟩,(so 11 (.pick (.t 7) (.k (.bool true)) (.t 10))),(sa 12 11),⟨(some 13),.mov (.t 0),(some (12,false))⟩,⟨(some 14),.ixS (.t 13) (ki 0),(some (12,false))⟩,⟨(some 15),.bin .lss (.t 14) (.k (.int .u8 97)),(some (12,false))⟩,(so 16 (.pick (.t 12) (.k (.bool true)) (.t 15))),(sa 17 16),⟨(some 18),.mov (.t 0),(some (17,false))⟩,⟨(some 19),.ixS (.t 18) (ki 0),(some (17,false))⟩,⟨(some 20),.bin .gtr (.t 19) (.k (.int .u8 122)),(some (17,false))⟩,(so 21 (.pick (.t 17) (.k (.bool true)) (.t 20)))] (.cond (.t 21) (rg [(so 2 (.mov (.k (.bool false))))] .ret) .skip)) (.seq (rg [(b6 3 0)] (.block 0 (.loop (.seq (rg [(sa 22 3),(sa 23 0),(so 24 (.lenT (.t 23))),(b1 25 .lss 22 24)] (.cond (.t 25) .skip (.exit 0))) (.seq (.block 1 (rg [(sa 28 0),(sa 29 3),(so 30 (.ixS (.t 28) (.t 29))),(so 31 (.bin .geq (.t 30) (.k (.int .u8 97)))),(sa 32 31),⟨(some 33),.mov (.t 0),(some (32,true))⟩,⟨(some 34),.mov (.t 3),(some (32,true))⟩,⟨(some 35),.ixS (.t 33) (.t 34),(some (32,true))⟩,⟨(some 36),.bin .leq (.t 35) (.k (.int .u8 122)),(some (32,true))⟩,(so 37 (.pick (.t 32) (.t 36) (.k (.bool false)))),(sa 38 37),⟨(some 39),.mov (.t 0),(some (38,false))⟩,⟨(some 40),.mov (.t 3),(some (38,false))⟩,⟨(some 41),.ixS (.t 39) (.t 40),(some (38,false))⟩,⟨(some 42),.bin .geq (.t 41) (.k (.int .u8 48)),(some (38,false))⟩,⟨(some 43),.mov (.t 42),(some (38,false))⟩,⟨(some 44),.mov (.t 0),(some (43,true))⟩,⟨(some 45),.mov (.t 3),(some (43,true))⟩,⟨(some 46),.ixS (.t 44) (.t 45),(some (43,true))⟩,⟨(some 47),.bin .leq (.t 46) (.k (.int .u8 57)),(some (43,true))⟩,⟨(some 48),.pick (.t 43) (.t 47) (.k (.bool false)),(some (38,false))⟩,(so 49 (.pick (.t 38) (.k (.bool true)) (.t 48))),(sa 50 49),⟨(some 51),.mov (.t 0),(some (50,false))⟩,⟨(some 52),.mov (.t 3),(some (50,false))⟩,⟨(some 53),.ixS (.t 51) (.t 52),(some (50,false))⟩,⟨(some 54),.bin .eql (.t 53) (.k (.int .u8 45)),(some (50,false))⟩,(so 55 (.pick (.t 50) (.k (.bool true)) (.t 54))),(b5 56 55)] (.cond (.t 56) (rg [(so 2 (.mov (.k (.bool false))))] .ret) .skip))) (.reg [(sa 26 3),(b2 27 .add 26 1),(sa 3 27)])))))) (rg [(so 2 (.mov (.k (.bool true))))] .ret))))⟩
def Lu:ay:=⟨43,[.tmp 2,.tmp 3,.tmp 4],(rg [(so 2 (.mov (.k (.bool false)))),(so 3 (.mov (.k (.bool false)))),(so 4 (.mov (.k (.bool false))))] (rg [(sa 6 0),(b4 7 6),(so 8 (.call 180 [(.t 7),(ki 2),(ki 12)])),(sa 2 8),(so 3 (.mov (.k (.bool true)))),(so 4 (.mov (.k (.bool true))))] (.seq (rg [(b6 5 0)] (.block 0 (.loop (.seq (rg [(sa 9 5),(sa 10 0),(b4 11 10),(b1 12 .lss 9 11)] (.cond (.t 12) .skip (.exit 0))) (.seq (.block 1 (rg [(sa 15 3),(sa 16 15),⟨(some 17),.mov (.t 0),(some (16,true))⟩,⟨(some 18),.mov (.t 5),(some (16,true))⟩,⟨(some 19),.iaS 1 (.t 17) (.t 18),(some (16,true))⟩,⟨(some 20),.ld (.t 19),(some (16,true))⟩,⟨(some 21),.call 180 [(.t 20),(ki (-5000)),(ki 5000)],(some (16,true))⟩,(so 22 (.pick (.t 16) (.t 21) (.k (.bool false)))),(sa 3 22)] (.draw [(ea 23 4),(ea 24 23),(dz ⟨(some 25),.mov (.t 5),(some (24,true))⟩),(dz ⟨(some 26),.bin .eql (.t 25) (ki 0),(some (24,true))⟩),(dz ⟨(some 27),.mov (.t 26),(some (24,true))⟩),(dz ⟨(some 28),.mov (.t 0),(some (27,false))⟩),(dz ⟨(some 29),.mov (.t 5),(some (27,false))⟩),(dz ⟨(some 30),.iaS 1 (.t 28) (.t 29),(some (27,false))⟩),(dz ⟨(some 31),.ld (.t 30),(some (27,false))⟩),(dz ⟨(some 32),.mov (.t 0),(some (27,false))⟩),(dz ⟨(some 33),.mov (.t 5),(some (27,false))⟩),(dz ⟨(some 34),.bin .sub (.t 33) (ki 1),(some (27,false))⟩),(dz ⟨(some 35),.iaS 1 (.t 32) (.t 34),(some (27,false))⟩),(dz ⟨(some 36),.ld (.t 35),(some (27,false))⟩),(dz ⟨(some 37),.bin .gtr (.t 31) (.t 36),(some (27,false))⟩),(dz ⟨(some 38),.pick (.t 27) (.k (.bool true)) (.t 37),(some (24,true))⟩),(eo 39 (.pick (.t 24) (.t 38) (.k (.bool false)))),(ea 4 39)]))) (.reg [(sa 13 5),(b2 14 .add 13 1),(sa 5 14)])))))) (rg [(sa 40 2),(sa 41 3),(sa 42 4),(sa 2 40),(sa 3 41),(sa 4 42)] .ret))))⟩
def Tm:ay:=⟨26,[.tmp 6],(rg [(so 3 (.box 39 (.t 0))),(so 6 (.mov (.k (.bool false))))] (rg [(se 7 0 3),(sb 8 7),(se 9 1 3),(sb 10 9),(b1 11 .leq 8 10),(sa 12 11),⟨(some 13),.fa 0 (.t 3),(some (12,true))⟩,⟨(some 14),.ld (.t 13),(some (12,true))⟩,⟨(some 15),.mov (.t 1),(some (12,true))⟩,⟨(some 16),.mov (.t 2),(some (12,true))⟩,⟨(some 17),.call 180 [(.t 14),(.t 15),(.t 16)],(some (12,true))⟩,(so 18 (.pick (.t 12) (.t 17) (.k (.bool false)))),(sa 19 18),⟨(some 20),.fa 1 (.t 3),(some (19,true))⟩,⟨(some 21),.ld (.t 20),(some (19,true))⟩,⟨(some 22),.mov (.t 1),(some (19,true))⟩,⟨(some 23),.mov (.t 2),(some (19,true))⟩,⟨(some 24),.call 180 [(.t 21),(.t 22),(.t 23)],(some (19,true))⟩,(so 25 (.pick (.t 19) (.t 24) (.k (.bool false)))),(sa 6 25)] .ret))⟩
def Y9:ay:=⟨54,[.tmp 2],(rg [(so 2 (.mov (.k (.bool false))))] (.seq (rg [(b6 3 0)] (.block 0 (.loop (.seq (rg [(sa 5 3),(sa 6 0),(so 7 (.lenT (.t 6))),(b1 8 .lss 5 7)] (.cond (.t 8) .skip (.exit 0))) (.seq (.block 1 (rg [(sa 11 0),(sa 12 3),(so 13 (.ixS (.t 11) (.t 12))),(so 14 (.bin .geq (.t 13) (.k (.int .u8 97)))),(sa 15 14),⟨(some 16),.mov (.t 0),(some (15,true))⟩,⟨(some 17),.mov (.t 3),(some (15,true))⟩,⟨(some 18),.ixS (.t 16) (.t 17),(some (15,true))⟩,⟨(some 19),.bin .leq (.t 18) (.k (.int .u8 122)),(some (15,true))⟩,(so 20 (.pick (.t 15) (.t 19) (.k (.bool false)))),(sa 4 20)] (rg [(sa 21 4),(b5 22 21),(sa 23 22),⟨(some 24),.mov (.t 3),(some (23,true))⟩,⟨(some 25),.bin .eql (.t 24) (ki 0),(some (23,true))⟩,⟨(some 26),.mov (.t 25),(some (23,true))⟩,⟨(some 27),.mov (.t 0),(some (26,false))⟩,⟨(some 28),.mov (.t 3),(some (26,false))⟩,⟨(some 29),.ixS (.t 27) (.t 28),(some (26,false))⟩,⟨(some 30),.bin .geq (.t 29) (.k (.int .u8 48)),(some (26,false))⟩,⟨(some 31),.mov (.t 30),(some (26,false))⟩,⟨(some 32),.mov (.t 0),(some (31,true))⟩,⟨(some 33),.mov (.t 3),(some (31,true))⟩,⟨(some 34),.ixS (.t 32) (.t 33),(some (31,true))⟩,⟨(some 35),.bin .leq (.t 34) (.k (.int .u8 57)),(some (31,true))⟩,⟨(some 36),.pick (.t 31) (.t 35) (.k (.bool false)),(some (26,false))⟩,⟨(some 37),.un .not (.t 36),(some (26,false))⟩,⟨(some 38),.mov (.t 37),(some (26,false))⟩,⟨(some 39),.mov (.t 0),(some (38,true))⟩,⟨(some 40),.mov (.t 3),(some (38,true))⟩,⟨(some 41),.ixS (.t 39) (.t 40),(some (38,true))⟩,⟨(some 42),.bin .neq (.t 41) (.k (.int .u8 45)),(some (38,true))⟩,⟨(some 43),.pick (.t 38) (.t 42) (.k (.bool false)),(some (26,false))⟩,⟨(some 44),.pick (.t 26) (.k (.bool true)) (.t 43),(some (23,true))⟩,(so 45 (.pick (.t 23) (.t 44) (.k (.bool false))))] (.cond (.t 45) (rg [(so 2 (.mov (.k (.bool false))))] .ret) .skip)))) (.reg [(sa 9 3),(b2 10 .add 9 1),(sa 3 10)])))))) (rg [(sa 46 0),(so 47 (.lenT (.t 46))),(b2 48 .gtr 47 0),(sa 49 48),⟨(some 50),.mov (.t 0),(some (49,true))⟩,⟨(some 51),.lenT (.t 50),(some (49,true))⟩,⟨(some 52),.bin .leq (.t 51) (ki 24),(some (49,true))⟩,(so 53 (.pick (.t 49) (.t 52) (.k (.bool false)))),(sa 2 53)] .ret)))⟩
def K8:ay:=⟨67,[.tmp 4,.tmp 5],(rg [(b6 4 0),(b6 5 0)] (.seq (.draw [(ea 13 0),(eo 14 (.iaS 1 (.t 13) (ki 0))),(eb 15 14),(ea 16 0),(eo 17 (.iaS 1 (.t 16) (ki 0))),(eb 18 17),(ea 6 15),(ea 7 18)]) (.seq (rg [(b6 8 0)] (.block 0 (.loop (.seq (rg [(sa 19 8),(sa 20 0),(b4 21 20),(b1 22 .lss 19 21)] (.cond (.t 22) .skip (.exit 0))) (.seq (.block 1 (.draw [(ea 25 6),(ea 26 0),(ea 27 8),(d7 28 1 26 27),(eb 29 28),(eo 30 (.mm false (.t 25) [(.t 29)])),(ea 31 7),(ea 32 0),(ea 33 8),(d7 34 1 32 33),(eb 35 34),(eo 36 (.mm true (.t 31) [(.t 35)])),(ea 6 30),(ea 7 36)])) (.reg [(sa 23 8),(b2 24 .add 23 1),(sa 8 24)])))))) (rg [(sa 37 1),(so 38 (.bin .mul (ki 1000000) (.t 37))),(b3 39 122 [38]),(sa 40 1),(so 41 (.bin .mul (ki 1000000) (.t 40))),(b3 42 121 [41]),(sa 9 39),(sa 10 42)] (rg [(sa 43 6),(so 44 (.bin .mul (ki 1000) (.t 43))),(sa 45 10),(b3 46 120 [44,45]),(sa 47 7),(so 48 (.bin .mul (ki 1000) (.t 47))),(sa 49 9),(b3 50 99 [48,49]),(sa 11 46),(sa 12 50)] (.seq (rg [(sa 51 6),(b2 52 .lss 51 0)] (.cond (.t 52) (.reg [(sa 53 6),(so 54 (.bin .mul (ki 1000) (.t 53))),(sa 55 9),(b3 56 120 [54,55]),(sa 11 56)]) .skip)) (.seq (rg [(sa 57 7),(b2 58 .lss 57 0)] (.cond (.t 58) (.reg [(sa 59 7),(so 60 (.bin .mul (ki 1000) (.t 59))),(sa 61 10),(b3 62 99 [60,61]),(sa 12 62)]) .skip)) (rg [(sa 63 11),(b3 64 256 [63]),(sa 65 12),(b3 66 256 [65]),(sa 4 64),(sa 5 66)] .ret))))))))⟩
def AJ:ay:=⟨19,[.tmp 4],(rg [(b6 4 0)] (.seq (rg [(sa 6 0),(b4 7 6),(b6 8 0)] (.block 0 (.loop (rg [(b1 9 .lss 8 7)] (.seq (.cond (.t 9) .skip (.exit 0)) (.seq (.block 1 (rg [(sa 10 8),(sa 5 10)] (rg [(sa 11 1),(sa 12 0),(sa 13 5),(b7 14 1 12 13),(sb 15 14),(so 16 (.callv (.t 11) [(.t 15)]))] (.cond (.t 16) (rg [(sa 17 5),(sa 4 17)] .ret) .skip)))) (.reg [(b2 18 .add 8 1),(sa 8 18)]))))))) (rg [(b6 4 (-1))] .ret)))⟩
def LJ:ay:=⟨10,[.tmp 4],(rg [(so 4 (.mov (.k (.bool false))))] (rg [(sa 5 0),(sb 6 1),(sb 7 2),(b3 8 133 [5,6,7]),(b5 9 8),(sa 4 9)] .ret))⟩
def rF:ay:=⟨21,[.tmp 4],(rg [(b6 4 0)] (rg [(sa 8 0),(sa 9 1),(b2 10 .add 9 1),(b3 11 257 [8,10]),(sa 7 11),(so 12 (.ext (.t 7) 0)),(so 13 (.ext (.t 7) 1)),(sa 5 12),(sa 6 13)] (rg [(sa 14 5),(b2 15 .sub 14 1),(sa 16 0),(b4 17 16),(b2 18 .sub 17 2),(so 19 (.mm false (.t 15) [(.t 18)])),(so 20 (.mm true (ki 0) [(.t 19)])),(sa 4 20)] .ret)))⟩
def oa:ay:=⟨37,[.cell 5 (some 2)],(rg [(so 5 (.new 39 (zs 2)))] (rg [(se 7 0 1),(se 8 3 7),(sb 9 8),(sa 10 0),(b7 11 1 9 10),(sb 12 11),(sa 6 12)] (.seq (.draw [(ea 13 6),(eb 14 2),(d7 15 1 13 14),(eb 16 15),(d3 17 226 [16]),(ea 18 6),(eb 19 2),(d2 20 .add 19 1),(d7 21 1 18 20),(eb 22 21),(d3 23 226 [22]),(ee 24 7 1),(eb 25 24),(eb 26 2),(d7 27 1 25 26),(eb 28 27),(ee 29 7 1),(eb 30 29),(eb 31 2),(d2 32 .add 31 1),(d7 33 1 30 32),(eb 34 33),(eb 35 3),(d3 36 225 [17,23,28,34,35]),⟨(b8 2 5 36),none,[],[.slot 5]⟩]) .ret)))⟩
def VD:ay:=⟨46,[.cell 10 (some 2)],(rg [(so 5 (.box 39 (.t 0))),(so 6 (.box 39 (.t 1))),(so 10 (.new 39 (zs 2)))] (.seq (.draw [(ee 11 0 5),(eb 12 11),(ea 13 3),(ea 14 4),(d1 15 .sub 13 14),(d1 16 .mul 12 15),(ee 17 0 6),(eb 18 17),(ea 19 4),(ea 20 2),(d1 21 .sub 19 20),(d1 22 .mul 18 21),(d1 23 .add 16 22),(ea 24 3),(ea 25 2),(d1 26 .sub 24 25),(d3 27 91 [23,26]),(ee 28 1 5),(eb 29 28),(ea 30 3),(ea 31 4),(d1 32 .sub 30 31),(d1 33 .mul 29 32),(ee 34 1 6),(eb 35 34),(ea 36 4),(ea 37 2),(d1 38 .sub 36 37),(d1 39 .mul 35 38),(d1 40 .add 33 39),(ea 41 3),(ea 42 2),(d1 43 .sub 41 42),(d3 44 92 [40,43]),(eo 45 (.agg (zs 2) [(0,1,(.t 27)),(1,1,(.t 44))])),⟨(b8 2 10 45),none,[],[.slot 10]⟩]) .ret))⟩
def Wo:ay:=⟨6,[.cell 2 (some 2)],(rg [(so 2 (.new 39 (zs 2)))] (rg [(sa 3 0),(sa 4 0),(so 5 (.agg (zs 2) [(0,1,(.t 3)),(1,1,(.t 4))])),(b8 2 2 5)] .ret))⟩
def s53:ay:=⟨27,[.tmp 2],(rg [(so 1 (.box 37 (.t 0))),(so 2 (.mov (.k (.bool false))))] (rg [(se 3 0 1),(sb 4 3),(se 5 1 1),(sb 6 5),(se 7 2 1),(sb 8 7),(se 9 3 1),(sb 10 9),(so 11 (.bsl 3 4 (zs 4) [(0,1,(.t 4)),(1,1,(.t 6)),(2,1,(.t 8)),(3,1,(.t 10))])),(b3 12 206 [11]),(sa 13 12),⟨(some 14),.fa 0 (.t 1),(some (13,false))⟩,⟨(some 15),.ld (.t 14),(some (13,false))⟩,⟨(some 16),.fa 2 (.t 1),(some (13,false))⟩,⟨(some 17),.ld (.t 16),(some (13,false))⟩,⟨(some 18),.bin .gtr (.t 15) (.t 17),(some (13,false))⟩,(so 19 (.pick (.t 13) (.k (.bool true)) (.t 18))),(sa 20 19),⟨(some 21),.fa 1 (.t 1),(some (20,false))⟩,⟨(some 22),.ld (.t 21),(some (20,false))⟩,⟨(some 23),.fa 3 (.t 1),(some (20,false))⟩,⟨(some 24),.ld (.t 23),(some (20,false))⟩,⟨(some 25),.bin .gtr (.t 22) (.t 24),(some (20,false))⟩,(so 26 (.pick (.t 20) (.k (.bool true)) (.t 25))),(sa 2 26)] .ret))⟩
def Tq:ay:=⟨19,[.tmp 4],(rg [(b6 4 0)] (.seq (rg [(sa 6 0),(b4 7 6),(b6 8 0)] (.block 0 (.loop (rg [(b1 9 .lss 8 7)] (.seq (.cond (.t 9) .skip (.exit 0)) (.seq (.block 1 (rg [(sa 10 8),(sa 5 10)] (rg [(sa 11 1),(sa 12 0),(sa 13 5),(b7 14 6 12 13),(sc 15 6 14),(so 16 (.callv (.t 11) [(.t 15)]))] (.cond (.t 16) (rg [(sa 17 5),(sa 4 17)] .ret) .skip)))) (.reg [(b2 18 .add 8 1),(sa 8 18)]))))))) (rg [(b6 4 (-1))] .ret)))⟩
def VN:ay:=⟨19,[.tmp 4],(rg [(b6 4 0)] (.seq (rg [(sa 6 0),(b4 7 6),(b6 8 0)] (.block 0 (.loop (rg [(b1 9 .lss 8 7)] (.seq (.cond (.t 9) .skip (.exit 0)) (.seq (.block 1 (rg [(sa 10 8),(sa 5 10)] (rg [(sa 11 1),(sa 12 0),(sa 13 5),(b7 14 1 12 13),(sb 15 14),(so 16 (.callv (.t 11) [(.t 15)]))] (.cond (.t 16) (rg [(sa 17 5),(sa 4 17)] .ret) .skip)))) (.reg [(b2 18 .add 8 1),(sa 8 18)]))))))) (rg [(b6 4 (-1))] .ret)))⟩
def Wk:ay:=⟨19,[.tmp 4],(rg [(b6 4 0)] (.seq (rg [(sa 6 0),(b4 7 6),(b6 8 0)] (.block 0 (.loop (rg [(b1 9 .lss 8 7)] (.seq (.cond (.t 9) .skip (.exit 0)) (.seq (.block 1 (rg [(sa 10 8),(sa 5 10)] (rg [(sa 11 1),(sa 12 0),(sa 13 5),(b7 14 14 12 13),(sc 15 14 14),(so 16 (.callv (.t 11) [(.t 15)]))] (.cond (.t 16) (rg [(sa 17 5),(sa 4 17)] .ret) .skip)))) (.reg [(b2 18 .add 8 1),(sa 8 18)]))))))) (rg [(b6 4 (-1))] .ret)))⟩
def ybl:ay:=⟨5,[.tmp 2],(rg [(so 2 (.mov (.k (.bool false))))] (rg [(sa 3 0),(so 4 (.call 161 [(.t 3),(ki (-100000)),(ki 100000)])),(sa 2 4)] .ret))⟩
def Yt:ay:=⟨19,[.tmp 4],(rg [(b6 4 0)] (.seq (rg [(sa 6 0),(b4 7 6),(b6 8 0)] (.block 0 (.loop (rg [(b1 9 .lss 8 7)] (.seq (.cond (.t 9) .skip (.exit 0)) (.seq (.block 1 (rg [(sa 10 8),(sa 5 10)] (rg [(sa 11 1),(sa 12 0),(sa 13 5),(b7 14 4 12 13),(sc 15 4 14),(so 16 (.callv (.t 11) [(.t 15)]))] (.cond (.t 16) (rg [(sa 17 5),(sa 4 17)] .ret) .skip)))) (.reg [(b2 18 .add 8 1),(sa 8 18)]))))))) (rg [(b6 4 (-1))] .ret)))⟩
def XY:ay:=⟨19,[.tmp 4],(rg [(b6 4 0)] (.seq (rg [(sa 6 0),(b4 7 6),(b6 8 0)] (.block 0 (.loop (rg [(b1 9 .lss 8 7)] (.seq (.cond (.t 9) .skip (.exit 0)) (.seq (.block 1 (rg [(sa 10 8),(sa 5 10)] (rg [(sa 11 1),(sa 12 0),(sa 13 5),(b7 14 2 12 13),(sc 15 2 14),(so 16 (.callv (.t 11) [(.t 15)]))] (.cond (.t 16) (rg [(sa 17 5),(sa 4 17)] .ret) .skip)))) (.reg [(b2 18 .add 8 1),(sa 8 18)]))))))) (rg [(b6 4 (-1))] .ret)))⟩
def Zm:ay:=⟨19,[.tmp 4],(rg [(b6 4 0)] (.seq (rg [(sa 6 0),(b4 7 6),(b6 8 0)] (.block 0 (.loop (rg [(b1 9 .lss 8 7)] (.seq (.cond (.t 9) .skip (.exit 0)) (.seq (.block 1 (rg [(sa 10 8),(sa 5 10)] (rg [(sa 11 1),(sa 12 0),(sa 13 5),(b7 14 4 12 13),(sc 15 4 14),(so 16 (.callv (.t 11) [(.t 15)]))] (.cond (.t 16) (rg [(sa 17 5),(sa 4 17)] .ret) .skip)))) (.reg [(b2 18 .add 8 1),(sa 8 18)]))))))) (rg [(b6 4 (-1))] .ret)))⟩
def YD:ay:=⟨19,[.tmp 4],(rg [(b6 4 0)] (.seq (rg [(sa 6 0),(b4 7 6),(b6 8 0)] (.block 0 (.loop (rg [(b1 9 .lss 8 7)] (.seq (.cond (.t 9) .skip (.exit 0)) (.seq (.block 1 (rg [(sa 10 8),(sa 5 10)] (rg [(sa 11 1),(sa 12 0),(sa 13 5),(b7 14 6 12 13),(sc 15 6 14),(so 16 (.callv (.t 11) [(.t 15)]))] (.cond (.t 16) (rg [(sa 17 5),(sa 4 17)] .ret) .skip)))) (.reg [(b2 18 .add 8 1),(sa 8 18)]))))))) (rg [(b6 4 (-1))] .ret)))⟩
def UP:ay:=⟨6,[.tmp 2],(rg [(b6 2 0)] (rg [(sa 3 0),(so 4 (.mm false (.t 3) [(ki 200000)])),(so 5 (.mm true (ki (-200000)) [(.t 4)])),(sa 2 5)] .ret))⟩
def Tc:ay:=⟨54,[.tmp 4,.tmp 5],(rg [(b6 4 0),(so 5 (.mov (.k (.bool false))))] (rg [(sa 10 0),(b4 11 10),(sa 6 11)] (rg [(sa 12 6),(b6 7 0),(sa 8 12)] (.seq (.block 0 (.loop (.seq (rg [(sa 13 7),(sa 14 8),(b1 15 .lss 13 14)] (.cond (.t 15) .skip (.exit 0))) (.block 1 (rg [(sa 16 7),(sa 17 8),(b1 18 .add 16 17),(so 19 (.conv .u64 (.t 18))),(so 20 (.bin .shr (.t 19) (.k (.int .u64 1)))),(so 21 (.conv .i64 (.t 20))),(sa 9 21)] (rg [(sa 22 0),(sa 23 9),(b7 24 1 22 23),(sb 25 24),(sa 26 1),(b3 27 283 [25,26])] (.cond (.t 27) (.reg [(sa 28 9),(b2 29 .add 28 1),(sa 7 29)]) (.reg [(sa 30 9),(sa 8 30)])))))))) (rg [(sa 31 7),(sa 32 7),(sa 33 6),(b1 34 .lss 32 33),(sa 35 34),⟨(some 36),.mov (.t 0),(some (35,true))⟩,⟨(some 37),.mov (.t 7),(some (35,true))⟩,⟨(some 38),.iaS 1 (.t 36) (.t 37),(some (35,true))⟩,⟨(some 39),.ld (.t 38),(some (35,true))⟩,⟨(some 40),.mov (.t 1),(some (35,true))⟩,⟨(some 41),.bin .eql (.t 39) (.t 40),(some (35,true))⟩,⟨(some 42),.mov (.t 41),(some (35,true))⟩,⟨(some 43),.mov (.t 0),(some (42,false))⟩,⟨(some 44),.mov (.t 7),(some (42,false))⟩,⟨(some 45),.iaS 1 (.t 43) (.t 44),(some (42,false))⟩,⟨(some 46),.ld (.t 45),(some (42,false))⟩,⟨(some 47),.call 284 [(.t 46)],(some (42,false))⟩,⟨(some 48),.mov (.t 47),(some (42,false))⟩,⟨(some 49),.mov (.t 1),(some (48,true))⟩,⟨(some 50),.call 284 [(.t 49)],(some (48,true))⟩,⟨(some 51),.pick (.t 48) (.t 50) (.k (.bool false)),(some (42,false))⟩,⟨(some 52),.pick (.t 42) (.k (.bool true)) (.t 51),(some (35,true))⟩,(so 53 (.pick (.t 35) (.t 52) (.k (.bool false)))),(sa 4 31),(sa 5 53)] .ret)))))⟩
def Ur:ay:=⟨17,[.tmp 4],(rg [(so 4 (.mov (.k (.bool false))))] (rg [(sa 5 0),(b3 6 309 [5]),(sa 7 6),⟨(some 8),.mov (.t 1),(some (7,true))⟩,⟨(some 9),.call 309 [(.t 8)],(some (7,true))⟩,⟨(some 10),.un .not (.t 9),(some (7,true))⟩,(so 11 (.pick (.t 7) (.t 10) (.k (.bool false)))),(sa 12 11),⟨(some 13),.mov (.t 0),(some (12,false))⟩,⟨(some 14),.mov (.t 1),(some (12,false))⟩,⟨(some 15),.bin .lss (.t 13) (.t 14),(some (12,false))⟩,(so 16 (.pick (.t 12) (.k (.bool true)) (.t 15))),(sa 4 16)] .ret))⟩
def WK:ay:=⟨6,[.tmp 2],(rg [(so 2 (.mov (.k (.bool false))))] (rg [(sa 3 0),(sa 4 0),(b1 5 .neq 3 4),(sa 2 5)] .ret))⟩
def Yu:ay:=⟨6,[.tmp 2],(rg [(so 2 (.mov (.k (.bool false))))] (rg [(sa 3 0),(sa 4 0),(b1 5 .neq 3 4),(sa 2 5)] .ret))⟩
end Go.Dx
namespace Go.Dx
abbrev jv0 (l:List V):Int:=iv (hdV l)
abbrev jv1 (l:List V):Int:=iv (hdV (tlV l))
abbrev jv2 (l:List V):Int:=iv (hdV (tlV (tlV l)))
abbrev jv3 (l:List V):Int:=iv (hdV (tlV (tlV (tlV l))))
abbrev jv4 (l:List V):Int:=iv (hdV (tlV (tlV (tlV (tlV l)))))
abbrev jv5 (l:List V):Int:=iv (hdV (tlV (tlV (tlV (tlV (tlV l))))))
theorem dqt {p:Prop} [inst:Decidable p] (h:p):decide p=true:=decide_eq_true h
theorem dqf {p:Prop} [inst:Decidable p] (h:¬p):decide p=false:=decide_eq_false h
theorem imn {a b:Int} (h:0<=a) (g:0<=b):0<=a * b:=Int.mul_nonneg h g
theorem iml {a b c:Int} (h:a<=b) (g:0<=c):c * a<=c * b:=Int.mul_le_mul_of_nonneg_left h g
def iR:Nat->Nat->Rho->Rho
 | _,0,l=>l
 | k,n+1,l=>some (some k)::iR (k+1) n l
def rdP (ct:aY) (un:Unr) (j:JJ) (l:Lp JJ) (s:Env × List O × Option Sx.Ex):T (ck JJ):=rdT ct un j l s.1 s.2.1 s.2.2
abbrev vi (n:Int):V:=.int .i64 n
abbrev tp2:List Ty:=[Ty.int IntKind.i64,Ty.int IntKind.i64]
abbrev tp4:List Ty:=[Ty.int IntKind.i64,Ty.int IntKind.i64,Ty.int IntKind.i64,Ty.int IntKind.i64]
abbrev tp1:List Ty:=[Ty.int IntKind.i64]
abbrev tyR:List Ty:=[Ty.str,Ty.int IntKind.i64,Ty.sl [Ty.int IntKind.i64,Ty.int IntKind.i64],Ty.int IntKind.i64]
abbrev tyF:List Ty:=[Ty.int IntKind.i64,Ty.int IntKind.i64,Ty.int IntKind.i64,Ty.int IntKind.i64,Ty.sl [Ty.int IntKind.i64,Ty.int IntKind.i64,Ty.int IntKind.i64,Ty.int IntKind.i64]]
abbrev tyC:List Ty:=[Ty.str,Ty.int IntKind.i64,Ty.int IntKind.i64,Ty.int IntKind.i64,Ty.int IntKind.i64,Ty.int IntKind.i64]
abbrev tyT:List Ty:=[Ty.int IntKind.i64,Ty.int IntKind.i64,Ty.int IntKind.i64,Ty.int IntKind.i64,Ty.int IntKind.i64]
abbrev scV (n0:Nat) (f0:FnV) (n2:Nat) (f2:FnV) (n4:Nat) (f4:FnV) (n6:Nat) (f6:FnV):V:=.agg [.sl n0 (elV tyR f0),.sl n2 (elV tyT f2),.sl n4 (elV tyF f4),.sl n6 (elV tyC f6)]
end Go.Dx
namespace Go.Dx
open Go.IntKind (i64 u64 u8)
open Go.Sx Go.Proofs
def eqs:List TypeId:=[39,55,116,45,330,151]
theorem hE:∀ t ∈ eqs,bP Tryz.prog t:=by
 intro t ht
 simp only [eqs,List.mem_cons,List.not_mem_nil,or_false] at ht
 rcases ht with rfl | rfl | rfl | rfl | rfl | rfl
 ·exact eg (by kernel_rfl) (by kernel_rfl) (by kernel_rfl) (by kernel_rfl) (by kernel_rfl)
 ·exact eg (by kernel_rfl) (by kernel_rfl) (by kernel_rfl) (by kernel_rfl) (by kernel_rfl)
 ·exact eg (by kernel_rfl) (by kernel_rfl) (by kernel_rfl) (by kernel_rfl) (by kernel_rfl)
 ·exact ti 3 2 (by kernel_rfl) (by kernel_rfl) (by kernel_rfl) (by kernel_rfl) (by kernel_rfl) (by kernel_rfl)
 ·exact eg (by kernel_rfl) (by kernel_rfl) (by kernel_rfl) (by kernel_rfl) (by kernel_rfl)
 ·exact eg (by kernel_rfl) (by kernel_rfl) (by kernel_rfl) (by kernel_rfl) (by kernel_rfl)
theorem hI:hU Tryz.prog eqs its:=by
 intro it ht
 simp only [its,List.mem_cons,List.not_mem_nil,or_false] at ht
 rcases ht with rfl | rfl | rfl
 ·exact ⟨_,Tryz.func158,by kernel_rfl,by kernel_rfl⟩
 ·exact ⟨_,Tryz.func227,by kernel_rfl,by kernel_rfl⟩
 ·exact ⟨_,Tryz.func311,by kernel_rfl,by kernel_rfl⟩
def u0:Unr:=fun _=>0
noncomputable def fnQ (fn : Func) (sf : ay) (ts : List Ty) : Bool × Option ay × Bool × Bool := (fn.name == "runtime.NumGoroutine", c7 Tryz.prog eqs its fn, dL sf.ntmps sf.body, d0 ts)
theorem ek {fn : Func} {sf : ay} {ts : List Ty} (h : fnQ fn sf ts = (false, some sf, true, true)) : (fn.name == "runtime.NumGoroutine") = false /\ c7 Tryz.prog eqs its fn = some sf /\ dL sf.ntmps sf.body = true /\ d0 ts = true := by
 have h1:=congrArg Prod.fst h
 have h2:=congrArg (fun x=>x.2.1) h
 have h3:=congrArg (fun x=>x.2.2.1) h
 have h4:=congrArg (fun x=>x.2.2.2) h
 exact ⟨h1,h2,h3,h4⟩
section
variable {ct:aY} {f:FuncId} {fn:Func} {sf:ay} {un:Unr} {ts:List Ty} {pre:List V->Prop} {r:List V->V}
theorem mkE (hT:aQ Tryz.prog eqs its ct) (hf:Tryz.prog.funcs[f]? = some fn) (hk:fnQ fn sf ts=(false,some sf,true,true)) (h:∀ ds,pre (ae ts ds)->Run ct (aN JJ ct un sf (ae ts ds)) (r (ae ts ds))):(vP (mkC ts pre r)).Ok Tryz.prog f :=
 wR (J:=JJ) (un:=un) hT hE hI hf (ek hk).1 (ek hk).2.1 (ek hk).2.2.1 (ek hk).2.2.2 fun w0 ds hp=>h ds hp hT.dst w0
theorem Zc {e:Nat} {ty:TypeId} (hT:aQ Tryz.prog eqs its ct) (hf:Tryz.prog.funcs[f]? = some fn) (hk:fnQ fn sf ts=(false,some sf,true,true)) (h:∀ ds,pre (ae ts ds)->Run ct (zW JJ e ty ct un sf (ae ts ds)) (r (ae ts ds))):(vL e ty (mkC ts pre r)).Ok Tryz.prog f :=
 Jh (J:=JJ) (un:=un) hT hE hI hf (ek hk).1 (ek hk).2.1 (ek hk).2.2.1 (ek hk).2.2.2 fun w0 ds hp=>h ds hp hT.dst w0
end
end Go.Dx
namespace Go.Dx
open Go.IntKind (i64 u64 u8)
open Go.Sx Go.Proofs
def yaR:aY:=[]
theorem N1:aQ Tryz.prog eqs its yaR:=.nil
def m86 (x0 x1 x2:Int):RT Empty:=.obi (.obi (.obi (.ret (V.bool (bif decide (x0 < x1) then true else decide (x2 < x0))))))
theorem Vf (x0 x1 x2:Int):Fit noD (aN JJ yaR u0 s86 [vi x0,vi x1,vi x2]) (m86 x0 x1 x2):=⟨by kernel_rfl,by kernel_rfl⟩
def ba (x0 x1 x2:Int):Bool:=bif decide (x0 < x1) then true else decide (x2 < x0)
def R86 (x0 x1 x2:Int):V:=.bool (ba x0 x1 x2)
theorem X7 (x0 x1 x2:Int):evR noE (m86 x0 x1 x2) (R86 x0 x1 x2):=ak (ak (ak (ah (by unfold R86 ba; rfl))))
def C86:ap:=mkC [.int .i64,.int .i64,.int .i64] (fun _=>True) fun
 | [.int _ x0,.int _ x1,.int _ x2]=>R86 x0 x1 x2
 | _=>.any
theorem JW:(vP C86).Ok Tryz.prog 161:=mkE N1 Tryz.func161 (by kernel_rfl) fun ds hp=>rf0 (Vf ..) (X7 _ _ _)
def m71 (x0 x1 x2:Int):RT Empty:=.obi (.obi (.obi (.ret (V.bool (bif decide (x1<=x0) then decide (x0<=x2) else false)))))
theorem Tl (x0 x1 x2:Int):Fit noD (aN JJ yaR u0 s71 [vi x0,vi x1,vi x2]) (m71 x0 x1 x2):=⟨by kernel_rfl,by kernel_rfl⟩
def cq (x0 x1 x2:Int):Bool:=bif decide (x1<=x0) then decide (x0<=x2) else false
def R71 (x0 x1 x2:Int):V:=.bool (cq x0 x1 x2)
theorem X0 (x0 x1 x2:Int):evR noE (m71 x0 x1 x2) (R71 x0 x1 x2):=ak (ak (ak (ah (by unfold R71 cq; rfl))))
def C71:ap:=mkC [.int .i64,.int .i64,.int .i64] (fun _=>True) fun
 | [.int _ x0,.int _ x1,.int _ x2]=>R71 x0 x1 x2
 | _=>.any
theorem Sw:(vP C71).Ok Tryz.prog 148:=mkE N1 Tryz.func148 (by kernel_rfl) fun ds hp=>rf0 (Tl ..) (X0 _ _ _)
end Go.Dx
namespace Go.Dx
open Go.IntKind (i64 u64 u8)
open Go.Sx
theorem dF {n:Nat} {P:Nat->Prop} (h:∀ i,i<=n->(i < n->P (i+1))->P i):∀ i,i<=n->P i:=by
 have key:∀ k i,i+k=n->P i:=by
  intro k
  induction k with
  | zero=>intro i e; exact h i (by omega) fun h=>by omega
  | succ k ih=>intro i e; exact h i (by omega) fun _=>ih (i+1) (by omega)
 exact fun i hi=>key (n - i) i (by omega)
theorem bb {x:Int} (h1:-9223372036854775808<=x) (h2:x<=9223372036854775807):i64.wrap x=x:=IntWalk.i64_in _ (by omega)
theorem iE {i n:Nat} (h:i < n) (hn:n<=9223372036854775807):i64.wrap ((i:Int)+1)=((i+1:Nat):Int):=by
 rw [bb (by omega) (by omega)]; omega
theorem nt {n:Nat} {p:Nat->Bool}:bL n p=true ↔ ∀ i,i < n->p i=true:=⟨db,dk⟩
theorem dK {n:Nat} {p:Nat->Bool} (i:Nat) (hi:i < n) (h:p i=false):bL n p=false:=by
 cases hb:bL n p with
 | false=>rfl
 | true=>rw [db hb i hi] at h; cases h
def xo (p:Nat->Bool):Nat->Nat->Int
 | 0,_=>-1
 | k+1,i=>bif p i then (i:Int) else xo p k (i+1)
def idx (n:Nat) (p:Nat->Bool):Int:=xo p n 0
theorem sn {p:Nat->Bool}:∀ (k i:Nat),(∀ j,i<=j->j < i+k->p j=false)->xo p k i=-1
 | 0,_,_=>rfl
 | k+1,i,h=>by simp only [xo,h i (Nat.le_refl _) (by omega),cond_false]; exact sn k (i+1) fun j h1 h2=>h j (by omega) (by omega)
theorem yal {p:Nat->Bool} {j:Nat} (hj:p j=true):∀ (k i:Nat),i<=j->j < i+k->(∀ l,i<=l->l < j->p l=false)->xo p k i=j
 | 0,i,h1,h2,_=>by omega
 | k+1,i,h1,h2,h=>by
   by_cases e:i=j
   ·subst e; simp only [xo,hj,cond_true]
   ·simp only [xo,h i (Nat.le_refl _) (by omega),cond_false]
    exact yal hj k (i+1) (by omega) (by omega) fun l h3 h4=>h l (by omega) h4
theorem pE {n:Nat} {p:Nat->Bool} (h:∀ j,j < n->p j=false):idx n p=-1:=sn n 0 fun j _ h2=>h j (by omega)
theorem qu {n:Nat} {p:Nat->Bool} {j:Nat} (hj:p j=true) (h1:j < n) (h:∀ l,l < j->p l=false):idx n p=j:=yal hj n 0 (by omega) (by omega) fun l _ h4=>h l h4
theorem Ec {n:Nat} {p:Nat->Bool}:(idx n p=-1/\∀ j,j < n->p j=false) ∨ ∃ j,j < n/\idx n p=(j:Int)/\p j=true/\∀ l,l < j->p l=false:=by
 by_cases h:∀ j,j < n->p j=false
 ·exact .inl ⟨pE h,h⟩
 ·right
  have:∃ j,j < n/\p j=true:=by
   simp only [Classical.not_forall] at h
   obtain ⟨j,hj,hp⟩:=h
   exact ⟨j,hj,by simpa using hp⟩
  have key:∀ m,(∃ j,j < m/\j < n/\p j=true)->∃ j,j < n/\p j=true/\∀ l,l < j->p l=false:=by
   intro m
   induction m with
   | zero=>rintro ⟨j,hj,_⟩; omega
   | succ m ih =>
     rintro ⟨j,hj,hn,hp⟩
     by_cases hm:∃ j,j < m/\j < n/\p j=true
     ·exact ih hm
     ·refine ⟨j,hn,hp,fun l hl=>?_⟩
      cases hb:p l with
      | false=>rfl
      | true=>exact (hm ⟨l,by omega,by omega,hb⟩).elim
  obtain ⟨j,hj,hp⟩:=this
  obtain ⟨j,h1,h2,h3⟩:=key n ⟨j,hj,hj,hp⟩
  exact ⟨j,h1,qu h2 h1 h3,h2,h3⟩
def exB (n:Nat) (p:Nat->Bool):Bool:=!bL n fun i=>!p i
theorem jd {n:Nat} {p:Nat->Bool}:decide (0<=idx n p)=exB n p:=by
 rcases Ec (n:=n) (p:=p) with ⟨h1,h2⟩ | ⟨j,h1,h2,h3,_⟩
 ·rw [h1]; unfold exB; rw [dk fun i hi=>by rw [h2 i hi]; rfl]; rfl
 ·rw [h2]; unfold exB; rw [dK j h1 (by rw [h3]; rfl)]; simp
end Go.Dx
namespace Go.Dx
open Go.IntKind (i64 u64 u8)
open Go.Sx
section
variable {S:Type} {step:S->RT S}
theorem lM {L : Int -> S} {n:Nat} {p:Nat->Bool} (hn:n<=9223372036854775807)
 (hst:∀ i:Nat,step (L i)=.br (decide ((i:Int) < (n:Int))) (.ob (decide (0<=(i:Int)/\(i:Int) < (n:Int))) (.obc (.obt (.br (p i) (.ret (.int .i64 i)) (.next [] (L (i64.wrap ((i:Int)+1))) []))))) (.ret (.int .i64 (-1)))) :
 Ev step (L 0) (.int .i64 (idx n p)):=by
 have key := dF (n := n) (P:=fun i=>(∀ j,j < i->p j=false)->Ev step (L i) (.int .i64 (idx n p))) fun i hi ih hj=>by
  refine Ev.of (by rw [hst]; rfl) ?_
  rw [hst]
  refine aw (fun h=>?_) (fun h=>?_)
  ·have hlt:i < n:=by simpa using h
   refine aH (by simpa using hlt) (ao (ac (aw (fun hb=>ah ?_) (fun hb=>aR ?_))))
   ·rw [qu hb hlt hj]
   ·rw [iE hlt hn]
    exact ih hlt fun j h1=>by
     by_cases e:j=i
     ·subst e; exact hb
     ·exact hj j (by omega)
  ·have : i = n := by have:¬ i < n:=by simpa using h
                      omega
   subst this
   refine ah ?_
   rw [pE hj]
 exact key 0 (Nat.zero_le _) fun j hj=>by omega
end
end Go.Dx
namespace Go.Dx
open Go.IntKind (i64 u64 u8)
open Go.Sx
theorem fL {n:Nat} (hn:n<=9223372036854775807) (p:Nat->Bool) {P:Int->Prop} (hstep:∀ i:Nat,i < n->(∀ j,j < i->p j=false)->(p i=false->P (i64.wrap ((i:Int)+1)))->P i) (hend:(∀ j,j < n->p j=false)->P n):P 0:=by
 have key:=dF (n:=n) (P:=fun i=>(∀ j,j < i->p j=false)->P i) fun i hi ih hj=>by
  by_cases hlt:i < n
  ·refine hstep i hlt hj fun hp=>?_
   rw [iE hlt hn]
   exact ih hlt fun j h1=>by
    by_cases e:j=i
    ·subst e; exact hp
    ·exact hj j (by omega)
  ·have:i=n:=by omega
   subst this; exact hend hj
 exact key 0 (Nat.zero_le _) fun j hj=>by omega
theorem wX {n:Nat} (hn:n<=9223372036854775807) {P:Int->Prop} (hstep:∀ i:Nat,i < n->P (i64.wrap ((i:Int)+1))->P i) (hend:P n):P 0 :=
 fL hn (fun _=>false) (fun i hi _ h=>hstep i hi (h rfl)) fun _=>hend
section
variable {S:Type} {Nx:S->V->Prop} {r:V} {x y:RT S} {i n:Nat}
theorem bK (h:i < n) (hx:evR Nx x r):evR Nx (.br (decide ((i:Int) < (n:Int))) x y) r:=⟨fun _=>hx,fun k=>by have:=of_decide_eq_false k; omega⟩
theorem bu (hy:evR Nx y r):evR Nx (.br (decide ((n:Int) < (n:Int))) x y) r:=⟨(fun k=>by have:=of_decide_eq_true k; omega),fun _=>hy⟩
theorem yac (h:i < n) (hx:evR Nx x r):evR Nx (.ob (decide (0<=(i:Int)/\(i:Int) < (n:Int))) x) r:=⟨decide_eq_true (by omega),hx⟩
theorem kC {c:Bool} (h:i < n) (hx:evR Nx x r):evR Nx (.obj c (decide (0<=(i:Int)/\(i:Int) < (n:Int))) x) r:=⟨fun _=>decide_eq_true (by omega),hx⟩
theorem j6 {b:Bool} (h:b=true) (hx:evR Nx x r):evR Nx (.br b x y) r:=⟨fun _=>hx,fun k=>by rw [h] at k; cases k⟩
theorem oo {b:Bool} (h:b=false) (hy:evR Nx y r):evR Nx (.br b x y) r:=⟨(fun k=>by rw [h] at k; cases k),fun _=>hy⟩
end
end Go.Dx
namespace Go.Dx
open Go.IntKind (i64 u64 u8)
theorem bC {n:Nat} {p:Nat->Bool} (i:Nat) (hi:i < n) (h:p i=true):exB n p=true:=by
 unfold exB; rw [dK i hi (by rw [h]; rfl)]; rfl
theorem bm {n:Nat} {p:Nat->Bool} (h:∀ i,i < n->p i=false):exB n p=false:=by
 unfold exB; rw [dk fun i hi=>by rw [h i hi]; rfl]; rfl
theorem H9 {n:Nat} {p:Nat->Bool}:exB n p=true ↔ ∃ i,i < n/\p i=true:=by
 constructor
 ·intro h
  apply Classical.byContradiction
  intro hn
  rw [bm fun i hi=>by
   cases hp:p i with
   | false=>rfl
   | true=>exact (hn ⟨i,hi,hp⟩).elim] at h
  cases h
 ·rintro ⟨i,hi,h⟩; exact bC i hi h
end Go.Dx
namespace Go.Dx
open Go.IntKind (i64 u64 u8)
open Go.Sx
def dM (n:Nat) (c:Nat->Int):Int:=bif idx n (fun i=>c i != 0) == -1 then 0 else idx n fun i=>c i != 0
def cj (n:Nat) (c:Nat->Int):Int:=bif idx n (fun i=>c i != 0) == -1 then 0 else c (idx n fun i=>c i != 0).toNat
theorem eq {n:Nat} {c:Nat->Int} (h:∀ j,j < n->(c j != 0)=false):dM n c=0/\cj n c=0:=by
 unfold dM cj; rw [pE h]; exact ⟨rfl,rfl⟩
theorem bH {n:Nat} {c:Nat->Int} {i:Nat} (hi:i < n) (hc:(c i != 0)=true) (h:∀ j,j < i->(c j != 0)=false):dM n c=i/\cj n c=c i:=by
 unfold dM cj; rw [qu hc hi h]
 have:((i:Int) == -1)=false:=by rw [beq_eq_false_iff_ne]; omega
 rw [this]; exact ⟨rfl,rfl⟩
section
variable {S:Type} {step:S->RT S}
theorem mf {L:Int->S} {n:Nat} {c:Nat->Int} {Q:Nat->Prop} {ρ:Rho} (W:Nat->RT S->RT S) (hW:∀ i x r,Q i->evR (Ev step) x r->evR (Ev step) (W i x) r) (hWn:∀ i x,dD (W i x)=dD x) (hn:n<=9223372036854775807) (hQ:∀ i,i < n->Q i)
 (hst:∀ i:Nat,step (L i)=.br (decide ((i:Int) < (n:Int))) (.ob (decide (0<=(i:Int)/\(i:Int) < (n:Int))) (.ob (decide (0<=(i:Int)/\(i:Int)<=(n:Int))) (W i (.br (c i != 0) (.ret (.tup [.int .i64 i,.int .i64 (c i)])) (.next ρ (L (i64.wrap ((i:Int)+1))) []))))) (.ret (.tup [.int .i64 0,.int .i64 0]))) :
 Ev step (L 0) (.tup [.int .i64 (dM n c),.int .i64 (cj n c)]) :=
 fL hn (fun i=>c i != 0) (P:=fun i=>Ev step (L i) (.tup [.int .i64 (dM n c),.int .i64 (cj n c)])) (fun i hlt hj next=>Ev.of (by rw [hst]; simp only [dD,hWn,Bool.and_self]) (by
  rw [hst]
  refine bK hlt (yac hlt (aH (decide_eq_true (by omega)) (hW i _ _ (hQ i hlt) (aw (fun hb=>ah ?_) (fun hb=>aR (next hb))))))
  rw [(bH hlt hb hj).1,(bH hlt hb hj).2])) (fun hj=>Ev.of (by rw [hst]; simp only [dD,hWn,Bool.and_self]) (by
  rw [hst]
  refine bu (ah ?_)
  rw [(eq hj).1,(eq hj).2]))
end
def aI (n:Nat) (f:Nat->List V):Prop:=∀ i,i < n->(sv (hdV (f i))).size<=9223372036854775807
end Go.Dx
namespace Go.Dx
open Go.IntKind (i64 u64 u8)
theorem ng {b:Bool} (h:(!!b)=true):(!b)=false:=by cases b <;> first | rfl | cases h
theorem ng' {b:Bool} (h:(!!b)=false):(!b)=true:=by cases b <;> first | rfl | cases h
end Go.Dx
namespace Go.Dx
open Go.IntKind (i64 u64 u8)
open Go.Sx Go.Proofs
def QE:aY:=[(161,.con C86),(148,.con C71)]
theorem Lb:aQ Tryz.prog eqs its QE:=.con JW (.con Sw (.nil))
def WA (x0:Int):RT Empty:=.obc (.obt (.ret (V.bool (ba x0 (-100000) 100000))))
theorem PF (x0:Int):Fit noD (aN JJ QE u0 ybl [vi x0]) (WA x0):=⟨by kernel_rfl,by kernel_rfl⟩
def tF (x0:Int):Bool:=ba x0 (-100000) 100000
def SS (x0:Int):V:=.bool (tF x0)
theorem TE (x0:Int):evR noE (WA x0) (SS x0):=ao (ac (ah (by unfold SS tF; rfl)))
def Iz:ap:=mkC tp1 (fun _=>True) fun
 | [.int _ x0]=>SS x0
 | _=>.any
theorem BV:(vP Iz).Ok Tryz.prog 250:=mkE Lb Tryz.func250 (by kernel_rfl) fun ds hp=>rf0 (PF ..) (TE _)
def sO:aY:=(250,.con Iz)::QE
theorem rU:aQ Tryz.prog eqs its sO:=.con BV (Lb)
def Xi (s0:ByteArray) (x1:Int) (n2:Nat) (f2:FnV) (x4:Int) (s5:ByteArray) (x6:Int) (n7:Nat) (f7:FnV) (x9:Int):RT Empty:=.ret (V.bool (s0.toList == s5.toList))
theorem ybc (s0:ByteArray) (x1:Int) (n2:Nat) (f2:FnV) (x4:Int) (s5:ByteArray) (x6:Int) (n7:Nat) (f7:FnV) (x9:Int):Fit noD (aN JJ sO u0 Zq [V.agg [V.str s0,vi x1,V.sl n2 (elV tp2 f2),vi x4],V.pd [V.str s5,vi x6,V.sl n7 (elV tp2 f7),vi x9]]) (Xi s0 x1 n2 f2 x4 s5 x6 n7 f7 x9):=⟨by kernel_rfl,by kernel_rfl⟩
def sY (s0:ByteArray) (s5:ByteArray):Bool:=s0.toList == s5.toList
def PN (s0:ByteArray) (x1:Int) (n2:Nat) (f2:FnV) (x4:Int) (s5:ByteArray) (x6:Int) (n7:Nat) (f7:FnV) (x9:Int):V:=.bool (sY s0 s5)
theorem TZ (s0:ByteArray) (x1:Int) (n2:Nat) (f2:FnV) (x4:Int) (s5:ByteArray) (x6:Int) (n7:Nat) (f7:FnV) (x9:Int):evR noE (Xi s0 x1 n2 f2 x4 s5 x6 n7 f7 x9) (PN s0 x1 n2 f2 x4 s5 x6 n7 f7 x9):=ah (by unfold PN sY; rfl)
def IB:ap:=mkC [.agg tyR,.pd tyR] (fun _=>True) fun
 | [.agg [.str s0,.int _ x1,.sl n2 f2,.int _ x4],.pd [.str s5,.int _ x6,.sl n7 f7,.int _ x9]]=>PN s0 x1 n2 f2 x4 s5 x6 n7 f7 x9
 | _=>.any
theorem El:(vP IB).Ok Tryz.prog 204:=mkE rU Tryz.func204 (by kernel_rfl) fun ds hp=>rf0 (ybc ..) (TZ _ _ _ _ _ _ _ _ _ _)
def UV (x0 x1 x2 x3:Int):RT Empty:=.obc (.obt (.obi (.obi (.obi (.br (!ba x1 1 1000) (.ob (!ba x1 1 1000) (.ob (!ba x1 1 1000) (.obc (.obt (.obi (.br (!ba x0 0 (i64.wrap (x1 - 1))) (.ob (!ba x0 0 (i64.wrap (x1 - 1))) (.obc (.obt (.obi (.obi (.obi (.br (!ba x3 1 1000) (.ob (!ba x3 1 1000) (.ob (!ba x3 1 1000) (.obc (.obt (.ret (V.bool (ba x2 0 (i64.wrap (x3 - 1))))))))) (.ret (V.kb true))))))))) (.ret (V.kb true)))))))) (.ret (V.kb true)))))))
theorem QU (x0 x1 x2 x3:Int):Fit noD (aN JJ sO u0 Y0 [V.agg [vi x0,vi x1,vi x2,vi x3]]) (UV x0 x1 x2 x3):=⟨by kernel_rfl,by kernel_rfl⟩
def il (x0 x1 x2 x3:Int):Bool:=bif !ba x1 1 1000 then bif !ba x0 0 (i64.wrap (x1 - 1)) then bif !ba x3 1 1000 then ba x2 0 (i64.wrap (x3 - 1)) else true else true else true
def Bc (x0 x1 x2 x3:Int):V:=.bool (il x0 x1 x2 x3)
theorem VY (x0 x1 x2 x3:Int):evR noE (UV x0 x1 x2 x3) (Bc x0 x1 x2 x3):=ao (ac (ak (ak (ak (aw (fun h0=>aH (by first | assumption | (fail)) (aH (by first | assumption | (fail)) (ao (ac (ak (aw (fun h1=>aH (by first | assumption | (fail)) (ao (ac (ak (ak (ak (aw (fun h2=>aH (by first | assumption | (fail)) (aH (by first | assumption | (fail)) (ao (ac (ah (by unfold Bc il; try rw [h0]; try rw [h1]; try rw [h2]; rfl)))))) (fun h2=>ah (by unfold Bc il; try rw [h0]; try rw [h1]; try rw [h2]; rfl))))))))) (fun h1=>ah (by unfold Bc il; try rw [h0]; try rw [h1]; rfl)))))))) (fun h0=>ah (by unfold Bc il; try rw [h0]; rfl)))))))
def IP:ap:=mkC [.agg tp4] (fun _=>True) fun
 | [.agg [.int _ x0,.int _ x1,.int _ x2,.int _ x3]]=>Bc x0 x1 x2 x3
 | _=>.any
theorem Dw:(vP IP).Ok Tryz.prog 212:=mkE rU Tryz.func212 (by kernel_rfl) fun ds hp=>rf0 (QU ..) (VY _ _ _ _)
def Tj (s0:ByteArray) (x1 x2 x3 x4 x5:Int) (s6:ByteArray) (x7 x8 x9 x10 x11:Int):RT Empty:=.ret (V.bool (s0.toList == s6.toList))
theorem Qu (s0:ByteArray) (x1 x2 x3 x4 x5:Int) (s6:ByteArray) (x7 x8 x9 x10 x11:Int):Fit noD (aN JJ sO u0 Zh [V.agg [V.str s0,vi x1,vi x2,vi x3,vi x4,vi x5],V.pd [V.str s6,vi x7,vi x8,vi x9,vi x10,vi x11]]) (Tj s0 x1 x2 x3 x4 x5 s6 x7 x8 x9 x10 x11):=⟨by kernel_rfl,by kernel_rfl⟩
def tP (s0:ByteArray) (s6:ByteArray):Bool:=s0.toList == s6.toList
def RQ (s0:ByteArray) (x1 x2 x3 x4 x5:Int) (s6:ByteArray) (x7 x8 x9 x10 x11:Int):V:=.bool (tP s0 s6)
theorem V7 (s0:ByteArray) (x1 x2 x3 x4 x5:Int) (s6:ByteArray) (x7 x8 x9 x10 x11:Int):evR noE (Tj s0 x1 x2 x3 x4 x5 s6 x7 x8 x9 x10 x11) (RQ s0 x1 x2 x3 x4 x5 s6 x7 x8 x9 x10 x11):=ah (by unfold RQ tP; rfl)
def HN:ap:=mkC [.agg tyC,.pd tyC] (fun _=>True) fun
 | [.agg [.str s0,.int _ x1,.int _ x2,.int _ x3,.int _ x4,.int _ x5],.pd [.str s6,.int _ x7,.int _ x8,.int _ x9,.int _ x10,.int _ x11]]=>RQ s0 x1 x2 x3 x4 x5 s6 x7 x8 x9 x10 x11
 | _=>.any
theorem Fs:(vP HN).Ok Tryz.prog 214:=mkE rU Tryz.func214 (by kernel_rfl) fun ds hp=>rf0 (Qu ..) (V7 _ _ _ _ _ _ _ _ _ _ _ _)
inductive S51 where
 | L0 (ia0:Int)
def VC (n0:Nat) (f0:FnV):S51->Env × List O × Option Ex
 | .L0 ia0=>([(3,vi ia0),(2,V.kb false),(0,V.sl n0 (elV tp1 f0))],[],none)
def YM:S51->JJ
 | .L0 ia0=>(0,[])
def WI (n0:Nat) (f0:FnV):T (ck JJ):=aN JJ sO u0 s51 [V.sl n0 (elV tp1 f0)]
def DN (n0:Nat) (f0:FnV) (cx:List Cx):Lp JJ:=lpT (atT (WI n0 f0) [])
def Yx (n0:Nat) (f0:FnV):JJ->Lp JJ
 | (0,cx)=>DN n0 f0 cx
 | (_,cx)=>DN n0 f0 cx
def D51 (n0:Nat) (f0:FnV):LD JJ S51:=⟨YM,Yx n0 f0,VC n0 f0⟩
def Kt (n0:Nat) (f0:FnV):S51->RT S51
 | .L0 ia0=>.asm (true=true->n0<=9223372036854775807) (.br (decide (ia0 < (↑n0:Int))) (.ob (decide (0<=ia0/\ia0 < (↑n0:Int))) (.obc (.obt (.br (!cq (jv0 (f0 ia0.toNat)) (-100000) 100000) (.ret (V.kb false)) (.next [] (S51.L0 (i64.wrap (ia0+1))) []))))) (.ret (V.kb true)))
def m51 (n0:Nat) (f0:FnV):RT S51:=.enter [] (S51.L0 (0)) []
theorem V6 (n0:Nat) (f0:FnV):dw sO u0 (D51 n0 f0) (WI n0 f0) (m51 n0 f0) (Kt n0 f0):=⟨⟨by kernel_rfl,by kernel_rfl⟩,fun s=>by cases s <;> exact ⟨by kernel_rfl,by kernel_rfl⟩⟩
def F51 (n0:Nat) (f0:FnV):Bool:=bL n0 fun i=>cq (jv0 (f0 i)) (-100000) 100000
theorem RI (n0:Nat) (f0:FnV):evR (Ev (Kt n0 f0)) (m51 n0 f0) (.bool (F51 n0 f0)):=by
 refine aD ?_
 have key:=dF (n:=n0) (P:=fun i=>(∀ j,j < i->cq (jv0 (f0 j)) (-100000) 100000=true)->Ev (Kt n0 f0) (.L0 i) (.bool (F51 n0 f0))) fun i hi ih hj=>by
  refine Ev.of rfl (yab fun hn=>aw (fun h=>?_) (fun h=>ah ?_))
  ·have hlt:i < n0:=by simpa using h
   refine aH (by simpa using hlt) (ao (ac (aw (fun hb=>ah ?_) (fun hb=>aR ?_))))
   ·simp only [toA]; unfold F51; rw [dK i hlt (by simpa using hb)]
   ·rw [iE hlt hn]; exact ih hlt fun j h1=>by
     by_cases e:j=i
     ·subst e; simpa using hb
     ·exact hj j (by omega)
  ·have:i=n0:=by
    have:¬ i < n0:=by simpa using h
    omega
   subst this
   simp only [toA]; unfold F51; rw [dk hj]
 exact key 0 (Nat.zero_le _) fun j hj=>by omega
theorem Yn (n0:Nat) (f0:FnV):evR (Ev (Kt n0 f0)) (m51 n0 f0) (.bool (F51 n0 (elV tp1 f0))):=RI n0 f0
def C51:ap:=mkC [.sl tp1] (fun _=>True) fun
 | [.sl n0 f0]=>.bool (F51 n0 f0)
 | _=>.any
theorem Qj:(vP C51).Ok Tryz.prog 147:=mkE rU Tryz.func147 (by kernel_rfl) fun ds hp=>rfs (V6 ..) (Yn _ _)
inductive vT where
 | L0 (ia0:Int)
def Ss (n0:Nat) (f0:FnV):vT->Env × List O × Option Ex
 | .L0 ia0=>([(8,vi ia0),(7,vi (↑n0:Int)),(6,V.sl n0 (elV tp1 f0)),(4,vi 0),(0,V.sl n0 (elV tp1 f0)),(1,V.fn 250 [] [])],[],none)
def TC:vT->JJ
 | .L0 ia0=>(0,[])
def MQ (n0:Nat) (f0:FnV):T (ck JJ):=aN JJ sO u0 AJ [V.sl n0 (elV tp1 f0),V.fn 250 [] []]
def xZ (n0:Nat) (f0:FnV) (cx:List Cx):Lp JJ:=lpT (atT (MQ n0 f0) [])
def WS (n0:Nat) (f0:FnV):JJ->Lp JJ
 | (0,cx)=>xZ n0 f0 cx
 | (_,cx)=>xZ n0 f0 cx
def Yj (n0:Nat) (f0:FnV):LD JJ vT:=⟨TC,WS n0 f0,Ss n0 f0⟩
def DC (n0:Nat) (f0:FnV):vT->RT vT
 | .L0 ia0=>.br (decide (ia0 < (↑n0:Int))) (.ob (decide (0<=ia0/\ia0 < (↑n0:Int))) (.obc (.obt (.br (tF (jv0 (f0 ia0.toNat))) (.ret (vi ia0)) (.next [] (vT.L0 (i64.wrap (ia0+1))) []))))) (.ret (vi (-1)))
def PU (n0:Nat) (f0:FnV):RT vT:=.asm (true=true->n0<=9223372036854775807) (.enter [] (vT.L0 (0)) [])
theorem Pv (n0:Nat) (f0:FnV):dw sO u0 (Yj n0 f0) (MQ n0 f0) (PU n0 f0) (DC n0 f0):=⟨⟨by kernel_rfl,by kernel_rfl⟩,fun s=>by cases s <;> exact ⟨by kernel_rfl,by kernel_rfl⟩⟩
def Az (n0:Nat) (f0:FnV):Int  :=idx n0 fun ii=>tF (jv0 (f0 ii))
theorem IJ (n0:Nat) (f0:FnV):evR (Ev (DC n0 f0)) (PU n0 f0) (.int .i64 (Az n0 f0)):=yab fun hn=>aD (lM hn fun i=>rfl)
theorem W0 (n0:Nat) (f0:FnV):evR (Ev (DC n0 f0)) (PU n0 f0) (.int .i64 (Az n0 (elV tp1 f0))):=IJ n0 f0
def Ke:ap:=mkC [.sl tp1,.fn 250 [] []] (fun _=>True) fun
 | [.sl n0 f0,.fn _ [] []]=>.int .i64 (Az n0 f0)
 | _=>.any
theorem CG:(vP Ke).Ok Tryz.prog 221:=mkE rU Tryz.func221 (by kernel_rfl) fun ds hp=>rfs (Pv ..) (W0 _ _)
def sF:aY:=(204,.con IB)::(212,.con IP)::(214,.con HN)::(147,.con C51)::(221,.con Ke)::sO
theorem vx:aQ Tryz.prog eqs its sF:=.con El (.con Dw (.con Fs (.con Qj (.con CG (rU)))))
def m99 (n0:Nat) (f0:FnV):RT Empty:=.obc (.obt (.ret (V.bool (decide (0<=Az n0 (elV tp1 f0))))))
theorem TS (n0:Nat) (f0:FnV):Fit noD (aN JJ sF u0 s99 [V.sl n0 (elV tp1 f0),V.fn 250 [] []]) (m99 n0 f0):=⟨by kernel_rfl,by kernel_rfl⟩
def uJ (n0:Nat) (f0:FnV):Bool:=decide (0<=Az n0 (elV tp1 f0))
def R99 (n0:Nat) (f0:FnV):V:=.bool (uJ n0 f0)
theorem Y4 (n0:Nat) (f0:FnV):evR noE (m99 n0 f0) (R99 n0 f0):=ao (ac (ah (by unfold R99 uJ; rfl)))
def C99:ap:=mkC [.sl tp1,.fn 250 [] []] (fun _=>True) fun
 | [.sl n0 f0,.fn _ [] []]=>R99 n0 f0
 | _=>.any
theorem Rq:(vP C99).Ok Tryz.prog 152:=mkE vx Tryz.func152 (by kernel_rfl) fun ds hp=>rf0 (TS ..) (Y4 _ _)
inductive vO where
 | L0 (ia0:Int)
def R5 (n0:Nat) (f0:FnV) (s2:ByteArray) (x3:Int) (n4:Nat) (f4:FnV) (x6:Int):vO->Env × List O × Option Ex
 | .L0 ia0=>([(8,vi ia0),(7,vi (↑n0:Int)),(6,V.sl n0 (elV tyR f0)),(4,vi 0),(0,V.sl n0 (elV tyR f0)),(1,V.fn 204 [] [V.pd [V.str s2,vi x3,V.sl n4 (elV tp2 f4),vi x6]])],[],none)
def UN:vO->JJ
 | .L0 ia0=>(0,[])
def MK (n0:Nat) (f0:FnV) (s2:ByteArray) (x3:Int) (n4:Nat) (f4:FnV) (x6:Int):T (ck JJ):=aN JJ sF u0 Yt [V.sl n0 (elV tyR f0),V.fn 204 [] [V.pd [V.str s2,vi x3,V.sl n4 (elV tp2 f4),vi x6]]]
def Ag (n0:Nat) (f0:FnV) (s2:ByteArray) (x3:Int) (n4:Nat) (f4:FnV) (x6:Int) (cx:List Cx):Lp JJ:=lpT (atT (MK n0 f0 s2 x3 n4 f4 x6) [])
def Tf (n0:Nat) (f0:FnV) (s2:ByteArray) (x3:Int) (n4:Nat) (f4:FnV) (x6:Int):JJ->Lp JJ
 | (0,cx)=>Ag n0 f0 s2 x3 n4 f4 x6 cx
 | (_,cx)=>Ag n0 f0 s2 x3 n4 f4 x6 cx
def Zl (n0:Nat) (f0:FnV) (s2:ByteArray) (x3:Int) (n4:Nat) (f4:FnV) (x6:Int):LD JJ vO:=⟨UN,Tf n0 f0 s2 x3 n4 f4 x6,R5 n0 f0 s2 x3 n4 f4 x6⟩
def B6 (n0:Nat) (f0:FnV) (s2:ByteArray) (x3:Int) (n4:Nat) (f4:FnV) (x6:Int):vO->RT vO
 | .L0 ia0=>.br (decide (ia0 < (↑n0:Int))) (.ob (decide (0<=ia0/\ia0 < (↑n0:Int))) (.obc (.obt (.br (sY (sv (hdV (f0 ia0.toNat))) s2) (.ret (vi ia0)) (.next [] (vO.L0 (i64.wrap (ia0+1))) []))))) (.ret (vi (-1)))
def P3 (n0:Nat) (f0:FnV) (s2:ByteArray) (x3:Int) (n4:Nat) (f4:FnV) (x6:Int):RT vO:=.asm (true=true->n0<=9223372036854775807) (.enter [] (vO.L0 (0)) [])
theorem Px (n0:Nat) (f0:FnV) (s2:ByteArray) (x3:Int) (n4:Nat) (f4:FnV) (x6:Int):dw sF u0 (Zl n0 f0 s2 x3 n4 f4 x6) (MK n0 f0 s2 x3 n4 f4 x6) (P3 n0 f0 s2 x3 n4 f4 x6) (B6 n0 f0 s2 x3 n4 f4 x6):=⟨⟨by kernel_rfl,by kernel_rfl⟩,fun s=>by cases s <;> exact ⟨by kernel_rfl,by kernel_rfl⟩⟩
def A0 (n0:Nat) (f0:FnV) (s2:ByteArray):Int  :=idx n0 fun ii=>sY (sv (hdV (f0 ii))) s2
theorem Ji (n0:Nat) (f0:FnV) (s2:ByteArray) (x3:Int) (n4:Nat) (f4:FnV) (x6:Int):evR (Ev (B6 n0 f0 s2 x3 n4 f4 x6)) (P3 n0 f0 s2 x3 n4 f4 x6) (.int .i64 (A0 n0 f0 s2)):=yab fun hn=>aD (lM hn fun i=>rfl)
theorem U9 (n0:Nat) (f0:FnV) (s2:ByteArray) (x3:Int) (n4:Nat) (f4:FnV) (x6:Int):evR (Ev (B6 n0 f0 s2 x3 n4 f4 x6)) (P3 n0 f0 s2 x3 n4 f4 x6) (.int .i64 (A0 n0 (elV tyR f0) s2)):=Ji n0 f0 s2 x3 n4 f4 x6
def I5:ap:=mkC [.sl tyR,.fn 204 [] [.pd tyR]] (fun _=>True) fun
 | [.sl n0 f0,.fn _ [] [.pd [.str s2,.int _ x3,.sl n4 f4,.int _ x6]]]=>.int .i64 (A0 n0 f0 s2)
 | _=>.any
theorem yas:(vP I5).Ok Tryz.prog 252:=mkE vx Tryz.func252 (by kernel_rfl) fun ds hp=>rfs (Px ..) (U9 _ _ _ _ _ _ _)
inductive vQ where
 | L0 (ia0:Int)
def QW (n0:Nat) (f0:FnV):vQ->Env × List O × Option Ex
 | .L0 ia0=>([(8,vi ia0),(7,vi (↑n0:Int)),(6,V.sl n0 (elV tp4 f0)),(4,vi 0),(0,V.sl n0 (elV tp4 f0)),(1,V.fn 212 [] [])],[],none)
def US:vQ->JJ
 | .L0 ia0=>(0,[])
def MM (n0:Nat) (f0:FnV):T (ck JJ):=aN JJ sF u0 Zm [V.sl n0 (elV tp4 f0),V.fn 212 [] []]
def y5 (n0:Nat) (f0:FnV) (cx:List Cx):Lp JJ:=lpT (atT (MM n0 f0) [])
def T7 (n0:Nat) (f0:FnV):JJ->Lp JJ
 | (0,cx)=>y5 n0 f0 cx
 | (_,cx)=>y5 n0 f0 cx
def Yo (n0:Nat) (f0:FnV):LD JJ vQ:=⟨US,T7 n0 f0,QW n0 f0⟩
def E1 (n0:Nat) (f0:FnV):vQ->RT vQ
 | .L0 ia0=>.br (decide (ia0 < (↑n0:Int))) (.ob (decide (0<=ia0/\ia0 < (↑n0:Int))) (.obc (.obt (.br (il (jv0 (f0 ia0.toNat)) (jv1 (f0 ia0.toNat)) (jv2 (f0 ia0.toNat)) (jv3 (f0 ia0.toNat))) (.ret (vi ia0)) (.next [] (vQ.L0 (i64.wrap (ia0+1))) []))))) (.ret (vi (-1)))
def SQ (n0:Nat) (f0:FnV):RT vQ:=.asm (true=true->n0<=9223372036854775807) (.enter [] (vQ.L0 (0)) [])
theorem Oh (n0:Nat) (f0:FnV):dw sF u0 (Yo n0 f0) (MM n0 f0) (SQ n0 f0) (E1 n0 f0):=⟨⟨by kernel_rfl,by kernel_rfl⟩,fun s=>by cases s <;> exact ⟨by kernel_rfl,by kernel_rfl⟩⟩
def Ba (n0:Nat) (f0:FnV):Int  :=idx n0 fun ii=>il (jv0 (f0 ii)) (jv1 (f0 ii)) (jv2 (f0 ii)) (jv3 (f0 ii))
theorem GR (n0:Nat) (f0:FnV):evR (Ev (E1 n0 f0)) (SQ n0 f0) (.int .i64 (Ba n0 f0)):=yab fun hn=>aD (lM hn fun i=>rfl)
theorem WY (n0:Nat) (f0:FnV):evR (Ev (E1 n0 f0)) (SQ n0 f0) (.int .i64 (Ba n0 (elV tp4 f0))):=GR n0 f0
def GY:ap:=mkC [.sl tp4,.fn 212 [] []] (fun _=>True) fun
 | [.sl n0 f0,.fn _ [] []]=>.int .i64 (Ba n0 f0)
 | _=>.any
theorem Eo:(vP GY).Ok Tryz.prog 254:=mkE vx Tryz.func254 (by kernel_rfl) fun ds hp=>rfs (Oh ..) (WY _ _)
inductive um where
 | L0 (ia0:Int)
def OV (n0:Nat) (f0:FnV) (s2:ByteArray) (x3 x4 x5 x6 x7:Int):um->Env × List O × Option Ex
 | .L0 ia0=>([(8,vi ia0),(7,vi (↑n0:Int)),(6,V.sl n0 (elV tyC f0)),(4,vi 0),(0,V.sl n0 (elV tyC f0)),(1,V.fn 214 [] [V.pd [V.str s2,vi x3,vi x4,vi x5,vi x6,vi x7]])],[],none)
def VA:um->JJ
 | .L0 ia0=>(0,[])
def N2 (n0:Nat) (f0:FnV) (s2:ByteArray) (x3 x4 x5 x6 x7:Int):T (ck JJ):=aN JJ sF u0 YD [V.sl n0 (elV tyC f0),V.fn 214 [] [V.pd [V.str s2,vi x3,vi x4,vi x5,vi x6,vi x7]]]
def yc (n0:Nat) (f0:FnV) (s2:ByteArray) (x3 x4 x5 x6 x7:Int) (cx:List Cx):Lp JJ:=lpT (atT (N2 n0 f0 s2 x3 x4 x5 x6 x7) [])
def Ve (n0:Nat) (f0:FnV) (s2:ByteArray) (x3 x4 x5 x6 x7:Int):JJ->Lp JJ
 | (0,cx)=>yc n0 f0 s2 x3 x4 x5 x6 x7 cx
 | (_,cx)=>yc n0 f0 s2 x3 x4 x5 x6 x7 cx
def Zu (n0:Nat) (f0:FnV) (s2:ByteArray) (x3 x4 x5 x6 x7:Int):LD JJ um:=⟨VA,Ve n0 f0 s2 x3 x4 x5 x6 x7,OV n0 f0 s2 x3 x4 x5 x6 x7⟩
def CU (n0:Nat) (f0:FnV) (s2:ByteArray) (x3 x4 x5 x6 x7:Int):um->RT um
 | .L0 ia0=>.br (decide (ia0 < (↑n0:Int))) (.ob (decide (0<=ia0/\ia0 < (↑n0:Int))) (.obc (.obt (.br (tP (sv (hdV (f0 ia0.toNat))) s2) (.ret (vi ia0)) (.next [] (um.L0 (i64.wrap (ia0+1))) []))))) (.ret (vi (-1)))
def Sq (n0:Nat) (f0:FnV) (s2:ByteArray) (x3 x4 x5 x6 x7:Int):RT um:=.asm (true=true->n0<=9223372036854775807) (.enter [] (um.L0 (0)) [])
theorem P0 (n0:Nat) (f0:FnV) (s2:ByteArray) (x3 x4 x5 x6 x7:Int):dw sF u0 (Zu n0 f0 s2 x3 x4 x5 x6 x7) (N2 n0 f0 s2 x3 x4 x5 x6 x7) (Sq n0 f0 s2 x3 x4 x5 x6 x7) (CU n0 f0 s2 x3 x4 x5 x6 x7):=⟨⟨by kernel_rfl,by kernel_rfl⟩,fun s=>by cases s <;> exact ⟨by kernel_rfl,by kernel_rfl⟩⟩
def AK (n0:Nat) (f0:FnV) (s2:ByteArray):Int  :=idx n0 fun ii=>tP (sv (hdV (f0 ii))) s2
theorem Ki (n0:Nat) (f0:FnV) (s2:ByteArray) (x3 x4 x5 x6 x7:Int):evR (Ev (CU n0 f0 s2 x3 x4 x5 x6 x7)) (Sq n0 f0 s2 x3 x4 x5 x6 x7) (.int .i64 (AK n0 f0 s2)):=yab fun hn=>aD (lM hn fun i=>rfl)
theorem ybi (n0:Nat) (f0:FnV) (s2:ByteArray) (x3 x4 x5 x6 x7:Int):evR (Ev (CU n0 f0 s2 x3 x4 x5 x6 x7)) (Sq n0 f0 s2 x3 x4 x5 x6 x7) (.int .i64 (AK n0 (elV tyC f0) s2)):=Ki n0 f0 s2 x3 x4 x5 x6 x7
def Kg:ap:=mkC [.sl tyC,.fn 214 [] [.pd tyC]] (fun _=>True) fun
 | [.sl n0 f0,.fn _ [] [.pd [.str s2,.int _ x3,.int _ x4,.int _ x5,.int _ x6,.int _ x7]]]=>.int .i64 (AK n0 f0 s2)
 | _=>.any
theorem Cc:(vP Kg).Ok Tryz.prog 255:=mkE vx Tryz.func255 (by kernel_rfl) fun ds hp=>rfs (P0 ..) (ybi _ _ _ _ _ _ _ _)
def AM:aY:=(152,.con C99)::(252,.con I5)::(254,.con GY)::(255,.con Kg)::sF
theorem vb:aQ Tryz.prog eqs its AM:=.con Rq (.con yas (.con Eo (.con Cc (vx))))
def m45 (n0:Nat) (f0:FnV):RT Empty:=.obc (.obt (.ret (V.bool (uJ n0 (elV tp1 f0)))))
theorem Ux (n0:Nat) (f0:FnV):Fit noD (aN JJ AM u0 s45 [V.sl n0 (elV tp1 f0)]) (m45 n0 f0):=⟨by kernel_rfl,by kernel_rfl⟩
def gU (n0:Nat) (f0:FnV):Bool:=uJ n0 (elV tp1 f0)
def R45 (n0:Nat) (f0:FnV):V:=.bool (gU n0 f0)
theorem XU (n0:Nat) (f0:FnV):evR noE (m45 n0 f0) (R45 n0 f0):=ao (ac (ah (by unfold R45 gU; rfl)))
def C45:ap:=mkC [.sl tp1] (fun _=>True) fun
 | [.sl n0 f0]=>R45 n0 f0
 | _=>.any
theorem Ol:(vP C45).Ok Tryz.prog 206:=mkE vb Tryz.func206 (by kernel_rfl) fun ds hp=>rf0 (Ux ..) (XU _ _)
def m90 (n0:Nat) (f0:FnV) (s2:ByteArray) (x3:Int) (n4:Nat) (f4:FnV) (x6:Int):RT Empty:=.obc (.obt (.ret (V.bool (decide (0<=A0 n0 (elV tyR f0) s2)))))
theorem VG (n0:Nat) (f0:FnV) (s2:ByteArray) (x3:Int) (n4:Nat) (f4:FnV) (x6:Int):Fit noD (aN JJ AM u0 s90 [V.sl n0 (elV tyR f0),V.fn 204 [] [V.pd [V.str s2,vi x3,V.sl n4 (elV tp2 f4),vi x6]]]) (m90 n0 f0 s2 x3 n4 f4 x6):=⟨by kernel_rfl,by kernel_rfl⟩
def nZ (n0:Nat) (f0:FnV) (s2:ByteArray):Bool:=decide (0<=A0 n0 (elV tyR f0) s2)
def R90 (n0:Nat) (f0:FnV) (s2:ByteArray) (x3:Int) (n4:Nat) (f4:FnV) (x6:Int):V:=.bool (nZ n0 f0 s2)
theorem YE (n0:Nat) (f0:FnV) (s2:ByteArray) (x3:Int) (n4:Nat) (f4:FnV) (x6:Int):evR noE (m90 n0 f0 s2 x3 n4 f4 x6) (R90 n0 f0 s2 x3 n4 f4 x6):=ao (ac (ah (by unfold R90 nZ; rfl)))
def C90:ap:=mkC [.sl tyR,.fn 204 [] [.pd tyR]] (fun _=>True) fun
 | [.sl n0 f0,.fn _ [] [.pd [.str s2,.int _ x3,.sl n4 f4,.int _ x6]]]=>R90 n0 f0 s2 x3 n4 f4 x6
 | _=>.any
theorem Ra:(vP C90).Ok Tryz.prog 208:=mkE vb Tryz.func208 (by kernel_rfl) fun ds hp=>rf0 (VG ..) (YE _ _ _ _ _ _ _)
def Wa (n0:Nat) (f0:FnV):RT Empty:=.obc (.obt (.ret (V.bool (decide (0<=Ba n0 (elV tp4 f0))))))
theorem yaW (n0:Nat) (f0:FnV):Fit noD (aN JJ AM u0 YF [V.sl n0 (elV tp4 f0),V.fn 212 [] []]) (Wa n0 f0):=⟨by kernel_rfl,by kernel_rfl⟩
def m8 (n0:Nat) (f0:FnV):Bool:=decide (0<=Ba n0 (elV tp4 f0))
def QM (n0:Nat) (f0:FnV):V:=.bool (m8 n0 f0)
theorem V1 (n0:Nat) (f0:FnV):evR noE (Wa n0 f0) (QM n0 f0):=ao (ac (ah (by unfold QM m8; rfl)))
def J6:ap:=mkC [.sl tp4,.fn 212 [] []] (fun _=>True) fun
 | [.sl n0 f0,.fn _ [] []]=>QM n0 f0
 | _=>.any
theorem FL:(vP J6).Ok Tryz.prog 213:=mkE vb Tryz.func213 (by kernel_rfl) fun ds hp=>rf0 (yaW ..) (V1 _ _)
def Xm (n0:Nat) (f0:FnV) (s2:ByteArray) (x3 x4 x5 x6 x7:Int):RT Empty:=.obc (.obt (.ret (V.bool (decide (0<=AK n0 (elV tyC f0) s2)))))
theorem Qe (n0:Nat) (f0:FnV) (s2:ByteArray) (x3 x4 x5 x6 x7:Int):Fit noD (aN JJ AM u0 XT [V.sl n0 (elV tyC f0),V.fn 214 [] [V.pd [V.str s2,vi x3,vi x4,vi x5,vi x6,vi x7]]]) (Xm n0 f0 s2 x3 x4 x5 x6 x7):=⟨by kernel_rfl,by kernel_rfl⟩
def na (n0:Nat) (f0:FnV) (s2:ByteArray):Bool:=decide (0<=AK n0 (elV tyC f0) s2)
def Sn (n0:Nat) (f0:FnV) (s2:ByteArray) (x3 x4 x5 x6 x7:Int):V:=.bool (na n0 f0 s2)
theorem VQ (n0:Nat) (f0:FnV) (s2:ByteArray) (x3 x4 x5 x6 x7:Int):evR noE (Xm n0 f0 s2 x3 x4 x5 x6 x7) (Sn n0 f0 s2 x3 x4 x5 x6 x7):=ao (ac (ah (by unfold Sn na; rfl)))
def Hc:ap:=mkC [.sl tyC,.fn 214 [] [.pd tyC]] (fun _=>True) fun
 | [.sl n0 f0,.fn _ [] [.pd [.str s2,.int _ x3,.int _ x4,.int _ x5,.int _ x6,.int _ x7]]]=>Sn n0 f0 s2 x3 x4 x5 x6 x7
 | _=>.any
theorem CI:(vP Hc).Ok Tryz.prog 215:=mkE vb Tryz.func215 (by kernel_rfl) fun ds hp=>rf0 (Qe ..) (VQ _ _ _ _ _ _ _ _)
def sU:aY:=(206,.con C45)::(208,.con C90)::(213,.con J6)::(215,.con Hc)::AM
theorem rh:aQ Tryz.prog eqs its sU:=.con Ol (.con Ra (.con FL (.con CI (vb))))
def T3 (x0 x1:Int):RT Empty:=.obt (.obt (.obc (.obt (.ret (V.bool (gU 2 (elV tp1 (bA [vi x0,vi x1] 0 1))))))))
theorem R4 (x0 x1:Int):Fit noD (aN JJ sU u0 Yd [V.agg [vi x0,vi x1]]) (T3 x0 x1):=⟨by kernel_rfl,by kernel_rfl⟩
def nq (x0 x1:Int):Bool:=gU 2 (elV tp1 (bA [vi x0,vi x1] 0 1))
def Qc (x0 x1:Int):V:=.bool (nq x0 x1)
theorem UW (x0 x1:Int):evR noE (T3 x0 x1) (Qc x0 x1):=ac (ac (ao (ac (ah (by unfold Qc nq; rfl)))))
def KX:ap:=mkC [.agg tp2] (fun _=>True) fun
 | [.agg [.int _ x0,.int _ x1]]=>Qc x0 x1
 | _=>.any
theorem CQ:(vP KX).Ok Tryz.prog 205:=mkE rh Tryz.func205 (by kernel_rfl) fun ds hp=>rf0 (R4 ..) (UW _ _)
def m65 (n0:Nat) (f0:FnV) (x2 x3 x4 x5 x6:Int):RT Empty:=.obc (.obt (.obi (.br (!gU 2 (elV tp1 (bA [vi x2,vi x3] 0 1))) (.ob (!gU 2 (elV tp1 (bA [vi x2,vi x3] 0 1))) (.obc (.obt (.obi (.obi (.obi (.br (!ba x4 1 20000) (.ob (!ba x4 1 20000) (.ob (!ba x4 1 20000) (.obc (.obt (.obi (.br (!ba x5 0 (i64.wrap (x6 - 1))) (.ob (!ba x5 0 (i64.wrap (x6 - 1))) (.obc (.obt (.br (ba x6 1 1000) (.ret (vi 7)) (.ret (vi 0)))))) (.ret (vi 7)))))))) (.ret (vi 7))))))))) (.ret (vi 7)))))
theorem TU (n0:Nat) (f0:FnV) (x2 x3 x4 x5 x6:Int):Fit noD (aN JJ sU u0 s65 [V.sl n0 (elV tyT f0),V.agg [vi x2,vi x3,vi x4,vi x5,vi x6]]) (m65 n0 f0 x2 x3 x4 x5 x6):=⟨by kernel_rfl,by kernel_rfl⟩
def j4 (x2 x3 x4 x5 x6:Int):Int:=bif !gU 2 (elV tp1 (bA [vi x2,vi x3] 0 1)) then bif !ba x4 1 20000 then bif !ba x5 0 (i64.wrap (x6 - 1)) then bif ba x6 1 1000 then 7 else 0 else 7 else 7 else 7
def R65 (n0:Nat) (f0:FnV) (x2 x3 x4 x5 x6:Int):V:=.int i64 (j4 x2 x3 x4 x5 x6)
theorem X2 (n0:Nat) (f0:FnV) (x2 x3 x4 x5 x6:Int):evR noE (m65 n0 f0 x2 x3 x4 x5 x6) (R65 n0 f0 x2 x3 x4 x5 x6):=ao (ac (ak (aw (fun h0=>aH (by first | assumption | (fail)) (ao (ac (ak (ak (ak (aw (fun h1=>aH (by first | assumption | (fail)) (aH (by first | assumption | (fail)) (ao (ac (ak (aw (fun h2=>aH (by first | assumption | (fail)) (ao (ac (aw (fun h3=>ah (by unfold R65 j4; try rw [h0]; try rw [h1]; try rw [h2]; try rw [h3]; rfl)) (fun h3=>ah (by unfold R65 j4; try rw [h0]; try rw [h1]; try rw [h2]; try rw [h3]; rfl)))))) (fun h2=>ah (by unfold R65 j4; try rw [h0]; try rw [h1]; try rw [h2]; rfl)))))))) (fun h1=>ah (by unfold R65 j4; try rw [h0]; try rw [h1]; rfl))))))))) (fun h0=>ah (by unfold R65 j4; try rw [h0]; rfl)))))
def C65:ap:=mkC [.sl tyT,.agg tyT] (fun _=>True) fun
 | [.sl n0 f0,.agg [.int _ x2,.int _ x3,.int _ x4,.int _ x5,.int _ x6]]=>R65 n0 f0 x2 x3 x4 x5 x6
 | _=>.any
theorem Qh:(vP C65).Ok Tryz.prog 138:=mkE rh Tryz.func138 (by kernel_rfl) fun ds hp=>rf0 (TU ..) (X2 _ _ _ _ _ _ _)
def m67 (n0:Nat) (f0:FnV) (x2 x3 x4 x5:Int) (n6:Nat) (f6:FnV):RT Empty:=.obt (.obt (.obt (.obt (.obc (.obt (.br (gU 4 (elV tp1 (bA [vi x2,vi x3,vi x4,vi x5] 0 1))) (.ret (vi 7)) (.br (x2 == x4 && (x3 == x5 && true)) (.ret (vi 2)) (.asm (true=true->n6<=9223372036854775807) (.br (decide (6 < (↑n6:Int))) (.ret (vi 3)) (.obc (.obt (.br (m8 n6 (elV tp4 f6)) (.ret (vi 7)) (.ret (vi 0))))))))))))))
theorem WU (n0:Nat) (f0:FnV) (x2 x3 x4 x5:Int) (n6:Nat) (f6:FnV):Fit noD (aN JJ sU u0 s67 [V.sl n0 (elV tyF f0),V.agg [vi x2,vi x3,vi x4,vi x5,V.sl n6 (elV tp4 f6)]]) (m67 n0 f0 x2 x3 x4 x5 n6 f6):=⟨by kernel_rfl,by kernel_rfl⟩
def kd (x2 x3 x4 x5:Int) (n6:Nat) (f6:FnV):Int:=bif gU 4 (elV tp1 (bA [vi x2,vi x3,vi x4,vi x5] 0 1)) then 7 else bif x2 == x4 && (x3 == x5 && true) then 2 else bif decide (6 < (↑n6:Int)) then 3 else bif m8 n6 (elV tp4 f6) then 7 else 0
def R67 (n0:Nat) (f0:FnV) (x2 x3 x4 x5:Int) (n6:Nat) (f6:FnV):V:=.int i64 (kd x2 x3 x4 x5 n6 f6)
theorem XM (n0:Nat) (f0:FnV) (x2 x3 x4 x5:Int) (n6:Nat) (f6:FnV):evR noE (m67 n0 f0 x2 x3 x4 x5 n6 f6) (R67 n0 f0 x2 x3 x4 x5 n6 f6):=ac (ac (ac (ac (ao (ac (aw (fun h0=>ah (by unfold R67 kd; try rw [h0]; rfl)) (fun h0=>aw (fun h1=>ah (by unfold R67 kd; try rw [h0]; try rw [h1]; rfl)) (fun h1=>aE (fun a2=>aw (fun h2=>ah (by unfold R67 kd; try rw [h0]; try rw [h1]; try rw [h2]; rfl)) (fun h2=>ao (ac (aw (fun h3=>ah (by unfold R67 kd; try rw [h0]; try rw [h1]; try rw [h2]; try rw [h3]; rfl)) (fun h3=>ah (by unfold R67 kd; try rw [h0]; try rw [h1]; try rw [h2]; try rw [h3]; rfl))))))))))))))
def C67:ap:=mkC [.sl tyF,.agg tyF] (fun _=>True) fun
 | [.sl n0 f0,.agg [.int _ x2,.int _ x3,.int _ x4,.int _ x5,.sl n6 f6]]=>R67 n0 f0 x2 x3 x4 x5 n6 f6
 | _=>.any
theorem R3:(vP C67).Ok Tryz.prog 140:=mkE rh Tryz.func140 (by kernel_rfl) fun ds hp=>rf0 (WU ..) (XM _ _ _ _ _ _ _ _)
inductive uq where
 | L0 (ia0:Int)
def Sd (s0:ByteArray):uq->Env × List O × Option Ex
 | .L0 ia0=>([(3,vi ia0),(2,V.kb false),(0,V.str s0)],[],none)
def T6:uq->JJ
 | .L0 ia0=>(0,[])
def N9 (s0:ByteArray):T (ck JJ):=aN JJ sU u0 Y9 [V.str s0]
def zC (s0:ByteArray) (cx:List Cx):Lp JJ:=lpT (atT (N9 s0) [])
def T1 (s0:ByteArray):JJ->Lp JJ
 | (0,cx)=>zC s0 cx
 | (_,cx)=>zC s0 cx
def XQ (s0:ByteArray):LD JJ uq:=⟨T6,T1 s0,Sd s0⟩
def yR (s0:ByteArray):uq->RT uq
 | .L0 ia0=>.br (decide (ia0 < (↑s0.size:Int))) (.ob (decide (0<=ia0/\ia0 < (↑s0.size:Int))) (.obi (.obi (.obj (decide (97<=(↑(s0.data.1.getD ia0.toNat 0).toNat:Int))) (decide (0<=ia0/\ia0 < (↑s0.size:Int))) (.obi (.obi (.obi (.obi (.obi (.obi (.obj ((!bif decide (97<=(↑(s0.data.1.getD ia0.toNat 0).toNat:Int)) then decide ((↑(s0.data.1.getD ia0.toNat 0).toNat:Int)<=122) else false) && !ia0 == 0) (decide (0<=ia0/\ia0 < (↑s0.size:Int))) (.obi (.obi (.obi (.obi (.obj ((!bif decide (97<=(↑(s0.data.1.getD ia0.toNat 0).toNat:Int)) then decide ((↑(s0.data.1.getD ia0.toNat 0).toNat:Int)<=122) else false) && !ia0 == 0 && decide (48<=(↑(s0.data.1.getD ia0.toNat 0).toNat:Int))) (decide (0<=ia0/\ia0 < (↑s0.size:Int))) (.obi (.obi (.obi (.obi (.obi (.obi (.obi (.obj ((!bif decide (97<=(↑(s0.data.1.getD ia0.toNat 0).toNat:Int)) then decide ((↑(s0.data.1.getD ia0.toNat 0).toNat:Int)<=122) else false) && !ia0 == 0 && !bif decide (48<=(↑(s0.data.1.getD ia0.toNat 0).toNat:Int)) then decide ((↑(s0.data.1.getD ia0.toNat 0).toNat:Int)<=57) else false) (decide (0<=ia0/\ia0 < (↑s0.size:Int))) (.obi (.obi (.obi (.obi (.obi (.obi (.br (bif !bif decide (97<=(↑(s0.data.1.getD ia0.toNat 0).toNat:Int)) then decide ((↑(s0.data.1.getD ia0.toNat 0).toNat:Int)<=122) else false then bif ia0 == 0 then true else bif !bif decide (48<=(↑(s0.data.1.getD ia0.toNat 0).toNat:Int)) then decide ((↑(s0.data.1.getD ia0.toNat 0).toNat:Int)<=57) else false then (↑(s0.data.1.getD ia0.toNat 0).toNat:Int) != 45 else false else false) (.ret (V.kb false)) (.next [] (uq.L0 (i64.wrap (ia0+1))) [])))))))))))))))))))))))))))))))) (.obi (.obi (.obi (.ret (V.bool (bif decide (0 < (↑s0.size:Int)) then decide ((↑s0.size:Int)<=24) else false))))))
def OI (s0:ByteArray):RT uq:=.enter [] (uq.L0 (0)) []
theorem PP (s0:ByteArray):dw sU u0 (XQ s0) (N9 s0) (OI s0) (yR s0):=⟨⟨by kernel_rfl,by kernel_rfl⟩,fun s=>by cases s <;> exact ⟨by kernel_rfl,by kernel_rfl⟩⟩
def wi (s0:ByteArray) (i:Nat):Bool:=bif !bif decide (97<=((s0.data.toList.getD i 0).toNat:Int)) then decide (((s0.data.toList.getD i 0).toNat:Int)<=122) else false then bif (i:Int) == 0 then true else bif !bif decide (48<=((s0.data.toList.getD i 0).toNat:Int)) then decide (((s0.data.toList.getD i 0).toNat:Int)<=57) else false then ((s0.data.toList.getD i 0).toNat:Int) != 45 else false else false
def iS (s0:ByteArray):Bool:=bL s0.size (fun i=>!wi s0 i) && bif decide (0 < (s0.size:Int)) then decide ((s0.size:Int)<=24) else false
theorem Zv {n:Nat} (p:Nat->Bool) {P:Int->Prop} (hstep:∀ i:Nat,i < n->(∀ j,j < i->p j=false)->(p i=false->P (i64.wrap ((i:Int)+1)))->P i) (hend:(∀ j,j < n->p j=false)->P n) (hn:n<=9223372036854775807):P 0:=fL hn p hstep hend
theorem GD (s0:ByteArray) (hp:s0.size<=9223372036854775807):evR (Ev (yR s0)) (OI s0) (.bool (iS s0)):=aD (fL hp (wi s0) (P:=fun i=>Ev (yR s0) (.L0 i) (.bool (iS s0))) (fun i hlt hj next=>Ev.of rfl (bK hlt (yac hlt (by
 repeat (first | refine ak ?_ | refine kC hlt ?_)
 refine aw (fun hb=>ah ?_) (fun hb=>aR (next hb))
 simp only [toA]; unfold iS; rw [dK i hlt (by show (!wi s0 i)=false; rw [show wi s0 i=true from hb]; rfl)]; rfl))))
 (fun hj=>Ev.of rfl (bu (by
 repeat refine ak ?_
 refine ah ?_
 simp only [toA]; unfold iS; rw [dk fun i hi=>by rw [hj i hi]; rfl]; rfl))))
theorem Vu (s0:ByteArray) (hp:s0.size<=9223372036854775807):evR (Ev (yR s0)) (OI s0) (.bool (iS s0)):=GD s0 hp
def JN:ap:=mkC [.str] (fun
 | [.str s0]=>s0.size<=9223372036854775807
 | _=>False) fun
 | [.str s0]=>.bool (iS s0)
 | _=>.any
theorem Gj:(vP JN).Ok Tryz.prog 219:=mkE rh Tryz.func219 (by kernel_rfl) fun ds hp=>rfs (PP ..) (Vu _ hp)
inductive S72 where
 | L0 (ia0:Int)
def Wt (x0 x1 x2 x3:Int) (n4:Nat) (f4:FnV):S72->Env × List O × Option Ex
 | .L0 ia0=>([(3,vi ia0),(28,V.kb false),(27,vi (↑n4:Int)),(26,V.sl n4 (elV tp4 f4)),(25,V.pl 0 4),(24,V.kb false),(23,V.agg [vi x2,vi x3]),(22,V.pl 0 2),(21,V.agg [vi x0,vi x1]),(20,V.pl 0 0),(19,V.kb false),(18,V.bool (F51 4 (elV tp1 (bA [vi x0,vi x1,vi x2,vi x3] 0 1)))),(17,V.ss 1 0 4 4),(16,vi x3),(15,V.pl 0 3),(14,V.pl 0 2),(13,vi x2),(12,V.pl 0 2),(11,V.pl 0 2),(10,vi x1),(9,V.pl 0 1),(8,V.pl 0 0),(7,vi x0),(6,V.pl 0 0),(5,V.pl 0 0),(2,vi 0),(1,V.pl 0 0),(0,V.agg [vi x0,vi x1,vi x2,vi x3,V.sl n4 (elV tp4 f4)])],[O.cells [vi x0,vi x1,vi x2,vi x3,V.sl n4 (elV tp4 f4)] 146,O.cells [vi x0,vi x1,vi x2,vi x3] 3],none)
def Zo:S72->JJ
 | .L0 ia0=>(0,[])
def TR (x0 x1 x2 x3:Int) (n4:Nat) (f4:FnV):T (ck JJ):=aN JJ sU u0 s72 [V.agg [vi x0,vi x1,vi x2,vi x3,V.sl n4 (elV tp4 f4)]]
def Ed (x0 x1 x2 x3:Int) (n4:Nat) (f4:FnV) (cx:List Cx):Lp JJ:=lpT (atT (TR x0 x1 x2 x3 n4 f4) [false,false,false])
def Yr (x0 x1 x2 x3:Int) (n4:Nat) (f4:FnV):JJ->Lp JJ
 | (0,cx)=>Ed x0 x1 x2 x3 n4 f4 cx
 | (_,cx)=>Ed x0 x1 x2 x3 n4 f4 cx
def D72 (x0 x1 x2 x3:Int) (n4:Nat) (f4:FnV):LD JJ S72:=⟨Zo,Yr x0 x1 x2 x3 n4 f4,Wt x0 x1 x2 x3 n4 f4⟩
def KH (x0 x1 x2 x3:Int) (n4:Nat) (f4:FnV):S72->RT S72
 | .L0 ia0=>.asm (true=true->n4<=9223372036854775807) (.br (decide (ia0 < (↑n4:Int))) (.ob (decide (0<=ia0/\ia0 < (↑n4:Int))) (.obi (.obi (.obi (.obi (.obi (.obi (.obi (.obi (.obi (.obi (.obi (.obi (.obi (.obi (.obi (.obi (.obi (.obi (.obi (.br (bif bif bif bif bif decide (jv0 (f4 ia0.toNat) < 0) then true else decide (jv1 (f4 ia0.toNat)<=jv0 (f4 ia0.toNat)) then true else decide (1000 < jv1 (f4 ia0.toNat)) then true else decide (jv2 (f4 ia0.toNat) < 0) then true else decide (jv3 (f4 ia0.toNat)<=jv2 (f4 ia0.toNat)) then true else decide (1000 < jv3 (f4 ia0.toNat))) (.ret (vi 7)) (.next [some (some 0),some (some 1)] (S72.L0 (i64.wrap (ia0+1))) [])))))))))))))))))))))) (.ret (vi 0)))
def m72 (x0 x1 x2 x3:Int) (n4:Nat) (f4:FnV):RT S72:=.obt (.obt (.obt (.obt (.obc (.obt (.br (!F51 4 (elV tp1 (bA [vi x0,vi x1,vi x2,vi x3] 0 1))) (.ret (vi 7)) (.br (x0 == x2 && (x1 == x3 && true)) (.ret (vi 2)) (.asm (true=true->n4<=9223372036854775807) (.br (decide (6 < (↑n4:Int))) (.ret (vi 3)) (.enter [some (some 0),some (some 1)] (S72.L0 (0)) []))))))))))
theorem Vd (x0 x1 x2 x3:Int) (n4:Nat) (f4:FnV):dw sU u0 (D72 x0 x1 x2 x3 n4 f4) (TR x0 x1 x2 x3 n4 f4) (m72 x0 x1 x2 x3 n4 f4) (KH x0 x1 x2 x3 n4 f4):=⟨⟨by kernel_rfl,by kernel_rfl⟩,fun s=>by cases s <;> exact ⟨by kernel_rfl,by kernel_rfl⟩⟩
def B5 (l:List V):Bool:=bif bif bif bif bif decide (jv0 l < 0) then true else decide (jv1 l<=jv0 l) then true else decide (1000 < jv1 l) then true else decide (jv2 l < 0) then true else decide (jv3 l<=jv2 l) then true else decide (1000 < jv3 l)
def F72 (x0 x1 x2 x3:Int) (n4:Nat) (f4:FnV):Int:=bif !F51 4 (elV tp1 (bA [V.int .i64 x0,V.int .i64 x1,V.int .i64 x2,V.int .i64 x3] 0 ((1+1+1+1 - 0) / 4))) then 7 else bif x0 == x2 && (x1 == x3 && true) then 2 else bif decide (6 < (n4:Int)) then 3 else bif exB n4 (fun i=>B5 (f4 i)) then 7 else 0
theorem Pu (x0 x1 x2 x3:Int) (n4:Nat) (f4:FnV):evR (Ev (KH x0 x1 x2 x3 n4 f4)) (m72 x0 x1 x2 x3 n4 f4) (.int .i64 (F72 x0 x1 x2 x3 n4 f4)):=by
 unfold F72
 repeat (first | refine ac ?_ | refine ao ?_)
 refine aw (fun h0=>ah (by rw [h0]; rfl)) (fun h0=>?_)
 rw [h0,cond_false]
 refine aw (fun h1=>ah (by rw [h1]; rfl)) (fun h1=>?_)
 rw [h1,cond_false]
 refine yab fun hn=>?_
 refine aw (fun h2=>ah (by rw [h2]; rfl)) (fun h2=>?_)
 rw [h2,cond_false]
 refine aD (fL hn (fun i=>B5 (f4 i)) (P:=fun i=>Ev (KH x0 x1 x2 x3 n4 f4) (.L0 i) (.int .i64 (bif exB n4 (fun i=>B5 (f4 i)) then 7 else 0))) (fun i hlt hj next=>Ev.of rfl (yab fun _=>bK hlt (yac hlt (by
  repeat (first | refine ak ?_ | refine kC hlt ?_)
  refine aw (fun hb=>ah ?_) (fun hb=>aR (next hb))
  rw [bC i hlt (show B5 (f4 i)=true from hb)]; rfl))))
  (fun hj=>Ev.of rfl (yab fun _=>bu (ah ?_))))
 rw [bm hj]; rfl
theorem Zk (x0 x1 x2 x3:Int) (n4:Nat) (f4:FnV):evR (Ev (KH x0 x1 x2 x3 n4 f4)) (m72 x0 x1 x2 x3 n4 f4) (.int .i64 (F72 x0 x1 x2 x3 n4 (elV tp4 f4))):=Pu x0 x1 x2 x3 n4 f4
def C72:ap:=mkC [.agg tyF] (fun _=>True) fun
 | [.agg [.int _ x0,.int _ x1,.int _ x2,.int _ x3,.sl n4 f4]]=>.int .i64 (F72 x0 x1 x2 x3 n4 f4)
 | _=>.any
theorem R8:(vP C72).Ok Tryz.prog 149:=mkE rh Tryz.func149 (by kernel_rfl) fun ds hp=>rfs (Vd ..) (Zk _ _ _ _ _ _)
def xb:aY:=(205,.con KX)::(138,.con C65)::(140,.con C67)::(219,.con JN)::(149,.con C72)::sU
theorem FV:aQ Tryz.prog eqs its xb:=.con CQ (.con Qh (.con R3 (.con Gj (.con R8 (rh)))))
inductive ut where
 | L0 (ia0:Int)
def S3 (n0:Nat) (f0:FnV):ut->Env × List O × Option Ex
 | .L0 ia0=>([(8,vi ia0),(7,vi (↑n0:Int)),(6,V.sl n0 (elV tp2 f0)),(4,vi 0),(0,V.sl n0 (elV tp2 f0)),(1,V.fn 205 [] [])],[],none)
def Ue:ut->JJ
 | .L0 ia0=>(0,[])
def M1 (n0:Nat) (f0:FnV):T (ck JJ):=aN JJ xb u0 XY [V.sl n0 (elV tp2 f0),V.fn 205 [] []]
def yH (n0:Nat) (f0:FnV) (cx:List Cx):Lp JJ:=lpT (atT (M1 n0 f0) [])
def V9 (n0:Nat) (f0:FnV):JJ->Lp JJ
 | (0,cx)=>yH n0 f0 cx
 | (_,cx)=>yH n0 f0 cx
def Yv (n0:Nat) (f0:FnV):LD JJ ut:=⟨Ue,V9 n0 f0,S3 n0 f0⟩
def yaI (n0:Nat) (f0:FnV):ut->RT ut
 | .L0 ia0=>.br (decide (ia0 < (↑n0:Int))) (.ob (decide (0<=ia0/\ia0 < (↑n0:Int))) (.obc (.obt (.br (nq (jv0 (f0 ia0.toNat)) (jv1 (f0 ia0.toNat))) (.ret (vi ia0)) (.next [] (ut.L0 (i64.wrap (ia0+1))) []))))) (.ret (vi (-1)))
def ybe (n0:Nat) (f0:FnV):RT ut:=.asm (true=true->n0<=9223372036854775807) (.enter [] (ut.L0 (0)) [])
theorem Pj (n0:Nat) (f0:FnV):dw xb u0 (Yv n0 f0) (M1 n0 f0) (ybe n0 f0) (yaI n0 f0):=⟨⟨by kernel_rfl,by kernel_rfl⟩,fun s=>by cases s <;> exact ⟨by kernel_rfl,by kernel_rfl⟩⟩
def Au (n0:Nat) (f0:FnV):Int  :=idx n0 fun ii=>nq (jv0 (f0 ii)) (jv1 (f0 ii))
theorem Jf (n0:Nat) (f0:FnV):evR (Ev (yaI n0 f0)) (ybe n0 f0) (.int .i64 (Au n0 f0)):=yab fun hn=>aD (lM hn fun i=>rfl)
theorem Us (n0:Nat) (f0:FnV):evR (Ev (yaI n0 f0)) (ybe n0 f0) (.int .i64 (Au n0 (elV tp2 f0))):=Jf n0 f0
def R1:ap:=mkC [.sl tp2,.fn 205 [] []] (fun _=>True) fun
 | [.sl n0 f0,.fn _ [] []]=>.int .i64 (Au n0 f0)
 | _=>.any
theorem NH:(vP R1).Ok Tryz.prog 253:=mkE FV Tryz.func253 (by kernel_rfl) fun ds hp=>rfs (Pj ..) (Us _ _)
inductive S64 where
 | L0 (ia0:Int)
def U5 (n0:Nat) (f0:FnV):S64->Env × List O × Option Ex
 | .L0 ia0=>([(11,vi ia0),(10,vi (↑n0:Int)),(9,V.sl n0 (elV tyT f0)),(5,vi 0),(4,vi 0),(0,V.sl n0 (elV tyT f0)),(1,V.fn 138 [] [])],[],none)
def Yp:S64->JJ
 | .L0 ia0=>(0,[])
def Vs (n0:Nat) (f0:FnV):T (ck JJ):=aN JJ xb u0 s64 [V.sl n0 (elV tyT f0),V.fn 138 [] []]
def FG (n0:Nat) (f0:FnV) (cx:List Cx):Lp JJ:=lpT (atT (Vs n0 f0) [])
def Yb (n0:Nat) (f0:FnV):JJ->Lp JJ
 | (0,cx)=>FG n0 f0 cx
 | (_,cx)=>FG n0 f0 cx
def D64 (n0:Nat) (f0:FnV):LD JJ S64:=⟨Yp,Yb n0 f0,U5 n0 f0⟩
def Qa (n0:Nat) (f0:FnV):S64->RT S64
 | .L0 ia0=>.br (decide (ia0 < (↑n0:Int))) (.ob (decide (0<=ia0/\ia0 < (↑n0:Int))) (.ob (decide (0<=ia0/\ia0<=(↑n0:Int))) (.obc (.obt (.br (j4 (jv0 (f0 ia0.toNat)) (jv1 (f0 ia0.toNat)) (jv2 (f0 ia0.toNat)) (jv3 (f0 ia0.toNat)) (jv4 (f0 ia0.toNat)) != 0) (.ret (V.tup [vi ia0,vi (j4 (jv0 (f0 ia0.toNat)) (jv1 (f0 ia0.toNat)) (jv2 (f0 ia0.toNat)) (jv3 (f0 ia0.toNat)) (jv4 (f0 ia0.toNat)))])) (.next [] (S64.L0 (i64.wrap (ia0+1))) [])))))) (.ret (V.tup [vi 0,vi 0]))
def m64 (n0:Nat) (f0:FnV):RT S64:=.asm (true=true->n0<=9223372036854775807) (.enter [] (S64.L0 (0)) [])
theorem Ut (n0:Nat) (f0:FnV):dw xb u0 (D64 n0 f0) (Vs n0 f0) (m64 n0 f0) (Qa n0 f0):=⟨⟨by kernel_rfl,by kernel_rfl⟩,fun s=>by cases s <;> exact ⟨by kernel_rfl,by kernel_rfl⟩⟩
def c64 (n0:Nat) (f0:FnV) (ii:Nat):Int:=(j4 (jv0 (f0 ii)) (jv1 (f0 ii)) (jv2 (f0 ii)) (jv3 (f0 ii)) (jv4 (f0 ii)))
def rl (n0:Nat) (f0:FnV):Int:=dM n0 (c64 n0 f0)
def lc (n0:Nat) (f0:FnV):Int:=cj n0 (c64 n0 f0)
theorem Oz (n0:Nat) (f0:FnV):evR (Ev (Qa n0 f0)) (m64 n0 f0) (.tup [.int .i64 (rl n0 f0),.int .i64 (lc n0 f0)]):=yab fun hn=>aD (mf (Q:=fun _=>True) (fun _ x=>.obc (.obt x)) (fun i x r h hx=>ao (ac hx)) (fun _ _=>rfl) hn (fun _ _=>trivial) fun i=>rfl)
theorem YU (n0:Nat) (f0:FnV):evR (Ev (Qa n0 f0)) (m64 n0 f0) (.tup [.int .i64 (rl n0 (elV tyT f0)),.int .i64 (lc n0 (elV tyT f0))]):=Oz n0 f0
def C64:ap:=mkC [.sl tyT,.fn 138 [] []] (fun _=>True) fun
 | [.sl n0 f0,.fn _ [] []]=>.tup [.int .i64 (rl n0 f0),.int .i64 (lc n0 f0)]
 | _=>.any
theorem TQ:(vP C64).Ok Tryz.prog 137:=mkE FV Tryz.func137 (by kernel_rfl) fun ds hp=>rfs (Ut ..) (YU _ _)
inductive S66 where
 | L0 (ia0:Int)
def U6 (n0:Nat) (f0:FnV):S66->Env × List O × Option Ex
 | .L0 ia0=>([(11,vi ia0),(10,vi (↑n0:Int)),(9,V.sl n0 (elV tyF f0)),(5,vi 0),(4,vi 0),(0,V.sl n0 (elV tyF f0)),(1,V.fn 140 [] [])],[],none)
def YC:S66->JJ
 | .L0 ia0=>(0,[])
def VR (n0:Nat) (f0:FnV):T (ck JJ):=aN JJ xb u0 s66 [V.sl n0 (elV tyF f0),V.fn 140 [] []]
def C1 (n0:Nat) (f0:FnV) (cx:List Cx):Lp JJ:=lpT (atT (VR n0 f0) [])
def YY (n0:Nat) (f0:FnV):JJ->Lp JJ
 | (0,cx)=>C1 n0 f0 cx
 | (_,cx)=>C1 n0 f0 cx
def D66 (n0:Nat) (f0:FnV):LD JJ S66:=⟨YC,YY n0 f0,U6 n0 f0⟩
def Ro (n0:Nat) (f0:FnV):S66->RT S66
 | .L0 ia0=>.br (decide (ia0 < (↑n0:Int))) (.ob (decide (0<=ia0/\ia0 < (↑n0:Int))) (.ob (decide (0<=ia0/\ia0<=(↑n0:Int))) (.obc (.obt (.br ((kd (jv0 (f0 ia0.toNat)) (jv1 (f0 ia0.toNat)) (jv2 (f0 ia0.toNat)) (jv3 (f0 ia0.toNat)) (am (hdV (tlV (tlV (tlV (tlV (f0 ia0.toNat))))))) fun i=>ae tp4 (atV (hdV (tlV (tlV (tlV (tlV (f0 ia0.toNat)))))) i)) != 0) (.ret (V.tup [vi ia0,vi (kd (jv0 (f0 ia0.toNat)) (jv1 (f0 ia0.toNat)) (jv2 (f0 ia0.toNat)) (jv3 (f0 ia0.toNat)) (am (hdV (tlV (tlV (tlV (tlV (f0 ia0.toNat))))))) fun i=>ae tp4 (atV (hdV (tlV (tlV (tlV (tlV (f0 ia0.toNat)))))) i))])) (.next [] (S66.L0 (i64.wrap (ia0+1))) [])))))) (.ret (V.tup [vi 0,vi 0]))
def m66 (n0:Nat) (f0:FnV):RT S66:=.asm (true=true->n0<=9223372036854775807) (.enter [] (S66.L0 (0)) [])
theorem UJ (n0:Nat) (f0:FnV):dw xb u0 (D66 n0 f0) (VR n0 f0) (m66 n0 f0) (Ro n0 f0):=⟨⟨by kernel_rfl,by kernel_rfl⟩,fun s=>by cases s <;> exact ⟨by kernel_rfl,by kernel_rfl⟩⟩
def c66 (n0:Nat) (f0:FnV) (ii:Nat):Int:=(kd (jv0 (f0 ii)) (jv1 (f0 ii)) (jv2 (f0 ii)) (jv3 (f0 ii)) (am (hdV (tlV (tlV (tlV (tlV (f0 ii))))))) fun i=>ae tp4 (atV (hdV (tlV (tlV (tlV (tlV (f0 ii)))))) i))
def rS (n0:Nat) (f0:FnV):Int:=dM n0 (c66 n0 f0)
def kR (n0:Nat) (f0:FnV):Int:=cj n0 (c66 n0 f0)
theorem P9 (n0:Nat) (f0:FnV):evR (Ev (Ro n0 f0)) (m66 n0 f0) (.tup [.int .i64 (rS n0 f0),.int .i64 (kR n0 f0)]):=yab fun hn=>aD (mf (Q:=fun _=>True) (fun _ x=>.obc (.obt x)) (fun i x r h hx=>ao (ac hx)) (fun _ _=>rfl) hn (fun _ _=>trivial) fun i=>rfl)
theorem Yg (n0:Nat) (f0:FnV):evR (Ev (Ro n0 f0)) (m66 n0 f0) (.tup [.int .i64 (rS n0 (elV tyF f0)),.int .i64 (kR n0 (elV tyF f0))]):=P9 n0 f0
def C66:ap:=mkC [.sl tyF,.fn 140 [] []] (fun _=>True) fun
 | [.sl n0 f0,.fn _ [] []]=>.tup [.int .i64 (rS n0 f0),.int .i64 (kR n0 f0)]
 | _=>.any
theorem Vb:(vP C66).Ok Tryz.prog 139:=mkE FV Tryz.func139 (by kernel_rfl) fun ds hp=>rfs (UJ ..) (Yg _ _)
end Go.Dx
namespace Go.Proofs
open Go.Shelf
def Tryz.lays160_ren:Go.Shelf.Ren:=⟨fun | 160=>251 | 232=>277 | 231=>276 | 227=>278 | 234=>280 | 233=>279 | 236=>282 | 235=>281 | 228=>305 | 271=>308 | 151=>307 | 197=>306 | 120=>319 | 152=>318 | 260=>317 | 137=>330 | 119=>331 | 224=>332 | 225=>333 | 217=>339 | 266=>341 | n=>n,fun | 9=>9 | 4=>4 | 3=>3 | 5=>5 | 117=>311 | 116=>310 | 0=>0 | 124=>314 | 21=>21 | 105=>342 | 46=>315 | 119=>363 | 139=>366 | 138=>365 | n=>n,fun | 3=>0 | 4=>1 | n=>n⟩
theorem Tryz.lays160:Go.Proofs.Lays.n160 Tryz.prog Tryz.lays160_ren:={
 mixed:=by kernel_rfl
 f119:=Tryz.func331.trans (congrArg some (by kernel_rfl))
 f120:=Tryz.func319.trans (congrArg some (by kernel_rfl))
 f137:=Tryz.func330.trans (congrArg some (by kernel_rfl))
 f151:=Tryz.func307.trans (congrArg some (by kernel_rfl))
 f152:=Tryz.func318.trans (congrArg some (by kernel_rfl))
 f160:=Tryz.func251.trans (congrArg some (by kernel_rfl))
 f197:=Tryz.func306.trans (congrArg some (by kernel_rfl))
 f217:=Tryz.func339.trans (congrArg some (by kernel_rfl))
 f224:=Tryz.func332.trans (congrArg some (by kernel_rfl))
 f225:=Tryz.func333.trans (congrArg some (by kernel_rfl))
 f227:=Tryz.func278.trans (congrArg some (by kernel_rfl))
 f228:=Tryz.func305.trans (congrArg some (by kernel_rfl))
 f231:=Tryz.func276.trans (congrArg some (by kernel_rfl))
 f232:=Tryz.func277.trans (congrArg some (by kernel_rfl))
 f233:=Tryz.func279.trans (congrArg some (by kernel_rfl))
 f234:=Tryz.func280.trans (congrArg some (by kernel_rfl))
 f235:=Tryz.func281.trans (congrArg some (by kernel_rfl))
 f236:=Tryz.func282.trans (congrArg some (by kernel_rfl))
 f260:=Tryz.func317.trans (congrArg some (by kernel_rfl))
 f266:=Tryz.func341.trans (congrArg some (by kernel_rfl))
 f271:=Tryz.func308.trans (congrArg some (by kernel_rfl))
 t0:=Tryz.underlying0
 a0:=Tryz.isAgg0
 z0:=Tryz.sizeOf0
 v0:=Tryz.zeroValue0
 t3:=Tryz.underlying3
 a3:=Tryz.isAgg3
 z3:=Tryz.sizeOf3
 v3:=Tryz.zeroValue3
 t4:=Tryz.underlying4
 a4:=Tryz.isAgg4
 z4:=Tryz.sizeOf4
 v4:=Tryz.zeroValue4
 t5:=Tryz.underlying5
 a5:=Tryz.isAgg5
 z5:=Tryz.sizeOf5
 v5:=Tryz.zeroValue5
 t9:=Tryz.underlying9
 a9:=Tryz.isAgg9
 z9:=Tryz.sizeOf9
 v9:=Tryz.zeroValue9
 t21:=Tryz.underlying21
 a21:=Tryz.isAgg21
 z21:=Tryz.sizeOf21
 v21:=Tryz.zeroValue21
 t46:=Tryz.underlying315
 a46:=Tryz.isAgg315
 z46:=Tryz.sizeOf315
 v46:=Tryz.zeroValue315
 t105:=Tryz.underlying342
 a105:=Tryz.isAgg342
 z105:=Tryz.sizeOf342
 v105:=Tryz.zeroValue342
 t116:=Tryz.underlying310
 a116:=Tryz.isAgg310
 z116:=Tryz.sizeOf310
 t117:=Tryz.underlying311
 a117:=Tryz.isAgg311
 z117:=Tryz.sizeOf311
 v117:=Tryz.zeroValue311
 t119:=Tryz.underlying363
 a119:=Tryz.isAgg363
 z119:=Tryz.sizeOf363
 t124:=Tryz.underlying314
 a124:=Tryz.isAgg314
 z124:=Tryz.sizeOf314
 v124:=Tryz.zeroValue314
 t138:=Tryz.underlying365
 a138:=Tryz.isAgg365
 z138:=Tryz.sizeOf365
 v138:=Tryz.zeroValue365
 t139:=Tryz.underlying366
 a139:=Tryz.isAgg366
 z139:=Tryz.sizeOf366
 v139:=Tryz.zeroValue366
 g3:=by kernel_rfl
 g4:=by kernel_rfl }
end Go.Proofs
namespace Go.Dx
open Go.IntKind (i64 u64 u8)
open Go.Sx Go.Proofs Go.Shelf Go.RowKit
def ID:ByteArray:=⟨#[97,98,99,100,101,102,103,104,105,106,107,108,109,110,111,112,113,114,115,116,117,118,119,120,121,122,48,49,50,51,52,53,54,55,56,57,45]⟩
def rf (s c:ByteArray):ByteArray:=⟨(Lib.trimS s.data.toList c.data.toList).toArray⟩
def IA:ap:=mkC [.str,.str] (fun
 | [.str s,.str c]=>s.size<=9223372036854775807/\c=ID
 | _=>False) fun
 | [.str s,.str c]=>.str (rf s c)
 | _=>.any
theorem wZ (s:ByteArray) (w:World) (hs:s.size<=9223372036854775807):Calls Tryz.prog 251 #[.string s,.string ID] w fun e w'=>e=.returned (.string (rf s ID))/\Below w.heap.size w w' :=
 Any.strings_Trim_laid Tryz.lays160 (by kernel_rfl) s ID w hs (by decide) (ascii_of_all (by decide))
theorem aL.below {B:bT} {m:ar} {lh:List af} {w w':World} (h:aL B m lh w) (hb:Below w.heap.size w w'):aL B m lh w':=by
 obtain ⟨h1,h2,h3,h4,h5⟩:=hb
 have hsz:B.w0.heap.size<=w'.heap.size:=Nat.le_trans h.size h4
 refine ⟨h1.trans h.os,h2.trans h.tape,h3.trans h.output,hsz,fun b hb=>(h5 b (Nat.lt_of_lt_of_le hb h.size)).trans (h.old b hb),Nat.le_trans h.fsize h4,fun b hb ho=>(h5 b (Nat.lt_of_lt_of_le hb h.fsize)).trans (h.kept b hb ho),fun k cs ty hk=>?_,h.inj,h.dom,h.dead,fun k b hk=>Nat.lt_of_lt_of_le (h.rng k b hk) h4⟩
 obtain ⟨b,vs,g1,g2,g3,g4⟩:=h.loc k cs ty hk
 exact ⟨b,vs,g1,g2,(h5 b (h.rng k b g1)).trans g3,g4⟩
theorem MA:(vP IA).Ok Tryz.prog 251:=by
 refine ⟨fun B m lh w args vs K hrel hargs hsp=>?_,fun _ _ _ _ _ hk ⟨ds,d,p,r,h1,h2,h3,h4,h5⟩=>⟨ds,d,p,r,h1,h2,h3,h4,hk _ _ h5⟩,fun _ _ _ _ ⟨_,_,_,_,_,_,_,_,h⟩=>h⟩
 obtain ⟨ds,d,p,r,h1,h2,⟨h30,h3⟩,h4,h5⟩:=hsp
 simp only [IA,mkC,Option.some.injEq,Prod.mk.injEq] at h2
 obtain ⟨rfl,rfl,rfl⟩:=h2
 have hty:=(fM [.str,.str] ds [] [] rfl h30).1
 simp only [aV,bQ] at hty
 obtain ⟨e1,e2,e3,e4,e5⟩:=hty
 rw [e5] at e3
 rw [e3,e2,e4] at e1
 generalize sv (hdV ds)=s at e1
 generalize sv (hdV (tlV ds))=c at e1
 subst e1
 simp only [iq,unq] at h3 h4 h5
 obtain ⟨hs,rfl⟩:=h3
 simp only [vrs,vr] at h1
 obtain ⟨_,_,rfl,rfl,_,_,rfl,rfl,rfl⟩:=h1
 simp only [al,vrel] at hargs
 obtain ⟨_,_,rfl,rfl,_,_,rfl,rfl,rfl⟩:=hargs
 refine ⟨⟨_,Tryz.func251,by kernel_rfl,by kernel_rfl⟩,(wZ s w hs).mono fun e w' ⟨he,hb⟩=>?_⟩
 exact ⟨_,_,m,lh,he,by simp only [toA,vrel],Ext.refl _ _,aL.below hrel hb,h5⟩
theorem zq (s:ByteArray) (h:(!s.toList == (⟨#[]⟩:ByteArray).toList)=true):(0:Int) < (s.size:Int):=by
 have e:(⟨#[]⟩:ByteArray).toList=[]:=by decide +kernel
 by_cases hz:s.size=0
 ·have:s=⟨#[]⟩:=by
   cases s with | mk d=>
   have:d=#[]:=Array.eq_empty_of_size_eq_zero hz
   rw [this]
  rw [this,e] at h; cases h
 ·omega
end Go.Dx
