/- Part 4 of a proof. No conditions. -/
import Derived.Test.YtibmdlbnkaihjaaGreatDoorLv3
import Derived.Laws.StructEq
import Derived.ChangeKeysEq
import Derived.Test.YtibmdlbnkaihjaaGreatDoorChecked
import Derived.IntWalk
import Derived.WalkKit
import Derived.Ground.NamesProg
import Derived.Shelf.Strings.SlTrimAscii
import Derived.Lib.ConvBytes
import Derived.Lib.Walk
set_option maxRecDepth 100000
set_option linter.unusedVariables false
set_option linter.unusedSimpArgs false
namespace Go.Dx
open Go.Sx
inductive bN (J:Type) where
 | res (v:V)
 | head (j:J) (e:bp) (h:List O) (g:Option Ex)
structure Lp (J:Type) where
 fr:Nat × Nat
 body:Ay
 k:Ex->bp->List O->Option Ex->T (bN J)
section
variable {α β:Type}
def eX:T α->(α->T β)->T β
 | .ret a,f=>f a
 | .br b x y,f=>.br b (eX x f) (eX y f)
 | .ob b x,f=>.ob b (eX x f)
 | .obi c d x,f=>.obi c d (eX x f)
 | .obp p x,f=>.obp p (eX x f)
 | .obq a b x,f=>.obq a b (eX x f)
 | .fail n,_=>.fail n
 | .loop fr b e h g k,f=>.loop fr b e h g fun x e h g=>eX (k x e h g) f
 | .all t,f=>.all fun l=>eX (t l) f
 | .und x y,f=>.und (eX x f) (eX y f)
 | .asm p x,f=>.asm p (eX x f)
theorem AK {LP:d7} {Q:β->Prop} (f:α->T β):∀ t:T α,bn LP (eX t f) Q=bn LP t fun a=>bn LP (f a) Q:=by
 intro t
 induction t with
 | ret a=>rfl
 | br b x y hx hy=>simp only [eX,bn,hx,hy]
 | ob b x hx=>simp only [eX,bn,hx]
 | obi c d x hx=>simp only [eX,bn,hx]
 | obp p x hx=>simp only [eX,bn,hx]
 | obq a b x hx=>simp only [eX,bn,hx]
 | fail n=>rfl
 | loop fr b e h g k hk=>simp only [eX,bn,hk]
 | all t ht=>simp only [eX,bn,ht]
 | und x y hx hy=>simp only [eX,bn,hx,hy]
 | asm p x hx=>simp only [eX,bn,hx]
theorem jj {LP:d7} (hLP:∀ fr b e h g (P P':Ex->bp->List O->Option Ex->Prop),(∀ x e h g,P x e h g->P' x e h g)->LP fr b e h g P->LP fr b e h g P') {Q Q':α->Prop} (hQ:∀ a,Q a->Q' a):∀ t:T α,bn LP t Q->bn LP t Q':=by
 intro t
 induction t with
 | ret a=>exact hQ a
 | br b x y hx hy=>exact fun h=>⟨fun e=>hx (h.1 e),fun e=>hy (h.2 e)⟩
 | ob b x hx=>exact fun h=>⟨h.1,hx h.2⟩
 | obi c d x hx=>exact fun h=>⟨h.1,hx h.2⟩
 | obp p x hx=>exact fun h=>⟨h.1,hx h.2⟩
 | obq a b x hx=>exact fun h=>⟨h.1,hx h.2⟩
 | fail n=>exact id
 | loop fr b e h g k hk=>exact fun hs=>hLP _ _ _ _ _ _ _ (fun x e h g=>hk x e h g) hs
 | all t ht=>exact fun h l=>ht l (h l)
 | und x y hx hy=>exact fun h=>⟨hx h.1,hy h.2⟩
 | asm p x hx=>exact fun h hp=>hx (h hp)
theorem fN (w0:World) (S:zS):∀ fr b e h g (P P':Ex->bp->List O->Option Ex->Prop),(∀ x e h g,P x e h g->P' x e h g)->cO w0 S fr b e h g P->cO w0 S fr b e h g P':=by
 intro fr b e h g P P' hP
 cases b with
 | s body=>exact fun hl N nbS ν nV nS sl lh QA h1 h2 h3 h4=>hl N nbS ν nV nS sl lh QA h1 h2 h3 fun ex e' h' ν' sl' lh' nV' nS' g0 g1 g2 g3=>h4 ex e' h' ν' sl' lh' nV' nS' g0 g1 g2 (hP _ _ _ _ g3)
 | i body rd=>exact fun hl N N0 ν nV nS sl sl0 lh QA h1 h2 h3 h4 h5 h6 h7 h8=>hl N N0 ν nV nS sl sl0 lh QA h1 h2 h3 h4 h5 h6 h7 fun ex e' h' g' ν' sl' lh' nV' nS' g0 g1 g2 g3=>h8 ex e' h' g' ν' sl' lh' nV' nS' g0 g1 g2 (hP _ _ _ _ g3)
end
mutual
def jF (ρ:lO):V->V->V
 | .any,_=>.any
 | .int _ _,.int k a=>.int k a
 | .bool _,.bool a=>.bool a
 | .bool _,.kb a=>.bool a
 | .kb _,.kb a=>.kb a
 | .str _,.str a=>.str a
 | .agg ys,.agg xs=>.agg (kC ρ ys xs)
 | .tup ys,.tup xs=>.tup (kC ρ ys xs)
 | .fn _ us vs,.fn f xs ys=>.fn f (kC ρ us xs) (kC ρ vs ys)
 | .sl _ _,.sl n f=>.sl n f
 | .pd _,.pd cs=>.pd cs
 | .pl k1 _,.pl k o=>match dj ρ k1 with
   | some (some k')=>cond (Nat.beq k' k) (.pl k1 o) .any
   | _=>.any
 | .pe k1 _ _,.pe k i j=>match dj ρ k1 with
   | some (some k')=>cond (Nat.beq k' k) (.pe k1 i j) .any
   | _=>.any
 | .ss k1 _ _ _,.ss k o n c=>match dj ρ k1 with
   | some (some k')=>cond (Nat.beq k' k) (.ss k1 o n c) .any
   | _=>.any
 | .gs k1 _,.gs k n=>match dj ρ k1 with
   | some (some k')=>cond (Nat.beq k' k) (.gs k1 n) .any
   | _=>.any
 | .gs k1 _,.ns=>match dj ρ k1 with
   | some none=>.gs k1 0
   | _=>.any
 | .ns,.ns=>.ns
 | .np,.np=>.np
 | .yl _,.yl l=>.yl l
 | .go k1 _ _,.go k o n=>match dj ρ k1 with
   | some (some k')=>cond (Nat.beq k' k) (.go k1 o n) .any
   | _=>.any
 | _,_=>.any
def kC (ρ:lO):List V->List V->List V
 | [],[]=>[]
 | y::ys,x::xs=>jF ρ y x::kC ρ ys xs
 | [],_::_=>[.any]
 | _::_,[]=>[]
end
section
variable {ρ:lO}
theorem If {k k':Nat} {x y:V} (hb:cond (Nat.beq k' k) x V.any=y) (hy:y ≠ V.any):k'=k/\x=y:=by
 cases hc:Nat.beq k' k with
 | false=>rw [hc] at hb; exact (hy hb.symm).elim
 | true=>rw [hc] at hb; exact ⟨Nat.eq_of_beq_eq_true hc,hb⟩
mutual
theorem EY:∀ (t v:V),jF ρ t v=t->b5 ρ v t
 | .any,v,_=>by cases v <;> simp [b5]
 | .int k n,v,h=>by cases v <;> simp only [jF] at h <;> cases h <;> simp [b5]
 | .bool b,v,h=>by cases v <;> simp only [jF] at h <;> cases h <;> simp [b5]
 | .kb b,v,h=>by cases v <;> simp only [jF] at h <;> cases h <;> simp [b5]
 | .str b,v,h=>by cases v <;> simp only [jF] at h <;> cases h <;> simp [b5]
 | .agg ys,v,h=>by
   cases v <;> simp only [jF] at h <;> first | (cases h; done) | skip
   simp only [V.agg.injEq] at h; simp only [b5]; exact fY ys _ h
 | .tup ys,v,h=>by
   cases v <;> simp only [jF] at h <;> first | (cases h; done) | skip
   simp only [V.tup.injEq] at h; simp only [b5]; exact fY ys _ h
 | .fn f us vs,v,h=>by
   cases v <;> simp only [jF] at h <;> first | (cases h; done) | skip
   simp only [V.fn.injEq] at h; simp only [b5]; exact ⟨h.1,fY us _ h.2.1,fY vs _ h.2.2⟩
 | .sl n f,v,h=>by cases v <;> simp only [jF] at h <;> cases h <;> simp [b5]
 | .pd cs,v,h=>by cases v <;> simp only [jF] at h <;> cases h <;> simp [b5]
 | .pl k1 o1,v,h=>by
   cases v <;> simp only [jF] at h <;> first | (cases h; done) | skip
   split at h
   ·rename_i k' hk
    obtain ⟨rfl,e⟩:=If h (by simp)
    simp only [V.pl.injEq,true_and] at e
    simp only [b5]; exact ⟨hk,e⟩
   ·cases h
 | .pe k1 i1 j1,v,h=>by
   cases v <;> simp only [jF] at h <;> first | (cases h; done) | skip
   split at h
   ·rename_i k' hk
    obtain ⟨rfl,e⟩:=If h (by simp)
    simp only [V.pe.injEq,true_and] at e
    simp only [b5]; exact ⟨hk,e⟩
   ·cases h
 | .ss k1 i1 j1 c1,v,h=>by
   cases v <;> simp only [jF] at h <;> first | (cases h; done) | skip
   split at h
   ·rename_i k' hk
    obtain ⟨rfl,e⟩:=If h (by simp)
    simp only [V.ss.injEq,true_and] at e
    simp only [b5]; exact ⟨hk,e⟩
   ·cases h
 | .gs k1 n1,v,h=>by
   cases v <;> simp only [jF] at h <;> first | (cases h; done) | skip
   ·split at h
    ·rename_i k' hk
     obtain ⟨rfl,e⟩:=If h (by simp)
     simp only [V.gs.injEq,true_and] at e
     simp only [b5]; exact ⟨hk,e⟩
    ·cases h
   ·split at h
    ·rename_i hk
     simp only [V.gs.injEq,true_and] at h
     simp only [b5]; exact ⟨hk,h.symm⟩
    ·cases h
 | .ns,v,h=>by cases v <;> simp only [jF] at h <;> cases h <;> simp [b5]
 | .np,v,h=>by cases v <;> simp only [jF] at h <;> cases h <;> simp [b5]
 | .yl l,v,h=>by cases v <;> simp only [jF] at h <;> cases h <;> simp [b5]
 | .gd b x,v,h=>by cases v <;> simp only [jF] at h <;> cases h
 | .go k1 i1 j1,v,h=>by
   cases v <;> simp only [jF] at h <;> first | (cases h; done) | skip
   split at h
   ·rename_i k' hk
    obtain ⟨rfl,e⟩:=If h (by simp)
    simp only [V.go.injEq,true_and] at e
    simp only [b5]; exact ⟨hk,e⟩
   ·cases h
 | .sq n m f,v,h=>by cases v <;> simp only [jF] at h <;> cases h
theorem fY:∀ (ts vs:List V),kC ρ ts vs=ts->eG ρ vs ts
 | [],[],_=>by simp [eG]
 | y::ys,x::xs,h=>by
   simp only [kC,List.cons.injEq] at h
   simp only [eG]; exact ⟨EY y x h.1,fY ys xs h.2⟩
 | [],_::_,h=>by simp [kC] at h
 | _::_,[],h=>by simp [kC] at h
end
mutual
theorem PR:∀ (v t:V),b5 [] v t->b5 ρ v t
 | .int ..,t,h=>by cases t <;> simp only [b5] at h ⊢ <;> exact h
 | .bool _,t,h=>by cases t <;> simp only [b5] at h ⊢ <;> exact h
 | .kb _,t,h=>by cases t <;> simp only [b5] at h ⊢ <;> exact h
 | .str _,t,h=>by cases t <;> simp only [b5] at h ⊢ <;> exact h
 | .agg xs,t,h=>by cases t <;> simp only [b5] at h ⊢ <;> first | exact iW _ _ h | exact h
 | .tup xs,t,h=>by cases t <;> simp only [b5] at h ⊢ <;> first | exact iW _ _ h | exact h
 | .fn f xs ys,t,h=>by cases t <;> simp only [b5] at h ⊢ <;> first | exact ⟨h.1,iW _ _ h.2.1,iW _ _ h.2.2⟩ | exact h
 | .sl ..,t,h=>by cases t <;> simp only [b5] at h ⊢ <;> exact h
 | .pd ..,t,h=>by cases t <;> simp only [b5] at h ⊢ <;> exact h
 | .pl ..,t,h=>by cases t <;> simp only [b5] at h ⊢ <;> first | exact h | (simp [dj,fq] at h)
 | .pe ..,t,h=>by cases t <;> simp only [b5] at h ⊢ <;> first | exact h | (simp [dj,fq] at h)
 | .ss ..,t,h=>by cases t <;> simp only [b5] at h ⊢ <;> first | exact h | (simp [dj,fq] at h)
 | .gs ..,t,h=>by cases t <;> simp only [b5] at h ⊢ <;> first | exact h | (simp [dj,fq] at h)
 | .ns,t,h=>by cases t <;> simp only [b5] at h ⊢ <;> first | exact h | (simp [dj,fq] at h)
 | .np,t,h=>by cases t <;> simp only [b5] at h ⊢ <;> exact h
 | .any,t,h=>by cases t <;> simp only [b5] at h ⊢ <;> exact h
 | .gd ..,t,h=>by cases t <;> simp only [b5] at h ⊢ <;> exact h
 | .yl _,t,h=>by cases t <;> simp only [b5] at h ⊢ <;> exact h
 | .go ..,t,h=>by cases t <;> simp only [b5] at h ⊢ <;> first | exact h | (simp [dj,fq] at h)
 | .sq ..,t,h=>by cases t <;> simp only [b5] at h ⊢ <;> exact h
theorem iW:∀ (vs ts:List V),eG [] vs ts->eG ρ vs ts
 | [],[],_=>by simp [eG]
 | v::vs,t::ts,h=>by simp only [eG] at h ⊢; exact ⟨PR v t h.1,iW vs ts h.2⟩
 | [],_::_,h=>by simp [eG] at h
 | _::_,[],h=>by simp [eG] at h
end
end
def xG (ts:List Ty) (n:Nat) (f:ah):Prop:=∀ i,i < n->kS (bD ts) (ao ts (f i))=true/\eG [] (f i) (ao ts (f i))
structure VF where
 k:Nat
 ts:List Ty
 n:Nat
 f:Nat->List V
 ok:xG ts n f
theorem IW {t:Ty} (h:bM t=true) (v:V):(cz t v).one=true:=by cases t <;> first | (simp [bM] at h; done) | (simp only [cz]; rfl)
theorem we:∀ {ts:List Ty},ts.all bM=true->∀ vs,(ao ts vs).all V.one=true
 | [],_,_=>by simp [ao]
 | t::ts,h,vs=>by
   simp only [List.all_cons,Bool.and_eq_true] at h
   simp only [ao,List.all_cons,Bool.and_eq_true]; exact ⟨IW h.1 _,we h.2 _⟩
theorem kr {ts:List Ty} (h:ts.all bM=true) (vs:List V):kS (bD ts) (ao ts vs)=true:=CY (by rw [q7,yac]) (we h vs)
theorem Hm {t:Ty} (h:bM t=true) (v:V):b5 [] (cz t v) (cz t v):=by cases t <;> first | (simp [bM] at h; done) | (simp only [cz,b5]; try simp)
theorem rJ:∀ {ts:List Ty},ts.all bM=true->∀ vs,eG [] (ao ts vs) (ao ts vs)
 | [],_,_=>by simp [ao,eG]
 | t::ts,h,vs=>by
   simp only [List.all_cons,Bool.and_eq_true] at h
   simp only [ao,eG]; exact ⟨Hm h.1 _,rJ h.2 _⟩
theorem eu {ts:List Ty} (h:ts.all bM=true) (n:Nat) (f:ah):xG ts n (aa ts f):=fun i _=>by
 simp only [aa,dI]
 exact ⟨kr h _,rJ h _⟩
theorem FE {ts:List Ty} {n m:Nat} {f g:Nat->List V} (h1:xG ts n f) (h2:xG ts m g):xG ts (n+m) (bA n f g):=fun i hi=>by
 unfold bA
 by_cases hlt:i < n
 ·have hb:Nat.blt i n=true:=Nat.ble_eq_true_of_le hlt
  rw [hb]; exact h1 i hlt
 ·have hb:Nat.blt i n=false:=by
   cases hb:Nat.blt i n with
   | false=>rfl
   | true=>have:=Nat.le_of_ble_eq_true hb; omega
  rw [hb]; exact h2 _ (by omega)
theorem yX {ts:List Ty} (h:ts.all bM=true) (n:Nat) {ds:List V} (hf:kC [] (ao ts ds) ds=ao ts ds):xG ts n fun _=>ds:=fun i _=>⟨kr h _,fY _ _ hf⟩
theorem NU {ts:List Ty} (h:ts.all bM=true) {n j:Nat} {ds:List V} {f:Nat->List V} (h1:xG ts n f) (hf:kC [] (ao ts ds) ds=ao ts ds):xG ts n fun i=>cond (Nat.beq i j) ds (f i):=fun i hi=>by
 show kS _ (ao ts (cond (Nat.beq i j) ds (f i)))=true/\eG [] (cond (Nat.beq i j) ds (f i)) (ao ts (cond (Nat.beq i j) ds (f i)))
 cases Nat.beq i j with
 | true=>exact ⟨kr h _,fY _ _ hf⟩
 | false=>exact h1 i hi
def BX (ts:List Ty) (f:ah):Nat->List (List V)
 | 0=>[]
 | n+1=>kC [] (ao ts (f n)) (f n)::BX ts f n
def xv (ts:List Ty) (f:ah):Nat->List (List V)
 | 0=>[]
 | n+1=>ao ts (f n)::xv ts f n
theorem O9 {ts:List Ty} (h:ts.all bM=true) {f:Nat->List V}:∀ {n:Nat},BX ts f n=xv ts f n->xG ts n f
 | 0,_=>fun i hi=>by omega
 | n+1,hf=>fun i hi=>by
   simp only [BX,xv,List.cons.injEq] at hf
   by_cases e:i=n
   ·subst e; exact ⟨kr h _,fY _ _ hf.1⟩
   ·exact O9 h hf.2 i (by omega)
def zr (ρ:lO) (e:bp):bp->bp
 | []=>[]
 | (s,t)::l=>(s,jF ρ t (iq e s))::zr ρ e l
theorem Gn {ρ:lO} {e:bp}:∀ {e1:bp},zr ρ e e1=e1->s3 ρ e e1
 | [],_=>trivial
 | (s,t)::l,h=>by
   simp only [zr,List.cons.injEq,Prod.mk.injEq,true_and] at h
   exact ⟨EY _ _ h.1,Gn h.2⟩
def u9:List VF->Nat->Option VF
 | [],_=>none
 | v::l,k=>cond (Nat.beq k v.k) (some v) (u9 l k)
def Og (ρ:lO) (h:List O) (vf:List VF) (k:Nat):O->O
 | .cells cs ty=>match dj ρ k with
   | some (some j)=>match fq h j with
     | some (.cells ds ty')=>.cells (kC ρ cs ds) ty'
     | _=>.dead
   | _=>.dead
 | .gl e n f ty=>match dj ρ k with
   | some none=>.gl e 0 f ty
   | some (some j)=>match fq h j with
     | some (.gl e' m g ty')=>match u9 vf k with
       | some v=>.gl e' m (aa v.ts g) ty'
       | none=>.dead
     | _=>.dead
   | none=>.dead
 | .dead=>.hid
 | .hid=>.hid
def zm (ρ:lO) (h:List O) (vf:List VF):Nat->List O->List O
 | _,[]=>[]
 | k,o::l=>Og ρ h vf k o::zm ρ h vf (k+1) l
def nL (ρ:lO) (h:List O):List VF->List (Nat × Nat × (Nat->List V))
 | []=>[]
 | v :: l=>(match dj ρ v.k with
   | some (some j)=>match fq h j with
     | some (.gl e m g _)=>(e,m,g)
     | _=>(0,0,fun _=>[])
   | _=>(0,0,fun _=>[]))::nL ρ h l
def nF:List VF->List (Nat × Nat × (Nat->List V))
 | []=>[]
 | v::l=>(bD v.ts,v.n,v.f)::nF l
theorem Ao {ρ:lO} {h:List O} {k:Nat} {v:VF}:∀ {vf:List VF},u9 vf k=some v->nL ρ h vf=nF vf->v.k=k/\(match dj ρ v.k with
 | some (some j)=>match fq h j with
   | some (.gl e m g _)=>(e,m,g)
   | _=>(0,0,fun _=>[])
 | _=>(0,0,fun _=>[]))=(bD v.ts,v.n,v.f)
 | [],h1,_=>by cases h1
 | x::l,h1,h2=>by
   simp only [nL,nF,List.cons.injEq] at h2
   simp only [u9] at h1
   cases hb:Nat.beq k x.k with
   | true=>rw [hb] at h1; cases h1; exact ⟨(Nat.eq_of_beq_eq_true hb).symm,h2.1⟩
   | false=>rw [hb] at h1; exact Ao h1 h2.2
theorem S7 {ρ:lO} {h:List O} {vf:List VF} {k:Nat} {o:O} (hf:Og ρ h vf k o=o) (hg:nL ρ h vf=nF vf):yar ρ h k o:=by
 cases o with
 | cells cs ty =>
   simp only [Og] at hf
   split at hf
   ·rename_i j hj
    split at hf
    ·rename_i ds ty' hn
     simp only [O.cells.injEq] at hf
     exact ⟨j,ds,hj,by rw [hn,hf.2],fY _ _ hf.1⟩
    ·cases hf
   ·cases hf
 | gl e n f ty =>
   simp only [Og] at hf
   split at hf
   ·rename_i hj
    simp only [O.gl.injEq,true_and,and_true] at hf
    exact .inl ⟨hj,hf.symm⟩
   ·rename_i j hj
    split at hf
    ·rename_i e' m g ty' hn
     split at hf
     ·rename_i v hv
      obtain ⟨rfl,h2⟩:=Ao hv hg
      rw [hj] at h2
      simp only [hn,Prod.mk.injEq] at h2
      simp only [O.gl.injEq] at hf
      obtain ⟨rfl,rfl,rfl,rfl⟩:=hf
      obtain ⟨h3,h4,h5⟩:=h2
      refine .inr ⟨j,m,g,hj,hn,Nat.le_refl _,fun i hi=>?_⟩
      have:=v.ok i (by rw [← h4]; exact hi)
      rw [← h5,← h3] at this
      exact ⟨this.1,iW _ _ this.2⟩
     ·cases hf
    ·cases hf
   ·cases hf
 | dead=>simp only [Og] at hf; cases hf
 | hid=>trivial
theorem E5 {ρ:lO} {h:List O} {vf:List VF} (hg:nL ρ h vf=nF vf):∀ {l:List O} {k:Nat},zm ρ h vf k l=l->sW ρ h k l
 | [],_,_=>trivial
 | o::l,k,hf=>by
   simp only [zm,List.cons.injEq] at hf
   exact ⟨S7 hf.1 hg,E5 hg hf.2⟩
def vu (ρ:lO) (nb:Nat) (h1:List O):Bool:=Nat.beq (bD ρ) (bD h1) && (Cp ρ && Ni ρ nb)
theorem sM (w0:World) {ρ:lO} {nb:Nat} {e e1:bp} {h h1:List O} {vf:List VF} (h0:vu ρ nb h1=true) (he:zr ρ e e1=e1) (hh:zm ρ h vf 0 h1=h1) (hg:nL ρ h vf=nF vf):jn w0 nb e h e1 h1:=by
 unfold vu at h0
 simp only [Bool.and_eq_true] at h0
 exact jn.ren w0 ρ h0.1 h0.2.1 h0.2.2 (Gn he) (E5 hg hh)
def frR (zs:List VF) (v v':V):Prop:=v'=v ∨ ∃ k n z,v=.gs k n/\z ∈ zs/\z.k=k/\n<=z.n/\v'=.sl n (aa z.ts z.f)
def Vp (zs:List VF):List V->List V->Prop
 | [],[]=>True
 | a::l,b::m=>frR zs a b/\Vp zs l m
 | _,_=>False
structure FR (zs:List VF) where
 k:Nat
 n:Nat
 f:Nat->List V
 g:Nat->List V
 ok:∀ i,i < n->Vp zs (f i) (g i)
section
variable {zs:List VF}
def Hg:List (FR zs)->Nat->Option (FR zs)
 | [],_=>none
 | v::l,k=>cond (Nat.beq k v.k) (some v) (Hg l k)
def aa8 (fr:List (FR zs)) (k:Nat) (o:O):O:=match u9 zs k with
 | some _=>.hid
 | none=>match o with
   | .gl e n f ty=>match Hg fr k with
     | some r=>.gl e n r.g ty
     | none=>.gl e n f ty
   | o=>o
def frzH (fr:List (FR zs)):Nat->List O->List O
 | _,[]=>[]
 | k,o::l=>aa8 fr k o::frzH fr (k+1) l
def RH (zs:List VF):Bool:=zs.all fun v=>v.ts.all bM
def Hl (h:List O):List VF->List (Option (Nat × Nat × (Nat->List V)))
 | []=>[]
 | v::l=>(match fq h v.k with
   | some (.gl e m g _)=>some (e,m,g)
   | _=>none)::Hl h l
def qL:List VF->List (Option (Nat × Nat × (Nat->List V)))
 | []=>[]
 | v::l=>some (bD v.ts,v.n,v.f)::qL l
def Hb (h:List O):List (FR zs)->List (Option (Nat × (Nat->List V)))
 | []=>[]
 | v::l=>(match fq h v.k with
   | some (.gl _ m g _)=>some (m,g)
   | _=>none)::Hb h l
def Hj:List (FR zs)->List (Option (Nat × (Nat->List V)))
 | []=>[]
 | v::l=>some (v.n,v.f)::Hj l
theorem EP {h:List O} {v:VF}:∀ {l:List VF},Hl h l=qL l->v ∈ l->∃ ty,h[v.k]? = some (.gl (bD v.ts) v.n v.f ty)
 | [],_,hm=>by cases hm
 | x :: l,he,hm=>by
   simp only [Hl,qL,List.cons.injEq] at he
   rcases List.mem_cons.1 hm with rfl | hm
   ·have h1:=he.1
    rw [bb] at h1
    split at h1
    ·rename_i e m g ty hk
     simp only [Option.some.injEq,Prod.mk.injEq] at h1
     obtain ⟨rfl,rfl,rfl⟩:=h1
     exact ⟨ty,hk⟩
    ·cases h1
   ·exact EP he.2 hm
theorem yaC {h:List O} {k:Nat} {r:FR zs}:∀ {l:List (FR zs)},Hb h l=Hj l->Hg l k=some r->∃ e ty,h[k]? = some (.gl e r.n r.f ty)
 | [],_,hm=>by cases hm
 | x :: l,he,hm=>by
   simp only [Hb,Hj,List.cons.injEq] at he
   simp only [Hg] at hm
   cases hb:Nat.beq k x.k with
   | true =>
     rw [hb] at hm; cases hm
     have h1:=he.1
     rw [bb,← Nat.eq_of_beq_eq_true hb] at h1
     split at h1
     ·rename_i e m g ty hk
      simp only [Option.some.injEq,Prod.mk.injEq] at h1
      obtain ⟨rfl,rfl⟩:=h1
      exact ⟨e,ty,hk⟩
     ·cases h1
   | false=>rw [hb] at hm; exact yaC he.2 hm
theorem vQ {v:VF}:∀ {l:List VF},v ∈ l->u9 l v.k ≠ none
 | x :: l,hm=>by
   simp only [u9]
   cases hb:Nat.beq v.k x.k with
   | true=>simp
   | false =>
     rcases List.mem_cons.1 hm with rfl | hm
     ·simp at hb
     ·exact vQ hm
theorem yT (fr:List (FR zs)):∀ (l:List O) (b k:Nat),(frzH fr b l)[k]? = (l[k]?).map (aa8 fr (b+k))
 | [],b,k=>by simp [frzH]
 | o::l,b,0=>by simp [frzH]
 | o::l,b,k+1=>by
   simp only [frzH,List.getElem?_cons_succ]
   rw [yT fr l (b+1) k,show b+1+k=b+(k+1) by omega]
theorem S9 {v v':V} (h:frR zs v v') (hv:v.one=true):v'.one=true:=by
 rcases h with rfl | ⟨k,n,z,_,_,_,_,rfl⟩
 ·exact hv
 ·rfl
theorem Aq:∀ {l m:List V},Vp zs l m->l.all V.one=true->bD m=bD l/\m.all V.one=true
 | [],[],_,_=>⟨rfl,rfl⟩
 | a::l,b::m,h,ho=>by
   simp only [List.all_cons,Bool.and_eq_true] at ho ⊢
   obtain ⟨h1,h2⟩:=Aq h.2 ho.2
   exact ⟨by simp only [bD,h1],S9 h.1 ho.1,h2⟩
 | [],_::_,h,_=>h.elim
 | _::_,[],h,_=>h.elim
theorem Gm (w0:World) {nb:Nat} {e:bp} {h:List O} {fr:List (FR zs)} (hc:RH zs=true) (hz:Hl h zs=qL zs) (hf:Hb h fr=Hj fr):jn w0 nb e h e (frzH fr 0 h):=by
 classical
 intro N ν nV nS sl lh hs hr
 have hB:∀ v,v ∈ zs->∃ ty,h[v.k]? = some (.gl (bD v.ts) v.n v.f ty):=fun v hv=>EP hz hv
 let Bf:Nat->Prop:=fun j=>∃ v x,v ∈ zs/\ν v.k=some (some x)/\x.1=j
 let z1:List ap:=lh.mapIdx fun j o=>if isCells ν.z[j]? = true ∨ Bf j then o else .hid
 have z1get:∀ j,z1[j]? = (lh[j]?).map fun o=>if isCells ν.z[j]? = true ∨ Bf j then o else .hid:=fun j=>by simp only [z1,List.getElem?_mapIdx]
 have hza:sS ν.z z1:=fun j az ty hj=>by
  rw [z1get,hr.zl j az ty hj]
  simp only [Option.map_some]
  rw [if_pos (.inl (by rw [hj]; rfl))]
 have hzb:sS z1 lh:=fun j az ty hj=>by
  rw [z1get] at hj
  cases hl:lh[j]? with
  | none=>rw [hl] at hj; cases hj
  | some o =>
    rw [hl] at hj
    simp only [Option.map_some,Option.some.injEq] at hj
    split at hj
    ·rw [hj]
    ·cases hj
 let ν1:Nu:=⟨ν.m,z1⟩
 have hsub:ν.sub ν1:=⟨fun _ _ h=>h,hza⟩
 have hfr:∀ {v v':V} {a:ak},frR zs v v'->vr w0 ν.z ν v a->vr w0 z1 ν1 v' a:=by
  intro v v' a hv hx
  rcases hv with rfl | ⟨k,n,z,rfl,hm,rfl,hn,rfl⟩
  ·exact YI hsub _ _ hx
  ·obtain ⟨ty,hk⟩:=hB z hm
   have hts:z.ts.all bM=true:=by unfold RH at hc; exact List.all_eq_true.1 hc z hm
   simp only [vr] at hx ⊢
   rcases hr.blk _ _ hk with ⟨h1,h2⟩ | ⟨b,c,az,h1,h2,h3,h4,h5⟩
   ·rcases hx with ⟨_,g2,rfl⟩ | ⟨b,c,e,g1,_⟩
    ·subst g2; exact ⟨none,0,0,rfl,Nat.le_refl _,by omega,trivial,fun i hi=>by omega⟩
    ·rw [h1] at g1; cases g1
   ·rcases hx with ⟨g1,_⟩ | ⟨b',c',e',g1,rfl,g3⟩
    ·rw [h1] at g1; cases g1
    ·rw [h1] at g1
     obtain ⟨rfl,rfl,rfl⟩:b=b'/\c=c'/\bD z.ts=e':=by simpa using g1
     have hb:z1[b]? = some (.cells az ty):=by
      rw [z1get,h2]
      simp only [Option.map_some]
      rw [if_pos (.inr ⟨z,_,hm,h1,rfl⟩)]
     refine ⟨some (.l b 0),c,bD z.ts,rfl,g3,by omega,⟨az,ty,hb,Nat.zero_le _⟩,fun i hi=>?_⟩
     have hi':i * bD z.ts+bD z.ts<=az.length:=by
      rw [h3,← Nat.succ_mul]; exact Nat.mul_le_mul_right _ (by omega)
     have hok:=z.ok i (by omega)
     refine ⟨_,_,rfl,?_,jl hza _ _ (fS (ν:=kG [] ν) (fun k x hx=>?_) _ _ (ip _ _ _ hok.2 (h5 i (by omega)).2)),ml _ _ hts⟩
     ·simp only [gA.add,lds,hb,Nat.zero_add]
      rw [if_pos (by omega)]
     ·simp only [kG,dj,fq] at hx; cases hx
 have hfrs:∀ {l m:List V} {az:List ak},Vp zs l m->bf w0 ν.z ν l az->bf w0 z1 ν1 m az:=by
  intro l
  induction l with
  | nil=>intro m az h1 h2; cases m with | nil=>simp only [bf] at h2 ⊢; exact h2 | cons=>exact h1.elim
  | cons a l ih =>
    intro m az h1 h2
    cases m with
    | nil=>exact h1.elim
    | cons b m =>
      simp only [bf] at h2 ⊢
      obtain ⟨x,xs,rfl,g1,g2⟩:=h2
      exact ⟨x,xs,rfl,hfr h1.1 g1,ih h1.2 g2⟩
 have hget:∀ k o,(frzH fr 0 h)[k]? = some o->o ≠ .hid->u9 zs k=none/\∃ o',h[k]? = some o'/\o=(match o' with
  | .gl e n f ty=>match Hg fr k with
    | some r=>O.gl e n r.g ty
    | none=>.gl e n f ty
  | o=>o):=fun k o hk ho=>by
  rw [yT,Nat.zero_add] at hk
  cases hg:h[k]? with
  | none=>rw [hg] at hk; cases hk
  | some o' =>
    rw [hg] at hk
    simp only [Option.map_some,Option.some.injEq,aa8] at hk
    cases hv:u9 zs k with
    | some v=>rw [hv] at hk; exact (ho hk.symm).elim
    | none=>rw [hv] at hk; exact ⟨rfl,o',rfl,hk.symm⟩
 have hlive:∀ k,aV (frzH fr 0 h) k->u9 zs k=none/\aV h k:=fun k hk=>by
  rcases eh hk with ⟨cs,ty,g⟩ | ⟨e,n,f,ty,g⟩
  ·obtain ⟨h1,o',h2,h3⟩:=hget k _ g (by simp)
   refine ⟨h1,?_⟩
   cases o' with
   | cells cs' ty'=>exact dd h2
   | gl e n f ty=>exact ff h2
   | dead=>cases h3
   | hid=>cases h3
  ·obtain ⟨h1,o',h2,h3⟩:=hget k _ g (by simp)
   refine ⟨h1,?_⟩
   cases o' with
   | cells cs' ty'=>exact dd h2
   | gl e n f ty=>exact ff h2
   | dead=>cases h3
   | hid=>cases h3
 refine ⟨ν1,nV,nS,NuN.of hsub _,hs.mono hsub,⟨fun k o hk=>?_,fun k k' x x' h1 h2=>hr.inj k k' x x' (hlive k h1).2 (hlive k' h2).2,fun k hk=>hr.dom k ?_,hr.rng,hzb,fun k x hk hx=>?_⟩⟩
 ·by_cases ho:o=.hid
  ·subst ho; trivial
  ·obtain ⟨h1,o',h2,h3⟩:=hget k o hk ho
   have hb:=hr.blk k o' h2
   cases o' with
   | cells cs ty=>subst h3; exact cS hsub (by simp) (fun b az ty g _=>g) hb
   | dead=>subst h3; exact hb
   | hid=>subst h3; trivial
   | gl e n f ty =>
     cases hfa:Hg fr k with
     | none=>rw [hfa] at h3; subst h3; exact cS hsub (by simp) (fun b az ty g _=>g) hb
     | some r =>
       rw [hfa] at h3; subst h3
       obtain ⟨e',ty',g⟩:=yaC hf hfa
       rw [h2] at g
       simp only [Option.some.injEq,O.gl.injEq] at g
       obtain ⟨_,rfl,rfl,_⟩:=g
       rcases hb with ⟨k1,k2⟩ | ⟨b,c,az,k1,k2,k3,k4,k5⟩
       ·exact .inl ⟨k1,k2⟩
       ·refine .inr ⟨b,c,az,k1,k2,k3,k4,fun i hi=>?_⟩
        obtain ⟨q1,q2⟩:=k5 i hi
        unfold kS at q1 ⊢
        simp only [Bool.and_eq_true] at q1 ⊢
        obtain ⟨p1,p2⟩:=Aq (r.ok i hi) q1.2
        exact ⟨⟨by rw [p1]; exact q1.1,p2⟩,hfrs (r.ok i hi) q2⟩
 ·have hl:(frzH fr 0 h).length=h.length:=by
   have gen:∀ (l:List O) (b:Nat),(frzH fr b l).length=l.length:=fun l=>by
    induction l with
    | nil=>intro b; rfl
    | cons o l ih=>intro b; simp [frzH,ih]
   exact gen h 0
  omega
 ·obtain ⟨h1,h2⟩:=hlive k hk
  have hx':ν k=some (some x):=hx
  have g1:=hr.zn k x h2 hx'
  show isCells z1[x.1]? = false
  rw [z1get]
  cases hl:lh[x.1]? with
  | none=>rfl
  | some o =>
    simp only [Option.map_some]
    rw [if_neg]
    ·rfl
    ·rintro (g2 | ⟨v,x',hv,g2,g3⟩)
     ·rw [g1] at g2; cases g2
     ·obtain ⟨ty,hk'⟩:=hB v hv
      have:=hr.inj v.k k x' x (ff hk') h2 g2 hx' g3
      rw [← this] at h1
      exact vQ hv h1
end
inductive RT (S:Type) where
 | ret (v:V)
 | next (ρ:lO) (s:S) (vf:List VF)
 | enter (ρ:lO) (s:S) (vf:List VF)
 | nextz (zs:List VF) (fr:List (FR zs)) (ρ:lO) (s:S) (vf:List VF)
 | enterz (zs:List VF) (fr:List (FR zs)) (ρ:lO) (s:S) (vf:List VF)
 | br (b:Bool) (x y:RT S)
 | brt (x:RT S)
 | brf (y:RT S)
 | brx (b:Bool) (x:RT S)
 | bry (b:Bool) (y:RT S)
 | ob (b:Bool) (x:RT S)
 | obt (x:RT S)
 | obv (b:Bool) (h:b=true) (x:RT S)
 | obi (x:RT S)
 | obj (c b:Bool) (x:RT S)
 | obc (x:RT S)
 | obp (p:Prop) (x:RT S)
 | obe (ts:List Ty) (ds:List V) (x:RT S)
 | und (x y:RT S)
 | asm (p:Prop) (x:RT S)
 | all (f:Nat->RT S)
 | fail
structure LD (J S:Type) where
 id:S->J
 lp:J->Lp J
 inv:S->bp × List O × Option Ex
inductive FT (J:Type) where
 | res (v:V)
 | head (j:J) (g:Option Ex) (ok:Bool) (e:bp) (h:List O) (vs:List (Nat × Nat × (Nat->List V)))
 | loop (fr:Nat × Nat) (b:Ay) (k:Ex->bp->List O->Option Ex->T (bN J)) (g:Option Ex) (ok:Bool) (e:bp) (h:List O) (vs:List (Nat × Nat × (Nat->List V)))
 | headz (c:Bool) (zg:List (Option (Nat × Nat × (Nat->List V)))) (fg:List (Option (Nat × (Nat->List V)))) (j:J) (g:Option Ex) (ok:Bool) (e:bp) (h:List O) (vs:List (Nat × Nat × (Nat->List V)))
 | loopz (c:Bool) (zg:List (Option (Nat × Nat × (Nat->List V)))) (fg:List (Option (Nat × (Nat->List V)))) (fr:Nat × Nat) (b:Ay) (k:Ex->bp->List O->Option Ex->T (bN J)) (g:Option Ex) (ok:Bool) (e:bp) (h:List O) (vs:List (Nat × Nat × (Nat->List V)))
 | br (b:Bool) (x y:FT J)
 | brt (b:Bool) (x:FT J)
 | brf (b:Bool) (y:FT J)
 | brx (b:Bool) (x:FT J)
 | bry (b:Bool) (y:FT J)
 | ob (b:Bool) (x:FT J)
 | obt (b:Bool) (x:FT J)
 | obi (x:FT J)
 | obj (c b:Bool) (x:FT J)
 | obp (p:Prop) (x:FT J)
 | obe (a b:List V) (x:FT J)
 | und (x y:FT J)
 | asm (p:Prop) (x:FT J)
 | all (f:Nat->FT J)
 | fail (n:Nat)
section
variable {J S:Type}
def ajo (a b:List V) (k:RT S->FT J):RT S->FT J
 | .obe _ _ x=>.obe a b (k x)
 | t=>k t
def ah9 (a b:List V) (k:RT S->T (bN J)):RT S->T (bN J)
 | .obe _ _ x=>.obq a b (k x)
 | t=>.obq a a (k t)
def ei (D:LD J S):T (bN J)->RT S->FT J
 | .ret (.res v),.ret _=>.res v
 | .ret (.head j e h g),.next ρ s vf=>.head j g (vu ρ (D.lp j).fr.2 (D.inv s).2.1) (zr ρ e (D.inv s).1) (zm ρ h vf 0 (D.inv s).2.1) (nL ρ h vf)
 | .loop fr b e h g k,.enter ρ s vf=>.loop fr b k g (vu ρ fr.2 (D.inv s).2.1) (zr ρ e (D.inv s).1) (zm ρ h vf 0 (D.inv s).2.1) (nL ρ h vf)
 | .ret (.head j e h g),.nextz zs fz ρ s vf=>.headz (RH zs) (Hl h zs) (Hb h fz) j g (vu ρ (D.lp j).fr.2 (D.inv s).2.1) (zr ρ e (D.inv s).1) (zm ρ (frzH fz 0 h) vf 0 (D.inv s).2.1) (nL ρ (frzH fz 0 h) vf)
 | .loop fr b e h g k,.enterz zs fz ρ s vf=>.loopz (RH zs) (Hl h zs) (Hb h fz) fr b k g (vu ρ fr.2 (D.inv s).2.1) (zr ρ e (D.inv s).1) (zm ρ (frzH fz 0 h) vf 0 (D.inv s).2.1) (nL ρ (frzH fz 0 h) vf)
 | .br b x y,.br _ x' y'=>.br b (ei D x x') (ei D y y')
 | .br b x _,.brt x'=>.brt b (ei D x x')
 | .br b _ y,.brf y'=>.brf b (ei D y y')
 | .br b x _,.brx _ x'=>.brx b (ei D x x')
 | .br b _ y,.bry _ y'=>.bry b (ei D y y')
 | .ob b x,.ob _ x'=>.ob b (ei D x x')
 | .ob b x,.obt x'=>.obt b (ei D x x')
 | .ob b x,.obv _ _ x'=>.ob b (ei D x x')
 | .obp p x,.obc x'=>.obp p (ei D x x')
 | .obi _ d x,.obt x'=>.obt d (ei D x x')
 | .obi _ d x,.ob _ x'=>.ob d (ei D x x')
 | .obi _ d x,.obv _ _ x'=>.ob d (ei D x x')
 | .obi _ _ x,.obi x'=>.obi (ei D x x')
 | .obi c d x,.obj _ _ x'=>.obj c d (ei D x x')
 | .obp p x,.obp _ x'=>.obp p (ei D x x')
 | .obq a b x,t=>ajo a b (ei D x) t
 | .und x y,.und x' y'=>.und (ei D x x') (ei D y y')
 | .asm p x,.asm _ x'=>.asm p (ei D x x')
 | .all f,.all g=>.all fun l=>ei D (f l) (g l)
 | .fail _,.fail=>.fail 1
 | _,_=>.fail 0
def bS:T (bN J)->RT S->T (bN J)
 | .br b x y,.br _ x' y'=>.br b (bS x x') (bS y y')
 | .br b x y,.brt x'=>.br b (bS x x') y
 | .br b x y,.brf y'=>.br b x (bS y y')
 | .br b x y,.brx _ x'=>.br b (bS x x') y
 | .br b x y,.bry _ y'=>.br b x (bS y y')
 | .ob b x,.ob _ x'=>.ob b (bS x x')
 | .ob b x,.obt x'=>.ob b (bS x x')
 | .ob b x,.obv _ _ x'=>.ob b (bS x x')
 | .obp p x,.obp _ x'=>.obp p (bS x x')
 | .obp p x,.obc x'=>.obp p (bS x x')
 | .obi c d x,.obt x'=>.obi c d (bS x x')
 | .obi c d x,.ob _ x'=>.obi c d (bS x x')
 | .obi c d x,.obv _ _ x'=>.obi c d (bS x x')
 | .obi c _ x,.obi x'=>.obi c c (bS x x')
 | .obi c d x,.obj _ _ x'=>.obi c d (bS x x')
 | .obq a b x,t=>ah9 a b (bS x) t
 | .und x y,.und x' y'=>.und (bS x x') (bS y y')
 | .asm p x,.asm _ x'=>.asm p (bS x x')
 | .all f,.all g=>.all fun l=>bS (f l) (g l)
 | t,_=>t
def lN (D:LD J S):RT S->FT J
 | .ret v=>.res v
 | .next _ s vf=>.head (D.id s) (D.inv s).2.2 true (D.inv s).1 (D.inv s).2.1 (nF vf)
 | .enter _ s vf=>.loop (D.lp (D.id s)).fr (D.lp (D.id s)).body (D.lp (D.id s)).k (D.inv s).2.2 true (D.inv s).1 (D.inv s).2.1 (nF vf)
 | .nextz zs fz _ s vf=>.headz true (qL zs) (Hj fz) (D.id s) (D.inv s).2.2 true (D.inv s).1 (D.inv s).2.1 (nF vf)
 | .enterz zs fz _ s vf=>.loopz true (qL zs) (Hj fz) (D.lp (D.id s)).fr (D.lp (D.id s)).body (D.lp (D.id s)).k (D.inv s).2.2 true (D.inv s).1 (D.inv s).2.1 (nF vf)
 | .br b x y=>.br b (lN D x) (lN D y)
 | .brt x=>.brt true (lN D x)
 | .brf y=>.brf false (lN D y)
 | .brx b x=>.brx b (lN D x)
 | .bry b y=>.bry b (lN D y)
 | .ob b x=>.ob b (lN D x)
 | .obt x=>.obt true (lN D x)
 | .obv b _ x=>.ob b (lN D x)
 | .obi x=>.obi (lN D x)
 | .obj c b x=>.obj c b (lN D x)
 | .obc x=>.obp True (lN D x)
 | .obp p x=>.obp p (lN D x)
 | .obe ts ds x=>.obe (jB ts ds []) (jC ts ds []) (lN D x)
 | .und x y=>.und (lN D x) (lN D y)
 | .asm p x=>.asm p (lN D x)
 | .all f=>.all fun l=>lN D (f l)
 | .fail=>.fail 1
def aN (Nx:S->V->Prop):RT S->V->Prop
 | .ret v,r=>cn v=cn r
 | .next _ s _,r=>Nx s r
 | .enter _ s _,r=>Nx s r
 | .nextz _ _ _ s _,r=>Nx s r
 | .enterz _ _ _ s _,r=>Nx s r
 | .br b x y,r=>(b=true->aN Nx x r)/\(b=false->aN Nx y r)
 | .brt x,r=>aN Nx x r
 | .brf y,r=>aN Nx y r
 | .brx b x,r=>b=true/\aN Nx x r
 | .bry b y,r=>b=false/\aN Nx y r
 | .ob b x,r=>b=true/\aN Nx x r
 | .obt x,r=>aN Nx x r
 | .obv _ _ x,r=>aN Nx x r
 | .obi x,r=>aN Nx x r
 | .obj c b x,r=>(c=true->b=true)/\aN Nx x r
 | .obc x,r=>aN Nx x r
 | .obp p x,r=>p/\aN Nx x r
 | .obe ts ds x,r=>jB ts ds []=jC ts ds []/\aN Nx x r
 | .und x y,r=>aN Nx x r/\aN Nx y r
 | .asm p x,r=>p->aN Nx x r
 | .all f,r=>∀ l,aN Nx (f l) r
 | .fail,_=>False
def qt (step:S->RT S):Nat->S->V->Prop
 | 0,_,_=>False
 | n+1,s,r=>aN (qt step n) (step s) r
def Ev (step:S->RT S) (s:S) (r:V):Prop:=∃ n,qt step n s r
theorem uw {Nx Ny:S->V->Prop} {r:V} (h:∀ s,Nx s r->Ny s r):∀ t:RT S,aN Nx t r->aN Ny t r:=by
 intro t
 induction t with
 | ret v=>exact id
 | next ρ s vf=>exact h s
 | enter ρ s vf=>exact h s
 | nextz zs fz ρ s vf=>exact h s
 | enterz zs fz ρ s vf=>exact h s
 | br b x y hx hy=>exact fun k=>⟨fun e=>hx (k.1 e),fun e=>hy (k.2 e)⟩
 | brt x hx=>exact hx
 | brf y hy=>exact hy
 | brx b x hx=>exact fun k=>⟨k.1,hx k.2⟩
 | bry b y hy=>exact fun k=>⟨k.1,hy k.2⟩
 | ob b x hx=>exact fun k=>⟨k.1,hx k.2⟩
 | obt x hx=>exact hx
 | obv b h x hx=>exact hx
 | obi x hx=>exact hx
 | obj c b x hx=>exact fun k=>⟨k.1,hx k.2⟩
 | obc x hx=>exact hx
 | obp p x hx=>exact fun k=>⟨k.1,hx k.2⟩
 | obe a b x hx=>exact fun k=>⟨k.1,hx k.2⟩
 | und x y hx hy=>exact fun k=>⟨hx k.1,hy k.2⟩
 | asm p x hx=>exact fun k hp=>hx (k hp)
 | all f hf=>exact fun k l=>hf l (k l)
 | fail=>exact id
theorem y6 {step:S->RT S} {r:V}:∀ {n:Nat} {s:S},qt step n s r->qt step (n+1) s r
 | 0,s,h=>h.elim
 | n+1,s,h=>uw (fun s hs=>y6 hs) _ h
theorem tR {step:S->RT S} {r:V} {n m:Nat} {s:S} (h:qt step n s r) (hm:n<=m):qt step m s r:=by
 induction hm with
 | refl=>exact h
 | step _ ih=>exact y6 ih
section
variable {Nx:S->V->Prop} {r:V}
theorem evRet {v:V} (h:cn v=cn r):aN Nx (.ret v) r:=h
theorem evBr {b:Bool} {x y:RT S} (h1:b=true->aN Nx x r) (h2:b=false->aN Nx y r):aN Nx (.br b x y) r:=⟨h1,h2⟩
theorem eg {x:RT S} (h:aN Nx x r):aN Nx (.brt x) r:=h
theorem jP {x:RT S} (h:aN Nx x r):aN Nx (.brf x) r:=h
theorem aiL {b:Bool} {x:RT S} (h1:b=false) (h:aN Nx x r):aN Nx (.bry b x) r:=⟨h1,h⟩
theorem xc {b:Bool} (h:(!b)=false):b=true:=by cases b; cases h; rfl
theorem QM {b:Bool} (h:(!b)=true):b=false:=by cases b; rfl; cases h
theorem aM {b:Bool} {x:RT S} (h1:b=true) (h2:aN Nx x r):aN Nx (.ob b x) r:=⟨h1,h2⟩
theorem af {x:RT S} (h:aN Nx x r):aN Nx (.obt x) r:=h
theorem ahv {b:Bool} {hb:b=true} {x:RT S} (h:aN Nx x r):aN Nx (.obv b hb x) r:=h
theorem evObi {x:RT S} (h:aN Nx x r):aN Nx (.obi x) r:=h
theorem evObj {c b:Bool} {x:RT S} (h1:c=true->b=true) (h2:aN Nx x r):aN Nx (.obj c b x) r:=⟨h1,h2⟩
theorem av {x:RT S} (h:aN Nx x r):aN Nx (.obc x) r:=h
theorem aC {p:Prop} {x:RT S} (h1:p) (h2:aN Nx x r):aN Nx (.obp p x) r:=⟨h1,h2⟩
theorem Yu {ts:List Ty} {ds:List V} {x:RT S} (h1:jB ts ds []=jC ts ds []) (h2:aN Nx x r):aN Nx (.obe ts ds x) r:=⟨h1,h2⟩
theorem ail {x y:RT S} (h1:aN Nx x r) (h2:aN Nx y r):aN Nx (.und x y) r:=⟨h1,h2⟩
theorem evAsm {p:Prop} {x:RT S} (h:p->aN Nx x r):aN Nx (.asm p x) r:=h
theorem bk {p:Prop} {x:RT S} (h:p->aN Nx x r):aN Nx (.asm (true=true->p) x) r:=fun k=>h (k rfl)
theorem zf {f:Nat->RT S} (h:∀ l,aN Nx (f l) r):aN Nx (.all f) r:=h
theorem aH {ρ:lO} {s:S} {vf:List VF} (h:Nx s r):aN Nx (.enter ρ s vf) r:=h
theorem aQ {ρ:lO} {s:S} {vf:List VF} (h:Nx s r):aN Nx (.next ρ s vf) r:=h
end
def eI:RT S->Bool
 | .br _ x y=>eI x && eI y
 | .brt x=>eI x
 | .brf y=>eI y
 | .brx _ x=>eI x
 | .bry _ y=>eI y
 | .ob _ x=>eI x
 | .obt x=>eI x
 | .obv _ _ x=>eI x
 | .obi x=>eI x
 | .obj _ _ x=>eI x
 | .obc x=>eI x
 | .obp _ x=>eI x
 | .obe _ _ x=>eI x
 | .und x y=>eI x && eI y
 | .asm _ x=>eI x
 | .all _=>false
 | _=>true
theorem aaX {step:S->RT S} {r:V}:∀ t:RT S,eI t=true->aN (Ev step) t r->∃ n,aN (qt step n) t r:=by
 intro t
 induction t with
 | ret v=>exact fun _ h=>⟨0,h⟩
 | next ρ s vf=>exact fun _ ⟨n,h⟩=>⟨n,h⟩
 | enter ρ s vf=>exact fun _ ⟨n,h⟩=>⟨n,h⟩
 | nextz zs fz ρ s vf=>exact fun _ ⟨n,h⟩=>⟨n,h⟩
 | enterz zs fz ρ s vf=>exact fun _ ⟨n,h⟩=>⟨n,h⟩
 | br b x y hx hy =>
   intro h0 h
   simp only [eI,Bool.and_eq_true] at h0
   cases b with
   | true=>obtain ⟨n,hn⟩:=hx h0.1 (h.1 rfl); exact ⟨n,fun _=>hn,fun e=>by cases e⟩
   | false=>obtain ⟨n,hn⟩:=hy h0.2 (h.2 rfl); exact ⟨n,(fun e=>by cases e),fun _=>hn⟩
 | brt x hx=>exact fun h0 h=>hx h0 h
 | brf y hy=>exact fun h0 h=>hy h0 h
 | brx b x hx=>exact fun h0 h=>let ⟨n,hn⟩:=hx h0 h.2; ⟨n,h.1,hn⟩
 | bry b y hy=>exact fun h0 h=>let ⟨n,hn⟩:=hy h0 h.2; ⟨n,h.1,hn⟩
 | ob b x hx=>exact fun h0 h=>let ⟨n,hn⟩:=hx h0 h.2; ⟨n,h.1,hn⟩
 | obt x hx=>exact fun h0 h=>hx h0 h
 | obv b h x hx=>exact fun h0 h=>hx h0 h
 | obi x hx=>exact fun h0 h=>hx h0 h
 | obj c b x hx=>exact fun h0 h=>let ⟨n,hn⟩:=hx h0 h.2; ⟨n,h.1,hn⟩
 | obc x hx=>exact fun h0 h=>hx h0 h
 | obp p x hx=>exact fun h0 h=>let ⟨n,hn⟩:=hx h0 h.2; ⟨n,h.1,hn⟩
 | obe a b x hx=>exact fun h0 h=>let ⟨n,hn⟩:=hx h0 h.2; ⟨n,h.1,hn⟩
 | und x y hx hy =>
   intro h0 h
   simp only [eI,Bool.and_eq_true] at h0
   obtain ⟨n,hn⟩:=hx h0.1 h.1
   obtain ⟨m,hm⟩:=hy h0.2 h.2
   exact ⟨max n m,uw (fun s hs=>tR hs (Nat.le_max_left _ _)) _ hn,uw (fun s hs=>tR hs (Nat.le_max_right _ _)) _ hm⟩
 | asm p x hx =>
   intro h0 h
   by_cases hp:p
   ·obtain ⟨n,hn⟩:=hx h0 (h hp); exact ⟨n,fun _=>hn⟩
   ·exact ⟨0,fun k=>(hp k).elim⟩
 | all f hf=>intro h0; cases h0
 | fail=>exact fun _ h=>h.elim
theorem Ev.of {step:S->RT S} {s:S} {r:V} (h0:eI (step s)=true) (h:aN (Ev step) (step s) r):Ev step s r :=
 let ⟨n,hn⟩:=aaX _ h0 h; ⟨n+1,hn⟩
theorem yv {w0:World} {LP:d7} {D:LD J S} {Q:bN J->Prop} {Nx:S->V->Prop} {r:V} (hres:∀ v,cn v=cn r->Q (.res v))
 (hhead:∀ s e h,Nx s r->jn w0 (D.lp (D.id s)).fr.2 e h (D.inv s).1 (D.inv s).2.1->Q (.head (D.id s) e h (D.inv s).2.2))
 (hloop:∀ s e h,Nx s r->jn w0 (D.lp (D.id s)).fr.2 e h (D.inv s).1 (D.inv s).2.1->LP (D.lp (D.id s)).fr (D.lp (D.id s)).body e h (D.inv s).2.2 fun x e h g=>bn LP ((D.lp (D.id s)).k x e h g) Q) :
 ∀ (t:T (bN J)) (rt:RT S),ei D t rt=lN D rt->bS t rt=t->aN Nx rt r->bn LP t Q:=by
 intro t
 induction t with
 | ret a =>
   intro rt hf _ hr
   cases a with
   | res v=>cases rt <;> simp only [ei,lN] at hf <;> cases hf; exact hres _ hr
   | head j e h g =>
     cases rt <;> simp only [ei,lN] at hf <;> first | (cases hf; done) | skip
     ·simp only [FT.head.injEq] at hf
      obtain ⟨rfl,rfl,h1,h2,h3,h4⟩:=hf
      exact hhead _ e h hr (sM w0 h1 h2 h3 h4)
     ·simp only [FT.headz.injEq] at hf
      obtain ⟨hc,hz,hfr,rfl,rfl,h1,h2,h3,h4⟩:=hf
      exact hhead _ e h hr ((Gm w0 hc hz hfr).trans (sM w0 h1 h2 h3 h4))
 | br b x y hx hy =>
   intro rt hf hs hr
   cases rt <;> simp only [ei,lN] at hf <;> first | (cases hf; done) | skip
   ·simp only [FT.br.injEq] at hf
    simp only [bS,T.br.injEq,true_and] at hs
    obtain ⟨rfl,h1,h2⟩:=hf
    exact ⟨fun e=>hx _ h1 hs.1 (hr.1 e),fun e=>hy _ h2 hs.2 (hr.2 e)⟩
   ·simp only [FT.brt.injEq] at hf
    simp only [bS,T.br.injEq,true_and] at hs
    obtain ⟨rfl,h1⟩:=hf
    exact ⟨fun e=>hx _ h1 hs.1 hr,fun e=>by cases e⟩
   ·simp only [FT.brf.injEq] at hf
    simp only [bS,T.br.injEq,true_and] at hs
    obtain ⟨rfl,h1⟩:=hf
    exact ⟨(fun e=>by cases e),fun e=>hy _ h1 hs hr⟩
   ·simp only [FT.brx.injEq] at hf
    simp only [bS,T.br.injEq,true_and] at hs
    obtain ⟨rfl,h1⟩:=hf
    exact ⟨fun e=>hx _ h1 hs.1 hr.2,fun e=>by rw [hr.1] at e; cases e⟩
   ·simp only [FT.bry.injEq] at hf
    simp only [bS,T.br.injEq,true_and] at hs
    obtain ⟨rfl,h1⟩:=hf
    exact ⟨(fun e=>by rw [hr.1] at e; cases e),fun e=>hy _ h1 hs hr.2⟩
 | ob b x hx =>
   intro rt hf hs hr
   cases rt <;> simp only [ei,lN] at hf <;> first | (cases hf; done) | skip
   ·simp only [FT.ob.injEq] at hf
    simp only [bS,T.ob.injEq,true_and] at hs
    obtain ⟨rfl,h1⟩:=hf
    exact ⟨hr.1,hx _ h1 hs hr.2⟩
   ·simp only [FT.obt.injEq] at hf
    simp only [bS,T.ob.injEq,true_and] at hs
    obtain ⟨rfl,h1⟩:=hf
    exact ⟨rfl,hx _ h1 hs hr⟩
   ·rename_i b' hb' x'
    simp only [FT.ob.injEq] at hf
    simp only [bS,T.ob.injEq,true_and] at hs
    obtain ⟨rfl,h1⟩:=hf
    exact ⟨hb',hx _ h1 hs hr⟩
 | obp p x hx =>
   intro rt hf hs hr
   cases rt <;> simp only [ei,lN] at hf <;> first | (cases hf; done) | skip
   ·simp only [FT.obp.injEq] at hf
    simp only [bS,T.obp.injEq,true_and] at hs
    obtain ⟨rfl,h1⟩:=hf
    exact ⟨trivial,hx _ h1 hs hr⟩
   ·simp only [FT.obp.injEq] at hf
    simp only [bS,T.obp.injEq,true_and] at hs
    obtain ⟨rfl,h1⟩:=hf
    exact ⟨hr.1,hx _ h1 hs hr.2⟩
 | obi c d x hx =>
   intro rt hf hs hr
   cases rt <;> simp only [ei,lN] at hf <;> first | (cases hf; done) | skip
   ·simp only [FT.ob.injEq] at hf
    simp only [bS,T.obi.injEq,true_and] at hs
    obtain ⟨rfl,h1⟩:=hf
    exact ⟨fun _=>hr.1,hx _ h1 hs hr.2⟩
   ·simp only [FT.obt.injEq] at hf
    simp only [bS,T.obi.injEq,true_and] at hs
    obtain ⟨rfl,h1⟩:=hf
    exact ⟨fun _=>rfl,hx _ h1 hs hr⟩
   ·rename_i b' hb' x'
    simp only [FT.ob.injEq] at hf
    simp only [bS,T.obi.injEq,true_and] at hs
    obtain ⟨rfl,h1⟩:=hf
    exact ⟨fun _=>hb',hx _ h1 hs hr⟩
   ·simp only [FT.obi.injEq] at hf
    simp only [bS,T.obi.injEq,true_and] at hs
    obtain ⟨h0,h1⟩:=hs
    subst h0
    exact ⟨id,hx _ hf h1 hr⟩
   ·simp only [FT.obj.injEq] at hf
    simp only [bS,T.obi.injEq,true_and] at hs
    obtain ⟨rfl,rfl,h1⟩:=hf
    exact ⟨hr.1,hx _ h1 hs hr.2⟩
 | obq a b x hx =>
   intro rt hf hs hr
   have gen:ajo a b (ei D x) rt=ei D x rt->ah9 a b (bS x) rt=.obq a a (bS x rt)->bn LP (.obq a b x) Q:=fun e1 e2=>by
    have hs':T.obq a a (bS x rt)=T.obq a b x:=e2.symm.trans hs
    simp only [T.obq.injEq,true_and] at hs'
    exact ⟨hs'.1,hx _ (e1.symm.trans hf) hs'.2 hr⟩
   cases rt <;> first | exact gen rfl rfl | skip
   rename_i ts ds x'
   have hf':FT.obe a b (ei D x x')=FT.obe (jB ts ds []) (jC ts ds []) (lN D x'):=hf
   have hs':T.obq a b (bS x x')=T.obq a b x:=hs
   simp only [FT.obe.injEq] at hf'
   simp only [T.obq.injEq,true_and] at hs'
   obtain ⟨rfl,rfl,h1⟩:=hf'
   exact ⟨hr.1,hx _ h1 hs' hr.2⟩
 | fail n =>
   intro rt hf hs hr
   cases rt <;> simp only [ei,lN] at hf <;> first | (cases hf; done) | exact hr.elim
 | loop fr b e h g k hk =>
   intro rt hf hs hr
   cases rt <;> simp only [ei,lN] at hf <;> first | (cases hf; done) | skip
   ·simp only [FT.loop.injEq] at hf
    obtain ⟨rfl,rfl,rfl,rfl,h1,h2,h3,h4⟩:=hf
    exact hloop _ e h hr (sM w0 h1 h2 h3 h4)
   ·simp only [FT.loopz.injEq] at hf
    obtain ⟨hc,hz,hfr,rfl,rfl,rfl,rfl,h1,h2,h3,h4⟩:=hf
    exact hloop _ e h hr ((Gm w0 hc hz hfr).trans (sM w0 h1 h2 h3 h4))
 | all f hf0 =>
   intro rt hf hs hr
   cases rt <;> simp only [ei,lN] at hf <;> first | (cases hf; done) | skip
   simp only [FT.all.injEq] at hf
   simp only [bS,T.all.injEq] at hs
   exact fun l=>hf0 l _ (congrFun hf l) (congrFun hs l) (hr l)
 | und x y hx hy =>
   intro rt hf hs hr
   cases rt <;> simp only [ei,lN] at hf <;> first | (cases hf; done) | skip
   simp only [FT.und.injEq] at hf
   simp only [bS,T.und.injEq] at hs
   exact ⟨hx _ hf.1 hs.1 hr.1,hy _ hf.2 hs.2 hr.2⟩
 | asm p x hx =>
   intro rt hf hs hr
   cases rt <;> simp only [ei,lN] at hf <;> first | (cases hf; done) | skip
   simp only [FT.asm.injEq] at hf
   simp only [bS,T.asm.injEq,true_and] at hs
   obtain ⟨rfl,h1⟩:=hf
   exact fun hp=>hx _ h1 hs (hr hp)
def rdT (ct:bd) (un:kn) (j:J) (l:Lp J) (e:bp) (h:List O) (g:Option Ex):T (bN J) :=
 match l.body with
 | .s body=>eX (evC (lz ct l.fr.1) (kT ct) un l.fr 0 body e h fun x e h=>.ret (x,e,h)) fun r=>match r.1 with
   | .normal=>.ret (.head j r.2.1 r.2.2 none)
   | x=>l.k x r.2.1 r.2.2 none
 | .i body rd=>eX (lg (lz ct l.fr.1) (kT ct) un l.fr rd (rdY (lz ct l.fr.1) (kT ct) un l.fr.1 0 rd) 0 body e h g fun x e h g=>.ret (x,e,h,g)) fun r=>match r.1 with
   | .normal=>.ret (.head j r.2.1 r.2.2.1 r.2.2.2)
   | x=>l.k x r.2.1 r.2.2.1 r.2.2.2
def GP (ct:bd) (un:kn) (D:LD J S) (s:S):T (bN J):=rdT ct un (D.id s) (D.lp (D.id s)) (D.inv s).1 (D.inv s).2.1 (D.inv s).2.2
def QN (w0:World) (D:LD J S) (step:S->RT S) (r:V) (n:Nat):bN J->Prop
 | .res v=>cn v=cn r
 | .head j e h g=>∃ s,D.id s=j/\(D.inv s).2.2=g/\jn w0 (D.lp (D.id s)).fr.2 e h (D.inv s).1 (D.inv s).2.1/\qt step n s r
theorem sV {w0:World} {D:LD J S} {step:S->RT S} {r:V} {n m:Nat} (hm:n<=m):∀ a,QN w0 D step r n a->QN w0 D step r m a
 | .res v,h=>h
 | .head j e h g,⟨s,h1,h2,h3,h4⟩=>⟨s,h1,h2,h3,tR h4 hm⟩
theorem acb {w0:World} {S:zS} {fr:Nat × Nat} {body:fB} {e:bp} {h:List O} {g:Option Ex} {P:Ex->bp->List O->Option Ex->Prop} (hl:cO w0 S (fr.1,fr.2) (.s body) e h none P):cO w0 S fr (.s body) e h g P:=hl
theorem af5 {ct:bd} {un:kn} {w0:World} (hd:ms ct=true) {D:LD J S} {step:S->RT S} {r:V} (hs:∀ s,ei D (GP ct un D s) (step s)=lN D (step s)) (hq:∀ s,bS (GP ct un D s) (step s)=GP ct un D s) :
 ∀ (n:Nat) (s:S) (e:bp) (h:List O),qt step n s r->jn w0 (D.lp (D.id s)).fr.2 e h (D.inv s).1 (D.inv s).2.1 ->
 cO w0 (SV ct) (D.lp (D.id s)).fr (D.lp (D.id s)).body e h (D.inv s).2.2 fun x e h g=>bn (cO w0 (SV ct)) ((D.lp (D.id s)).k x e h g) (QN w0 D step r n):=by
 intro n
 induction n using Nat.strongRecOn with
 | ind n ih =>
   intro s e h hn hsub
   have key:∀ (p:Nat) (s':S),p<=n->qt step p s' r->∃ m,p=m+1/\bn (cO w0 (SV ct)) (GP ct un D s') (QN w0 D step r m):=by
    intro p s' hp he
    match p,hp,he with
    | 0,_,he=>exact he.elim
    | m+1,hp,he =>
      exact ⟨m,rfl,yv (w0:=w0) (Nx:=qt step m) (fun v hv=>hv) (fun s e h h1 h2=>⟨s,rfl,rfl,h2,h1⟩) (fun s e h h1 h2=>ih m (by omega) s e h h1 h2) _ _ (hs s') (hq s') he⟩
   generalize hj:D.id s=j at *
   match hb:(D.lp j).body with
   | .s body =>
     refine acb (agT (un:=un) hd 0 {p:Nat × S // p.1<=n/\qt step p.1 p.2 r/\D.id p.2=j} (fun p=>((D.inv p.1.2).1,(D.inv p.1.2).2.1)) (fun p=>p.1.1) ⟨⟨(n,s),Nat.le_refl _,hn,hj⟩,hsub⟩ ?_)
     rintro ⟨⟨p,s'⟩,hp,he,hj'⟩
     obtain ⟨m,hpm,hk⟩:=key p s' hp he
     simp only at hj' hp hpm
     unfold GP rdT at hk
     rw [hj',hb] at hk
     simp only [AK] at hk
     refine jj (fN _ _) (fun a ha=>?_) _ hk
     obtain ⟨x,e',h'⟩:=a
     cases x with
     | normal =>
       obtain ⟨s2,g1,g2,g3,g4⟩:=ha
       rw [g1] at g3
       exact ⟨⟨(m,s2),by omega,g4,g1⟩,g3,by simp only; omega⟩
     | exit i=>exact jj (fN _ _) (sV (by omega)) _ ha
     | ret=>exact jj (fN _ _) (sV (by omega)) _ ha
   | .i body rd =>
     refine acx (un:=un) hd 0 0 {p:Nat × S // p.1<=n/\qt step p.1 p.2 r/\D.id p.2=j} (fun p=>D.inv p.1.2) (fun p=>p.1.1) ⟨⟨(n,s),Nat.le_refl _,hn,hj⟩,rfl,hsub⟩ ?_
     rintro ⟨⟨p,s'⟩,hp,he,hj'⟩
     obtain ⟨m,hpm,hk⟩:=key p s' hp he
     simp only at hj' hp hpm
     unfold GP rdT at hk
     rw [hj',hb] at hk
     simp only [AK] at hk
     refine jj (fN _ _) (fun a ha=>?_) _ hk
     obtain ⟨x,e',h',g'⟩:=a
     cases x with
     | normal =>
       obtain ⟨s2,g1,g2,g3,g4⟩:=ha
       rw [g1] at g3
       exact ⟨⟨(m,s2),by omega,g4,g1⟩,g2.symm,g3,by simp only; omega⟩
     | exit i=>exact jj (fN _ _) (sV (by omega)) _ ha
     | ret=>exact jj (fN _ _) (sV (by omega)) _ ha
def aS (J:Type) (ct:bd) (un:kn) (sf:aI) (ds:List V):T (bN J):=lI (lz ct LV) (kT ct) un LV sf ds [] fun v _=>.ret (.res v)
def oX (r:V):bN J->Prop
 | .res v=>cn v=cn r
 | .head ..=>True
theorem Z8 {w0:World} {D:LD J S} {step:S->RT S} {r:V} {n:Nat}:∀ a,QN w0 D step r n a->oX r a
 | .res v,h=>h
 | .head ..,_=>trivial
theorem adl {ct:bd} {un:kn} {w0:World} (hd:ms ct=true) {t:T (bN J)} (D:LD J S) (step:S->RT S) (m:RT S) {r:V} (h1:ei D t m=lN D m) (h2:bS t m=t)
 (hs:∀ s,ei D (GP ct un D s) (step s)=lN D (step s)) (hq:∀ s,bS (GP ct un D s) (step s)=GP ct un D s) (hr:aN (Ev step) m r):bn (cO w0 (SV ct)) t (oX r) :=
 yv (w0:=w0) (Nx:=Ev step) (fun v hv=>hv) (fun _ _ _ _ _=>trivial) (fun s e h ⟨n,hn⟩ hsub=>fN _ _ _ _ _ _ _ _ _ (fun x e h g hk=>jj (fN _ _) Z8 _ hk) (af5 hd hs hq n s e h hn hsub)) _ _ h1 h2 hr
theorem yA {ts:List Ty} (h:ts.all bM=true) (n:Nat) (f:ah):cq n (fun i=>kS (bD ts) (aa ts f i))=true:=er fun i _=>kr h _
def fb:T (bN J)->Lp J
 | .loop fr b _ _ _ k=>⟨fr,b,k⟩
 | _=>⟨(0,0),.s .skip,fun _ _ _ _=>.fail 0⟩
def dm:LD J Empty:=⟨fun s=>(Empty.elim s),fun _=>⟨(0,0),.s .skip,fun _ _ _ _=>.fail 0⟩,fun s=>(Empty.elim s)⟩
def cr:Empty->V->Prop:=fun s=>Empty.elim s
theorem ybb {ct:bd} {w0:World} (hd:ms ct=true) {t:T (bN J)} (m:RT Empty) {r:V} (h1:ei dm t m=lN dm m) (h2:bS t m=t) (hr:aN cr m r):bn (cO w0 (SV ct)) t (oX r) :=
 yv (w0:=w0) (Nx:=cr) (fun v hv=>hv) (fun s=>(Empty.elim s)) (fun s=>(Empty.elim s)) _ _ h1 h2 hr
def dh (D:LD J S) (t:T (bN J)) (m:RT S):Prop:=ei D t m=lN D m/\bS t m=t
def dR (ct:bd) (un:kn) (D:LD J S) (t:T (bN J)) (m:RT S) (st:S->RT S):Prop:=dh D t m/\∀ s,dh D (GP ct un D s) (st s)
def Run (ct:bd) (t:T (bN J)) (r:V):Prop:=ms ct=true->∀ w0,bn (cO w0 (SV ct)) t (oX r)
theorem dG {ct:bd} {t:T (bN J)} {m:RT Empty} {r:V} (h:dh dm t m) (hr:aN cr m r):Run ct t r:=fun hd _=>ybb hd m h.1 h.2 hr
theorem jE {ct:bd} {un:kn} {D:LD J S} {t:T (bN J)} {m:RT S} {st:S->RT S} {r:V} (h:dR ct un D t m st) (hr:aN (Ev st) m r):Run ct t r:=fun hd _=>adl hd D st m h.1.1 h.1.2 (fun s=>(h.2 s).1) (fun s=>(h.2 s).2) hr
inductive Cx where
 | i (n:Int)
 | n (n:Nat)
 | b (b:Bool)
 | s (s:ByteArray)
 | f (f:ah)
def Jg:List Cx->Nat->Int
 | .i n::_,0=>n
 | _::l,k+1=>Jg l k
 | _,_=>0
def yG:List Cx->Nat->Nat
 | .n n::_,0=>n
 | _::l,k+1=>yG l k
 | _,_=>0
abbrev JJ:=Nat × List Cx
def Pf (J:Type) (e:Nat) (ty:TypeId) (ct:bd) (un:kn) (sf:aI) (ds:List V):T (bN J):=lI (lz ct LV) (kT ct) un LV sf ds [] fun v h=>.ob (Hc h v) (.ret (.res (Hp e ty h v)))
theorem Cd {P:Program} {eqs:List TypeId} {its:List gk} {ct:bd} {f:FuncId} {fn:Func} {sf:aI} {un:kn} {ts:List Ty} {pre:List V->Prop} {r:List V->V} (hT:aR P eqs its ct) (hE:∀ t ∈ eqs,cB P t) (hI:j6 P eqs its) (hf:P.funcs[f]? = some fn)
 (hn : (fn.name == "runtime.NumGoroutine") = false) (hc : dO P eqs its fn = some sf) (hd : eT sf.ntmps sf.body = true) (ho : fl ts = true)
 (h:∀ w0 ds,pre (ao ts ds)->bn (cO w0 (SV ct)) (aS J ct un sf (ao ts ds)) (oX (r (ao ts ds)))):(vP (bI ts pre r)).Ok P f :=
 SK (α:=bN J) (K0:=fun v=>.ret (.res v)) (Q0:=oX) (fun _ _ _ h=>h) hT hE hI hf hn hc hd ho h
theorem Ur {P:Program} {eqs:List TypeId} {its:List gk} {ct:bd} {f:FuncId} {fn:Func} {sf:aI} {un:kn} {e:Nat} {ty:TypeId} {ts:List Ty} {pre:List V->Prop} {r:List V->V} (hT:aR P eqs its ct) (hE:∀ t ∈ eqs,cB P t) (hI:j6 P eqs its) (hf:P.funcs[f]? = some fn)
 (hn : (fn.name == "runtime.NumGoroutine") = false) (hc : dO P eqs its fn = some sf) (hd : eT sf.ntmps sf.body = true) (ho : fl ts = true)
 (h:∀ w0 ds,pre (ao ts ds)->bn (cO w0 (SV ct)) (Pf J e ty ct un sf (ao ts ds)) (oX (r (ao ts ds)))):(vL e ty (bI ts pre r)).Ok P f :=
 yaT (α:=bN J) (K0:=fun v h=>.ob (Hc h v) (.ret (.res (Hp e ty h v)))) (Q0:=oX) (fun _ _ _ _ h=>h) hT hE hI hf hn hc hd ho h
end
end Go.Dx
namespace Go.Sx
def pH (P:Program) (t:TypeId):Bool:=match P.underlying t with
 | some (.int _)=>true
 | _=>false
def mQ (P:Program):List Field->Nat->Bool
 | [],_=>true
 | f :: fs, i => decide (f.name ≠ "_") && Nat.beq f.offset i && pH P f.type && mQ P fs (i + 1)
section
variable {P:Program} {m:aD}
theorem s8 {t:TypeId} (h:pH P t=true):∃ k,P.underlying t=some (.int k):=by
 unfold pH at h
 split at h
 ·rename_i k hk; exact ⟨k,hk⟩
 ·cases h
theorem iM {t:TypeId} {k:IntKind} (ht:P.underlying t=some (.int k)) {us:Array Value} {i:Nat} {v:Value} (hv:us[i]? = some v) (w:World):(part t us i).run P w=.ok v w:=by
 unfold part
 have hi:(isAgg t).run P w=.ok false w:=by
  unfold isAgg
  rw [ac (aG ht w)]; rfl
 rw [ac hi]
 simp only [Bool.false_eq_true,if_false,hv]
 rfl
theorem nI {d:Nat}:∀ (fs:List Field) (i:Nat) (xs ys:List ak) (us vs:Array Value) (b:Bool) (w:World),mQ P fs i=true->fs.length=xs.length->aw m xs (us.toList.drop i)->aw m ys (vs.toList.drop i)->dc xs ys=some b ->
 (Op.eqFields (d+1) us vs fs).run P w=.ok b w
 | [],i,xs,ys,us,vs,b,w,_,hl,_,_,hb=>by
   cases xs with
   | cons _ _=>simp at hl
   | nil=>cases ys with
     | nil=>simp [dc] at hb; subst hb; rfl
     | cons _ _=>simp [dc] at hb
 | f :: fs,i,xs,ys,us,vs,b,w,hf,hl,hx,hy,hb=>by
   simp only [mQ,Bool.and_eq_true,decide_eq_true_eq] at hf
   obtain ⟨⟨⟨h1,h2⟩,h3⟩,h4⟩:=hf
   obtain ⟨k,hk⟩:=s8 h3
   have ho:=Nat.eq_of_beq_eq_true h2
   cases xs with
   | nil=>simp at hl
   | cons x xs=>cases ys with
     | nil=>cases x <;> simp [dc] at hb
     | cons y ys =>
       cases x <;> try (simp [dc] at hb; done)
       rename_i ka a
       cases y <;> try (simp [dc] at hb; done)
       rename_i kb c
       simp only [dc] at hb
       split at hb
       ·rename_i hkk
        subst hkk
        simp only [Option.map_eq_some_iff] at hb
        obtain ⟨b',hb',rfl⟩:=hb
        simp only [aw] at hx hy
        obtain ⟨u,us',hu,hur,hus⟩:=hx
        obtain ⟨v,vs',hv,hvr,hvs⟩:=hy
        simp only [vrel] at hur hvr
        subst hur; subst hvr
        have gu:us[i]? = some (.int ka a):=by
         have:=congrArg (·[0]?) hu
         simpa using this
        have gv:vs[i]? = some (.int ka c):=by
         have:=congrArg (·[0]?) hv
         simpa using this
        have du:us.toList.drop (i+1)=us':=by rw [← List.drop_drop,hu]; rfl
        have dv:vs.toList.drop (i+1)=vs':=by rw [← List.drop_drop,hv]; rfl
        simp only [Op.eqFields]
        rw [if_pos h1,ho,ac (iM hk gu w),ac (iM hk gv w),ac (run_equalIn_int w d f.type ka k a c hk)]
        cases hac:(a == c) with
        | false=>simp only [Bool.not_false,if_true,Bool.false_and]; rfl
        | true =>
          simp only [Bool.not_true,Bool.false_eq_true,if_false,Bool.true_and]
          exact nI fs (i+1) xs ys us vs b' w h4 (by simpa using hl) (by rw [du]; exact hus) (by rw [dv]; exact hvs) hb'
       ·cases hb
theorem fC {t:TypeId} (ht:P.underlying t=some (.struct (P.fieldsOf t))) (hp:P.stoodInHeld t=false) (hg:P.eqGuardType P.depth t=false) (hn:(P.info? t).map (·.size)=some (P.fieldsOf t).toList.length) (hf:mQ P (P.fieldsOf t).toList 0=true):cB P t:=by
 refine ⟨hg,fun n hn' xs ys us vs m b w hl hx hy hb=>?_⟩
 rw [hn] at hn'; cases hn'
 unfold Op.equal
 rw [show Op.maxDepth=9998+1+1 from rfl,run_equalIn_struct w _ t us vs ht hp]
 exact nI (d:=9998) _ 0 xs ys us vs b w hf hl.symm (by simpa using hx) (by simpa using hy) hb
theorem pq {d:Nat} {e:TypeId} (he:pH P e=true) (h1:P.cellsOf e=1):∀ (n i:Nat) (xs ys:List ak) (us vs:Array Value) (b:Bool) (w:World),n=xs.length->aw m xs (us.toList.drop i)->aw m ys (vs.toList.drop i)->dc xs ys=some b ->
 (Op.eqItems (d+1) e (P.cellsOf e) us vs (List.range' i n)).run P w=.ok b w
 | 0, i,xs,ys,us,vs,b,w,hl,_,_,hb=>by
   cases xs with
   | cons _ _=>simp at hl
   | nil=>cases ys with
     | nil=>simp [dc] at hb; subst hb; rfl
     | cons _ _=>simp [dc] at hb
 | n + 1, i,xs,ys,us,vs,b,w,hl,hx,hy,hb=>by
   obtain ⟨k,hk⟩:=s8 he
   cases xs with
   | nil=>simp at hl
   | cons x xs=>cases ys with
     | nil=>cases x <;> simp [dc] at hb
     | cons y ys =>
       cases x <;> try (simp [dc] at hb; done)
       rename_i ka a
       cases y <;> try (simp [dc] at hb; done)
       rename_i kb c
       simp only [dc] at hb
       split at hb
       ·rename_i hkk
        subst hkk
        simp only [Option.map_eq_some_iff] at hb
        obtain ⟨b',hb',rfl⟩:=hb
        simp only [aw] at hx hy
        obtain ⟨u,us',hu,hur,hus⟩:=hx
        obtain ⟨v,vs',hv,hvr,hvs⟩:=hy
        simp only [vrel] at hur hvr
        subst hur; subst hvr
        have gu:us[i]? = some (.int ka a):=by
         have:=congrArg (·[0]?) hu
         simpa using this
        have gv:vs[i]? = some (.int ka c):=by
         have:=congrArg (·[0]?) hv
         simpa using this
        have du:us.toList.drop (i+1)=us':=by rw [← List.drop_drop,hu]; rfl
        have dv:vs.toList.drop (i+1)=vs':=by rw [← List.drop_drop,hv]; rfl
        rw [List.range'_succ]
        simp only [Op.eqItems,h1,Nat.mul_one]
        rw [ac (iM hk gu w),ac (iM hk gv w),ac (run_equalIn_int w d e ka k a c hk)]
        cases hac:(a == c) with
        | false=>simp only [Bool.not_false,if_true,Bool.false_and]; rfl
        | true =>
          simp only [Bool.not_true,Bool.false_eq_true,if_false,Bool.true_and]
          have:=pq (d:=d) he h1 n (i+1) xs ys us vs b' w (by simpa using hl) (by rw [du]; exact hus) (by rw [dv]; exact hvs) hb'
          rw [h1] at this; exact this
       ·cases hb
theorem xK {t:TypeId} (e:TypeId) (n:Nat) (ht:P.underlying t=some (.array n e)) (hi:(P.info? e).isSome=true) (hg:P.eqGuardType P.depth t=false) (hn:(P.info? t).map (·.size)=some n) (h1:P.cellsOf e=1) (hf:pH P e=true):cB P t:=by
 obtain ⟨ie,hi⟩:=Option.isSome_iff_exists.1 hi
 refine ⟨hg,fun n' hn' xs ys us vs m b w hl hx hy hb=>?_⟩
 rw [hn] at hn'; cases hn'
 unfold Op.equal
 rw [show Op.maxDepth=9998+1+1 from rfl,run_equalIn_array w _ us vs ht hi,List.range_eq_range']
 exact pq (d:=9998) hf h1 n 0 xs ys us vs b w hl.symm (by simpa using hx) (by simpa using hy) hb
end
end Go.Sx
namespace Go.Dx
open Go.Sx
end Go.Dx
namespace Go.Dx
abbrev ay (l:List V):Int:=iv (hdV l)
abbrev ba (l:List V):Int:=iv (hdV (ab l))
abbrev cQ (l:List V):Int:=iv (hdV (ab (ab l)))
abbrev cM (l:List V):Int:=iv (hdV (ab (ab (ab l))))
abbrev cv (l:List V):Int:=iv (hdV (ab (ab (ab (ab l)))))
abbrev be (l:List V):Int:=iv (hdV (ab (ab (ab (ab (ab l))))))
theorem dqt {p:Prop} [inst:Decidable p] (h:p):decide p=true:=decide_eq_true h
theorem jx {p:Prop} [inst:Decidable p] (h:¬p):decide p=false:=decide_eq_false h
theorem imn {a b:Int} (h:0<=a) (g:0<=b):0<=a * b:=Int.mul_nonneg h g
theorem iml {a b c:Int} (h:a<=b) (g:0<=c):c * a<=c * b:=Int.mul_le_mul_of_nonneg_left h g
def iR:Nat->Nat->lO->lO
 | _,0,l=>l
 | k,n+1,l=>some (some k)::iR (k+1) n l
def u4 (ct:bd) (un:kn) (j:JJ) (l:Lp JJ) (s:bp × List O × Option Sx.Ex):T (bN JJ):=rdT ct un j l s.1 s.2.1 s.2.2
abbrev vi (n:Int):V:=.int .i64 n
abbrev tI:Ty:=.int .i64
abbrev b4:List Ty:=[Ty.int IntKind.i64,Ty.int IntKind.i64]
abbrev iu:List Ty:=[Ty.int IntKind.i64,Ty.int IntKind.i64,Ty.int IntKind.i64,Ty.int IntKind.i64]
abbrev ae:List Ty:=[Ty.int IntKind.i64]
abbrev bF:List Ty:=[Ty.str,Ty.int IntKind.i64,Ty.sl [Ty.int IntKind.i64,Ty.int IntKind.i64],Ty.int IntKind.i64]
abbrev ci:List Ty:=[Ty.int IntKind.i64,Ty.int IntKind.i64,Ty.int IntKind.i64,Ty.int IntKind.i64,Ty.sl [Ty.int IntKind.i64,Ty.int IntKind.i64,Ty.int IntKind.i64,Ty.int IntKind.i64]]
abbrev aT:List Ty:=[Ty.str,Ty.int IntKind.i64,Ty.int IntKind.i64,Ty.int IntKind.i64,Ty.int IntKind.i64,Ty.int IntKind.i64]
abbrev ce:List Ty:=[Ty.int IntKind.i64,Ty.int IntKind.i64,Ty.int IntKind.i64,Ty.int IntKind.i64,Ty.int IntKind.i64]
abbrev al:List Ty:=[Ty.str,Ty.sl [Ty.int IntKind.i64],Ty.sl [Ty.int IntKind.i64],Ty.sl [Ty.sl [Ty.int IntKind.i64]],Ty.int IntKind.i64,Ty.int IntKind.i64]
abbrev am:List Ty:=[Ty.str,Ty.int IntKind.i64,Ty.int IntKind.i64,Ty.int IntKind.i64,Ty.int IntKind.i64,Ty.int IntKind.i64,Ty.int IntKind.i64,Ty.int IntKind.i64,Ty.int IntKind.i64,Ty.int IntKind.i64,Ty.int IntKind.i64,Ty.int IntKind.i64,Ty.int IntKind.i64,Ty.int IntKind.i64]
abbrev bG:List Ty:=[Ty.int IntKind.i64,Ty.int IntKind.i64,Ty.int IntKind.i64]
abbrev HL (n0:Nat) (f0:ah) (n2:Nat) (f2:ah) (n4:Nat) (f4:ah) (n6:Nat) (f6:ah):V:=.agg [.sl n0 (aa bF f0),.sl n2 (aa ce f2),.sl n4 (aa ci f4),.sl n6 (aa aT f6)]
end Go.Dx
namespace Go.Dx
open Go.IntKind (i64 u64 u8)
open Go.Sx Go.Proofs
def eqs:List TypeId:=[39,55,116,45,330,151]
noncomputable section
noncomputable def itF (n:FuncId) (f:Func):gk:=⟨n,((o0 Tryz.prog eqs f).getD (0,.skip)).1,((o0 Tryz.prog eqs f).getD (0,.skip)).2⟩
def its:List gk:=[itF 158 Tryz.f158,itF 227 Tryz.f227,itF 311 Tryz.f311]
noncomputable def bK (f:Func):aI:=(dO Tryz.prog eqs its f).getD ⟨0,[],.skip⟩
def ahR:aI:=bK Tryz.f7
def agb:aI:=bK Tryz.f15
def ajp:aI:=bK Tryz.f17
def aiR:aI:=bK Tryz.f18
def agq:aI:=bK Tryz.f22
def ahW:aI:=bK Tryz.f23
def afE:aI:=bK Tryz.f26
def ais:aI:=bK Tryz.f27
def E9:aI:=bK Tryz.f33
def YO:aI:=bK Tryz.f46
def ai3:aI:=bK Tryz.f47
def WG:aI:=bK Tryz.f48
def akr:aI:=bK Tryz.f49
def aht:aI:=bK Tryz.f50
def afQ:aI:=bK Tryz.f53
def Yl:aI:=bK Tryz.f54
def aji:aI:=bK Tryz.f55
def agi:aI:=bK Tryz.f56
def aiW:aI:=bK Tryz.f57
def ahs:aI:=bK Tryz.f59
def s23:aI:=bK Tryz.f60
def XV:aI:=bK Tryz.f61
def ajr:aI:=bK Tryz.f62
def ai6:aI:=bK Tryz.f63
def s24:aI:=bK Tryz.f64
def afw:aI:=bK Tryz.f65
def ahX:aI:=bK Tryz.f66
def aiO:aI:=bK Tryz.f67
def E3:aI:=bK Tryz.f68
def aj1:aI:=bK Tryz.f69
def agd:aI:=bK Tryz.f70
def Zu:aI:=bK Tryz.f71
def agL:aI:=bK Tryz.f72
def air:aI:=bK Tryz.f73
def aiY:aI:=bK Tryz.f74
def akA:aI:=bK Tryz.f75
def WO:aI:=bK Tryz.f79
def s44:aI:=bK Tryz.f81
def Y5:aI:=bK Tryz.f85
def WU:aI:=bK Tryz.f86
def WM:aI:=bK Tryz.f87
def WS:aI:=bK Tryz.f88
def ajy:aI:=bK Tryz.f89
def zM:aI:=bK Tryz.f90
def ahH:aI:=bK Tryz.f91
def afC:aI:=bK Tryz.f92
def akp:aI:=bK Tryz.f99
def af7:aI:=bK Tryz.f106
def afM:aI:=bK Tryz.f108
def Xh:aI:=bK Tryz.f111
def Ey:aI:=bK Tryz.f112
def ako:aI:=bK Tryz.f113
def Wx:aI:=bK Tryz.f114
def YG:aI:=bK Tryz.f115
def LN:aI:=bK Tryz.f116
def akI:aI:=bK Tryz.f117
def akk:aI:=bK Tryz.f120
def ahJ:aI:=bK Tryz.f121
def aip:aI:=bK Tryz.f122
def ajC:aI:=bK Tryz.f123
def aiy:aI:=bK Tryz.f124
def F6:aI:=bK Tryz.f125
def afW:aI:=bK Tryz.f127
def ahr:aI:=bK Tryz.f128
def ahe:aI:=bK Tryz.f129
def agE:aI:=bK Tryz.f130
def aj9:aI:=bK Tryz.f131
def ake:aI:=bK Tryz.f132
def ajY:aI:=bK Tryz.f133
def aka:aI:=bK Tryz.f134
def s62:aI:=bK Tryz.f135
def s63:aI:=bK Tryz.f136
def s64:aI:=bK Tryz.f137
def s65:aI:=bK Tryz.f138
def s66:aI:=bK Tryz.f139
def s67:aI:=bK Tryz.f140
def s68:aI:=bK Tryz.f141
def s69:aI:=bK Tryz.f142
def aje:aI:=bK Tryz.f143
def afL:aI:=bK Tryz.f144
def afX:aI:=bK Tryz.f145
def s70:aI:=bK Tryz.f146
def s51:aI:=bK Tryz.f147
def s71:aI:=bK Tryz.f148
def s72:aI:=bK Tryz.f149
def s73:aI:=bK Tryz.f150
def agR:aI:=bK Tryz.f151
def s99:aI:=bK Tryz.f152
def Xq:aI:=bK Tryz.f153
def Xs:aI:=bK Tryz.f154
def Zm:aI:=bK Tryz.f155
def Y3:aI:=bK Tryz.f156
def akv:aI:=bK Tryz.f157
def aiq:aI:=bK Tryz.f159
def s86:aI:=bK Tryz.f161
def XP:aI:=bK Tryz.f164
def Zh:aI:=bK Tryz.f165
def aj7:aI:=bK Tryz.f166
def j5:aI:=bK Tryz.f167
def rW:aI:=bK Tryz.f168
def Zg:aI:=bK Tryz.f169
def YX:aI:=bK Tryz.f170
def akG:aI:=bK Tryz.f175
def akn:aI:=bK Tryz.f177
def ag6:aI:=bK Tryz.f178
def agp:aI:=bK Tryz.f179
def aih:aI:=bK Tryz.f180
def aiM:aI:=bK Tryz.f181
def afG:aI:=bK Tryz.f182
def s17:aI:=bK Tryz.f188
def ajn:aI:=bK Tryz.f190
def Qt:aI:=bK Tryz.f191
def ajE:aI:=bK Tryz.f192
def YZ:aI:=bK Tryz.f193
def aix:aI:=bK Tryz.f195
def ajG:aI:=bK Tryz.f197
def afy:aI:=bK Tryz.f198
def agW:aI:=bK Tryz.f199
def ahj:aI:=bK Tryz.f200
def ahq:aI:=bK Tryz.f201
def afS:aI:=bK Tryz.f202
def ahk:aI:=bK Tryz.f203
def anU:aI:=bK Tryz.f204
def al4:aI:=bK Tryz.f205
def s45:aI:=bK Tryz.f206
def am6:aI:=bK Tryz.f207
def s90:aI:=bK Tryz.f208
def anB:aI:=bK Tryz.f209
def ZP:aI:=bK Tryz.f210
def aeo:aI:=bK Tryz.f211
def ang:aI:=bK Tryz.f212
def amI:aI:=bK Tryz.f213
def anE:aI:=bK Tryz.f214
def alz:aI:=bK Tryz.f215
def agx:aI:=bK Tryz.f216
def agk:aI:=bK Tryz.f217
def afO:aI:=bK Tryz.f218
def anu:aI:=bK Tryz.f219
def afD:aI:=bK Tryz.f220
def Td:aI:=bK Tryz.f221
def Xj:aI:=bK Tryz.f222
def tE:aI:=bK Tryz.f223
def o3:aI:=bK Tryz.f224
def aiH:aI:=bK Tryz.f225
def ajz:aI:=bK Tryz.f226
def ahu:aI:=bK Tryz.f230
def agY:aI:=bK Tryz.f231
def s53:aI:=bK Tryz.f235
def afU:aI:=bK Tryz.f247
def aiP:aI:=bK Tryz.f248
def aju:aI:=bK Tryz.f249
def ajR:aI:=bK Tryz.f250
def amv:aI:=bK Tryz.f252
def alL:aI:=bK Tryz.f253
def anK:aI:=bK Tryz.f254
def amG:aI:=bK Tryz.f255
def ahF:aI:=bK Tryz.f256
def Wy:aI:=bK Tryz.f257
def afH:aI:=bK Tryz.f258
def akz:aI:=bK Tryz.f259
def aiK:aI:=bK Tryz.f260
def agJ:aI:=bK Tryz.f261
def Xr:aI:=bK Tryz.f283
def Zi:aI:=bK Tryz.f284
def afV:aI:=bK Tryz.f285
def akm:aI:=bK Tryz.f286
def acu:aI:=bK Tryz.f309
end
theorem hE:∀ t ∈ eqs,cB Tryz.prog t:=by
 intro t ht
 simp only [eqs,List.mem_cons,List.not_mem_nil,or_false] at ht
 rcases ht with rfl | rfl | rfl | rfl | rfl | rfl
 ·exact fC (by kernel_rfl) (by kernel_rfl) (by kernel_rfl) (by kernel_rfl) (by kernel_rfl)
 ·exact fC (by kernel_rfl) (by kernel_rfl) (by kernel_rfl) (by kernel_rfl) (by kernel_rfl)
 ·exact fC (by kernel_rfl) (by kernel_rfl) (by kernel_rfl) (by kernel_rfl) (by kernel_rfl)
 ·exact xK 3 2 (by kernel_rfl) (by kernel_rfl) (by kernel_rfl) (by kernel_rfl) (by kernel_rfl) (by kernel_rfl)
 ·exact fC (by kernel_rfl) (by kernel_rfl) (by kernel_rfl) (by kernel_rfl) (by kernel_rfl)
 ·exact fC (by kernel_rfl) (by kernel_rfl) (by kernel_rfl) (by kernel_rfl) (by kernel_rfl)
theorem hI:j6 Tryz.prog eqs its:=by
 intro it ht
 simp only [its,List.mem_cons,List.not_mem_nil,or_false] at ht
 rcases ht with rfl | rfl | rfl
 ·exact ⟨_,Tryz.func158,by kernel_rfl,by kernel_rfl⟩
 ·exact ⟨_,Tryz.func227,by kernel_rfl,by kernel_rfl⟩
 ·exact ⟨_,Tryz.func311,by kernel_rfl,by kernel_rfl⟩
def u0:kn:=fun _=>0
noncomputable def fnQ (fn : Func) (sf : aI) (ts : List Ty) : Bool × Option aI × Bool × Bool := (fn.name == "runtime.NumGoroutine", dO Tryz.prog eqs its fn, eT sf.ntmps sf.body, fl ts)
theorem fU {f : FuncId} {fn : Func} {sf : aI} {un : kn} {ct : bd} (hf : Tryz.prog.funcs[f]? = some fn) (hk : (fn.name == "runtime.NumGoroutine", dO Tryz.prog eqs its fn, eT sf.ntmps sf.body) = (false, some sf, true)) (hl : aR Tryz.prog eqs its ct) : aR Tryz.prog eqs its ((f, .inl sf un) :: ct) := .inl hf (congrArg Prod.fst hk) (congrArg (fun x => x.2.1) hk) (congrArg (fun x => x.2.2) hk) hl
theorem ec {fn : Func} {sf : aI} {ts : List Ty} (h : fnQ fn sf ts = (false, some sf, true, true)) : (fn.name == "runtime.NumGoroutine") = false /\ dO Tryz.prog eqs its fn = some sf /\ eT sf.ntmps sf.body = true /\ fl ts = true := by
 have h1:=congrArg Prod.fst h
 have h2:=congrArg (fun x=>x.2.1) h
 have h3:=congrArg (fun x=>x.2.2.1) h
 have h4:=congrArg (fun x=>x.2.2.2) h
 exact ⟨h1,h2,h3,h4⟩
section
variable {ct:bd} {f:FuncId} {fn:Func} {sf:aI} {un:kn} {ts:List Ty} {pre:List V->Prop} {r:List V->V}
theorem bY (hT:aR Tryz.prog eqs its ct) (hf:Tryz.prog.funcs[f]? = some fn) (hk:fnQ fn sf ts=(false,some sf,true,true)) (h:∀ ds,pre (ao ts ds)->Run ct (aS JJ ct un sf (ao ts ds)) (r (ao ts ds))):(vP (bI ts pre r)).Ok Tryz.prog f :=
 Cd (J:=JJ) (un:=un) hT hE hI hf (ec hk).1 (ec hk).2.1 (ec hk).2.2.1 (ec hk).2.2.2 fun w0 ds hp=>h ds hp hT.dst w0
theorem anx {e:Nat} {ty:TypeId} (hT:aR Tryz.prog eqs its ct) (hf:Tryz.prog.funcs[f]? = some fn) (hk:fnQ fn sf ts=(false,some sf,true,true)) (h:∀ ds,pre (ao ts ds)->Run ct (Pf JJ e ty ct un sf (ao ts ds)) (r (ao ts ds))):(vL e ty (bI ts pre r)).Ok Tryz.prog f :=
 Ur (J:=JJ) (un:=un) hT hE hI hf (ec hk).1 (ec hk).2.1 (ec hk).2.2.1 (ec hk).2.2.2 fun w0 ds hp=>h ds hp hT.dst w0
end
end Go.Dx
namespace Go.Dx
open Go.IntKind (i64 u64 u8)
open Go.Sx Go.Proofs
noncomputable section
def RR:bd:=[]
theorem PX:aR Tryz.prog eqs its RR:=.nil
section
variable (x0 x1 x2:Int)
include x0 x1 x2
def m86:RT Empty:=.obi (.obi (.obi (.ret (V.bool (bif decide (x0 < x1) then true else decide (x2 < x0))))))
theorem aie:dh dm (aS JJ RR u0 s86 [vi x0,vi x1,vi x2]) (m86 x0 x1 x2):=⟨by kernel_rfl,by kernel_rfl⟩
def bB:Bool:=bif decide (x0 < x1) then true else decide (x2 < x0)
def R86:V:=.bool (bB x0 x1 x2)
theorem alU:aN cr (m86 x0 x1 x2) (R86 x0 x1 x2):=evObi (evObi (evObi (evRet (by unfold R86 bB; rfl))))
end
def C86:aB:=bI bG (fun _=>True) fun
 | [.int _ x0,.int _ x1,.int _ x2]=>R86 x0 x1 x2
 | _=>.any
theorem OH:(vP C86).Ok Tryz.prog 161:=bY PX Tryz.func161 (by kernel_rfl) fun ds hp=>dG (aie ..) (alU _ _ _)
section
variable (x0 x1 x2:Int)
include x0 x1 x2
def m71:RT Empty:=.obi (.obi (.obi (.ret (V.bool (bif decide (x1<=x0) then decide (x0<=x2) else false)))))
theorem afN:dh dm (aS JJ RR u0 s71 [vi x0,vi x1,vi x2]) (m71 x0 x1 x2):=⟨by kernel_rfl,by kernel_rfl⟩
def dn:Bool:=bif decide (x1<=x0) then decide (x0<=x2) else false
def R71:V:=.bool (dn x0 x1 x2)
theorem alO:aN cr (m71 x0 x1 x2) (R71 x0 x1 x2):=evObi (evObi (evObi (evRet (by unfold R71 dn; rfl))))
end
def C71:aB:=bI bG (fun _=>True) fun
 | [.int _ x0,.int _ x1,.int _ x2]=>R71 x0 x1 x2
 | _=>.any
theorem VU:(vP C71).Ok Tryz.prog 148:=bY PX Tryz.func148 (by kernel_rfl) fun ds hp=>dG (afN ..) (alO _ _ _)
def aic (x0:Int):RT Empty:=.ret (V.bool (x0 != x0))
theorem ZY (x0:Int):dh dm (aS JJ RR u0 acu [vi x0]) (aic x0):=⟨by kernel_rfl,by kernel_rfl⟩
def JW (x0:Int):Bool:=x0 != x0
def ac3 (x0:Int):V:=.bool (JW x0)
theorem akl (x0:Int):aN cr (aic x0) (ac3 x0):=evRet (by unfold ac3 JW; rfl)
def U7:aB:=bI ae (fun _=>True) fun
 | [.int _ x0]=>ac3 x0
 | _=>.any
theorem Mi:(vP U7).Ok Tryz.prog 309:=bY PX Tryz.func309 (by kernel_rfl) fun ds hp=>dG (ZY ..) (akl _)
end
end Go.Dx
namespace Go.Dx
open Go.IntKind (i64 u64 u8)
open Go.Sx
theorem dH {n:Nat} {P:Nat->Prop} (h:∀ i,i<=n->(i < n->P (i+1))->P i):∀ i,i<=n->P i:=by
 have key:∀ k i,i+k=n->P i:=by
  intro k
  induction k with
  | zero=>intro i e; exact h i (by omega) fun h=>by omega
  | succ k ih=>intro i e; exact h i (by omega) fun _=>ih (i+1) (by omega)
 exact fun i hi=>key (n - i) i (by omega)
theorem wrapI {x:Int} (h1:-9223372036854775808<=x) (h2:x<=9223372036854775807):i64.wrap x=x:=IntWalk.i64_in _ (by omega)
theorem jT {i n:Nat} (h:i < n) (hn:n<=9223372036854775807):i64.wrap ((i:Int)+1)=((i+1:Nat):Int):=by
 rw [wrapI (by omega) (by omega)]; omega
theorem wi {n:Nat} {p:Nat->Bool}:cq n p=true ↔ ∀ i,i < n->p i=true:=⟨dQ,er⟩
theorem eV {n:Nat} {p:Nat->Bool} (i:Nat) (hi:i < n) (h:p i=false):cq n p=false:=by
 cases hb:cq n p with
 | false=>rfl
 | true=>rw [dQ hb i hi] at h; cases h
def CW (p:Nat->Bool):Nat->Nat->Int
 | 0,_=>-1
 | k+1,i=>bif p i then (i:Int) else CW p k (i+1)
def vV (n:Nat) (p:Nat->Bool):Int:=CW p n 0
theorem wK {p:Nat->Bool}:∀ (k i:Nat),(∀ j,i<=j->j < i+k->p j=false)->CW p k i=-1
 | 0,_,_=>rfl
 | k+1,i,h=>by simp only [CW,h i (Nat.le_refl _) (by omega),cond_false]; exact wK k (i+1) fun j h1 h2=>h j (by omega) (by omega)
theorem vz {p:Nat->Bool} {j:Nat} (hj:p j=true):∀ (k i:Nat),i<=j->j < i+k->(∀ l,i<=l->l < j->p l=false)->CW p k i=j
 | 0,i,h1,h2,_=>by omega
 | k+1,i,h1,h2,h=>by
   by_cases e:i=j
   ·subst e; simp only [CW,hj,cond_true]
   ·simp only [CW,h i (Nat.le_refl _) (by omega),cond_false]
    exact vz hj k (i+1) (by omega) (by omega) fun l h3 h4=>h l (by omega) h4
section
variable {n:Nat} {p:Nat->Bool}
include n p
theorem tf (h:∀ j,j < n->p j=false):vV n p=-1:=wK n 0 fun j _ h2=>h j (by omega)
theorem ul {j:Nat} (hj:p j=true) (h1:j < n) (h:∀ l,l < j->p l=false):vV n p=j:=vz hj n 0 (by omega) (by omega) fun l _ h4=>h l h4
theorem MQ:(vV n p=-1/\∀ j,j < n->p j=false) ∨ ∃ j,j < n/\vV n p=(j:Int)/\p j=true/\∀ l,l < j->p l=false:=by
 by_cases h:∀ j,j < n->p j=false
 ·exact .inl ⟨tf h,h⟩
 ·right
  have:∃ j,j < n/\p j=true:=by
   simp only [Classical.not_forall] at h
   obtain ⟨j,hj,hp⟩:=h
   exact ⟨j,hj,by simpa using hp⟩
  have key:∀ m,(∃ j,j < m/\j < n/\p j=true)->∃ j,j < n/\p j=true/\∀ l,l < j->p l=false:=by
   intro m
   induction m with
   | zero=>rintro ⟨j,hj,_⟩; omega
   | succ m ih =>
     rintro ⟨j,hj,hn,hp⟩
     by_cases hm:∃ j,j < m/\j < n/\p j=true
     ·exact ih hm
     ·refine ⟨j,hn,hp,fun l hl=>?_⟩
      cases hb:p l with
      | false=>rfl
      | true=>exact (hm ⟨l,by omega,by omega,hb⟩).elim
  obtain ⟨j,hj,hp⟩:=this
  obtain ⟨j,h1,h2,h3⟩:=key n ⟨j,hj,hj,hp⟩
  exact ⟨j,h1,ul h2 h1 h3,h2,h3⟩
end
def jD (n:Nat) (p:Nat->Bool):Bool:=!cq n fun i=>!p i
theorem yah {n:Nat} {p:Nat->Bool}:decide (0<=vV n p)=jD n p:=by
 rcases MQ (n:=n) (p:=p) with ⟨h1,h2⟩ | ⟨j,h1,h2,h3,_⟩
 ·rw [h1]; unfold jD; rw [er fun i hi=>by rw [h2 i hi]; rfl]; rfl
 ·rw [h2]; unfold jD; rw [eV j h1 (by rw [h3]; rfl)]; simp
end Go.Dx
namespace Go.Dx
open Go.IntKind (i64 u64 u8)
open Go.Sx
section
variable {S:Type} {step:S->RT S}
theorem oE {L : Int -> S} {n:Nat} {p:Nat->Bool} (hn:n<=9223372036854775807)
 (hst:∀ i:Nat,step (L i)=.br (decide ((i:Int) < (n:Int))) (.ob (decide (0<=(i:Int)/\(i:Int) < (n:Int))) (.obc (.obt (.br (p i) (.ret (.int .i64 i)) (.next [] (L (i64.wrap ((i:Int)+1))) []))))) (.ret (.int .i64 (-1)))) :
 Ev step (L 0) (.int .i64 (vV n p)):=by
 have key := dH (n := n) (P:=fun i=>(∀ j,j < i->p j=false)->Ev step (L i) (.int .i64 (vV n p))) fun i hi ih hj=>by
  refine Ev.of (by rw [hst]; rfl) ?_
  rw [hst]
  refine evBr (fun h=>?_) (fun h=>?_)
  ·have hlt:i < n:=by simpa using h
   refine aM (by simpa using hlt) (av (af (evBr (fun hb=>evRet ?_) (fun hb=>aQ ?_))))
   ·rw [ul hb hlt hj]
   ·rw [jT hlt hn]
    exact ih hlt fun j h1=>by
     by_cases e:j=i
     ·subst e; exact hb
     ·exact hj j (by omega)
  ·have : i = n := by have:¬ i < n:=by simpa using h
                      omega
   subst this
   refine evRet ?_
   rw [tf hj]
 exact key 0 (Nat.zero_le _) fun j hj=>by omega
end
end Go.Dx
namespace Go.Dx
open Go.IntKind (i64 u64 u8)
open Go.Sx
theorem iy {n:Nat} (hn:n<=9223372036854775807) (p:Nat->Bool) {P:Int->Prop} (hstep:∀ i:Nat,i < n->(∀ j,j < i->p j=false)->(p i=false->P (i64.wrap ((i:Int)+1)))->P i) (hend:(∀ j,j < n->p j=false)->P n):P 0:=by
 have key:=dH (n:=n) (P:=fun i=>(∀ j,j < i->p j=false)->P i) fun i hi ih hj=>by
  by_cases hlt:i < n
  ·refine hstep i hlt hj fun hp=>?_
   rw [jT hlt hn]
   exact ih hlt fun j h1=>by
    by_cases e:j=i
    ·subst e; exact hp
    ·exact hj j (by omega)
  ·have:i=n:=by omega
   subst this; exact hend hj
 exact key 0 (Nat.zero_le _) fun j hj=>by omega
theorem As {n:Nat} (hn:n<=9223372036854775807) {P:Int->Prop} (hstep:∀ i:Nat,i < n->P (i64.wrap ((i:Int)+1))->P i) (hend:P n):P 0 :=
 iy hn (fun _=>false) (fun i hi _ h=>hstep i hi (h rfl)) fun _=>hend
section
variable {S:Type} {Nx:S->V->Prop} {r:V} {x y:RT S} {i n:Nat}
theorem ck (h:i < n) (hx:aN Nx x r):aN Nx (.br (decide ((i:Int) < (n:Int))) x y) r:=⟨fun _=>hx,fun k=>by have:=of_decide_eq_false k; omega⟩
theorem cd (hy:aN Nx y r):aN Nx (.br (decide ((n:Int) < (n:Int))) x y) r:=⟨(fun k=>by have:=of_decide_eq_true k; omega),fun _=>hy⟩
theorem bZ (h:i < n) (hx:aN Nx x r):aN Nx (.ob (decide (0<=(i:Int)/\(i:Int) < (n:Int))) x) r:=⟨decide_eq_true (by omega),hx⟩
theorem m5 {c:Bool} (h:i < n) (hx:aN Nx x r):aN Nx (.obj c (decide (0<=(i:Int)/\(i:Int) < (n:Int))) x) r:=⟨fun _=>decide_eq_true (by omega),hx⟩
theorem fA {b:Bool} (h:b=true) (hx:aN Nx x r):aN Nx (.br b x y) r:=⟨fun _=>hx,fun k=>by rw [h] at k; cases k⟩
theorem ft {b:Bool} (h:b=false) (hy:aN Nx y r):aN Nx (.br b x y) r:=⟨(fun k=>by rw [h] at k; cases k),fun _=>hy⟩
end
end Go.Dx
namespace Go.Dx
open Go.IntKind (i64 u64 u8)
section
variable {n:Nat} {p:Nat->Bool}
include n p
theorem cP (i:Nat) (hi:i < n) (h:p i=true):jD n p=true:=by
 unfold jD; rw [eV i hi (by rw [h]; rfl)]; rfl
theorem ca (h:∀ i,i < n->p i=false):jD n p=false:=by
 unfold jD; rw [er fun i hi=>by rw [h i hi]; rfl]; rfl
theorem ybg:jD n p=true ↔ ∃ i,i < n/\p i=true:=by
 constructor
 ·intro h
  apply Classical.byContradiction
  intro hn
  rw [ca fun i hi=>by
   cases hp:p i with
   | false=>rfl
   | true=>exact (hn ⟨i,hi,hp⟩).elim] at h
  cases h
 ·rintro ⟨i,hi,h⟩; exact cP i hi h
end
end Go.Dx
namespace Go.Dx
open Go.IntKind (i64 u64 u8)
open Go.Sx
def eW (n:Nat) (c:Nat->Int):Int:=bif vV n (fun i=>c i != 0) == -1 then 0 else vV n fun i=>c i != 0
def de (n:Nat) (c:Nat->Int):Int:=bif vV n (fun i=>c i != 0) == -1 then 0 else c (vV n fun i=>c i != 0).toNat
theorem fL {n:Nat} {c:Nat->Int} (h:∀ j,j < n->(c j != 0)=false):eW n c=0/\de n c=0:=by
 unfold eW de; rw [tf h]; exact ⟨rfl,rfl⟩
theorem cm {n:Nat} {c:Nat->Int} {i:Nat} (hi:i < n) (hc:(c i != 0)=true) (h:∀ j,j < i->(c j != 0)=false):eW n c=i/\de n c=c i:=by
 unfold eW de; rw [ul hc hi h]
 have:((i:Int) == -1)=false:=by rw [beq_eq_false_iff_ne]; omega
 rw [this]; exact ⟨rfl,rfl⟩
section
variable {S:Type} {step:S->RT S}
theorem o6 {L:Int->S} {n:Nat} {c:Nat->Int} {Q:Nat->Prop} {ρ:lO} (W:Nat->RT S->RT S) (hW:∀ i x r,Q i->aN (Ev step) x r->aN (Ev step) (W i x) r) (hWn:∀ i x,eI (W i x)=eI x) (hn:n<=9223372036854775807) (hQ:∀ i,i < n->Q i)
 (hst:∀ i:Nat,step (L i)=.br (decide ((i:Int) < (n:Int))) (.ob (decide (0<=(i:Int)/\(i:Int) < (n:Int))) (.ob (decide (0<=(i:Int)/\(i:Int)<=(n:Int))) (W i (.br (c i != 0) (.ret (.tup [.int .i64 i,.int .i64 (c i)])) (.next ρ (L (i64.wrap ((i:Int)+1))) []))))) (.ret (.tup [.int .i64 0,.int .i64 0]))) :
 Ev step (L 0) (.tup [.int .i64 (eW n c),.int .i64 (de n c)]) :=
 iy hn (fun i=>c i != 0) (P:=fun i=>Ev step (L i) (.tup [.int .i64 (eW n c),.int .i64 (de n c)])) (fun i hlt hj next=>Ev.of (by rw [hst]; simp only [eI,hWn,Bool.and_self]) (by
  rw [hst]
  refine ck hlt (bZ hlt (aM (decide_eq_true (by omega)) (hW i _ _ (hQ i hlt) (evBr (fun hb=>evRet ?_) (fun hb=>aQ (next hb))))))
  rw [(cm hlt hb hj).1,(cm hlt hb hj).2])) (fun hj=>Ev.of (by rw [hst]; simp only [eI,hWn,Bool.and_self]) (by
  rw [hst]
  refine cd (evRet ?_)
  rw [(fL hj).1,(fL hj).2]))
end
def aE (n:Nat) (f:Nat->List V):Prop:=∀ i,i < n->(sv (hdV (f i))).size<=9223372036854775807
end Go.Dx
namespace Go.Dx
open Go.IntKind (i64 u64 u8)
theorem ng {b:Bool} (h:(!!b)=true):(!b)=false:=by cases b <;> first | rfl | cases h
theorem ng' {b:Bool} (h:(!!b)=false):(!b)=true:=by cases b <;> first | rfl | cases h
end Go.Dx
namespace Go.Dx
open Go.IntKind (i64 u64 u8)
open Go.Sx Go.Proofs
noncomputable section
def acH:bd:=[(161,.con C86),(148,.con C71),(309,.con U7)]
theorem ybl:aR Tryz.prog eqs its acH:=.con OH (.con VU (.con Mi (.nil)))
def ajM (x0:Int):RT Empty:=.obc (.obt (.ret (V.bool (bB x0 (-100000) 100000))))
theorem abr (x0:Int):dh dm (aS JJ acH u0 ajR [vi x0]) (ajM x0):=⟨by kernel_rfl,by kernel_rfl⟩
def yi (x0:Int):Bool:=bB x0 (-100000) 100000
def afe (x0:Int):V:=.bool (yi x0)
theorem af9 (x0:Int):aN cr (ajM x0) (afe x0):=av (af (evRet (by unfold afe yi; rfl)))
def Mf:aB:=bI ae (fun _=>True) fun
 | [.int _ x0]=>afe x0
 | _=>.any
theorem yay:(vP Mf).Ok Tryz.prog 250:=bY ybl Tryz.func250 (by kernel_rfl) fun ds hp=>dG (abr ..) (af9 _)
def xd:bd:=(250,.con Mf)::acH
theorem wg:aR Tryz.prog eqs its xd:=.con yay (ybl)
section
variable (s0:ByteArray)
include s0
def aky (x1:Int) (n2:Nat) (f2:ah) (x4:Int) (s5:ByteArray) (x6:Int) (n7:Nat) (f7:ah) (x9:Int):RT Empty:=.ret (V.bool (s0.toList == s5.toList))
theorem aey (x1:Int) (n2:Nat) (f2:ah) (x4:Int) (s5:ByteArray) (x6:Int) (n7:Nat) (f7:ah) (x9:Int):dh dm (aS JJ xd u0 anU [V.agg [V.str s0,vi x1,V.sl n2 (aa b4 f2),vi x4],V.pd [V.str s5,vi x6,V.sl n7 (aa b4 f7),vi x9]]) (aky s0 x1 n2 f2 x4 s5 x6 n7 f7 x9):=⟨by kernel_rfl,by kernel_rfl⟩
def xp (s5:ByteArray):Bool:=s0.toList == s5.toList
def abC (x1:Int) (n2:Nat) (f2:ah) (x4:Int) (s5:ByteArray) (x6:Int) (n7:Nat) (f7:ah) (x9:Int):V:=.bool (xp s0 s5)
theorem agz (x1:Int) (n2:Nat) (f2:ah) (x4:Int) (s5:ByteArray) (x6:Int) (n7:Nat) (f7:ah) (x9:Int):aN cr (aky s0 x1 n2 f2 x4 s5 x6 n7 f7 x9) (abC s0 x1 n2 f2 x4 s5 x6 n7 f7 x9):=evRet (by unfold abC xp; rfl)
end
def Mj:aB:=bI [.agg bF,.pd bF] (fun _=>True) fun
 | [.agg [.str s0,.int _ x1,.sl n2 f2,.int _ x4],.pd [.str s5,.int _ x6,.sl n7 f7,.int _ x9]]=>abC s0 x1 n2 f2 x4 s5 x6 n7 f7 x9
 | _=>.any
theorem E7:(vP Mj).Ok Tryz.prog 204:=bY wg Tryz.func204 (by kernel_rfl) fun ds hp=>dG (aey ..) (agz _ _ _ _ _ _ _ _ _ _)
section
variable (x0 x1 x2 x3:Int)
include x0 x1 x2 x3
def ahP:RT Empty:=.obc (.obt (.obi (.obi (.obi (.br (!bB x1 1 1000) (.ob (!bB x1 1 1000) (.ob (!bB x1 1 1000) (.obc (.obt (.obi (.br (!bB x0 0 (i64.wrap (x1 - 1))) (.ob (!bB x0 0 (i64.wrap (x1 - 1))) (.obc (.obt (.obi (.obi (.obi (.br (!bB x3 1 1000) (.ob (!bB x3 1 1000) (.ob (!bB x3 1 1000) (.obc (.obt (.ret (V.bool (bB x2 0 (i64.wrap (x3 - 1))))))))) (.ret (V.kb true))))))))) (.ret (V.kb true)))))))) (.ret (V.kb true)))))))
theorem acU:dh dm (aS JJ xd u0 ang [V.agg [vi x0,vi x1,vi x2,vi x3]]) (ahP x0 x1 x2 x3):=⟨by kernel_rfl,by kernel_rfl⟩
def kg:Bool:=bif !bB x1 1 1000 then bif !bB x0 0 (i64.wrap (x1 - 1)) then bif !bB x3 1 1000 then bB x2 0 (i64.wrap (x3 - 1)) else true else true else true
def Hy:V:=.bool (kg x0 x1 x2 x3)
theorem ai8:aN cr (ahP x0 x1 x2 x3) (Hy x0 x1 x2 x3):=av (af (evObi (evObi (evObi (evBr (fun h0=>aM (by first | assumption | (fail)) (aM (by first | assumption | (fail)) (av (af (evObi (evBr (fun h1=>aM (by first | assumption | (fail)) (av (af (evObi (evObi (evObi (evBr (fun h2=>aM (by first | assumption | (fail)) (aM (by first | assumption | (fail)) (av (af (evRet (by unfold Hy kg; try rw [h0]; try rw [h1]; try rw [h2]; rfl)))))) (fun h2=>evRet (by unfold Hy kg; try rw [h0]; try rw [h1]; try rw [h2]; rfl))))))))) (fun h1=>evRet (by unfold Hy kg; try rw [h0]; try rw [h1]; rfl)))))))) (fun h0=>evRet (by unfold Hy kg; try rw [h0]; rfl)))))))
end
def MY:aB:=bI [.agg iu] (fun _=>True) fun
 | [.agg [.int _ x0,.int _ x1,.int _ x2,.int _ x3]]=>Hy x0 x1 x2 x3
 | _=>.any
theorem EK:(vP MY).Ok Tryz.prog 212:=bY wg Tryz.func212 (by kernel_rfl) fun ds hp=>dG (acU ..) (ai8 _ _ _ _)
section
variable (s0:ByteArray)
include s0
def afK (x1 x2 x3 x4 x5:Int) (s6:ByteArray) (x7 x8 x9 x10 x11:Int):RT Empty:=.ret (V.bool (s0.toList == s6.toList))
theorem acs (x1 x2 x3 x4 x5:Int) (s6:ByteArray) (x7 x8 x9 x10 x11:Int):dh dm (aS JJ xd u0 anE [V.agg [V.str s0,vi x1,vi x2,vi x3,vi x4,vi x5],V.pd [V.str s6,vi x7,vi x8,vi x9,vi x10,vi x11]]) (afK s0 x1 x2 x3 x4 x5 s6 x7 x8 x9 x10 x11):=⟨by kernel_rfl,by kernel_rfl⟩
def yB (s6:ByteArray):Bool:=s0.toList == s6.toList
def ad8 (x1 x2 x3 x4 x5:Int) (s6:ByteArray) (x7 x8 x9 x10 x11:Int):V:=.bool (yB s0 s6)
theorem ajh (x1 x2 x3 x4 x5:Int) (s6:ByteArray) (x7 x8 x9 x10 x11:Int):aN cr (afK s0 x1 x2 x3 x4 x5 s6 x7 x8 x9 x10 x11) (ad8 s0 x1 x2 x3 x4 x5 s6 x7 x8 x9 x10 x11):=evRet (by unfold ad8 yB; rfl)
end
def Kh:aB:=bI [.agg aT,.pd aT] (fun _=>True) fun
 | [.agg [.str s0,.int _ x1,.int _ x2,.int _ x3,.int _ x4,.int _ x5],.pd [.str s6,.int _ x7,.int _ x8,.int _ x9,.int _ x10,.int _ x11]]=>ad8 s0 x1 x2 x3 x4 x5 s6 x7 x8 x9 x10 x11
 | _=>.any
theorem Ge:(vP Kh).Ok Tryz.prog 214:=bY wg Tryz.func214 (by kernel_rfl) fun ds hp=>dG (acs ..) (ajh _ _ _ _ _ _ _ _ _ _ _ _)
inductive Zv where
 | L0 (ia0:Int)
def aiG (n0:Nat) (f0:ah):Zv->bp × List O × Option Ex
 | .L0 ia0=>([(3,vi ia0),(2,V.kb false),(0,V.sl n0 (aa ae f0))],[],none)
def amV:Zv->JJ
 | .L0 ia0=>(0,[])
section
variable (n0:Nat) (f0:ah)
include n0 f0
def ajV:T (bN JJ):=aS JJ xd u0 s51 [V.sl n0 (aa ae f0)]
def Mh (cx:List Cx):Lp JJ:=fb (eL (ajV n0 f0) [])
def amA:JJ->Lp JJ
 | (0,cx)=>Mh n0 f0 cx
 | (_,cx)=>Mh n0 f0 cx
def D51:LD JJ Zv:=⟨amV,amA n0 f0,aiG n0 f0⟩
def VL:Zv->RT Zv
 | .L0 ia0=>.asm (true=true->n0<=9223372036854775807) (.br (decide (ia0 < (↑n0:Int))) (.ob (decide (0<=ia0/\ia0 < (↑n0:Int))) (.obc (.obt (.br (!dn (ay (f0 ia0.toNat)) (-100000) 100000) (.ret (V.kb false)) (.next [] (Zv.L0 (i64.wrap (ia0+1))) []))))) (.ret (V.kb true)))
end
def m51 (n0:Nat) (f0:ah):RT Zv:=.enter [] (Zv.L0 (0)) []
section
variable (n0:Nat) (f0:ah)
include n0 f0
theorem ajg:dR xd u0 (D51 n0 f0) (ajV n0 f0) (m51 n0 f0) (VL n0 f0):=⟨⟨by kernel_rfl,by kernel_rfl⟩,fun s=>by cases s <;> exact ⟨by kernel_rfl,by kernel_rfl⟩⟩
def xX:Bool:=cq n0 fun i=>dn (ay (f0 i)) (-100000) 100000
theorem adY:aN (Ev (VL n0 f0)) (m51 n0 f0) (.bool (xX n0 f0)):=by
 refine aH ?_
 have key:=dH (n:=n0) (P:=fun i=>(∀ j,j < i->dn (ay (f0 j)) (-100000) 100000=true)->Ev (VL n0 f0) (.L0 i) (.bool (xX n0 f0))) fun i hi ih hj=>by
  refine Ev.of rfl (bk fun hn=>evBr (fun h=>?_) (fun h=>evRet ?_))
  ·have hlt:i < n0:=by simpa using h
   refine aM (by simpa using hlt) (av (af (evBr (fun hb=>evRet ?_) (fun hb=>aQ ?_))))
   ·simp only [cn]; unfold xX; rw [eV i hlt (by simpa using hb)]
   ·rw [jT hlt hn]; exact ih hlt fun j h1=>by
     by_cases e:j=i
     ·subst e; simpa using hb
     ·exact hj j (by omega)
  ·have:i=n0:=by
    have:¬ i < n0:=by simpa using h
    omega
   subst this
   simp only [cn]; unfold xX; rw [er hj]
 exact key 0 (Nat.zero_le _) fun j hj=>by omega
theorem amk:aN (Ev (VL n0 f0)) (m51 n0 f0) (.bool (xX n0 (aa ae f0))):=adY n0 f0
end
def C51:aB:=bI [.sl ae] (fun _=>True) fun
 | [.sl n0 f0]=>.bool (xX n0 f0)
 | _=>.any
theorem Tg:(vP C51).Ok Tryz.prog 147:=bY wg Tryz.func147 (by kernel_rfl) fun ds hp=>jE (ajg ..) (amk _ _)
inductive AP where
 | L0 (ia0:Int)
def aeJ (n0:Nat) (f0:ah):AP->bp × List O × Option Ex
 | .L0 ia0=>([(8,vi ia0),(7,vi (↑n0:Int)),(6,V.sl n0 (aa ae f0)),(4,vi 0),(0,V.sl n0 (aa ae f0)),(1,V.fn 250 [] [])],[],none)
def af6:AP->JJ
 | .L0 ia0=>(0,[])
section
variable (n0:Nat)
include n0
def Yg (f0:ah):T (bN JJ):=aS JJ xd u0 Td [V.sl n0 (aa ae f0),V.fn 250 [] []]
def DV (f0:ah) (cx:List Cx):Lp JJ:=fb (eL (Yg n0 f0) [])
def aj4 (f0:ah):JJ->Lp JJ
 | (0,cx)=>DV n0 f0 cx
 | (_,cx)=>DV n0 f0 cx
def amd (f0:ah):LD JJ AP:=⟨af6,aj4 n0 f0,aeJ n0 f0⟩
def LS (f0:ah):AP->RT AP
 | .L0 ia0=>.br (decide (ia0 < (↑n0:Int))) (.ob (decide (0<=ia0/\ia0 < (↑n0:Int))) (.obc (.obt (.br (yi (ay (f0 ia0.toNat))) (.ret (vi ia0)) (.next [] (AP.L0 (i64.wrap (ia0+1))) []))))) (.ret (vi (-1)))
def abK (f0:ah):RT AP:=.asm (true=true->n0<=9223372036854775807) (.enter [] (AP.L0 (0)) [])
theorem abh (f0:ah):dR xd u0 (amd n0 f0) (Yg n0 f0) (abK n0 f0) (LS n0 f0):=⟨⟨by kernel_rfl,by kernel_rfl⟩,fun s=>by cases s <;> exact ⟨by kernel_rfl,by kernel_rfl⟩⟩
def GT (f0:ah):Int  :=vV n0 fun ii=>yi (ay (f0 ii))
theorem TP (f0:ah):aN (Ev (LS n0 f0)) (abK n0 f0) (.int .i64 (GT n0 f0)):=bk fun hn=>aH (oE hn fun i=>rfl)
theorem akd (f0:ah):aN (Ev (LS n0 f0)) (abK n0 f0) (.int .i64 (GT n0 (aa ae f0))):=TP n0 f0
end
def Pd:aB:=bI [.sl ae,.fn 250 [] []] (fun _=>True) fun
 | [.sl n0 f0,.fn _ [] []]=>.int .i64 (GT n0 f0)
 | _=>.any
theorem D7:(vP Pd).Ok Tryz.prog 221:=bY wg Tryz.func221 (by kernel_rfl) fun ds hp=>jE (abh ..) (akd _ _)
def wW:bd:=(204,.con Mj)::(212,.con MY)::(214,.con Kh)::(147,.con C51)::(221,.con Pd)::xd
theorem Aw:aR Tryz.prog eqs its wW:=.con E7 (.con EK (.con Ge (.con Tg (.con D7 (wg)))))
section
variable (n0:Nat) (f0:ah)
include n0 f0
def m99:RT Empty:=.obc (.obt (.ret (V.bool (decide (0<=GT n0 (aa ae f0))))))
theorem agr:dh dm (aS JJ wW u0 s99 [V.sl n0 (aa ae f0),V.fn 250 [] []]) (m99 n0 f0):=⟨by kernel_rfl,by kernel_rfl⟩
def zF:Bool:=decide (0<=GT n0 (aa ae f0))
def R99:V:=.bool (zF n0 f0)
theorem ano:aN cr (m99 n0 f0) (R99 n0 f0):=av (af (evRet (by unfold R99 zF; rfl)))
end
def C99:aB:=bI [.sl ae,.fn 250 [] []] (fun _=>True) fun
 | [.sl n0 f0,.fn _ [] []]=>R99 n0 f0
 | _=>.any
theorem UA:(vP C99).Ok Tryz.prog 152:=bY Aw Tryz.func152 (by kernel_rfl) fun ds hp=>dG (agr ..) (ano _ _)
inductive AL where
 | L0 (ia0:Int)
def ael (n0:Nat) (f0:ah) (s2:ByteArray) (x3:Int) (n4:Nat) (f4:ah) (x6:Int):AL->bp × List O × Option Ex
 | .L0 ia0=>([(8,vi ia0),(7,vi (↑n0:Int)),(6,V.sl n0 (aa bF f0)),(4,vi 0),(0,V.sl n0 (aa bF f0)),(1,V.fn 204 [] [V.pd [V.str s2,vi x3,V.sl n4 (aa b4 f4),vi x6]])],[],none)
def ahD:AL->JJ
 | .L0 ia0=>(0,[])
section
variable (n0:Nat) (f0:ah) (s2:ByteArray) (x3:Int) (n4:Nat) (f4:ah) (x6:Int)
include n0 f0 s2 x3 n4 f4 x6
def X5:T (bN JJ):=aS JJ wW u0 amv [V.sl n0 (aa bF f0),V.fn 204 [] [V.pd [V.str s2,vi x3,V.sl n4 (aa b4 f4),vi x6]]]
def Gx (cx:List Cx):Lp JJ:=fb (eL (X5 n0 f0 s2 x3 n4 f4 x6) [])
def afF:JJ->Lp JJ
 | (0,cx)=>Gx n0 f0 s2 x3 n4 f4 x6 cx
 | (_,cx)=>Gx n0 f0 s2 x3 n4 f4 x6 cx
def anI:LD JJ AL:=⟨ahD,afF n0 f0 s2 x3 n4 f4 x6,ael n0 f0 s2 x3 n4 f4 x6⟩
end
section
variable (n0:Nat)
include n0
def Jj (f0:ah) (s2:ByteArray) (x3:Int) (n4:Nat) (f4:ah) (x6:Int):AL->RT AL
 | .L0 ia0=>.br (decide (ia0 < (↑n0:Int))) (.ob (decide (0<=ia0/\ia0 < (↑n0:Int))) (.obc (.obt (.br (xp (sv (hdV (f0 ia0.toNat))) s2) (.ret (vi ia0)) (.next [] (AL.L0 (i64.wrap (ia0+1))) []))))) (.ret (vi (-1)))
def abV (f0:ah) (s2:ByteArray) (x3:Int) (n4:Nat) (f4:ah) (x6:Int):RT AL:=.asm (true=true->n0<=9223372036854775807) (.enter [] (AL.L0 (0)) [])
theorem abj (f0:ah) (s2:ByteArray) (x3:Int) (n4:Nat) (f4:ah) (x6:Int):dR wW u0 (anI n0 f0 s2 x3 n4 f4 x6) (X5 n0 f0 s2 x3 n4 f4 x6) (abV n0 f0 s2 x3 n4 f4 x6) (Jj n0 f0 s2 x3 n4 f4 x6):=⟨⟨by kernel_rfl,by kernel_rfl⟩,fun s=>by cases s <;> exact ⟨by kernel_rfl,by kernel_rfl⟩⟩
def Hk (f0:ah) (s2:ByteArray):Int  :=vV n0 fun ii=>xp (sv (hdV (f0 ii))) s2
theorem Us (f0:ah) (s2:ByteArray) (x3:Int) (n4:Nat) (f4:ah) (x6:Int):aN (Ev (Jj n0 f0 s2 x3 n4 f4 x6)) (abV n0 f0 s2 x3 n4 f4 x6) (.int .i64 (Hk n0 f0 s2)):=bk fun hn=>aH (oE hn fun i=>rfl)
theorem ah7 (f0:ah) (s2:ByteArray) (x3:Int) (n4:Nat) (f4:ah) (x6:Int):aN (Ev (Jj n0 f0 s2 x3 n4 f4 x6)) (abV n0 f0 s2 x3 n4 f4 x6) (.int .i64 (Hk n0 (aa bF f0) s2)):=Us n0 f0 s2 x3 n4 f4 x6
end
def Na:aB:=bI [.sl bF,.fn 204 [] [.pd bF]] (fun _=>True) fun
 | [.sl n0 f0,.fn _ [] [.pd [.str s2,.int _ x3,.sl n4 f4,.int _ x6]]]=>.int .i64 (Hk n0 f0 s2)
 | _=>.any
theorem Dh:(vP Na).Ok Tryz.prog 252:=bY Aw Tryz.func252 (by kernel_rfl) fun ds hp=>jE (abj ..) (ah7 _ _ _ _ _ _ _)
inductive AM where
 | L0 (ia0:Int)
def acW (n0:Nat) (f0:ah):AM->bp × List O × Option Ex
 | .L0 ia0=>([(8,vi ia0),(7,vi (↑n0:Int)),(6,V.sl n0 (aa iu f0)),(4,vi 0),(0,V.sl n0 (aa iu f0)),(1,V.fn 212 [] [])],[],none)
def ahI:AM->JJ
 | .L0 ia0=>(0,[])
section
variable (n0:Nat)
include n0
def X9 (f0:ah):T (bN JJ):=aS JJ wW u0 anK [V.sl n0 (aa iu f0),V.fn 212 [] []]
def Fb (f0:ah) (cx:List Cx):Lp JJ:=fb (eL (X9 n0 f0) [])
def agM (f0:ah):JJ->Lp JJ
 | (0,cx)=>Fb n0 f0 cx
 | (_,cx)=>Fb n0 f0 cx
def aml (f0:ah):LD JJ AM:=⟨ahI,agM n0 f0,acW n0 f0⟩
def Od (f0:ah):AM->RT AM
 | .L0 ia0=>.br (decide (ia0 < (↑n0:Int))) (.ob (decide (0<=ia0/\ia0 < (↑n0:Int))) (.obc (.obt (.br (kg (ay (f0 ia0.toNat)) (ba (f0 ia0.toNat)) (cQ (f0 ia0.toNat)) (cM (f0 ia0.toNat))) (.ret (vi ia0)) (.next [] (AM.L0 (i64.wrap (ia0+1))) []))))) (.ret (vi (-1)))
def afd (f0:ah):RT AM:=.asm (true=true->n0<=9223372036854775807) (.enter [] (AM.L0 (0)) [])
theorem ZR (f0:ah):dR wW u0 (aml n0 f0) (X9 n0 f0) (afd n0 f0) (Od n0 f0):=⟨⟨by kernel_rfl,by kernel_rfl⟩,fun s=>by cases s <;> exact ⟨by kernel_rfl,by kernel_rfl⟩⟩
def Hv (f0:ah):Int  :=vV n0 fun ii=>kg (ay (f0 ii)) (ba (f0 ii)) (cQ (f0 ii)) (cM (f0 ii))
theorem Rj (f0:ah):aN (Ev (Od n0 f0)) (afd n0 f0) (.int .i64 (Hv n0 f0)):=bk fun hn=>aH (oE hn fun i=>rfl)
theorem akb (f0:ah):aN (Ev (Od n0 f0)) (afd n0 f0) (.int .i64 (Hv n0 (aa iu f0))):=Rj n0 f0
end
def IY:aB:=bI [.sl iu,.fn 212 [] []] (fun _=>True) fun
 | [.sl n0 f0,.fn _ [] []]=>.int .i64 (Hv n0 f0)
 | _=>.any
theorem E8:(vP IY).Ok Tryz.prog 254:=bY Aw Tryz.func254 (by kernel_rfl) fun ds hp=>jE (ZR ..) (akb _ _)
inductive y7 where
 | L0 (ia0:Int)
def aaz (n0:Nat) (f0:ah) (s2:ByteArray) (x3 x4 x5 x6 x7:Int):y7->bp × List O × Option Ex
 | .L0 ia0=>([(8,vi ia0),(7,vi (↑n0:Int)),(6,V.sl n0 (aa aT f0)),(4,vi 0),(0,V.sl n0 (aa aT f0)),(1,V.fn 214 [] [V.pd [V.str s2,vi x3,vi x4,vi x5,vi x6,vi x7]])],[],none)
def aiD:y7->JJ
 | .L0 ia0=>(0,[])
section
variable (n0:Nat) (f0:ah) (s2:ByteArray) (x3 x4 x5 x6 x7:Int)
include n0 f0 s2 x3 x4 x5 x6 x7
def ZC:T (bN JJ):=aS JJ wW u0 amG [V.sl n0 (aa aT f0),V.fn 214 [] [V.pd [V.str s2,vi x3,vi x4,vi x5,vi x6,vi x7]]]
def DY (cx:List Cx):Lp JJ:=fb (eL (ZC n0 f0 s2 x3 x4 x5 x6 x7) [])
def aid:JJ->Lp JJ
 | (0,cx)=>DY n0 f0 s2 x3 x4 x5 x6 x7 cx
 | (_,cx)=>DY n0 f0 s2 x3 x4 x5 x6 x7 cx
def anZ:LD JJ y7:=⟨aiD,aid n0 f0 s2 x3 x4 x5 x6 x7,aaz n0 f0 s2 x3 x4 x5 x6 x7⟩
end
section
variable (n0:Nat)
include n0
def Ky (f0:ah) (s2:ByteArray) (x3 x4 x5 x6 x7:Int):y7->RT y7
 | .L0 ia0=>.br (decide (ia0 < (↑n0:Int))) (.ob (decide (0<=ia0/\ia0 < (↑n0:Int))) (.obc (.obt (.br (yB (sv (hdV (f0 ia0.toNat))) s2) (.ret (vi ia0)) (.next [] (y7.L0 (i64.wrap (ia0+1))) []))))) (.ret (vi (-1)))
def aeH (f0:ah) (s2:ByteArray) (x3 x4 x5 x6 x7:Int):RT y7:=.asm (true=true->n0<=9223372036854775807) (.enter [] (y7.L0 (0)) [])
theorem abT (f0:ah) (s2:ByteArray) (x3 x4 x5 x6 x7:Int):dR wW u0 (anZ n0 f0 s2 x3 x4 x5 x6 x7) (ZC n0 f0 s2 x3 x4 x5 x6 x7) (aeH n0 f0 s2 x3 x4 x5 x6 x7) (Ky n0 f0 s2 x3 x4 x5 x6 x7):=⟨⟨by kernel_rfl,by kernel_rfl⟩,fun s=>by cases s <;> exact ⟨by kernel_rfl,by kernel_rfl⟩⟩
def G2 (f0:ah) (s2:ByteArray):Int  :=vV n0 fun ii=>yB (sv (hdV (f0 ii))) s2
theorem VA (f0:ah) (s2:ByteArray) (x3 x4 x5 x6 x7:Int):aN (Ev (Ky n0 f0 s2 x3 x4 x5 x6 x7)) (aeH n0 f0 s2 x3 x4 x5 x6 x7) (.int .i64 (G2 n0 f0 s2)):=bk fun hn=>aH (oE hn fun i=>rfl)
theorem afI (f0:ah) (s2:ByteArray) (x3 x4 x5 x6 x7:Int):aN (Ev (Ky n0 f0 s2 x3 x4 x5 x6 x7)) (aeH n0 f0 s2 x3 x4 x5 x6 x7) (.int .i64 (G2 n0 (aa aT f0) s2)):=VA n0 f0 s2 x3 x4 x5 x6 x7
end
def Pg:aB:=bI [.sl aT,.fn 214 [] [.pd aT]] (fun _=>True) fun
 | [.sl n0 f0,.fn _ [] [.pd [.str s2,.int _ x3,.int _ x4,.int _ x5,.int _ x6,.int _ x7]]]=>.int .i64 (G2 n0 f0 s2)
 | _=>.any
theorem DT:(vP Pg).Ok Tryz.prog 255:=bY Aw Tryz.func255 (by kernel_rfl) fun ds hp=>jE (abT ..) (afI _ _ _ _ _ _ _ _)
def G4:bd:=(152,.con C99)::(252,.con Na)::(254,.con IY)::(255,.con Pg)::wW
theorem Ac:aR Tryz.prog eqs its G4:=.con UA (.con Dh (.con E8 (.con DT (Aw))))
section
variable (n0:Nat) (f0:ah)
include n0 f0
def m45:RT Empty:=.obc (.obt (.ret (V.bool (zF n0 (aa ae f0)))))
theorem ahh:dh dm (aS JJ G4 u0 s45 [V.sl n0 (aa ae f0)]) (m45 n0 f0):=⟨by kernel_rfl,by kernel_rfl⟩
def jH:Bool:=zF n0 (aa ae f0)
def R45:V:=.bool (jH n0 f0)
theorem alD:aN cr (m45 n0 f0) (R45 n0 f0):=av (af (evRet (by unfold R45 jH; rfl)))
end
def C45:aB:=bI [.sl ae] (fun _=>True) fun
 | [.sl n0 f0]=>R45 n0 f0
 | _=>.any
theorem QR:(vP C45).Ok Tryz.prog 206:=bY Ac Tryz.func206 (by kernel_rfl) fun ds hp=>dG (ahh ..) (alD _ _)
section
variable (n0:Nat) (f0:ah) (s2:ByteArray)
include n0 f0 s2
def m90 (x3:Int) (n4:Nat) (f4:ah) (x6:Int):RT Empty:=.obc (.obt (.ret (V.bool (decide (0<=Hk n0 (aa bF f0) s2)))))
theorem aiJ (x3:Int) (n4:Nat) (f4:ah) (x6:Int):dh dm (aS JJ G4 u0 s90 [V.sl n0 (aa bF f0),V.fn 204 [] [V.pd [V.str s2,vi x3,V.sl n4 (aa b4 f4),vi x6]]]) (m90 n0 f0 s2 x3 n4 f4 x6):=⟨by kernel_rfl,by kernel_rfl⟩
def rp:Bool:=decide (0<=Hk n0 (aa bF f0) s2)
def R90 (x3:Int) (n4:Nat) (f4:ah) (x6:Int):V:=.bool (rp n0 f0 s2)
theorem amH (x3:Int) (n4:Nat) (f4:ah) (x6:Int):aN cr (m90 n0 f0 s2 x3 n4 f4 x6) (R90 n0 f0 s2 x3 n4 f4 x6):=av (af (evRet (by unfold R90 rp; rfl)))
end
def C90:aB:=bI [.sl bF,.fn 204 [] [.pd bF]] (fun _=>True) fun
 | [.sl n0 f0,.fn _ [] [.pd [.str s2,.int _ x3,.sl n4 f4,.int _ x6]]]=>R90 n0 f0 s2 x3 n4 f4 x6
 | _=>.any
theorem Ug:(vP C90).Ok Tryz.prog 208:=bY Ac Tryz.func208 (by kernel_rfl) fun ds hp=>dG (aiJ ..) (amH _ _ _ _ _ _ _)
section
variable (n0:Nat) (f0:ah)
include n0 f0
def ajk:RT Empty:=.obc (.obt (.ret (V.bool (decide (0<=Hv n0 (aa iu f0))))))
theorem adg:dh dm (aS JJ G4 u0 amI [V.sl n0 (aa iu f0),V.fn 212 [] []]) (ajk n0 f0):=⟨by kernel_rfl,by kernel_rfl⟩
def qu:Bool:=decide (0<=Hv n0 (aa iu f0))
def acN:V:=.bool (qu n0 f0)
theorem ajc:aN cr (ajk n0 f0) (acN n0 f0):=av (af (evRet (by unfold acN qu; rfl)))
end
def O4:aB:=bI [.sl iu,.fn 212 [] []] (fun _=>True) fun
 | [.sl n0 f0,.fn _ [] []]=>acN n0 f0
 | _=>.any
theorem Gj:(vP O4).Ok Tryz.prog 213:=bY Ac Tryz.func213 (by kernel_rfl) fun ds hp=>dG (adg ..) (ajc _ _)
section
variable (n0:Nat) (f0:ah) (s2:ByteArray)
include n0 f0 s2
def akE (x3 x4 x5 x6 x7:Int):RT Empty:=.obc (.obt (.ret (V.bool (decide (0<=G2 n0 (aa aT f0) s2)))))
theorem ab7 (x3 x4 x5 x6 x7:Int):dh dm (aS JJ G4 u0 alz [V.sl n0 (aa aT f0),V.fn 214 [] [V.pd [V.str s2,vi x3,vi x4,vi x5,vi x6,vi x7]]]) (akE n0 f0 s2 x3 x4 x5 x6 x7):=⟨by kernel_rfl,by kernel_rfl⟩
def qw:Bool:=decide (0<=G2 n0 (aa aT f0) s2)
def aeE (x3 x4 x5 x6 x7:Int):V:=.bool (qw n0 f0 s2)
theorem aiS (x3 x4 x5 x6 x7:Int):aN cr (akE n0 f0 s2 x3 x4 x5 x6 x7) (aeE n0 f0 s2 x3 x4 x5 x6 x7):=av (af (evRet (by unfold aeE qw; rfl)))
end
def Jf:aB:=bI [.sl aT,.fn 214 [] [.pd aT]] (fun _=>True) fun
 | [.sl n0 f0,.fn _ [] [.pd [.str s2,.int _ x3,.int _ x4,.int _ x5,.int _ x6,.int _ x7]]]=>aeE n0 f0 s2 x3 x4 x5 x6 x7
 | _=>.any
theorem Ea:(vP Jf).Ok Tryz.prog 215:=bY Ac Tryz.func215 (by kernel_rfl) fun ds hp=>dG (ab7 ..) (aiS _ _ _ _ _ _ _ _)
def xj:bd:=(206,.con C45)::(208,.con C90)::(213,.con O4)::(215,.con Jf)::G4
theorem vn:aR Tryz.prog eqs its xj:=.con QR (.con Ug (.con Gj (.con Ea (Ac))))
def agG (x0 x1:Int):RT Empty:=.obt (.obt (.obc (.obt (.ret (V.bool (jH 2 (aa ae (bQ [vi x0,vi x1] 0 1))))))))
theorem aek (x0 x1:Int):dh dm (aS JJ xj u0 al4 [V.agg [vi x0,vi x1]]) (agG x0 x1):=⟨by kernel_rfl,by kernel_rfl⟩
def qJ (x0 x1:Int):Bool:=jH 2 (aa ae (bQ [vi x0,vi x1] 0 1))
def ab5 (x0 x1:Int):V:=.bool (qJ x0 x1)
theorem ahQ (x0 x1:Int):aN cr (agG x0 x1) (ab5 x0 x1):=af (af (av (af (evRet (by unfold ab5 qJ; rfl)))))
def Qu:aB:=bI [.agg b4] (fun _=>True) fun
 | [.agg [.int _ x0,.int _ x1]]=>ab5 x0 x1
 | _=>.any
theorem Ee:(vP Qu).Ok Tryz.prog 205:=bY vn Tryz.func205 (by kernel_rfl) fun ds hp=>dG (aek ..) (ahQ _ _)
def m65 (n0:Nat) (f0:ah) (x2 x3 x4 x5 x6:Int):RT Empty:=.obc (.obt (.obi (.br (!jH 2 (aa ae (bQ [vi x2,vi x3] 0 1))) (.ob (!jH 2 (aa ae (bQ [vi x2,vi x3] 0 1))) (.obc (.obt (.obi (.obi (.obi (.br (!bB x4 1 20000) (.ob (!bB x4 1 20000) (.ob (!bB x4 1 20000) (.obc (.obt (.obi (.br (!bB x5 0 (i64.wrap (x6 - 1))) (.ob (!bB x5 0 (i64.wrap (x6 - 1))) (.obc (.obt (.br (bB x6 1 1000) (.ret (vi 7)) (.ret (vi 0)))))) (.ret (vi 7)))))))) (.ret (vi 7))))))))) (.ret (vi 7)))))
theorem agt (n0:Nat) (f0:ah) (x2 x3 x4 x5 x6:Int):dh dm (aS JJ xj u0 s65 [V.sl n0 (aa ce f0),V.agg [vi x2,vi x3,vi x4,vi x5,vi x6]]) (m65 n0 f0 x2 x3 x4 x5 x6):=⟨by kernel_rfl,by kernel_rfl⟩
def mq (x2 x3 x4 x5 x6:Int):Int:=bif !jH 2 (aa ae (bQ [vi x2,vi x3] 0 1)) then bif !bB x4 1 20000 then bif !bB x5 0 (i64.wrap (x6 - 1)) then bif bB x6 1 1000 then 7 else 0 else 7 else 7 else 7
def R65 (n0:Nat) (f0:ah) (x2 x3 x4 x5 x6:Int):V:=.int i64 (mq x2 x3 x4 x5 x6)
theorem alQ (n0:Nat) (f0:ah) (x2 x3 x4 x5 x6:Int):aN cr (m65 n0 f0 x2 x3 x4 x5 x6) (R65 n0 f0 x2 x3 x4 x5 x6):=av (af (evObi (evBr (fun h0=>aM (by first | assumption | (fail)) (av (af (evObi (evObi (evObi (evBr (fun h1=>aM (by first | assumption | (fail)) (aM (by first | assumption | (fail)) (av (af (evObi (evBr (fun h2=>aM (by first | assumption | (fail)) (av (af (evBr (fun h3=>evRet (by unfold R65 mq; try rw [h0]; try rw [h1]; try rw [h2]; try rw [h3]; rfl)) (fun h3=>evRet (by unfold R65 mq; try rw [h0]; try rw [h1]; try rw [h2]; try rw [h3]; rfl)))))) (fun h2=>evRet (by unfold R65 mq; try rw [h0]; try rw [h1]; try rw [h2]; rfl)))))))) (fun h1=>evRet (by unfold R65 mq; try rw [h0]; try rw [h1]; rfl))))))))) (fun h0=>evRet (by unfold R65 mq; try rw [h0]; rfl)))))
def C65:aB:=bI [.sl ce,.agg ce] (fun _=>True) fun
 | [.sl n0 f0,.agg [.int _ x2,.int _ x3,.int _ x4,.int _ x5,.int _ x6]]=>R65 n0 f0 x2 x3 x4 x5 x6
 | _=>.any
theorem Te:(vP C65).Ok Tryz.prog 138:=bY vn Tryz.func138 (by kernel_rfl) fun ds hp=>dG (agt ..) (alQ _ _ _ _ _ _ _)
def m67 (n0:Nat) (f0:ah) (x2 x3 x4 x5:Int) (n6:Nat) (f6:ah):RT Empty:=.obt (.obt (.obt (.obt (.obc (.obt (.br (jH 4 (aa ae (bQ [vi x2,vi x3,vi x4,vi x5] 0 1))) (.ret (vi 7)) (.br (x2 == x4 && (x3 == x5 && true)) (.ret (vi 2)) (.asm (true=true->n6<=9223372036854775807) (.br (decide (6 < (↑n6:Int))) (.ret (vi 3)) (.obc (.obt (.br (qu n6 (aa iu f6)) (.ret (vi 7)) (.ret (vi 0))))))))))))))
theorem aj6 (n0:Nat) (f0:ah) (x2 x3 x4 x5:Int) (n6:Nat) (f6:ah):dh dm (aS JJ xj u0 s67 [V.sl n0 (aa ci f0),V.agg [vi x2,vi x3,vi x4,vi x5,V.sl n6 (aa iu f6)]]) (m67 n0 f0 x2 x3 x4 x5 n6 f6):=⟨by kernel_rfl,by kernel_rfl⟩
def yai (x2 x3 x4 x5:Int) (n6:Nat) (f6:ah):Int:=bif jH 4 (aa ae (bQ [vi x2,vi x3,vi x4,vi x5] 0 1)) then 7 else bif x2 == x4 && (x3 == x5 && true) then 2 else bif decide (6 < (↑n6:Int)) then 3 else bif qu n6 (aa iu f6) then 7 else 0
def R67 (n0:Nat) (f0:ah) (x2 x3 x4 x5:Int) (n6:Nat) (f6:ah):V:=.int i64 (yai x2 x3 x4 x5 n6 f6)
theorem alj (n0:Nat) (f0:ah) (x2 x3 x4 x5:Int) (n6:Nat) (f6:ah):aN cr (m67 n0 f0 x2 x3 x4 x5 n6 f6) (R67 n0 f0 x2 x3 x4 x5 n6 f6):=af (af (af (af (av (af (evBr (fun h0=>evRet (by unfold R67 yai; try rw [h0]; rfl)) (fun h0=>evBr (fun h1=>evRet (by unfold R67 yai; try rw [h0]; try rw [h1]; rfl)) (fun h1=>evAsm (fun a2=>evBr (fun h2=>evRet (by unfold R67 yai; try rw [h0]; try rw [h1]; try rw [h2]; rfl)) (fun h2=>av (af (evBr (fun h3=>evRet (by unfold R67 yai; try rw [h0]; try rw [h1]; try rw [h2]; try rw [h3]; rfl)) (fun h3=>evRet (by unfold R67 yai; try rw [h0]; try rw [h1]; try rw [h2]; try rw [h3]; rfl))))))))))))))
def C67:aB:=bI [.sl ci,.agg ci] (fun _=>True) fun
 | [.sl n0 f0,.agg [.int _ x2,.int _ x3,.int _ x4,.int _ x5,.sl n6 f6]]=>R67 n0 f0 x2 x3 x4 x5 n6 f6
 | _=>.any
theorem Vr:(vP C67).Ok Tryz.prog 140:=bY vn Tryz.func140 (by kernel_rfl) fun ds hp=>dG (aj6 ..) (alj _ _ _ _ _ _ _ _)
inductive zd where
 | L0 (ia0:Int)
def aeu (s0:ByteArray):zd->bp × List O × Option Ex
 | .L0 ia0=>([(3,vi ia0),(2,V.kb false),(0,V.str s0)],[],none)
def agK:zd->JJ
 | .L0 ia0=>(0,[])
section
variable (s0:ByteArray)
include s0
def ZK:T (bN JJ):=aS JJ xj u0 anu [V.str s0]
def FN (cx:List Cx):Lp JJ:=fb (eL (ZK s0) [])
def agD:JJ->Lp JJ
 | (0,cx)=>FN s0 cx
 | (_,cx)=>FN s0 cx
def alw:LD JJ zd:=⟨agK,agD s0,aeu s0⟩
def EW:zd->RT zd
 | .L0 ia0=>.br (decide (ia0 < (↑s0.size:Int))) (.ob (decide (0<=ia0/\ia0 < (↑s0.size:Int))) (.obi (.obi (.obj (decide (97<=(↑(s0.data.1.getD ia0.toNat 0).toNat:Int))) (decide (0<=ia0/\ia0 < (↑s0.size:Int))) (.obi (.obi (.obi (.obi (.obi (.obi (.obj ((!bif decide (97<=(↑(s0.data.1.getD ia0.toNat 0).toNat:Int)) then decide ((↑(s0.data.1.getD ia0.toNat 0).toNat:Int)<=122) else false) && !ia0 == 0) (decide (0<=ia0/\ia0 < (↑s0.size:Int))) (.obi (.obi (.obi (.obi (.obj ((!bif decide (97<=(↑(s0.data.1.getD ia0.toNat 0).toNat:Int)) then decide ((↑(s0.data.1.getD ia0.toNat 0).toNat:Int)<=122) else false) && !ia0 == 0 && decide (48<=(↑(s0.data.1.getD ia0.toNat 0).toNat:Int))) (decide (0<=ia0/\ia0 < (↑s0.size:Int))) (.obi (.obi (.obi (.obi (.obi (.obi (.obi (.obj ((!bif decide (97<=(↑(s0.data.1.getD ia0.toNat 0).toNat:Int)) then decide ((↑(s0.data.1.getD ia0.toNat 0).toNat:Int)<=122) else false) && !ia0 == 0 && !bif decide (48<=(↑(s0.data.1.getD ia0.toNat 0).toNat:Int)) then decide ((↑(s0.data.1.getD ia0.toNat 0).toNat:Int)<=57) else false) (decide (0<=ia0/\ia0 < (↑s0.size:Int))) (.obi (.obi (.obi (.obi (.obi (.obi (.br (bif !bif decide (97<=(↑(s0.data.1.getD ia0.toNat 0).toNat:Int)) then decide ((↑(s0.data.1.getD ia0.toNat 0).toNat:Int)<=122) else false then bif ia0 == 0 then true else bif !bif decide (48<=(↑(s0.data.1.getD ia0.toNat 0).toNat:Int)) then decide ((↑(s0.data.1.getD ia0.toNat 0).toNat:Int)<=57) else false then (↑(s0.data.1.getD ia0.toNat 0).toNat:Int) != 45 else false else false) (.ret (V.kb false)) (.next [] (zd.L0 (i64.wrap (ia0+1))) [])))))))))))))))))))))))))))))))) (.obi (.obi (.obi (.ret (V.bool (bif decide (0 < (↑s0.size:Int)) then decide ((↑s0.size:Int)<=24) else false))))))
end
def aao (s0:ByteArray):RT zd:=.enter [] (zd.L0 (0)) []
theorem abF (s0:ByteArray):dR xj u0 (alw s0) (ZK s0) (aao s0) (EW s0):=⟨⟨by kernel_rfl,by kernel_rfl⟩,fun s=>by cases s <;> exact ⟨by kernel_rfl,by kernel_rfl⟩⟩
def Bh (s0:ByteArray) (i:Nat):Bool:=bif !bif decide (97<=((s0.data.toList.getD i 0).toNat:Int)) then decide (((s0.data.toList.getD i 0).toNat:Int)<=122) else false then bif (i:Int) == 0 then true else bif !bif decide (48<=((s0.data.toList.getD i 0).toNat:Int)) then decide (((s0.data.toList.getD i 0).toNat:Int)<=57) else false then ((s0.data.toList.getD i 0).toNat:Int) != 45 else false else false
def kH (s0:ByteArray):Bool:=cq s0.size (fun i=>!Bh s0 i) && bif decide (0 < (s0.size:Int)) then decide ((s0.size:Int)<=24) else false
theorem aol {n:Nat} (p:Nat->Bool) {P:Int->Prop} (hstep:∀ i:Nat,i < n->(∀ j,j < i->p j=false)->(p i=false->P (i64.wrap ((i:Int)+1)))->P i) (hend:(∀ j,j < n->p j=false)->P n) (hn:n<=9223372036854775807):P 0:=iy hn p hstep hend
theorem Q1 (s0:ByteArray) (hp:s0.size<=9223372036854775807):aN (Ev (EW s0)) (aao s0) (.bool (kH s0)):=aH (iy hp (Bh s0) (P:=fun i=>Ev (EW s0) (.L0 i) (.bool (kH s0))) (fun i hlt hj next=>Ev.of rfl (ck hlt (bZ hlt (by
 repeat (first | refine evObi ?_ | refine m5 hlt ?_)
 refine evBr (fun hb=>evRet ?_) (fun hb=>aQ (next hb))
 simp only [cn]; unfold kH; rw [eV i hlt (by show (!Bh s0 i)=false; rw [show Bh s0 i=true from hb]; rfl)]; rfl))))
 (fun hj=>Ev.of rfl (cd (by
 repeat refine evObi ?_
 refine evRet ?_
 simp only [cn]; unfold kH; rw [er fun i hi=>by rw [hj i hi]; rfl]; rfl))))
theorem aiw (s0:ByteArray) (hp:s0.size<=9223372036854775807):aN (Ev (EW s0)) (aao s0) (.bool (kH s0)):=Q1 s0 hp
def Oj:aB:=bI [.str] (fun
 | [.str s0]=>s0.size<=9223372036854775807
 | _=>False) fun
 | [.str s0]=>.bool (kH s0)
 | _=>.any
theorem GF:(vP Oj).Ok Tryz.prog 219:=bY vn Tryz.func219 (by kernel_rfl) fun ds hp=>jE (abF ..) (aiw _ hp)
inductive X8 where
 | L0 (ia0:Int)
def ajD (x0 x1 x2 x3:Int) (n4:Nat) (f4:ah):X8->bp × List O × Option Ex
 | .L0 ia0=>([(3,vi ia0),(28,V.kb false),(27,vi (↑n4:Int)),(26,V.sl n4 (aa iu f4)),(25,V.pl 0 4),(24,V.kb false),(23,V.agg [vi x2,vi x3]),(22,V.pl 0 2),(21,V.agg [vi x0,vi x1]),(20,V.pl 0 0),(19,V.kb false),(18,V.bool (xX 4 (aa ae (bQ [vi x0,vi x1,vi x2,vi x3] 0 1)))),(17,V.ss 1 0 4 4),(16,vi x3),(15,V.pl 0 3),(14,V.pl 0 2),(13,vi x2),(12,V.pl 0 2),(11,V.pl 0 2),(10,vi x1),(9,V.pl 0 1),(8,V.pl 0 0),(7,vi x0),(6,V.pl 0 0),(5,V.pl 0 0),(2,vi 0),(1,V.pl 0 0),(0,V.agg [vi x0,vi x1,vi x2,vi x3,V.sl n4 (aa iu f4)])],[O.cells [vi x0,vi x1,vi x2,vi x3,V.sl n4 (aa iu f4)] 146,O.cells [vi x0,vi x1,vi x2,vi x3] 3],none)
def anQ:X8->JJ
 | .L0 ia0=>(0,[])
section
variable (x0 x1 x2 x3:Int) (n4:Nat) (f4:ah)
include x0 x1 x2 x3 n4 f4
def ago:T (bN JJ):=aS JJ xj u0 s72 [V.agg [vi x0,vi x1,vi x2,vi x3,V.sl n4 (aa iu f4)]]
def MR (cx:List Cx):Lp JJ:=fb (eL (ago x0 x1 x2 x3 n4 f4) [false,false,false])
def amq:JJ->Lp JJ
 | (0,cx)=>MR x0 x1 x2 x3 n4 f4 cx
 | (_,cx)=>MR x0 x1 x2 x3 n4 f4 cx
def D72:LD JJ X8:=⟨anQ,amq x0 x1 x2 x3 n4 f4,ajD x0 x1 x2 x3 n4 f4⟩
end
def V1 (x0 x1 x2 x3:Int) (n4:Nat) (f4:ah):X8->RT X8
 | .L0 ia0=>.asm (true=true->n4<=9223372036854775807) (.br (decide (ia0 < (↑n4:Int))) (.ob (decide (0<=ia0/\ia0 < (↑n4:Int))) (.obi (.obi (.obi (.obi (.obi (.obi (.obi (.obi (.obi (.obi (.obi (.obi (.obi (.obi (.obi (.obi (.obi (.obi (.obi (.br (bif bif bif bif bif decide (ay (f4 ia0.toNat) < 0) then true else decide (ba (f4 ia0.toNat)<=ay (f4 ia0.toNat)) then true else decide (1000 < ba (f4 ia0.toNat)) then true else decide (cQ (f4 ia0.toNat) < 0) then true else decide (cM (f4 ia0.toNat)<=cQ (f4 ia0.toNat)) then true else decide (1000 < cM (f4 ia0.toNat))) (.ret (vi 7)) (.next [some (some 0),some (some 1)] (X8.L0 (i64.wrap (ia0+1))) [])))))))))))))))))))))) (.ret (vi 0)))
def m72 (x0 x1 x2 x3:Int) (n4:Nat) (f4:ah):RT X8:=.obt (.obt (.obt (.obt (.obc (.obt (.br (!xX 4 (aa ae (bQ [vi x0,vi x1,vi x2,vi x3] 0 1))) (.ret (vi 7)) (.br (x0 == x2 && (x1 == x3 && true)) (.ret (vi 2)) (.asm (true=true->n4<=9223372036854775807) (.br (decide (6 < (↑n4:Int))) (.ret (vi 3)) (.enter [some (some 0),some (some 1)] (X8.L0 (0)) []))))))))))
theorem aib (x0 x1 x2 x3:Int) (n4:Nat) (f4:ah):dR xj u0 (D72 x0 x1 x2 x3 n4 f4) (ago x0 x1 x2 x3 n4 f4) (m72 x0 x1 x2 x3 n4 f4) (V1 x0 x1 x2 x3 n4 f4):=⟨⟨by kernel_rfl,by kernel_rfl⟩,fun s=>by cases s <;> exact ⟨by kernel_rfl,by kernel_rfl⟩⟩
def Ji (l:List V):Bool:=bif bif bif bif bif decide (ay l < 0) then true else decide (ba l<=ay l) then true else decide (1000 < ba l) then true else decide (cQ l < 0) then true else decide (cM l<=cQ l) then true else decide (1000 < cM l)
section
variable (x0 x1 x2 x3:Int) (n4:Nat) (f4:ah)
include x0 x1 x2 x3 n4 f4
def WP:Int:=bif !xX 4 (aa ae (bQ [V.int .i64 x0,V.int .i64 x1,V.int .i64 x2,V.int .i64 x3] 0 ((1+1+1+1 - 0) / 4))) then 7 else bif x0 == x2 && (x1 == x3 && true) then 2 else bif decide (6 < (n4:Int)) then 3 else bif jD n4 (fun i=>Ji (f4 i)) then 7 else 0
theorem abf:aN (Ev (V1 x0 x1 x2 x3 n4 f4)) (m72 x0 x1 x2 x3 n4 f4) (.int .i64 (WP x0 x1 x2 x3 n4 f4)):=by
 unfold WP
 repeat (first | refine af ?_ | refine av ?_)
 refine evBr (fun h0=>evRet (by rw [h0]; rfl)) (fun h0=>?_)
 rw [h0,cond_false]
 refine evBr (fun h1=>evRet (by rw [h1]; rfl)) (fun h1=>?_)
 rw [h1,cond_false]
 refine bk fun hn=>?_
 refine evBr (fun h2=>evRet (by rw [h2]; rfl)) (fun h2=>?_)
 rw [h2,cond_false]
 refine aH (iy hn (fun i=>Ji (f4 i)) (P:=fun i=>Ev (V1 x0 x1 x2 x3 n4 f4) (.L0 i) (.int .i64 (bif jD n4 (fun i=>Ji (f4 i)) then 7 else 0))) (fun i hlt hj next=>Ev.of rfl (bk fun _=>ck hlt (bZ hlt (by
  repeat (first | refine evObi ?_ | refine m5 hlt ?_)
  refine evBr (fun hb=>evRet ?_) (fun hb=>aQ (next hb))
  rw [cP i hlt (show Ji (f4 i)=true from hb)]; rfl))))
  (fun hj=>Ev.of rfl (bk fun _=>cd (evRet ?_))))
 rw [ca hj]; rfl
theorem anH:aN (Ev (V1 x0 x1 x2 x3 n4 f4)) (m72 x0 x1 x2 x3 n4 f4) (.int .i64 (WP x0 x1 x2 x3 n4 (aa iu f4))):=abf x0 x1 x2 x3 n4 f4
end
def C72:aB:=bI [.agg ci] (fun _=>True) fun
 | [.agg [.int _ x0,.int _ x1,.int _ x2,.int _ x3,.sl n4 f4]]=>.int .i64 (WP x0 x1 x2 x3 n4 f4)
 | _=>.any
theorem Vx:(vP C72).Ok Tryz.prog 149:=bY vn Tryz.func149 (by kernel_rfl) fun ds hp=>jE (aib ..) (anH _ _ _ _ _ _)
def Cy:bd:=(205,.con Qu)::(138,.con C65)::(140,.con C67)::(219,.con Oj)::(149,.con C72)::xj
theorem PO:aR Tryz.prog eqs its Cy:=.con Ee (.con Te (.con Vr (.con GF (.con Vx (vn)))))
inductive zh where
 | L0 (ia0:Int)
def afi (n0:Nat) (f0:ah):zh->bp × List O × Option Ex
 | .L0 ia0=>([(8,vi ia0),(7,vi (↑n0:Int)),(6,V.sl n0 (aa b4 f0)),(4,vi 0),(0,V.sl n0 (aa b4 f0)),(1,V.fn 205 [] [])],[],none)
def agU:zh->JJ
 | .L0 ia0=>(0,[])
section
variable (n0:Nat)
include n0
def Ys (f0:ah):T (bN JJ):=aS JJ Cy u0 alL [V.sl n0 (aa b4 f0),V.fn 205 [] []]
def EJ (f0:ah) (cx:List Cx):Lp JJ:=fb (eL (Ys n0 f0) [])
def ajj (f0:ah):JJ->Lp JJ
 | (0,cx)=>EJ n0 f0 cx
 | (_,cx)=>EJ n0 f0 cx
def amw (f0:ah):LD JJ zh:=⟨agU,ajj n0 f0,afi n0 f0⟩
def OX (f0:ah):zh->RT zh
 | .L0 ia0=>.br (decide (ia0 < (↑n0:Int))) (.ob (decide (0<=ia0/\ia0 < (↑n0:Int))) (.obc (.obt (.br (qJ (ay (f0 ia0.toNat)) (ba (f0 ia0.toNat))) (.ret (vi ia0)) (.next [] (zh.L0 (i64.wrap (ia0+1))) []))))) (.ret (vi (-1)))
def aeN (f0:ah):RT zh:=.asm (true=true->n0<=9223372036854775807) (.enter [] (zh.L0 (0)) [])
theorem aa2 (f0:ah):dR Cy u0 (amw n0 f0) (Ys n0 f0) (aeN n0 f0) (OX n0 f0):=⟨⟨by kernel_rfl,by kernel_rfl⟩,fun s=>by cases s <;> exact ⟨by kernel_rfl,by kernel_rfl⟩⟩
def GM (f0:ah):Int  :=vV n0 fun ii=>qJ (ay (f0 ii)) (ba (f0 ii))
theorem Uo (f0:ah):aN (Ev (OX n0 f0)) (aeN n0 f0) (.int .i64 (GM n0 f0)):=bk fun hn=>aH (oE hn fun i=>rfl)
theorem ag8 (f0:ah):aN (Ev (OX n0 f0)) (aeN n0 f0) (.int .i64 (GM n0 (aa b4 f0))):=Uo n0 f0
end
def Vm:aB:=bI [.sl b4,.fn 205 [] []] (fun _=>True) fun
 | [.sl n0 f0,.fn _ [] []]=>.int .i64 (GM n0 f0)
 | _=>.any
theorem yaR:(vP Vm).Ok Tryz.prog 253:=bY PO Tryz.func253 (by kernel_rfl) fun ds hp=>jE (aa2 ..) (ag8 _ _)
inductive WX where
 | L0 (ia0:Int)
def ah3 (n0:Nat) (f0:ah):WX->bp × List O × Option Ex
 | .L0 ia0=>([(11,vi ia0),(10,vi (↑n0:Int)),(9,V.sl n0 (aa ce f0)),(5,vi 0),(4,vi 0),(0,V.sl n0 (aa ce f0)),(1,V.fn 138 [] [])],[],none)
def amm:WX->JJ
 | .L0 ia0=>(0,[])
section
variable (n0:Nat) (f0:ah)
include n0 f0
def ait:T (bN JJ):=aS JJ Cy u0 s64 [V.sl n0 (aa ce f0),V.fn 138 [] []]
def Px (cx:List Cx):Lp JJ:=fb (eL (ait n0 f0) [])
def al0:JJ->Lp JJ
 | (0,cx)=>Px n0 f0 cx
 | (_,cx)=>Px n0 f0 cx
def D64:LD JJ WX:=⟨amm,al0 n0 f0,ah3 n0 f0⟩
def ab2:WX->RT WX
 | .L0 ia0=>.br (decide (ia0 < (↑n0:Int))) (.ob (decide (0<=ia0/\ia0 < (↑n0:Int))) (.ob (decide (0<=ia0/\ia0<=(↑n0:Int))) (.obc (.obt (.br (mq (ay (f0 ia0.toNat)) (ba (f0 ia0.toNat)) (cQ (f0 ia0.toNat)) (cM (f0 ia0.toNat)) (cv (f0 ia0.toNat)) != 0) (.ret (V.tup [vi ia0,vi (mq (ay (f0 ia0.toNat)) (ba (f0 ia0.toNat)) (cQ (f0 ia0.toNat)) (cM (f0 ia0.toNat)) (cv (f0 ia0.toNat)))])) (.next [] (WX.L0 (i64.wrap (ia0+1))) [])))))) (.ret (V.tup [vi 0,vi 0]))
end
def m64 (n0:Nat) (f0:ah):RT WX:=.asm (true=true->n0<=9223372036854775807) (.enter [] (WX.L0 (0)) [])
theorem ahc (n0:Nat) (f0:ah):dR Cy u0 (D64 n0 f0) (ait n0 f0) (m64 n0 f0) (ab2 n0 f0):=⟨⟨by kernel_rfl,by kernel_rfl⟩,fun s=>by cases s <;> exact ⟨by kernel_rfl,by kernel_rfl⟩⟩
def c64 (n0:Nat) (f0:ah) (ii:Nat):Int:=(mq (ay (f0 ii)) (ba (f0 ii)) (cQ (f0 ii)) (cM (f0 ii)) (cv (f0 ii)))
section
variable (n0:Nat) (f0:ah)
include n0 f0
def vq:Int:=eW n0 (c64 n0 f0)
def nP:Int:=de n0 (c64 n0 f0)
theorem aac:aN (Ev (ab2 n0 f0)) (m64 n0 f0) (.tup [.int .i64 (vq n0 f0),.int .i64 (nP n0 f0)]):=bk fun hn=>aH (o6 (Q:=fun _=>True) (fun _ x=>.obc (.obt x)) (fun i x r h hx=>av (af hx)) (fun _ _=>rfl) hn (fun _ _=>trivial) fun i=>rfl)
theorem am5:aN (Ev (ab2 n0 f0)) (m64 n0 f0) (.tup [.int .i64 (vq n0 (aa ce f0)),.int .i64 (nP n0 (aa ce f0))]):=aac n0 f0
end
def C64:aB:=bI [.sl ce,.fn 138 [] []] (fun _=>True) fun
 | [.sl n0 f0,.fn _ [] []]=>.tup [.int .i64 (vq n0 f0),.int .i64 (nP n0 f0)]
 | _=>.any
theorem aaD:(vP C64).Ok Tryz.prog 137:=bY PO Tryz.func137 (by kernel_rfl) fun ds hp=>jE (ahc ..) (am5 _ _)
inductive WJ where
 | L0 (ia0:Int)
def ah4 (n0:Nat) (f0:ah):WJ->bp × List O × Option Ex
 | .L0 ia0=>([(11,vi ia0),(10,vi (↑n0:Int)),(9,V.sl n0 (aa ci f0)),(5,vi 0),(4,vi 0),(0,V.sl n0 (aa ci f0)),(1,V.fn 140 [] [])],[],none)
def amF:WJ->JJ
 | .L0 ia0=>(0,[])
section
variable (n0:Nat) (f0:ah)
include n0 f0
def aiT:T (bN JJ):=aS JJ Cy u0 s66 [V.sl n0 (aa ci f0),V.fn 140 [] []]
def KM (cx:List Cx):Lp JJ:=fb (eL (aiT n0 f0) [])
def ana:JJ->Lp JJ
 | (0,cx)=>KM n0 f0 cx
 | (_,cx)=>KM n0 f0 cx
def D66:LD JJ WJ:=⟨amF,ana n0 f0,ah4 n0 f0⟩
def adv:WJ->RT WJ
 | .L0 ia0=>.br (decide (ia0 < (↑n0:Int))) (.ob (decide (0<=ia0/\ia0 < (↑n0:Int))) (.ob (decide (0<=ia0/\ia0<=(↑n0:Int))) (.obc (.obt (.br ((yai (ay (f0 ia0.toNat)) (ba (f0 ia0.toNat)) (cQ (f0 ia0.toNat)) (cM (f0 ia0.toNat)) (au (hdV (ab (ab (ab (ab (f0 ia0.toNat))))))) fun i=>ao iu (bj (hdV (ab (ab (ab (ab (f0 ia0.toNat)))))) i)) != 0) (.ret (V.tup [vi ia0,vi (yai (ay (f0 ia0.toNat)) (ba (f0 ia0.toNat)) (cQ (f0 ia0.toNat)) (cM (f0 ia0.toNat)) (au (hdV (ab (ab (ab (ab (f0 ia0.toNat))))))) fun i=>ao iu (bj (hdV (ab (ab (ab (ab (f0 ia0.toNat)))))) i))])) (.next [] (WJ.L0 (i64.wrap (ia0+1))) [])))))) (.ret (V.tup [vi 0,vi 0]))
end
def m66 (n0:Nat) (f0:ah):RT WJ:=.asm (true=true->n0<=9223372036854775807) (.enter [] (WJ.L0 (0)) [])
theorem ahx (n0:Nat) (f0:ah):dR Cy u0 (D66 n0 f0) (aiT n0 f0) (m66 n0 f0) (adv n0 f0):=⟨⟨by kernel_rfl,by kernel_rfl⟩,fun s=>by cases s <;> exact ⟨by kernel_rfl,by kernel_rfl⟩⟩
def c66 (n0:Nat) (f0:ah) (ii:Nat):Int:=(yai (ay (f0 ii)) (ba (f0 ii)) (cQ (f0 ii)) (cM (f0 ii)) (au (hdV (ab (ab (ab (ab (f0 ii))))))) fun i=>ao iu (bj (hdV (ab (ab (ab (ab (f0 ii)))))) i))
section
variable (n0:Nat) (f0:ah)
include n0 f0
def wd:Int:=eW n0 (c66 n0 f0)
def nA:Int:=de n0 (c66 n0 f0)
theorem ab0:aN (Ev (adv n0 f0)) (m66 n0 f0) (.tup [.int .i64 (wd n0 f0),.int .i64 (nA n0 f0)]):=bk fun hn=>aH (o6 (Q:=fun _=>True) (fun _ x=>.obc (.obt x)) (fun i x r h hx=>av (af hx)) (fun _ _=>rfl) hn (fun _ _=>trivial) fun i=>rfl)
theorem al8:aN (Ev (adv n0 f0)) (m66 n0 f0) (.tup [.int .i64 (wd n0 (aa ci f0)),.int .i64 (nA n0 (aa ci f0))]):=ab0 n0 f0
end
def C66:aB:=bI [.sl ci,.fn 140 [] []] (fun _=>True) fun
 | [.sl n0 f0,.fn _ [] []]=>.tup [.int .i64 (wd n0 f0),.int .i64 (nA n0 f0)]
 | _=>.any
theorem acq:(vP C66).Ok Tryz.prog 139:=bY PO Tryz.func139 (by kernel_rfl) fun ds hp=>jE (ahx ..) (al8 _ _)
end
end Go.Dx
namespace Go.Proofs
open Go.Shelf
def Tryz.lays160_ren:Go.Shelf.Ren:=⟨fun | 160=>251 | 232=>277 | 231=>276 | 227=>278 | 234=>280 | 233=>279 | 236=>282 | 235=>281 | 228=>305 | 271=>308 | 151=>307 | 197=>306 | 120=>319 | 152=>318 | 260=>317 | 137=>330 | 119=>331 | 224=>332 | 225=>333 | 217=>339 | 266=>341 | n=>n,fun | 9=>9 | 4=>4 | 3=>3 | 5=>5 | 117=>311 | 116=>310 | 0=>0 | 124=>314 | 21=>21 | 105=>342 | 46=>315 | 119=>363 | 139=>366 | 138=>365 | n=>n,fun | 3=>0 | 4=>1 | n=>n⟩
theorem Tryz.lays160:Go.Proofs.Lays.n160 Tryz.prog Tryz.lays160_ren:={
 mixed:=by kernel_rfl
 f119:=Tryz.func331.trans (congrArg some (by kernel_rfl))
 f120:=Tryz.func319.trans (congrArg some (by kernel_rfl))
 f137:=Tryz.func330.trans (congrArg some (by kernel_rfl))
 f151:=Tryz.func307.trans (congrArg some (by kernel_rfl))
 f152:=Tryz.func318.trans (congrArg some (by kernel_rfl))
 f160:=Tryz.func251.trans (congrArg some (by kernel_rfl))
 f197:=Tryz.func306.trans (congrArg some (by kernel_rfl))
 f217:=Tryz.func339.trans (congrArg some (by kernel_rfl))
 f224:=Tryz.func332.trans (congrArg some (by kernel_rfl))
 f225:=Tryz.func333.trans (congrArg some (by kernel_rfl))
 f227:=Tryz.func278.trans (congrArg some (by kernel_rfl))
 f228:=Tryz.func305.trans (congrArg some (by kernel_rfl))
 f231:=Tryz.func276.trans (congrArg some (by kernel_rfl))
 f232:=Tryz.func277.trans (congrArg some (by kernel_rfl))
 f233:=Tryz.func279.trans (congrArg some (by kernel_rfl))
 f234:=Tryz.func280.trans (congrArg some (by kernel_rfl))
 f235:=Tryz.func281.trans (congrArg some (by kernel_rfl))
 f236:=Tryz.func282.trans (congrArg some (by kernel_rfl))
 f260:=Tryz.func317.trans (congrArg some (by kernel_rfl))
 f266:=Tryz.func341.trans (congrArg some (by kernel_rfl))
 f271:=Tryz.func308.trans (congrArg some (by kernel_rfl))
 t0:=Tryz.underlying0
 a0:=Tryz.isAgg0
 z0:=Tryz.sizeOf0
 v0:=Tryz.zeroValue0
 t3:=Tryz.underlying3
 a3:=Tryz.isAgg3
 z3:=Tryz.sizeOf3
 v3:=Tryz.zeroValue3
 t4:=Tryz.underlying4
 a4:=Tryz.isAgg4
 z4:=Tryz.sizeOf4
 v4:=Tryz.zeroValue4
 t5:=Tryz.underlying5
 a5:=Tryz.isAgg5
 z5:=Tryz.sizeOf5
 v5:=Tryz.zeroValue5
 t9:=Tryz.underlying9
 a9:=Tryz.isAgg9
 z9:=Tryz.sizeOf9
 v9:=Tryz.zeroValue9
 t21:=Tryz.underlying21
 a21:=Tryz.isAgg21
 z21:=Tryz.sizeOf21
 v21:=Tryz.zeroValue21
 t46:=Tryz.underlying315
 a46:=Tryz.isAgg315
 z46:=Tryz.sizeOf315
 v46:=Tryz.zeroValue315
 t105:=Tryz.underlying342
 a105:=Tryz.isAgg342
 z105:=Tryz.sizeOf342
 v105:=Tryz.zeroValue342
 t116:=Tryz.underlying310
 a116:=Tryz.isAgg310
 z116:=Tryz.sizeOf310
 t117:=Tryz.underlying311
 a117:=Tryz.isAgg311
 z117:=Tryz.sizeOf311
 v117:=Tryz.zeroValue311
 t119:=Tryz.underlying363
 a119:=Tryz.isAgg363
 z119:=Tryz.sizeOf363
 t124:=Tryz.underlying314
 a124:=Tryz.isAgg314
 z124:=Tryz.sizeOf314
 v124:=Tryz.zeroValue314
 t138:=Tryz.underlying365
 a138:=Tryz.isAgg365
 z138:=Tryz.sizeOf365
 v138:=Tryz.zeroValue365
 t139:=Tryz.underlying366
 a139:=Tryz.isAgg366
 z139:=Tryz.sizeOf366
 v139:=Tryz.zeroValue366
 g3:=by kernel_rfl
 g4:=by kernel_rfl }
end Go.Proofs
namespace Go.Dx
open Go.IntKind (i64 u64 u8)
open Go.Sx Go.Proofs Go.Shelf Go.RowKit
noncomputable section
def TB:ByteArray:=⟨#[97,98,99,100,101,102,103,104,105,106,107,108,109,110,111,112,113,114,115,116,117,118,119,120,121,122,48,49,50,51,52,53,54,55,56,57,45]⟩
def vm (s c:ByteArray):ByteArray:=⟨(Lib.trimS s.data.toList c.data.toList).toArray⟩
def Mg:aB:=bI [.str,.str] (fun
 | [.str s,.str c]=>s.size<=9223372036854775807/\c=TB
 | _=>False) fun
 | [.str s,.str c]=>.str (vm s c)
 | _=>.any
theorem Cn (s:ByteArray) (w:World) (hs:s.size<=9223372036854775807):Calls Tryz.prog 251 #[.string s,.string TB] w fun e w'=>e=.returned (.string (vm s TB))/\Below w.heap.size w w' :=
 Any.strings_Trim_laid Tryz.lays160 (by kernel_rfl) s TB w hs (by decide) (ascii_of_all (by decide))
theorem aW.below {B:cN} {m:aD} {lh:List ap} {w w':World} (h:aW B m lh w) (hb:Below w.heap.size w w'):aW B m lh w':=by
 obtain ⟨h1,h2,h3,h4,h5⟩:=hb
 have hsz:B.w0.heap.size<=w'.heap.size:=Nat.le_trans h.size h4
 refine ⟨h1.trans h.os,h2.trans h.tape,h3.trans h.output,hsz,fun b hb=>(h5 b (Nat.lt_of_lt_of_le hb h.size)).trans (h.old b hb),Nat.le_trans h.fsize h4,fun b hb ho=>(h5 b (Nat.lt_of_lt_of_le hb h.fsize)).trans (h.kept b hb ho),fun k cs ty hk=>?_,h.inj,h.dom,h.dead,fun k b hk=>Nat.lt_of_lt_of_le (h.rng k b hk) h4⟩
 obtain ⟨b,vs,g1,g2,g3,g4⟩:=h.loc k cs ty hk
 exact ⟨b,vs,g1,g2,(h5 b (h.rng k b g1)).trans g3,g4⟩
theorem LK:(vP Mg).Ok Tryz.prog 251:=by
 refine ⟨fun B m lh w args vs K hrel hargs hsp=>?_,fun _ _ _ _ _ hk ⟨ds,d,p,r,h1,h2,h3,h4,h5⟩=>⟨ds,d,p,r,h1,h2,h3,h4,hk _ _ h5⟩,fun _ _ _ _ ⟨_,_,_,_,_,_,_,_,h⟩=>h⟩
 obtain ⟨ds,d,p,r,h1,h2,⟨h30,h3⟩,h4,h5⟩:=hsp
 simp only [Mg,bI,Option.some.injEq,Prod.mk.injEq] at h2
 obtain ⟨rfl,rfl,rfl⟩:=h2
 have hty:=(iz [.str,.str] ds [] [] rfl h30).1
 simp only [bl,cD] at hty
 obtain ⟨e1,e2,e3,e4,e5⟩:=hty
 rw [e5] at e3
 rw [e3,e2,e4] at e1
 generalize sv (hdV ds)=s at e1
 generalize sv (hdV (ab ds))=c at e1
 subst e1
 simp only [jq,unq] at h3 h4 h5
 obtain ⟨hs,rfl⟩:=h3
 simp only [bf,vr] at h1
 obtain ⟨_,_,rfl,rfl,_,_,rfl,rfl,rfl⟩:=h1
 simp only [aw,vrel] at hargs
 obtain ⟨_,_,rfl,rfl,_,_,rfl,rfl,rfl⟩:=hargs
 refine ⟨⟨_,Tryz.func251,by kernel_rfl,by kernel_rfl⟩,(Cn s w hs).mono fun e w' ⟨he,hb⟩=>?_⟩
 exact ⟨_,_,m,lh,he,by simp only [cn,vrel],gJ.refl _ _,aW.below hrel hb,h5⟩
theorem Fw (s:ByteArray) (h:(!s.toList == (⟨#[]⟩:ByteArray).toList)=true):(0:Int) < (s.size:Int):=by
 have e:(⟨#[]⟩:ByteArray).toList=[]:=by decide +kernel
 by_cases hz:s.size=0
 ·have:s=⟨#[]⟩:=by
   cases s with | mk d=>
   have:d=#[]:=Array.eq_empty_of_size_eq_zero hz
   rw [this]
  rw [this,e] at h; cases h
 ·omega
end
end Go.Dx
namespace Go.Dx
open Go.IntKind (i64 u64 u8)
open Go.Sx Go.Proofs
noncomputable section
def GK:bd:=[(253,.con Vm),(137,.con C64),(139,.con C66),(205,.con Qu),(138,.con C65),(140,.con C67),(219,.con Oj),(149,.con C72),(206,.con C45),(208,.con C90),(213,.con O4),(215,.con Jf),(152,.con C99),(252,.con Na),(254,.con IY),(255,.con Pg),(204,.con Mj),(212,.con MY),(214,.con Kh),(147,.con C51),(221,.con Pd),(250,.con Mf),(161,.con C86),(148,.con C71),(309,.con U7),(251,.con Mg)]
theorem GA:aR Tryz.prog eqs its GK:=.con yaR (.con aaD (.con acq (.con Ee (.con Te (.con Vr (.con GF (.con Vx (.con QR (.con Ug (.con Gj (.con Ea (.con UA (.con Dh (.con E8 (.con DT (.con E7 (.con EK (.con Ge (.con Tg (.con D7 (.con yay (.con OH (.con VU (.con Mi (.con LK (.nil))))))))))))))))))))))))))
section
variable (n0:Nat) (f0:ah)
include n0 f0
def afP:RT Empty:=.obc (.obt (.ret (V.bool (decide (0<=GM n0 (aa b4 f0))))))
theorem ac9:dh dm (aS JJ GK u0 anB [V.sl n0 (aa b4 f0),V.fn 205 [] []]) (afP n0 f0):=⟨by kernel_rfl,by kernel_rfl⟩
def jv:Bool:=decide (0<=GM n0 (aa b4 f0))
def ab8:V:=.bool (jv n0 f0)
theorem ajJ:aN cr (afP n0 f0) (ab8 n0 f0):=av (af (evRet (by unfold ab8 jv; rfl)))
end
def R6:aB:=bI [.sl b4,.fn 205 [] []] (fun _=>True) fun
 | [.sl n0 f0,.fn _ [] []]=>ab8 n0 f0
 | _=>.any
theorem Kj:(vP R6).Ok Tryz.prog 209:=bY GA Tryz.func209 (by kernel_rfl) fun ds hp=>dG (ac9 ..) (ajJ _ _)
section
variable (s0:ByteArray)
include s0
def agv:RT Empty:=.obp (s0.size<=(9223372036854775807:Nat)/\ByteArray.mk (Array.mk [(97:UInt8),(98:UInt8),(99:UInt8),(100:UInt8),(101:UInt8),(102:UInt8),(103:UInt8),(104:UInt8),(105:UInt8),(106:UInt8),(107:UInt8),(108:UInt8),(109:UInt8),(110:UInt8),(111:UInt8),(112:UInt8),(113:UInt8),(114:UInt8),(115:UInt8),(116:UInt8),(117:UInt8),(118:UInt8),(119:UInt8),(120:UInt8),(121:UInt8),(122:UInt8),(48:UInt8),(49:UInt8),(50:UInt8),(51:UInt8),(52:UInt8),(53:UInt8),(54:UInt8),(55:UInt8),(56:UInt8),(57:UInt8),(45:UInt8)])=ByteArray.mk (Array.mk [(97:UInt8),(98:UInt8),(99:UInt8),(100:UInt8),(101:UInt8),(102:UInt8),(103:UInt8),(104:UInt8),(105:UInt8),(106:UInt8),(107:UInt8),(108:UInt8),(109:UInt8),(110:UInt8),(111:UInt8),(112:UInt8),(113:UInt8),(114:UInt8),(115:UInt8),(116:UInt8),(117:UInt8),(118:UInt8),(119:UInt8),(120:UInt8),(121:UInt8),(122:UInt8),(48:UInt8),(49:UInt8),(50:UInt8),(51:UInt8),(52:UInt8),(53:UInt8),(54:UInt8),(55:UInt8),(56:UInt8),(57:UInt8),(45:UInt8)])) (.obt (.obi (.obi (.obi (.obi (.obi (.obi (.obj (bif bif !s0.toList == (ByteArray.mk (Array.mk [])).toList then decide ((↑s0.size:Int)<=24) else false then (vm s0 (ByteArray.mk (Array.mk [97,98,99,100,101,102,103,104,105,106,107,108,109,110,111,112,113,114,115,116,117,118,119,120,121,122,48,49,50,51,52,53,54,55,56,57,45]))).toList == (ByteArray.mk (Array.mk [])).toList else false) (decide ((0:Int)<=0/\0 < (↑s0.size:Int))) (.obi (.obi (.obi (.obj (bif bif bif !s0.toList == (ByteArray.mk (Array.mk [])).toList then decide ((↑s0.size:Int)<=24) else false then (vm s0 (ByteArray.mk (Array.mk [97,98,99,100,101,102,103,104,105,106,107,108,109,110,111,112,113,114,115,116,117,118,119,120,121,122,48,49,50,51,52,53,54,55,56,57,45]))).toList == (ByteArray.mk (Array.mk [])).toList else false then decide (97<=(↑(s0.data.1.getD 0 0).toNat:Int)) else false) (decide ((0:Int)<=0/\0 < (↑s0.size:Int))) (.obi (.obi (.ret (V.bool (bif bif bif bif !s0.toList == (ByteArray.mk (Array.mk [])).toList then decide ((↑s0.size:Int)<=24) else false then (vm s0 (ByteArray.mk (Array.mk [97,98,99,100,101,102,103,104,105,106,107,108,109,110,111,112,113,114,115,116,117,118,119,120,121,122,48,49,50,51,52,53,54,55,56,57,45]))).toList == (ByteArray.mk (Array.mk [])).toList else false then decide (97<=(↑(s0.data.1.getD 0 0).toNat:Int)) else false then decide ((↑(s0.data.1.getD 0 0).toNat:Int)<=122) else false)))))))))))))))))
theorem aem:dh dm (aS JJ GK u0 am6 [V.str s0]) (agv s0):=⟨by kernel_rfl,by kernel_rfl⟩
def lQ:Bool:=bif bif bif bif !s0.toList == (ByteArray.mk (Array.mk [])).toList then decide ((↑s0.size:Int)<=24) else false then (vm s0 (ByteArray.mk (Array.mk [97,98,99,100,101,102,103,104,105,106,107,108,109,110,111,112,113,114,115,116,117,118,119,120,121,122,48,49,50,51,52,53,54,55,56,57,45]))).toList == (ByteArray.mk (Array.mk [])).toList else false then decide (97<=(↑(s0.data.1.getD 0 0).toNat:Int)) else false then decide ((↑(s0.data.1.getD 0 0).toNat:Int)<=122) else false
def aei:V:=.bool (lQ s0)
theorem ai9 (hp:s0.size<=9223372036854775807):aN cr (agv s0) (aei s0):=aC (by first | assumption | (exact ⟨hp,rfl⟩)) (af (evObi (evObi (evObi (evObi (evObi (evObi (evObj (by first | assumption | (intro h; refine dqt ⟨Int.le_refl 0,Fw s0 ?_⟩; cases hb:(!s0.toList == (⟨#[]⟩:ByteArray).toList) with | true=>rfl | false=>(rw [hb] at h; simp at h))) (evObi (evObi (evObi (evObj (by first | assumption | (intro h; refine dqt ⟨Int.le_refl 0,Fw s0 ?_⟩; cases hb:(!s0.toList == (⟨#[]⟩:ByteArray).toList) with | true=>rfl | false=>(rw [hb] at h; simp at h))) (evObi (evObi (evRet (by unfold aei lQ; rfl))))))))))))))))
end
def Uh:aB:=bI [.str] (fun
 | [.str s0]=>s0.size<=9223372036854775807
 | _=>False) fun
 | [.str s0]=>aei s0
 | _=>.any
theorem OY:(vP Uh).Ok Tryz.prog 207:=bY GA Tryz.func207 (by kernel_rfl) fun ds hp=>dG (aem ..) (ai9 _ hp)
inductive YW where
 | L0 (ia0:Int)
def ahU (n0:Nat) (f0:ah) (n2:Nat) (f2:ah) (n4:Nat) (f4:ah) (n6:Nat) (f6:ah) (x8:Int):YW->bp × List O × Option Ex
 | .L0 ia0=>([(6,vi ia0),(15,V.kb false),(14,V.bool (kH (sv (hdV (f6 x8.toNat))))),(13,V.str (sv (hdV (f6 x8.toNat)))),(12,V.pl 0 0),(5,V.pl 0 0),(11,V.agg [V.str (sv (hdV (f6 x8.toNat))),vi (ba (f6 x8.toNat)),vi (cQ (f6 x8.toNat)),vi (cM (f6 x8.toNat)),vi (cv (f6 x8.toNat)),vi (be (f6 x8.toNat))]),(10,V.pd [V.str (sv (hdV (f6 x8.toNat))),vi (ba (f6 x8.toNat)),vi (cQ (f6 x8.toNat)),vi (cM (f6 x8.toNat)),vi (cv (f6 x8.toNat)),vi (be (f6 x8.toNat))]),(9,vi x8),(8,V.sl n6 (aa aT f6)),(7,V.pl 1 3),(4,vi 0),(2,V.pl 1 0),(0,HL n0 f0 n2 f2 n4 f4 n6 f6),(1,vi x8)],[O.cells [V.str (sv (hdV (f6 x8.toNat))),vi (ba (f6 x8.toNat)),vi (cQ (f6 x8.toNat)),vi (cM (f6 x8.toNat)),vi (cv (f6 x8.toNat)),vi (be (f6 x8.toNat))] 82,O.cells [V.sl n0 (aa bF f0),V.sl n2 (aa ce f2),V.sl n4 (aa ci f4),V.sl n6 (aa aT f6)] 31],none)
def ane:YW->JJ
 | .L0 ia0=>(0,[])
section
variable (n0:Nat) (f0:ah) (n2:Nat) (f2:ah) (n4:Nat) (f4:ah) (n6:Nat) (f6:ah) (x8:Int)
include n0 f0 n2 f2 n4 f4 n6 f6 x8
def agN:T (bN JJ):=aS JJ GK u0 s73 [HL n0 f0 n2 f2 n4 f4 n6 f6,vi x8]
def NK (cx:List Cx):Lp JJ:=fb (eL (agN n0 f0 n2 f2 n4 f4 n6 f6 x8) [false])
def am3:JJ->Lp JJ
 | (0,cx)=>NK n0 f0 n2 f2 n4 f4 n6 f6 x8 cx
 | (_,cx)=>NK n0 f0 n2 f2 n4 f4 n6 f6 x8 cx
def D73:LD JJ YW:=⟨ane,am3 n0 f0 n2 f2 n4 f4 n6 f6 x8,ahU n0 f0 n2 f2 n4 f4 n6 f6 x8⟩
end
def ybf (n0:Nat) (f0:ah) (n2:Nat) (f2:ah) (n4:Nat) (f4:ah) (n6:Nat) (f6:ah) (x8:Int):YW->RT YW
 | .L0 ia0=>.br (decide (ia0 < x8)) (.ob (decide (0<=ia0/\ia0 < (↑n6:Int))) (.br ((sv (hdV (f6 ia0.toNat))).toList == (sv (hdV (f6 x8.toNat))).toList) (.ret (vi 5)) (.next [some (some 0),some (some 1)] (YW.L0 (i64.wrap (ia0+1))) []))) (.obc (.obt (.obi (.br (!!xX 2 (aa ae (bQ [vi (ba (f6 x8.toNat)),vi (cQ (f6 x8.toNat))] 0 1))) (.ob (!!xX 2 (aa ae (bQ [vi (ba (f6 x8.toNat)),vi (cQ (f6 x8.toNat))] 0 1))) (.obc (.obt (.obi (.br (!!dn (cM (f6 x8.toNat)) 1 200) (.ob (!!dn (cM (f6 x8.toNat)) 1 200) (.obc (.obt (.obi (.br (!!dn (cv (f6 x8.toNat)) (-1000) 1000) (.ob (!!dn (cv (f6 x8.toNat)) (-1000) 1000) (.obc (.obt (.br (!dn (be (f6 x8.toNat)) (-1000) 1000) (.ret (vi 7)) (.obi (.obi (.obi (.br (bif cv (f6 x8.toNat) == 0 then be (f6 x8.toNat) == 0 else false) (.ret (vi 2)) (.ret (vi 0)))))))))) (.ret (vi 7))))))) (.ret (vi 7))))))) (.ret (vi 7))))))
def m73 (n0:Nat) (f0:ah) (n2:Nat) (f2:ah) (n4:Nat) (f4:ah) (n6:Nat) (f6:ah) (x8:Int):RT YW:=.ob (decide (0<=x8/\x8 < (↑n6:Int))) (.obp ((sv (hdV (f6 x8.toNat))).size<=(9223372036854775807:Nat)) (.obt (.br (!kH (sv (hdV (f6 x8.toNat)))) (.ret (vi 6)) (.enter [some (some 1),some (some 0)] (YW.L0 (0)) []))))
theorem agh (n0:Nat) (f0:ah) (n2:Nat) (f2:ah) (n4:Nat) (f4:ah) (n6:Nat) (f6:ah) (x8:Int):dR GK u0 (D73 n0 f0 n2 f2 n4 f4 n6 f6 x8) (agN n0 f0 n2 f2 n4 f4 n6 f6 x8) (m73 n0 f0 n2 f2 n4 f4 n6 f6 x8) (ybf n0 f0 n2 f2 n4 f4 n6 f6 x8):=⟨⟨by kernel_rfl,by kernel_rfl⟩,fun s=>by cases s <;> exact ⟨by kernel_rfl,by kernel_rfl⟩⟩
def Ve (x y h dx dy:Int):Int:=bif bif bif bif !xX 2 (aa ae (bQ [V.int .i64 x,V.int .i64 y] 0 ((1+1 - 0) / 2))) then true else !dn h 1 200 then true else !dn dx (-1000) 1000 then true else !dn dy (-1000) 1000 then 7 else bif bif dx == 0 then dy == 0 else false then 2 else 0
def Uv (n6:Nat) (f6:ah) (x8:Int):Int:=bif !kH (sv (hdV (f6 x8.toNat))) then 6 else bif jD x8.toNat (fun k=>(sv (hdV (f6 k))).toList == (sv (hdV (f6 x8.toNat))).toList) then 5 else Ve (ba (f6 x8.toNat)) (cQ (f6 x8.toNat)) (cM (f6 x8.toNat)) (cv (f6 x8.toNat)) (be (f6 x8.toNat))
section
variable (n0:Nat) (f0:ah) (n2:Nat) (f2:ah) (n4:Nat) (f4:ah) (n6:Nat) (f6:ah) (x8:Int)
include n0 f0 n2 f2 n4 f4 n6 f6 x8
theorem adN (hp:0<=x8/\x8 < n6/\n6<=9223372036854775807/\aE n6 f6):aN (Ev (ybf n0 f0 n2 f2 n4 f4 n6 f6 x8)) (m73 n0 f0 n2 f2 n4 f4 n6 f6 x8) (.int .i64 (Uv n6 f6 x8)):=by
 obtain ⟨h0,h1,h2,h3⟩:=hp
 obtain ⟨k,rfl⟩:∃ k:Nat,x8=(k:Int):=⟨x8.toNat,by omega⟩
 have hk:k < n6:=by omega
 refine bZ hk (aC (h3 k hk) (af ?_))
 unfold Uv
 simp only [Int.toNat_natCast]
 refine evBr (fun h=>evRet (by rw [show (!kH (sv (hdV (f6 k))))=true from h]; rfl)) (fun h=>?_)
 rw [show (!kH (sv (hdV (f6 k))))=false from h,cond_false]
 refine aH (iy (n:=k) (by omega) (fun i=>(sv (hdV (f6 i))).toList == (sv (hdV (f6 k))).toList) (P:=fun i=>Ev (ybf n0 f0 n2 f2 n4 f4 n6 f6 (k:Int)) (.L0 i) _) (fun i hlt hj next=>Ev.of rfl (ck hlt (bZ (by omega) (evBr (fun hb=>evRet ?_) (fun hb=>aQ (next hb))))))
  (fun hj=>Ev.of rfl (cd ?_)))
 ·rw [cP i hlt hb]; rfl
 ·rw [ca hj,cond_false]
  unfold Ve
  refine av (af (evObi (evBr (fun h=>aM h (av (af (evObi (evBr (fun h'=>aM h' (av (af (evObi (evBr (fun h''=>aM h'' (av (af (evBr (fun h3=>evRet ?_) (fun h3=>?_))))) (fun h''=>evRet ?_)))))) (fun h'=>evRet ?_)))))) (fun h=>evRet ?_))))
  all_goals try simp only [Int.toNat_natCast] at *
  ·rw [ng h,ng h',ng h'',h3]; rfl
  ·rw [ng h,ng h',ng h'',h3]
   repeat refine evObi ?_
   refine evBr (fun h4=>evRet ?_) (fun h4=>evRet ?_) <;> (simp only [cond_false]; rw [h4]; rfl)
  ·rw [ng h,ng h',ng' h'']; rfl
  ·rw [ng h,ng' h']; rfl
  ·rw [ng' h]; rfl
theorem anO (hp:0<=x8/\x8 < n6/\n6<=9223372036854775807/\aE n6 (aa aT f6)):aN (Ev (ybf n0 f0 n2 f2 n4 f4 n6 f6 x8)) (m73 n0 f0 n2 f2 n4 f4 n6 f6 x8) (.int .i64 (Uv n6 (aa aT f6) x8)):=adN n0 f0 n2 f2 n4 f4 n6 f6 x8 hp
end
def C73:aB:=bI [.agg [.sl bF,.sl ce,.sl ci,.sl aT],tI] (fun
 | [.agg [.sl n0 f0,.sl n2 f2,.sl n4 f4,.sl n6 f6],.int _ x8]=>0<=x8/\x8 < n6/\n6<=9223372036854775807/\aE n6 f6
 | _=>False) fun
 | [.agg [.sl n0 f0,.sl n2 f2,.sl n4 f4,.sl n6 f6],.int _ x8]=>.int .i64 (Uv n6 f6 x8)
 | _=>.any
theorem abO:(vP C73).Ok Tryz.prog 150:=bY GA Tryz.func150 (by kernel_rfl) fun ds hp=>jE (agh ..) (anO _ _ _ _ _ _ _ _ _ hp)
def pJ:bd:=(211,.inl aeo u0)::(210,.inl ZP u0)::(209,.con R6)::(207,.con Uh)::(150,.con C73)::GK
theorem B1:aR Tryz.prog eqs its pJ:=fU Tryz.func211 (by kernel_rfl) (fU Tryz.func210 (by kernel_rfl) (.con Kj (.con OY (.con abO (GA)))))
inductive qo where
 | L0 (ia0:Int) (fa1:Nat->List V)
 | L1 (ib0:Int) (fb1:Nat->List V)
 | L2 (ic0:Int) (fc1:Nat->List V)
 | L3 (id0:Int) (fd1:Nat->List V)
 | L4 (ie0:Int) (ne1 ne2:Nat) (ie3 ie4 ie5:Int) (ne6:Nat) (ie7 ie8 ie9 ie10:Int) (fe11:Nat->List V)
 | L5 (if0:Int) (nf1 nf2:Nat) (if3 if4 if5:Int) (nf6:Nat) (if7 if8 if9 if10:Int) (ff11:Nat->List V)
 | L6 (ig0:Int) (ng1 ng2:Nat) (ig3 ig4 ig5:Int) (ng6:Nat) (ig7 ig8 ig9 ig10:Int) (fg11:Nat->List V)
 | L7 (ih0:Int) (nh1 nh2:Nat) (ih3 ih4 ih5:Int) (nh6:Nat) (ih7 ih8 ih9 ih10:Int) (fh11:Nat->List V)
def z6 (n0:Nat) (f0:ah) (s2:ByteArray) (x3:Int) (n4:Nat) (f4:ah) (x6:Int):qo->bp × List O × Option Ex
 | .L0 ia0 fa1=>([(3,vi ia0),(8,V.kb false),(7,vi (↑n4:Int)),(6,V.gs 2 n4),(2,V.ns),(0,V.gs 2 n4)],[O.cells [V.str s2,vi x3,V.sl n4 (aa b4 f4),vi x6] 189,O.hid,O.gl 2 n4 (aa b4 fa1) 45],none)
 | .L1 ib0 fb1=>([(3,vi ib0),(8,V.kb false),(7,vi (↑n4:Int)),(6,V.gs 2 n4),(2,V.ns),(0,V.gs 2 n4)],[O.cells [V.str s2,vi x3,V.sl n4 (aa b4 f4),vi x6] 189,O.hid,O.gl 2 n4 (aa b4 fb1) 45],none)
 | .L2 ic0 fc1=>([(3,vi ic0),(8,V.kb false),(7,vi (↑n4:Int)),(6,V.gs 2 n4),(2,V.ns),(0,V.gs 2 n4)],[O.cells [V.str s2,vi x3,V.sl n4 (aa b4 f4),vi x6] 189,O.hid,O.gl 2 n4 (aa b4 fc1) 45],none)
 | .L3 id0 fd1=>([(3,vi id0),(8,V.kb false),(7,vi (↑n4:Int)),(6,V.gs 2 n4),(2,V.ns),(0,V.gs 2 n4)],[O.cells [V.str s2,vi x3,V.sl n4 (aa b4 f4),vi x6] 189,O.hid,O.gl 2 n4 (aa b4 fd1) 45],none)
 | .L4 ie0 ne1 ne2 ie3 ie4 ie5 ne6 ie7 ie8 ie9 ie10 fe11=>([(5,vi ie0),(4,V.go 2 ne1 ne2),(28,V.go 2 ne1 ne2),(27,vi ie3),(26,V.gs 2 n4),(25,V.kb true),(24,V.agg [vi ie4,vi ie5]),(23,V.pe 2 ne6 0),(22,vi ie7),(21,vi ie3),(20,V.gs 2 n4),(19,V.agg [vi ie8,vi ie9]),(18,V.pe 2 ne1 0),(17,vi ie3),(16,V.gs 2 n4),(13,V.kb true),(12,vi (↑n4:Int)),(11,V.gs 2 n4),(10,vi ie3),(3,vi ie10),(8,V.kb false),(7,vi (↑n4:Int)),(6,V.gs 2 n4),(2,V.ns),(0,V.gs 2 n4)],[O.cells [V.str s2,vi x3,V.sl n4 (aa b4 f4),vi x6] 189,O.hid,O.gl 2 n4 (aa b4 fe11) 45],none)
 | .L5 if0 nf1 nf2 if3 if4 if5 nf6 if7 if8 if9 if10 ff11=>([(5,vi if0),(4,V.go 2 nf1 nf2),(28,V.go 2 nf1 nf2),(27,vi if3),(26,V.gs 2 n4),(25,V.kb true),(24,V.agg [vi if4,vi if5]),(23,V.pe 2 nf6 0),(22,vi if7),(21,vi if3),(20,V.gs 2 n4),(19,V.agg [vi if8,vi if9]),(18,V.pe 2 nf1 0),(17,vi if3),(16,V.gs 2 n4),(13,V.kb true),(12,vi (↑n4:Int)),(11,V.gs 2 n4),(10,vi if3),(3,vi if10),(8,V.kb false),(7,vi (↑n4:Int)),(6,V.gs 2 n4),(2,V.ns),(0,V.gs 2 n4)],[O.cells [V.str s2,vi x3,V.sl n4 (aa b4 f4),vi x6] 189,O.hid,O.gl 2 n4 (aa b4 ff11) 45],none)
 | .L6 ig0 ng1 ng2 ig3 ig4 ig5 ng6 ig7 ig8 ig9 ig10 fg11=>([(5,vi ig0),(4,V.go 2 ng1 ng2),(28,V.go 2 ng1 ng2),(27,vi ig3),(26,V.gs 2 n4),(25,V.kb true),(24,V.agg [vi ig4,vi ig5]),(23,V.pe 2 ng6 0),(22,vi ig7),(21,vi ig3),(20,V.gs 2 n4),(19,V.agg [vi ig8,vi ig9]),(18,V.pe 2 ng1 0),(17,vi ig3),(16,V.gs 2 n4),(13,V.kb true),(12,vi (↑n4:Int)),(11,V.gs 2 n4),(10,vi ig3),(3,vi ig10),(8,V.kb false),(7,vi (↑n4:Int)),(6,V.gs 2 n4),(2,V.ns),(0,V.gs 2 n4)],[O.cells [V.str s2,vi x3,V.sl n4 (aa b4 f4),vi x6] 189,O.hid,O.gl 2 n4 (aa b4 fg11) 45],none)
 | .L7 ih0 nh1 nh2 ih3 ih4 ih5 nh6 ih7 ih8 ih9 ih10 fh11=>([(5,vi ih0),(4,V.go 2 nh1 nh2),(28,V.go 2 nh1 nh2),(27,vi ih3),(26,V.gs 2 n4),(25,V.kb true),(24,V.agg [vi ih4,vi ih5]),(23,V.pe 2 nh6 0),(22,vi ih7),(21,vi ih3),(20,V.gs 2 n4),(19,V.agg [vi ih8,vi ih9]),(18,V.pe 2 nh1 0),(17,vi ih3),(16,V.gs 2 n4),(13,V.kb true),(12,vi (↑n4:Int)),(11,V.gs 2 n4),(10,vi ih3),(3,vi ih10),(8,V.kb false),(7,vi (↑n4:Int)),(6,V.gs 2 n4),(2,V.ns),(0,V.gs 2 n4)],[O.cells [V.str s2,vi x3,V.sl n4 (aa b4 f4),vi x6] 189,O.hid,O.gl 2 n4 (aa b4 fh11) 45],none)
def alJ:qo->JJ
 | .L0 ia0 fa1=>(0,[])
 | .L1 ib0 fb1=>(1,[])
 | .L2 ic0 fc1=>(2,[])
 | .L3 id0 fd1=>(3,[])
 | .L4 ie0 ne1 ne2 ie3 ie4 ie5 ne6 ie7 ie8 ie9 ie10 fe11=>(4,[])
 | .L5 if0 nf1 nf2 if3 if4 if5 nf6 if7 if8 if9 if10 ff11=>(5,[])
 | .L6 ig0 ng1 ng2 ig3 ig4 ig5 ng6 ig7 ig8 ig9 ig10 fg11=>(6,[])
 | .L7 ih0 nh1 nh2 ih3 ih4 ih5 nh6 ih7 ih8 ih9 ih10 fh11=>(7,[])
section
variable (n0:Nat) (f0:ah) (s2:ByteArray) (x3:Int) (n4:Nat) (f4:ah) (x6:Int)
include n0 f0 s2 x3 n4 f4 x6
def Ko:T (bN JJ):=aS JJ pJ u0 s63 [V.sl n0 (aa bF f0),V.agg [V.str s2,vi x3,V.sl n4 (aa b4 f4),vi x6]]
def CJ (cx:List Cx):Lp JJ:=fb (eL (Ko n0 f0 s2 x3 n4 f4 x6) [false,false,false,false,false,true,false,true,true,false,true,false])
def JK (cx:List Cx):Lp JJ:=fb (eL (Ko n0 f0 s2 x3 n4 f4 x6) [false,false,false,false,false,true,false,true,true,false,false,false])
def Jb (cx:List Cx):Lp JJ:=fb (eL (Ko n0 f0 s2 x3 n4 f4 x6) [false,false,false,false,false,true,false,true,false,false,false])
def KI (cx:List Cx):Lp JJ:=fb (eL (Ko n0 f0 s2 x3 n4 f4 x6) [false,false,false,false,false,true,false,false,false,false])
def aaU (cx:List Cx):Lp JJ:=fb (eL (u4 pJ u0 (0,[]) (CJ n0 f0 s2 x3 n4 f4 x6 []) (z6 n0 f0 s2 x3 n4 f4 x6 (.L0 (0:Int) (fun _=>[])))) [true,true])
def afa (cx:List Cx):Lp JJ:=fb (eL (u4 pJ u0 (1,[]) (JK n0 f0 s2 x3 n4 f4 x6 []) (z6 n0 f0 s2 x3 n4 f4 x6 (.L1 (0:Int) (fun _=>[])))) [true,true])
def aed (cx:List Cx):Lp JJ:=fb (eL (u4 pJ u0 (2,[]) (Jb n0 f0 s2 x3 n4 f4 x6 []) (z6 n0 f0 s2 x3 n4 f4 x6 (.L2 (0:Int) (fun _=>[])))) [true,true])
def ae9 (cx:List Cx):Lp JJ:=fb (eL (u4 pJ u0 (3,[]) (KI n0 f0 s2 x3 n4 f4 x6 []) (z6 n0 f0 s2 x3 n4 f4 x6 (.L3 (0:Int) (fun _=>[])))) [true,true])
def anW:JJ->Lp JJ
 | (0,cx)=>CJ n0 f0 s2 x3 n4 f4 x6 cx
 | (1,cx)=>JK n0 f0 s2 x3 n4 f4 x6 cx
 | (2,cx)=>Jb n0 f0 s2 x3 n4 f4 x6 cx
 | (3,cx)=>KI n0 f0 s2 x3 n4 f4 x6 cx
 | (4,cx)=>aaU n0 f0 s2 x3 n4 f4 x6 cx
 | (5,cx)=>afa n0 f0 s2 x3 n4 f4 x6 cx
 | (6,cx)=>aed n0 f0 s2 x3 n4 f4 x6 cx
 | (7,cx)=>ae9 n0 f0 s2 x3 n4 f4 x6 cx
 | (_,cx)=>CJ n0 f0 s2 x3 n4 f4 x6 cx
def D63:LD JJ qo:=⟨alJ,anW n0 f0 s2 x3 n4 f4 x6,z6 n0 f0 s2 x3 n4 f4 x6⟩
end
def HV (x3:Int) (n4:Nat) (mk:Int->Nat->Nat->Int->Int->Int->Nat->Int->Int->Int->Int->(Nat->List V)->qo) (if0:Int) (nf1:Nat) (nf2:Nat) (if3:Int) (if4:Int) (if5:Int) (nf6:Nat) (if7:Int) (if8:Int) (if9:Int) (if10:Int) (ff11:Nat->List V):RT qo:=.br (decide (if0 < (↑nf2:Int))) (.ob (decide (0<=if0/\if0 < (↑nf2:Int)/\nf1+nf2<=n4)) (.ob (decide (nf1+if0.toNat < n4)) (.ob (decide (0<=i64.wrap (if0 - 1)/\i64.wrap (if0 - 1) < (↑nf2:Int)/\nf1+nf2<=n4)) (.ob (decide (nf1+(i64.wrap (if0 - 1)).toNat < n4)) (.br (!(ay (ff11 (nf1+if0.toNat)) == ay (ff11 (nf1+(i64.wrap (if0 - 1)).toNat)) && (ba (ff11 (nf1+if0.toNat)) == ba (ff11 (nf1+(i64.wrap (if0 - 1)).toNat)) && true))) (.ob (decide (0<=if0/\if0 < (↑nf2:Int)/\nf1+nf2<=n4)) (.ob (decide (nf1+if0.toNat < n4)) (.ob (decide (0<=if10/\if10 < (↑n4:Int)/\n4<=n4)) (.ob (decide (if10.toNat < n4)) (.next (iR 0 3 []) (mk (i64.wrap (if0+1)) (nf1) (nf2) (if3) (if4) (if5) (nf6) (if7) (if8) (if9) (i64.wrap (if10+1)) (fun i'=>bif i'.beq if10.toNat then [vi (ay (ff11 (nf1+if0.toNat))),vi (ba (ff11 (nf1+if0.toNat)))] else aa b4 ff11 i')) [⟨2,b4,n4,fun i'=>bif i'.beq if10.toNat then [vi (ay (ff11 (nf1+if0.toNat))),vi (ba (ff11 (nf1+if0.toNat)))] else aa b4 ff11 i',NU rfl (eu rfl _ _) rfl⟩]))))) (.next (iR 0 3 []) (mk (i64.wrap (if0+1)) (nf1) (nf2) (if3) (if4) (if5) (nf6) (if7) (if8) (if9) (if10) (aa b4 ff11)) [⟨2,b4,n4,aa b4 ff11,eu rfl _ _⟩])))))) (.ob (decide (0<=if10/\if10<=(↑n4:Int))) (.ob (decide (0 < n4 - if10.toNat/\if10.toNat+(n4 - if10.toNat)<=n4)) (.ob (decide (0<=if10/\if10<=(↑n4:Int))) (.br (decide ((↑if10.toNat:Int) < (↑n4:Int))) (.ret (vi 2)) (.obi (.obi (.asm ((x3 == 3)=true->n4<=9223372036854775807) (.obi (.obi (.br (bif x3 == 3 then decide (2 < (↑n4:Int)) else false) (.ret (vi 2)) (.ret (vi 0))))))))))))
def IA (x3:Int) (n4:Nat) (mk:Int->(Nat->List V)->qo) (mk2:Int->Nat->Nat->Int->Int->Int->Nat->Int->Int->Int->Int->(Nat->List V)->qo) (ib0:Int) (fb1:Nat->List V):RT qo:=.br (decide (ib0 < (↑n4:Int))) (.ob (decide (0<=ib0/\ib0 < (↑n4:Int)/\n4<=n4)) (.ob (decide (ib0.toNat < n4)) (.ob (decide (0<=i64.wrap (ib0 - 1)/\i64.wrap (ib0 - 1) < (↑n4:Int)/\n4<=n4)) (.ob (decide ((i64.wrap (ib0 - 1)).toNat < n4)) (.br (ay (fb1 ib0.toNat) == ay (fb1 (i64.wrap (ib0 - 1)).toNat) && (ba (fb1 ib0.toNat) == ba (fb1 (i64.wrap (ib0 - 1)).toNat) && true)) (.ob (decide (0<=ib0/\ib0<=(↑n4:Int))) (.enter (iR 0 3 []) (mk2 (1) (ib0.toNat) (n4 - ib0.toNat) (ib0) (ay (fb1 (i64.wrap (ib0 - 1)).toNat)) (ba (fb1 (i64.wrap (ib0 - 1)).toNat)) ((i64.wrap (ib0 - 1)).toNat) (i64.wrap (ib0 - 1)) (ay (fb1 ib0.toNat)) (ba (fb1 ib0.toNat)) (ib0) (aa b4 fb1)) [⟨2,b4,n4,aa b4 fb1,eu rfl _ _⟩])) (.next (iR 0 3 []) (mk (i64.wrap (ib0+1)) (aa b4 fb1)) [⟨2,b4,n4,aa b4 fb1,eu rfl _ _⟩])))))) (.br (decide ((↑n4:Int) < (↑n4:Int))) (.ret (vi 2)) (.obi (.obi (.asm ((x3 == 3)=true->n4<=9223372036854775807) (.obi (.obi (.br (bif x3 == 3 then decide (2 < (↑n4:Int)) else false) (.ret (vi 2)) (.ret (vi 0)))))))))
def om (n0:Nat) (f0:ah) (s2:ByteArray) (x3:Int) (n4:Nat) (f4:ah) (x6:Int):qo->RT qo
 | .L0 ia0 fa1=>.br (decide (ia0 < (↑n4:Int))) (.ob (decide (0<=ia0/\ia0 < (↑n4:Int)/\n4<=n4)) (.ob (decide (ia0.toNat < n4)) (.ob (decide (0<=i64.wrap (ia0 - 1)/\i64.wrap (ia0 - 1) < (↑n4:Int)/\n4<=n4)) (.ob (decide ((i64.wrap (ia0 - 1)).toNat < n4)) (.br (ay (fa1 ia0.toNat) == ay (fa1 (i64.wrap (ia0 - 1)).toNat) && (ba (fa1 ia0.toNat) == ba (fa1 (i64.wrap (ia0 - 1)).toNat) && true)) (.ob (decide (0<=ia0/\ia0<=(↑n4:Int))) (.enter (iR 0 3 []) (qo.L4 (1) (ia0.toNat) (n4 - ia0.toNat) (ia0) (ay (fa1 (i64.wrap (ia0 - 1)).toNat)) (ba (fa1 (i64.wrap (ia0 - 1)).toNat)) ((i64.wrap (ia0 - 1)).toNat) (i64.wrap (ia0 - 1)) (ay (fa1 ia0.toNat)) (ba (fa1 ia0.toNat)) (ia0) (aa b4 fa1)) [⟨2,b4,n4,aa b4 fa1,eu rfl _ _⟩])) (.next (iR 0 3 []) (qo.L0 (i64.wrap (ia0+1)) (aa b4 fa1)) [⟨2,b4,n4,aa b4 fa1,eu rfl _ _⟩])))))) (.asm (true=true->n4<=9223372036854775807) (.br (decide ((↑n4:Int) < (↑n4:Int))) (.ret (vi 2)) (.obi (.obi (.asm ((x3 == 3)=true->n4<=9223372036854775807) (.obi (.obi (.br (bif x3 == 3 then decide (2 < (↑n4:Int)) else false) (.ret (vi 2)) (.ret (vi 0))))))))))
 | .L1 ib0 fb1=>IA x3 n4 qo.L1 qo.L5 ib0 fb1
 | .L2 ic0 fc1=>IA x3 n4 qo.L2 qo.L6 ic0 fc1
 | .L3 id0 fd1=>IA x3 n4 qo.L3 qo.L7 id0 fd1
 | .L4 ie0 ne1 ne2 ie3 ie4 ie5 ne6 ie7 ie8 ie9 ie10 fe11=>.br (decide (ie0 < (↑ne2:Int))) (.ob (decide (0<=ie0/\ie0 < (↑ne2:Int)/\ne1+ne2<=n4)) (.ob (decide (ne1+ie0.toNat < n4)) (.ob (decide (0<=i64.wrap (ie0 - 1)/\i64.wrap (ie0 - 1) < (↑ne2:Int)/\ne1+ne2<=n4)) (.ob (decide (ne1+(i64.wrap (ie0 - 1)).toNat < n4)) (.br (!(ay (fe11 (ne1+ie0.toNat)) == ay (fe11 (ne1+(i64.wrap (ie0 - 1)).toNat)) && (ba (fe11 (ne1+ie0.toNat)) == ba (fe11 (ne1+(i64.wrap (ie0 - 1)).toNat)) && true))) (.ob (decide (0<=ie0/\ie0 < (↑ne2:Int)/\ne1+ne2<=n4)) (.ob (decide (ne1+ie0.toNat < n4)) (.ob (decide (0<=ie10/\ie10 < (↑n4:Int)/\n4<=n4)) (.ob (decide (ie10.toNat < n4)) (.next (iR 0 3 []) (qo.L4 (i64.wrap (ie0+1)) (ne1) (ne2) (ie3) (ie4) (ie5) (ne6) (ie7) (ie8) (ie9) (i64.wrap (ie10+1)) (fun i'=>bif i'.beq ie10.toNat then [vi (ay (fe11 (ne1+ie0.toNat))),vi (ba (fe11 (ne1+ie0.toNat)))] else aa b4 fe11 i')) [⟨2,b4,n4,fun i'=>bif i'.beq ie10.toNat then [vi (ay (fe11 (ne1+ie0.toNat))),vi (ba (fe11 (ne1+ie0.toNat)))] else aa b4 fe11 i',NU rfl (eu rfl _ _) rfl⟩]))))) (.next (iR 0 3 []) (qo.L4 (i64.wrap (ie0+1)) (ne1) (ne2) (ie3) (ie4) (ie5) (ne6) (ie7) (ie8) (ie9) (ie10) (aa b4 fe11)) [⟨2,b4,n4,aa b4 fe11,eu rfl _ _⟩])))))) (.ob (decide (0<=ie10/\ie10<=(↑n4:Int))) (.ob (decide (0 < n4 - ie10.toNat/\ie10.toNat+(n4 - ie10.toNat)<=n4)) (.ob (decide (0<=ie10/\ie10<=(↑n4:Int))) (.asm (true=true->n4<=9223372036854775807) (.br (decide ((↑ie10.toNat:Int) < (↑n4:Int))) (.ret (vi 2)) (.obi (.obi (.asm ((x3 == 3)=true->n4<=9223372036854775807) (.obi (.obi (.br (bif x3 == 3 then decide (2 < (↑n4:Int)) else false) (.ret (vi 2)) (.ret (vi 0)))))))))))))
 | .L5 if0 nf1 nf2 if3 if4 if5 nf6 if7 if8 if9 if10 ff11=>HV x3 n4 qo.L5 if0 nf1 nf2 if3 if4 if5 nf6 if7 if8 if9 if10 ff11
 | .L6 ig0 ng1 ng2 ig3 ig4 ig5 ng6 ig7 ig8 ig9 ig10 fg11=>HV x3 n4 qo.L6 ig0 ng1 ng2 ig3 ig4 ig5 ng6 ig7 ig8 ig9 ig10 fg11
 | .L7 ih0 nh1 nh2 ih3 ih4 ih5 nh6 ih7 ih8 ih9 ih10 fh11=>HV x3 n4 qo.L7 ih0 nh1 nh2 ih3 ih4 ih5 nh6 ih7 ih8 ih9 ih10 fh11
section
variable (n0:Nat) (f0:ah) (s2:ByteArray) (x3:Int) (n4:Nat) (f4:ah) (x6:Int)
include n0 f0 s2 x3 n4 f4 x6
def m63:RT qo:=.obp (s2.size<=(9223372036854775807:Nat)) (.obt (.br (!lQ s2) (.ret (vi 6)) (.obc (.obt (.br (rp n0 (aa bF f0) s2) (.ret (vi 5)) (.obc (.obt (.br (bB x3 0 3) (.ret (vi 2)) (.asm (true=true->n4<=9223372036854775807) (.br (decide ((↑n4:Int) < 2)) (.ret (vi 4)) (.asm (true=true->n4<=9223372036854775807) (.br (decide (8 < (↑n4:Int))) (.ret (vi 3)) (.obc (.obt (.obi (.br (!jv n4 (aa b4 f4)) (.ob (!jv n4 (aa b4 f4)) (.obc (.obt (.br (bB x6 100 30000) (.ret (vi 7)) (.und (.und (.und (.asm (n4=0) (.und (.brt (.asm (true=true->n4<=9223372036854775807) (.br (decide (0 < (↑n4:Int))) (.ret (vi 2)) (.obi (.obi (.asm ((x3 == 3)=true->n4<=9223372036854775807) (.obi (.obi (.br (bif x3 == 3 then decide (2 < (↑n4:Int)) else false) (.ret (vi 2)) (.ret (vi 0))))))))))) (.asm (true=true->n4<=9223372036854775807) (.brt (.br (decide (0 < (↑n4:Int))) (.ret (vi 2)) (.obi (.obi (.asm ((x3 == 3)=true->n4<=9223372036854775807) (.obi (.obi (.br (bif x3 == 3 then decide (2 < (↑n4:Int)) else false) (.ret (vi 2)) (.ret (vi 0))))))))))))) (.obv (cq n4 fun i=>kS 2 (aa b4 f4 i)) (yA rfl _ _) (.ob (decide (n4 * 16<=140737488355328) && !Nat.beq 16 0) (.und (.br (decide ((↑n4:Int) < 2)) (.asm (true=true->n4<=9223372036854775807) (.br (decide ((↑n4:Int) < (↑n4:Int))) (.ret (vi 2)) (.obi (.obi (.asm ((x3 == 3)=true->n4<=9223372036854775807) (.obi (.obi (.br (bif x3 == 3 then decide (2 < (↑n4:Int)) else false) (.ret (vi 2)) (.ret (vi 0)))))))))) (.enter (iR 0 3 []) (qo.L0 (1) (aa b4 f4)) [⟨2,b4,n4,aa b4 f4,eu rfl _ _⟩])) (.asm (true=true->n4<=9223372036854775807) (.br (decide ((↑n4:Int) < 2)) (.br (decide ((↑n4:Int) < (↑n4:Int))) (.ret (vi 2)) (.obi (.obi (.asm ((x3 == 3)=true->n4<=9223372036854775807) (.obi (.obi (.br (bif x3 == 3 then decide (2 < (↑n4:Int)) else false) (.ret (vi 2)) (.ret (vi 0))))))))) (.enter (iR 0 3 []) (qo.L1 (1) (aa b4 f4)) [⟨2,b4,n4,aa b4 f4,eu rfl _ _⟩]))))))) (.asm (true=true->n4<=9223372036854775807) (.und (.asm (n4=0) (.brt (.br (decide (0 < (↑n4:Int))) (.ret (vi 2)) (.obi (.obi (.asm ((x3 == 3)=true->n4<=9223372036854775807) (.obi (.obi (.br (bif x3 == 3 then decide (2 < (↑n4:Int)) else false) (.ret (vi 2)) (.ret (vi 0))))))))))) (.obv (cq n4 fun i=>kS 2 (aa b4 f4 i)) (yA rfl _ _) (.ob (decide (n4 * 16<=140737488355328) && !Nat.beq 16 0) (.br (decide ((↑n4:Int) < 2)) (.br (decide ((↑n4:Int) < (↑n4:Int))) (.ret (vi 2)) (.obi (.obi (.asm ((x3 == 3)=true->n4<=9223372036854775807) (.obi (.obi (.br (bif x3 == 3 then decide (2 < (↑n4:Int)) else false) (.ret (vi 2)) (.ret (vi 0))))))))) (.enter (iR 0 3 []) (qo.L2 (1) (aa b4 f4)) [⟨2,b4,n4,aa b4 f4,eu rfl _ _⟩]))))))) (.asm (true=true->n4<=9223372036854775807) (.und (.asm (n4=0) (.brt (.br (decide (0 < (↑n4:Int))) (.ret (vi 2)) (.obi (.obi (.asm ((x3 == 3)=true->n4<=9223372036854775807) (.obi (.obi (.br (bif x3 == 3 then decide (2 < (↑n4:Int)) else false) (.ret (vi 2)) (.ret (vi 0))))))))))) (.obv (cq n4 fun i=>kS 2 (aa b4 f4 i)) (yA rfl _ _) (.ob (decide (n4 * 16<=140737488355328) && !Nat.beq 16 0) (.br (decide ((↑n4:Int) < 2)) (.br (decide ((↑n4:Int) < (↑n4:Int))) (.ret (vi 2)) (.obi (.obi (.asm ((x3 == 3)=true->n4<=9223372036854775807) (.obi (.obi (.br (bif x3 == 3 then decide (2 < (↑n4:Int)) else false) (.ret (vi 2)) (.ret (vi 0))))))))) (.enter (iR 0 3 []) (qo.L3 (1) (aa b4 f4)) [⟨2,b4,n4,aa b4 f4,eu rfl _ _⟩]))))))))))) (.ret (vi 7))))))))))))))))))
theorem ag0:dR pJ u0 (D63 n0 f0 s2 x3 n4 f4 x6) (Ko n0 f0 s2 x3 n4 f4 x6) (m63 n0 f0 s2 x3 n4 f4 x6) (om n0 f0 s2 x3 n4 f4 x6):=⟨⟨by kernel_rfl,by kernel_rfl⟩,fun s=>by cases s <;> exact ⟨by kernel_rfl,by kernel_rfl⟩⟩
end
def qU (f:Nat->List V) (i j:Nat):Bool:=ay (f i) == ay (f j) && (ba (f i) == ba (f j) && true)
def nn (n:Nat) (f:Nat->List V):Bool:=jD n fun i=>decide (0 < i) && qU f i (i - 1)
def yag (x3:Int) (n4:Nat):Int:=bif bif x3 == 3 then decide (2 < (n4:Int)) else false then 2 else 0
def XB (n0:Nat) (f0:ah) (s2:ByteArray) (x3:Int) (n4:Nat) (f4:ah) (x6:Int):Int:=bif !lQ s2 then 6 else bif rp n0 f0 s2 then 5 else bif bB x3 0 3 then 2 else bif decide ((n4:Int) < 2) then 4 else bif decide (8 < (n4:Int)) then 3 else bif !!jv n4 f4 then 7 else bif bB x6 100 30000 then 7 else bif nn n4 f4 then 2 else yag x3 n4
theorem vA {S:Type} {Nx:S->V->Prop} {x3:Int} {n4:Nat} {q:Prop}:aN Nx (.obi (.obi (.asm q (.obi (.obi (.br (bif x3 == 3 then decide (2 < (n4:Int)) else false) (.ret (.int .i64 2)) (.ret (.int .i64 0)))))))) (.int .i64 (yag x3 n4)):=by
 refine evObi (evObi (evAsm fun _=>evObi (evObi (evBr (fun h=>evRet ?_) (fun h=>evRet ?_))))) <;> (unfold yag; rw [h]; rfl)
section
variable (n0:Nat) (f0:ah) (s2:ByteArray) (x3:Int) (n4:Nat) (f4:ah) (x6:Int)
include n0 f0 s2 x3 n4 f4 x6
theorem ajs (h8:n4<=8) (k0:Nat) (hk:1<=k0) (hk':k0 < n4) (t1 t2 t3:Int) (t4:Nat) (t5 t6 t7:Int):(∀ k2:Nat,k2<=n4 - k0->1<=k2->∀ (k:Nat) (f:Nat->List V),k+1<=k0+k2->Ev (om n0 f0 s2 x3 n4 f4 x6) (.L4 k2 k0 (n4 - k0) t1 t2 t3 t4 t5 t6 t7 k f) (.int .i64 2))/\(∀ k2:Nat,k2<=n4 - k0->1<=k2->∀ (k:Nat) (f:Nat->List V),k+1<=k0+k2->Ev (om n0 f0 s2 x3 n4 f4 x6) (.L5 k2 k0 (n4 - k0) t1 t2 t3 t4 t5 t6 t7 k f) (.int .i64 2))/\(∀ k2:Nat,k2<=n4 - k0->1<=k2->∀ (k:Nat) (f:Nat->List V),k+1<=k0+k2->Ev (om n0 f0 s2 x3 n4 f4 x6) (.L6 k2 k0 (n4 - k0) t1 t2 t3 t4 t5 t6 t7 k f) (.int .i64 2))/\(∀ k2:Nat,k2<=n4 - k0->1<=k2->∀ (k:Nat) (f:Nat->List V),k+1<=k0+k2->Ev (om n0 f0 s2 x3 n4 f4 x6) (.L7 k2 k0 (n4 - k0) t1 t2 t3 t4 t5 t6 t7 k f) (.int .i64 2)):=by
 refine ⟨?_,?_,?_,?_⟩
 all_goals
  refine dH fun k2 hk2 ih h1 k f hkk=>Ev.of rfl ?_
  have w1:i64.wrap ((k2:Int) - 1)=((k2 - 1:Nat):Int):=by rw [wrapI (by omega) (by omega)]; omega
  have w2:i64.wrap ((k2:Int)+1)=((k2+1:Nat):Int):=by rw [wrapI (by omega) (by omega)]; omega
  have w3:i64.wrap ((k:Int)+1)=((k+1:Nat):Int):=by rw [wrapI (by omega) (by omega)]; omega
  refine evBr (fun h=>?_) (fun h=>?_)
  ·have hlt:k2 < n4 - k0:=by have:=of_decide_eq_true h; omega
   refine aM (dqt (by omega)) (aM (dqt (by omega)) (aM (dqt (by rw [w1]; omega)) (aM (dqt (by rw [w1]; omega)) (evBr (fun _=>?_) (fun _=>?_)))))
   ·refine aM (dqt (by omega)) (aM (dqt (by omega)) (aM (dqt (by omega)) (aM (dqt (by omega)) (aQ ?_))))
    rw [w2,w3]
    exact ih hlt (by omega) (k+1) _ (by omega)
   ·refine aQ ?_
    rw [w2]
    exact ih hlt (by omega) k _ (by omega)
  ·have hge:¬ k2 < n4 - k0:=by have:=of_decide_eq_false h; omega
   refine aM (dqt (by omega)) (aM (dqt (by omega)) (aM (dqt (by omega)) ?_))
   try refine evAsm fun _=>?_
   exact fA (dqt (by omega)) (evRet rfl)
theorem ahL (h8:n4<=8) (h2:2<=n4):(∀ i:Nat,i<=n4->1<=i->(∀ j,j < i->(decide (0 < j) && qU f4 j (j - 1))=false)->∀ f:Nat->List V,(∀ i j,qU f i j=qU f4 i j)->Ev (om n0 f0 s2 x3 n4 f4 x6) (.L0 i f) (.int .i64 (bif nn n4 f4 then 2 else yag x3 n4)))/\(∀ i:Nat,i<=n4->1<=i->(∀ j,j < i->(decide (0 < j) && qU f4 j (j - 1))=false)->∀ f:Nat->List V,(∀ i j,qU f i j=qU f4 i j)->Ev (om n0 f0 s2 x3 n4 f4 x6) (.L1 i f) (.int .i64 (bif nn n4 f4 then 2 else yag x3 n4)))/\(∀ i:Nat,i<=n4->1<=i->(∀ j,j < i->(decide (0 < j) && qU f4 j (j - 1))=false)->∀ f:Nat->List V,(∀ i j,qU f i j=qU f4 i j)->Ev (om n0 f0 s2 x3 n4 f4 x6) (.L2 i f) (.int .i64 (bif nn n4 f4 then 2 else yag x3 n4)))/\(∀ i:Nat,i<=n4->1<=i->(∀ j,j < i->(decide (0 < j) && qU f4 j (j - 1))=false)->∀ f:Nat->List V,(∀ i j,qU f i j=qU f4 i j)->Ev (om n0 f0 s2 x3 n4 f4 x6) (.L3 i f) (.int .i64 (bif nn n4 f4 then 2 else yag x3 n4))):=by
 refine ⟨?_,?_,?_,?_⟩
 all_goals
  refine dH fun i hi ih h1 hj f hf=>Ev.of rfl ?_
  have w1:i64.wrap ((i:Int) - 1)=((i - 1:Nat):Int):=by rw [wrapI (by omega) (by omega)]; omega
  have w2:i64.wrap ((i:Int)+1)=((i+1:Nat):Int):=by rw [wrapI (by omega) (by omega)]; omega
  refine evBr (fun h=>?_) (fun h=>?_)
  ·have hlt:i < n4:=by have:=of_decide_eq_true h; omega
   refine aM (dqt (by omega)) (aM (dqt (by omega)) (aM (dqt (by rw [w1]; omega)) (aM (dqt (by rw [w1]; omega)) (evBr (fun hb=>?_) (fun hb=>?_)))))
   ·have hb':qU f4 i (i - 1)=true:=by
     rw [← hf]; rw [w1] at hb; simpa only [Int.toNat_natCast,qU] using hb
    rw [show nn n4 f4=true from cP i hlt (by rw [hb']; simp; omega),cond_true]
    refine aM (dqt (by omega)) (aH ?_)
    have q:=ajs n0 f0 s2 x3 n4 f4 x6 h8 i h1 hlt
    simp only [Int.toNat_natCast]
    first | exact (q _ _ _ _ _ _ _).1 1 (by omega) (by omega) i _ (by omega) | exact (q _ _ _ _ _ _ _).2.1 1 (by omega) (by omega) i _ (by omega) | exact (q _ _ _ _ _ _ _).2.2.1 1 (by omega) (by omega) i _ (by omega) | exact (q _ _ _ _ _ _ _).2.2.2 1 (by omega) (by omega) i _ (by omega)
   ·have hb':qU f4 i (i - 1)=false:=by
     rw [← hf]; rw [w1] at hb; simpa only [Int.toNat_natCast,qU] using hb
    refine aQ ?_
    rw [w2]
    refine ih hlt (by omega) (fun j h3=>?_) _ (fun a b=>hf a b)
    by_cases e:j=i
    ·subst e; rw [hb',Bool.and_false]
    ·exact hj j (by omega)
  ·have:i=n4:=by have:=of_decide_eq_false h; omega
   subst this
   rw [show nn i f4=false from ca hj,cond_false]
   try refine evAsm fun _=>?_
   exact cd vA
theorem EN (h8:n4<=8) (h2:2<=n4) (f:Nat->List V) (hf:∀ i j,qU f i j=qU f4 i j):(Ev (om n0 f0 s2 x3 n4 f4 x6) (.L0 1 f) (.int .i64 (bif nn n4 f4 then 2 else yag x3 n4)))/\(Ev (om n0 f0 s2 x3 n4 f4 x6) (.L1 1 f) (.int .i64 (bif nn n4 f4 then 2 else yag x3 n4)))/\(Ev (om n0 f0 s2 x3 n4 f4 x6) (.L2 1 f) (.int .i64 (bif nn n4 f4 then 2 else yag x3 n4)))/\(Ev (om n0 f0 s2 x3 n4 f4 x6) (.L3 1 f) (.int .i64 (bif nn n4 f4 then 2 else yag x3 n4))):=by
 have q:=ahL n0 f0 s2 x3 n4 f4 x6 h8 h2
 have h0:∀ j,j < 1->(decide (0 < j) && qU f4 j (j - 1))=false:=fun j hj=>by
  have:j=0:=by omega
  subst this; rfl
 exact ⟨q.1 1 (by omega) (Nat.le_refl _) h0 f hf,q.2.1 1 (by omega) (Nat.le_refl _) h0 f hf,q.2.2.1 1 (by omega) (Nat.le_refl _) h0 f hf,q.2.2.2 1 (by omega) (Nat.le_refl _) h0 f hf⟩
theorem ach (hp:s2.size<=9223372036854775807):aN (Ev (om n0 f0 s2 x3 n4 f4 x6)) (m63 n0 f0 s2 x3 n4 f4 x6) (.int .i64 (XB n0 f0 s2 x3 n4 f4 x6)):=by
 unfold XB
 refine aC hp (af ?_)
 refine evBr (fun h=>evRet (by rw [h]; rfl)) (fun h=>?_)
 rw [h,cond_false]
 refine av (af (evBr (fun h=>evRet (by rw [show rp n0 f0 s2=true from h]; rfl)) (fun h=>?_)))
 rw [show rp n0 f0 s2=false from h,cond_false]
 refine av (af (evBr (fun h=>evRet (by rw [h]; rfl)) (fun h=>?_)))
 rw [h,cond_false]
 refine bk fun hn=>evBr (fun h=>evRet (by rw [h]; rfl)) (fun h2=>?_)
 rw [h2,cond_false]
 refine bk fun hn=>evBr (fun h=>evRet (by rw [h]; rfl)) (fun h8=>?_)
 rw [h8,cond_false]
 have h2:2<=n4:=by have:=of_decide_eq_false h2; omega
 have h8:n4<=8:=by have:=of_decide_eq_false h8; omega
 have e2:decide ((n4:Int) < 2)=false:=jx (by omega)
 refine av (af (evObi (evBr (fun h=>?_) (fun h=>evRet (by rw [show (!!jv n4 f4)=true from by rw [show (!jv n4 f4)=false from h]; rfl]; rfl)))))
 rw [show (!!jv n4 f4)=false from by rw [show (!jv n4 f4)=true from h]; rfl,cond_false]
 refine aM h (av (af (evBr (fun h=>evRet (by rw [h]; rfl)) (fun h=>?_))))
 rw [h,cond_false]
 have h16:(decide (n4 * 16<=140737488355328) && !Nat.beq 16 0)=true:=by rw [dqt (show n4 * 16<=140737488355328 by omega)]; rfl
 have hne:n4=0->False:=by omega
 have hi:∀ i j,qU (aa b4 f4) i j=qU f4 i j:=fun _ _=>rfl
 repeat' (first
  | exact evAsm (fun h0=>(hne h0).elim)
  | exact aH (EN _ _ _ _ _ _ _ h8 h2 _ hi).1
  | exact aH (EN _ _ _ _ _ _ _ h8 h2 _ hi).2.1
  | exact aH (EN _ _ _ _ _ _ _ h8 h2 _ hi).2.2.1
  | exact aH (EN _ _ _ _ _ _ _ h8 h2 _ hi).2.2.2
  | refine ail ?_ ?_
  | refine evAsm (fun _=>?_)
  | refine ahv ?_
  | refine aM h16 ?_
  | refine ft e2 ?_
  | refine ft rfl ?_
  | refine fA rfl ?_)
theorem anl (hp:s2.size<=9223372036854775807):aN (Ev (om n0 f0 s2 x3 n4 f4 x6)) (m63 n0 f0 s2 x3 n4 f4 x6) (.int .i64 (XB n0 (aa bF f0) s2 x3 n4 (aa b4 f4) x6)):=ach n0 f0 s2 x3 n4 f4 x6 hp
end
def C63:aB:=bI [.sl bF,.agg bF] (fun
 | [.sl n0 f0,.agg [.str s2,.int _ x3,.sl n4 f4,.int _ x6]]=>s2.size<=9223372036854775807
 | _=>False) fun
 | [.sl n0 f0,.agg [.str s2,.int _ x3,.sl n4 f4,.int _ x6]]=>.int .i64 (XB n0 f0 s2 x3 n4 f4 x6)
 | _=>.any
theorem acY:(vP C63).Ok Tryz.prog 136:=bY B1 Tryz.func136 (by kernel_rfl) fun ds hp=>jE (ag0 ..) (anl _ _ _ _ _ _ _ hp)
section
variable (n0:Nat) (f0:ah) (s2:ByteArray) (x3 x4 x5 x6 x7:Int)
include n0 f0 s2 x3 x4 x5 x6 x7
def m69:RT Empty:=.obp (s2.size<=(9223372036854775807:Nat)) (.obt (.br (!lQ s2) (.ret (vi 6)) (.obc (.obt (.br (qw n0 (aa aT f0) s2) (.ret (vi 5)) (.obc (.obt (.obi (.br (!jH 2 (aa ae (bQ [vi x3,vi x4] 0 1))) (.ob (!jH 2 (aa ae (bQ [vi x3,vi x4] 0 1))) (.obc (.obt (.obi (.br (!bB x5 1 200) (.ob (!bB x5 1 200) (.obc (.obt (.obi (.br (!bB x6 (-1000) 1000) (.ob (!bB x6 (-1000) 1000) (.obc (.obt (.br (bB x7 (-1000) 1000) (.ret (vi 7)) (.obi (.obi (.obi (.br (bif x6 == 0 then x7 == 0 else false) (.ret (vi 2)) (.ret (vi 0)))))))))) (.ret (vi 7))))))) (.ret (vi 7))))))) (.ret (vi 7)))))))))))
theorem ahm:dh dm (aS JJ pJ u0 s69 [V.sl n0 (aa aT f0),V.agg [V.str s2,vi x3,vi x4,vi x5,vi x6,vi x7]]) (m69 n0 f0 s2 x3 x4 x5 x6 x7):=⟨by kernel_rfl,by kernel_rfl⟩
def ko:Int:=bif !lQ s2 then 6 else bif qw n0 (aa aT f0) s2 then 5 else bif !jH 2 (aa ae (bQ [vi x3,vi x4] 0 1)) then bif !bB x5 1 200 then bif !bB x6 (-1000) 1000 then bif bB x7 (-1000) 1000 then 7 else bif bif x6 == 0 then x7 == 0 else false then 2 else 0 else 7 else 7 else 7
def QH:V:=.int i64 (ko n0 f0 s2 x3 x4 x5 x6 x7)
theorem alY (hp:s2.size<=9223372036854775807):aN cr (m69 n0 f0 s2 x3 x4 x5 x6 x7) (QH n0 f0 s2 x3 x4 x5 x6 x7):=aC (by first | assumption | (exact hp)) (af (evBr (fun h0=>evRet (by unfold QH ko; try rw [h0]; rfl)) (fun h0=>av (af (evBr (fun h1=>evRet (by unfold QH ko; try rw [h0]; try rw [h1]; rfl)) (fun h1=>av (af (evObi (evBr (fun h2=>aM (by first | assumption | (fail)) (av (af (evObi (evBr (fun h3=>aM (by first | assumption | (fail)) (av (af (evObi (evBr (fun h4=>aM (by first | assumption | (fail)) (av (af (evBr (fun h5=>evRet (by unfold QH ko; try rw [h0]; try rw [h1]; try rw [h2]; try rw [h3]; try rw [h4]; try rw [h5]; rfl)) (fun h5=>evObi (evObi (evObi (evBr (fun h6=>evRet (by unfold QH ko; try rw [h0]; try rw [h1]; try rw [h2]; try rw [h3]; try rw [h4]; try rw [h5]; try rw [h6]; rfl)) (fun h6=>evRet (by unfold QH ko; try rw [h0]; try rw [h1]; try rw [h2]; try rw [h3]; try rw [h4]; try rw [h5]; try rw [h6]; rfl)))))))))) (fun h4=>evRet (by unfold QH ko; try rw [h0]; try rw [h1]; try rw [h2]; try rw [h3]; try rw [h4]; rfl))))))) (fun h3=>evRet (by unfold QH ko; try rw [h0]; try rw [h1]; try rw [h2]; try rw [h3]; rfl))))))) (fun h2=>evRet (by unfold QH ko; try rw [h0]; try rw [h1]; try rw [h2]; rfl)))))))))))
end
def C69:aB:=bI [.sl aT,.agg aT] (fun
 | [.sl n0 f0,.agg [.str s2,.int _ x3,.int _ x4,.int _ x5,.int _ x6,.int _ x7]]=>s2.size<=9223372036854775807
 | _=>False) fun
 | [.sl n0 f0,.agg [.str s2,.int _ x3,.int _ x4,.int _ x5,.int _ x6,.int _ x7]]=>QH n0 f0 s2 x3 x4 x5 x6 x7
 | _=>.any
theorem adP:(vP C69).Ok Tryz.prog 142:=bY B1 Tryz.func142 (by kernel_rfl) fun ds hp=>dG (ahm ..) (alY _ _ _ _ _ _ _ _ hp)
def ny:bd:=(136,.con C63)::(142,.con C69)::pJ
theorem xE:aR Tryz.prog eqs its ny:=.con acY (.con adP (B1))
inductive HI where
 | L0 (ia0:Int)
 | L1 (ib0 ib1:Int)
 | L2 (ic0 ic1 ic2:Int)
def Pj (n0:Nat) (f0:ah) (n2:Nat) (f2:ah) (n4:Nat) (f4:ah) (n6:Nat) (f6:ah) (x8:Int):HI->bp × List O × Option Ex
 | .L0 ia0=>([(6,vi ia0),(17,V.kb false),(16,V.bool (kH (sv (hdV (f0 x8.toNat))))),(15,V.str (sv (hdV (f0 x8.toNat)))),(14,V.pl 0 0),(5,V.pl 0 0),(13,V.agg [V.str (sv (hdV (f0 x8.toNat))),vi (ba (f0 x8.toNat)),V.sl (au (hdV (ab (ab (f0 x8.toNat))))) fun i=>ao b4 (bj (hdV (ab (ab (f0 x8.toNat)))) i),vi (cM (f0 x8.toNat))]),(12,V.pd [V.str (sv (hdV (f0 x8.toNat))),vi (ba (f0 x8.toNat)),V.sl (au (hdV (ab (ab (f0 x8.toNat))))) fun i=>ao b4 (bj (hdV (ab (ab (f0 x8.toNat)))) i),vi (cM (f0 x8.toNat))]),(11,vi x8),(10,V.sl n0 (aa bF f0)),(9,V.pl 1 0),(4,vi 0),(2,V.pl 1 0),(0,HL n0 f0 n2 f2 n4 f4 n6 f6),(1,vi x8)],[O.cells [V.str (sv (hdV (f0 x8.toNat))),vi (ba (f0 x8.toNat)),V.sl (au (hdV (ab (ab (f0 x8.toNat))))) fun i=>ao b4 (bj (hdV (ab (ab (f0 x8.toNat)))) i),vi (cM (f0 x8.toNat))] 189,O.cells [V.sl n0 (aa bF f0),V.sl n2 (aa ce f2),V.sl n4 (aa ci f4),V.sl n6 (aa aT f6)] 31],none)
 | .L1 ib0 ib1=>([(7,vi ib0),(43,V.kb false),(42,vi (↑(au (hdV (ab (ab (f0 x8.toNat))))):Int)),(41,V.sl (au (hdV (ab (ab (f0 x8.toNat))))) fun i=>ao b4 (bj (hdV (ab (ab (f0 x8.toNat)))) i)),(40,V.pl 0 2),(39,V.kb false),(38,vi (↑(au (hdV (ab (ab (f0 x8.toNat))))):Int)),(37,V.sl (au (hdV (ab (ab (f0 x8.toNat))))) fun i=>ao b4 (bj (hdV (ab (ab (f0 x8.toNat)))) i)),(36,V.pl 0 2),(35,V.kb false),(34,V.bool (dn (ba (f0 x8.toNat)) 0 3)),(33,vi (ba (f0 x8.toNat))),(32,V.pl 0 1),(20,V.kb false),(19,vi x8),(18,vi ib1),(6,vi ib1),(17,V.kb false),(16,V.bool (kH (sv (hdV (f0 x8.toNat))))),(15,V.str (sv (hdV (f0 x8.toNat)))),(14,V.pl 0 0),(5,V.pl 0 0),(13,V.agg [V.str (sv (hdV (f0 x8.toNat))),vi (ba (f0 x8.toNat)),V.sl (au (hdV (ab (ab (f0 x8.toNat))))) fun i=>ao b4 (bj (hdV (ab (ab (f0 x8.toNat)))) i),vi (cM (f0 x8.toNat))]),(12,V.pd [V.str (sv (hdV (f0 x8.toNat))),vi (ba (f0 x8.toNat)),V.sl (au (hdV (ab (ab (f0 x8.toNat))))) fun i=>ao b4 (bj (hdV (ab (ab (f0 x8.toNat)))) i),vi (cM (f0 x8.toNat))]),(11,vi x8),(10,V.sl n0 (aa bF f0)),(9,V.pl 1 0),(4,vi 0),(2,V.pl 1 0),(0,HL n0 f0 n2 f2 n4 f4 n6 f6),(1,vi x8)],[O.cells [V.str (sv (hdV (f0 x8.toNat))),vi (ba (f0 x8.toNat)),V.sl (au (hdV (ab (ab (f0 x8.toNat))))) fun i=>ao b4 (bj (hdV (ab (ab (f0 x8.toNat)))) i),vi (cM (f0 x8.toNat))] 189,O.cells [V.sl n0 (aa bF f0),V.sl n2 (aa ce f2),V.sl n4 (aa ci f4),V.sl n6 (aa aT f6)] 31],none)
 | .L2 ic0 ic1 ic2=>([(8,vi ic0),(69,V.kb false),(68,V.bool (dn (cM (f0 x8.toNat)) 100 30000)),(67,vi (cM (f0 x8.toNat))),(66,V.pl 0 3),(48,V.kb false),(47,vi (↑(au (hdV (ab (ab (f0 x8.toNat))))):Int)),(46,V.sl (au (hdV (ab (ab (f0 x8.toNat))))) fun i=>ao b4 (bj (hdV (ab (ab (f0 x8.toNat)))) i)),(45,V.pl 0 2),(44,vi ic1),(7,vi ic1),(43,V.kb false),(42,vi (↑(au (hdV (ab (ab (f0 x8.toNat))))):Int)),(41,V.sl (au (hdV (ab (ab (f0 x8.toNat))))) fun i=>ao b4 (bj (hdV (ab (ab (f0 x8.toNat)))) i)),(40,V.pl 0 2),(39,V.kb false),(38,vi (↑(au (hdV (ab (ab (f0 x8.toNat))))):Int)),(37,V.sl (au (hdV (ab (ab (f0 x8.toNat))))) fun i=>ao b4 (bj (hdV (ab (ab (f0 x8.toNat)))) i)),(36,V.pl 0 2),(35,V.kb false),(34,V.bool (dn (ba (f0 x8.toNat)) 0 3)),(33,vi (ba (f0 x8.toNat))),(32,V.pl 0 1),(20,V.kb false),(19,vi x8),(18,vi ic2),(6,vi ic2),(17,V.kb false),(16,V.bool (kH (sv (hdV (f0 x8.toNat))))),(15,V.str (sv (hdV (f0 x8.toNat)))),(14,V.pl 0 0),(5,V.pl 0 0),(13,V.agg [V.str (sv (hdV (f0 x8.toNat))),vi (ba (f0 x8.toNat)),V.sl (au (hdV (ab (ab (f0 x8.toNat))))) fun i=>ao b4 (bj (hdV (ab (ab (f0 x8.toNat)))) i),vi (cM (f0 x8.toNat))]),(12,V.pd [V.str (sv (hdV (f0 x8.toNat))),vi (ba (f0 x8.toNat)),V.sl (au (hdV (ab (ab (f0 x8.toNat))))) fun i=>ao b4 (bj (hdV (ab (ab (f0 x8.toNat)))) i),vi (cM (f0 x8.toNat))]),(11,vi x8),(10,V.sl n0 (aa bF f0)),(9,V.pl 1 0),(4,vi 0),(2,V.pl 1 0),(0,HL n0 f0 n2 f2 n4 f4 n6 f6),(1,vi x8)],[O.cells [V.str (sv (hdV (f0 x8.toNat))),vi (ba (f0 x8.toNat)),V.sl (au (hdV (ab (ab (f0 x8.toNat))))) fun i=>ao b4 (bj (hdV (ab (ab (f0 x8.toNat)))) i),vi (cM (f0 x8.toNat))] 189,O.cells [V.sl n0 (aa bF f0),V.sl n2 (aa ce f2),V.sl n4 (aa ci f4),V.sl n6 (aa aT f6)] 31],none)
def amY:HI->JJ
 | .L0 ia0=>(0,[])
 | .L1 ib0 ib1=>(1,[])
 | .L2 ic0 ic1 ic2=>(2,[])
section
variable (n0:Nat) (f0:ah) (n2:Nat) (f2:ah) (n4:Nat) (f4:ah) (n6:Nat) (f6:ah) (x8:Int)
include n0 f0 n2 f2 n4 f4 n6 f6 x8
def af0:T (bN JJ):=aS JJ ny u0 s70 [HL n0 f0 n2 f2 n4 f4 n6 f6,vi x8]
def Bg (cx:List Cx):Lp JJ:=fb (eL (af0 n0 f0 n2 f2 n4 f4 n6 f6 x8) [false])
def Jl (cx:List Cx):Lp JJ:=fb (eL (u4 ny u0 (0,[]) (Bg n0 f0 n2 f2 n4 f4 n6 f6 x8 []) (Pj n0 f0 n2 f2 n4 f4 n6 f6 x8 (.L0 (0:Int)))) [false,false,false,false])
def aa4 (cx:List Cx):Lp JJ:=fb (eL (u4 ny u0 (1,[]) (Jl n0 f0 n2 f2 n4 f4 n6 f6 x8 []) (Pj n0 f0 n2 f2 n4 f4 n6 f6 x8 (.L1 (0:Int) (0:Int)))) [false,false])
def ann:JJ->Lp JJ
 | (0,cx)=>Bg n0 f0 n2 f2 n4 f4 n6 f6 x8 cx
 | (1,cx)=>Jl n0 f0 n2 f2 n4 f4 n6 f6 x8 cx
 | (2,cx)=>aa4 n0 f0 n2 f2 n4 f4 n6 f6 x8 cx
 | (_,cx)=>Bg n0 f0 n2 f2 n4 f4 n6 f6 x8 cx
def D70:LD JJ HI:=⟨amY,ann n0 f0 n2 f2 n4 f4 n6 f6 x8,Pj n0 f0 n2 f2 n4 f4 n6 f6 x8⟩
end
def G5 (n0:Nat) (f0:ah) (n2:Nat) (f2:ah) (n4:Nat) (f4:ah) (n6:Nat) (f6:ah) (x8:Int):HI->RT HI
 | .L0 ia0=>.br (decide (ia0 < x8)) (.ob (decide (0<=ia0/\ia0 < (↑n0:Int))) (.br ((sv (hdV (f0 ia0.toNat))).toList == (sv (hdV (f0 x8.toNat))).toList) (.ret (vi 5)) (.next [some (some 0),some (some 1)] (HI.L0 (i64.wrap (ia0+1))) []))) (.obc (.obt (.br (!dn (ba (f0 x8.toNat)) 0 3) (.ret (vi 2)) (.asm (true=true->au (hdV (ab (ab (f0 x8.toNat))))<=9223372036854775807) (.br (decide ((↑(au (hdV (ab (ab (f0 x8.toNat))))):Int) < 2)) (.ret (vi 4)) (.asm (true=true->au (hdV (ab (ab (f0 x8.toNat))))<=9223372036854775807) (.br (decide (8 < (↑(au (hdV (ab (ab (f0 x8.toNat))))):Int))) (.ret (vi 3)) (.enter [some (some 0),some (some 1)] (HI.L1 (0) (ia0)) []))))))))
 | .L1 ib0 ib1=>.asm (true=true->au (hdV (ab (ab (f0 x8.toNat))))<=9223372036854775807) (.br (decide (ib0 < (↑(au (hdV (ab (ab (f0 x8.toNat))))):Int))) (.ob (decide (0<=ib0/\ib0 < (↑(au (hdV (ab (ab (f0 x8.toNat))))):Int))) (.obt (.ob (decide (0<=ib0/\ib0 < (↑(au (hdV (ab (ab (f0 x8.toNat))))):Int))) (.obt (.obc (.obt (.br (!xX 2 (aa ae (bQ [vi (ay (bj (hdV (ab (ab (f0 x8.toNat)))) ib0.toNat)),vi (ba (bj (hdV (ab (ab (f0 x8.toNat)))) ib0.toNat))] 0 1))) (.ret (vi 7)) (.next [some (some 0),some (some 1)] (HI.L1 (i64.wrap (ib0+1)) (ib1)) [])))))))) (.obc (.obt (.br (!dn (cM (f0 x8.toNat)) 100 30000) (.ret (vi 7)) (.enter [some (some 0),some (some 1)] (HI.L2 (1) (ib0) (ib1)) [])))))
 | .L2 ic0 ic1 ic2=>.asm (true=true->au (hdV (ab (ab (f0 x8.toNat))))<=9223372036854775807) (.br (decide (ic0 < (↑(au (hdV (ab (ab (f0 x8.toNat))))):Int))) (.ob (decide (0<=ic0/\ic0 < (↑(au (hdV (ab (ab (f0 x8.toNat))))):Int))) (.ob (decide (0<=i64.wrap (ic0 - 1)/\i64.wrap (ic0 - 1) < (↑(au (hdV (ab (ab (f0 x8.toNat))))):Int))) (.br (ay (bj (hdV (ab (ab (f0 x8.toNat)))) ic0.toNat) == ay (bj (hdV (ab (ab (f0 x8.toNat)))) (i64.wrap (ic0 - 1)).toNat) && (ba (bj (hdV (ab (ab (f0 x8.toNat)))) ic0.toNat) == ba (bj (hdV (ab (ab (f0 x8.toNat)))) (i64.wrap (ic0 - 1)).toNat) && true)) (.ret (vi 2)) (.next [some (some 0),some (some 1)] (HI.L2 (i64.wrap (ic0+1)) (ic1) (ic2)) [])))) (.obi (.obi (.asm ((ba (f0 x8.toNat) == 3)=true->au (hdV (ab (ab (f0 x8.toNat))))<=9223372036854775807) (.obi (.obi (.br (bif ba (f0 x8.toNat) == 3 then decide (2 < (↑(au (hdV (ab (ab (f0 x8.toNat))))):Int)) else false) (.ret (vi 2)) (.ret (vi 0)))))))))
def m70 (n0:Nat) (f0:ah) (n2:Nat) (f2:ah) (n4:Nat) (f4:ah) (n6:Nat) (f6:ah) (x8:Int):RT HI:=.ob (decide (0<=x8/\x8 < (↑n0:Int))) (.obp ((sv (hdV (f0 x8.toNat))).size<=(9223372036854775807:Nat)) (.obt (.br (!kH (sv (hdV (f0 x8.toNat)))) (.ret (vi 6)) (.enter [some (some 1),some (some 0)] (HI.L0 (0)) []))))
theorem aiI (n0:Nat) (f0:ah) (n2:Nat) (f2:ah) (n4:Nat) (f4:ah) (n6:Nat) (f6:ah) (x8:Int):dR ny u0 (D70 n0 f0 n2 f2 n4 f4 n6 f6 x8) (af0 n0 f0 n2 f2 n4 f4 n6 f6 x8) (m70 n0 f0 n2 f2 n4 f4 n6 f6 x8) (G5 n0 f0 n2 f2 n4 f4 n6 f6 x8):=⟨⟨by kernel_rfl,by kernel_rfl⟩,fun s=>by cases s <;> exact ⟨by kernel_rfl,by kernel_rfl⟩⟩
def oV (x y:Int):Bool:=xX 2 (aa ae (bQ [V.int .i64 x,V.int .i64 y] 0 ((1+1 - 0) / 2)))
def Mo (k:Int) (n:Nat) (f:Nat->List V) (h:Int):Int:=bif !dn k 0 3 then 2 else bif decide ((n:Int) < 2) then 4 else bif decide (8 < (n:Int)) then 3 else bif jD n (fun i=>!oV (ay (f i)) (ba (f i))) then 7 else bif !dn h 100 30000 then 7 else bif nn n f then 2 else yag k n
def W9 (n0:Nat) (f0:ah) (x8:Int):Int:=bif !kH (sv (hdV (f0 x8.toNat))) then 6 else bif jD x8.toNat (fun k=>(sv (hdV (f0 k))).toList == (sv (hdV (f0 x8.toNat))).toList) then 5 else Mo (ba (f0 x8.toNat)) (au (hdV (ab (ab (f0 x8.toNat))))) (bj (hdV (ab (ab (f0 x8.toNat))))) (cM (f0 x8.toNat))
section
variable (n0:Nat) (f0:ah) (n2:Nat) (f2:ah) (n4:Nat) (f4:ah) (n6:Nat) (f6:ah)
include n0 f0 n2 f2 n4 f4 n6 f6
theorem ajl (k:Nat) (h8:(au (hdV (ab (ab (f0 k)))))<=8) (h2:2<=(au (hdV (ab (ab (f0 k)))))) (i1 i2:Int):∀ i:Nat,i<=(au (hdV (ab (ab (f0 k)))))->1<=i->(∀ j,j < i->(decide (0 < j) && qU (bj (hdV (ab (ab (f0 k))))) j (j - 1))=false)->Ev (G5 n0 f0 n2 f2 n4 f4 n6 f6 (k:Int)) (.L2 i i1 i2) (.int .i64 (bif nn (au (hdV (ab (ab (f0 k))))) (bj (hdV (ab (ab (f0 k))))) then 2 else yag (ba (f0 k)) (au (hdV (ab (ab (f0 k))))))):=by
 refine dH fun i hi ih h1 hj=>Ev.of rfl ?_
 have w1:i64.wrap ((i:Int) - 1)=((i - 1:Nat):Int):=by rw [wrapI (by omega) (by omega)]; omega
 have w2:i64.wrap ((i:Int)+1)=((i+1:Nat):Int):=by rw [wrapI (by omega) (by omega)]; omega
 refine evAsm fun _=>evBr (fun h=>?_) (fun h=>?_)
 ·have hlt:i < (au (hdV (ab (ab (f0 k))))):=by have:(i:Int) < ((au (hdV (ab (ab (f0 k))))):Int):=of_decide_eq_true h; omega
  refine aM (dqt (show 0<=(i:Int)/\(i:Int) < ((au (hdV (ab (ab (f0 k))))):Int) by omega)) (aM (dqt (show 0<=i64.wrap ((i:Int) - 1)/\i64.wrap ((i:Int) - 1) < ((au (hdV (ab (ab (f0 k))))):Int) by rw [w1]; omega)) (evBr (fun hb=>?_) (fun hb=>?_)))
  ·have hb':qU (bj (hdV (ab (ab (f0 k))))) i (i - 1)=true:=by
    rw [w1] at hb; simpa only [Int.toNat_natCast,qU] using hb
   rw [show nn (au (hdV (ab (ab (f0 k))))) (bj (hdV (ab (ab (f0 k)))))=true from cP i hlt (by rw [hb']; simp; omega),cond_true]
   exact evRet rfl
  ·have hb':qU (bj (hdV (ab (ab (f0 k))))) i (i - 1)=false:=by
    rw [w1] at hb; simpa only [Int.toNat_natCast,qU] using hb
   refine aQ ?_
   rw [w2]
   refine ih hlt (by omega) (fun j h3=>?_)
   by_cases e:j=i
   ·subst e; rw [hb',Bool.and_false]
   ·exact hj j (by omega)
 ·have e:i=(au (hdV (ab (ab (f0 k))))):=by have:¬ (i:Int) < ((au (hdV (ab (ab (f0 k))))):Int):=of_decide_eq_false h; omega
  rw [show nn (au (hdV (ab (ab (f0 k))))) (bj (hdV (ab (ab (f0 k)))))=false from ca fun j h=>hj j (by omega),cond_false]
  exact vA
theorem agP (k:Nat) (h8:(au (hdV (ab (ab (f0 k)))))<=8) (h2:2<=(au (hdV (ab (ab (f0 k)))))) (i1:Int):∀ i:Nat,i<=(au (hdV (ab (ab (f0 k)))))->(∀ j,j < i->(!oV (ay ((bj (hdV (ab (ab (f0 k))))) j)) (ba ((bj (hdV (ab (ab (f0 k))))) j)))=false)->Ev (G5 n0 f0 n2 f2 n4 f4 n6 f6 (k:Int)) (.L1 i i1) (.int .i64 (bif jD (au (hdV (ab (ab (f0 k))))) (fun i=>!oV (ay ((bj (hdV (ab (ab (f0 k))))) i)) (ba ((bj (hdV (ab (ab (f0 k))))) i))) then 7 else bif !dn (cM (f0 k)) 100 30000 then 7 else bif nn (au (hdV (ab (ab (f0 k))))) (bj (hdV (ab (ab (f0 k))))) then 2 else yag (ba (f0 k)) (au (hdV (ab (ab (f0 k))))))):=by
 refine dH fun i hi ih hj=>Ev.of rfl ?_
 have w2:i64.wrap ((i:Int)+1)=((i+1:Nat):Int):=by rw [wrapI (by omega) (by omega)]; omega
 refine evAsm fun _=>evBr (fun h=>?_) (fun h=>?_)
 ·have hlt:i < (au (hdV (ab (ab (f0 k))))):=by have:(i:Int) < ((au (hdV (ab (ab (f0 k))))):Int):=of_decide_eq_true h; omega
  refine aM (dqt (show 0<=(i:Int)/\(i:Int) < ((au (hdV (ab (ab (f0 k))))):Int) by omega)) (af (aM (dqt (show 0<=(i:Int)/\(i:Int) < ((au (hdV (ab (ab (f0 k))))):Int) by omega)) (af (av (af (evBr (fun hb=>evRet ?_) (fun hb=>aQ ?_)))))))
  ·rw [cP (p:=fun i=>!oV (ay ((bj (hdV (ab (ab (f0 k))))) i)) (ba ((bj (hdV (ab (ab (f0 k))))) i))) i hlt hb]; rfl
  ·rw [w2]
   refine ih hlt (fun j h3=>?_)
   by_cases e:j=i
   ·subst e; exact hb
   ·exact hj j (by omega)
 ·have e:i=(au (hdV (ab (ab (f0 k))))):=by have:¬ (i:Int) < ((au (hdV (ab (ab (f0 k))))):Int):=of_decide_eq_false h; omega
  rw [show jD (au (hdV (ab (ab (f0 k))))) (fun i=>!oV (ay ((bj (hdV (ab (ab (f0 k))))) i)) (ba ((bj (hdV (ab (ab (f0 k))))) i)))=false from ca fun j h=>hj j (by omega),cond_false]
  refine av (af (evBr (fun h=>evRet (by rw [show (!dn (cM (f0 k)) 100 30000)=true from h]; rfl)) (fun h=>?_)))
  rw [show (!dn (cM (f0 k)) 100 30000)=false from h,cond_false]
  refine aH (ajl n0 f0 n2 f2 n4 f4 n6 f6 k h8 h2 _ _ 1 (by omega) (by omega) (fun j h=>?_))
  have:j=0:=by omega
  subst this; rfl
theorem adC (x8:Int) (hp:0<=x8/\x8 < n0/\n0<=9223372036854775807/\aE n0 f0):aN (Ev (G5 n0 f0 n2 f2 n4 f4 n6 f6 x8)) (m70 n0 f0 n2 f2 n4 f4 n6 f6 x8) (.int .i64 (W9 n0 f0 x8)):=by
 obtain ⟨h0,h1,h2,h3⟩:=hp
 obtain ⟨k,rfl⟩:∃ k:Nat,x8=(k:Int):=⟨x8.toNat,by omega⟩
 have hk:k < n0:=by omega
 refine bZ hk (aC (h3 k hk) (af ?_))
 unfold W9
 simp only [Int.toNat_natCast]
 refine evBr (fun h=>evRet (by rw [show (!kH (sv (hdV (f0 k))))=true from h]; rfl)) (fun h=>?_)
 rw [show (!kH (sv (hdV (f0 k))))=false from h,cond_false]
 refine aH (iy (n:=k) (by omega) (fun i=>(sv (hdV (f0 i))).toList == (sv (hdV (f0 k))).toList) (P:=fun i=>Ev (G5 n0 f0 n2 f2 n4 f4 n6 f6 (k:Int)) (.L0 i) _) (fun i hlt hj next=>Ev.of rfl (ck hlt (bZ (by omega) (evBr (fun hb=>evRet ?_) (fun hb=>aQ (next hb))))))
  (fun hj=>Ev.of rfl (cd ?_)))
 ·rw [cP i hlt hb]; rfl
 ·rw [ca hj,cond_false]
  unfold Mo
  refine av (af (evBr (fun h=>evRet (by rw [show (!dn (ba (f0 k)) 0 3)=true from h]; rfl)) (fun h=>?_)))
  rw [show (!dn (ba (f0 k)) 0 3)=false from h,cond_false]
  refine bk fun hn=>evBr (fun h=>evRet (by rw [show decide (((au (hdV (ab (ab (f0 k))))):Int) < 2)=true from h]; rfl)) (fun h2=>?_)
  rw [show decide (((au (hdV (ab (ab (f0 k))))):Int) < 2)=false from h2,cond_false]
  refine bk fun hn=>evBr (fun h=>evRet (by rw [show decide (8 < ((au (hdV (ab (ab (f0 k))))):Int))=true from h]; rfl)) (fun h8=>?_)
  rw [show decide (8 < ((au (hdV (ab (ab (f0 k))))):Int))=false from h8,cond_false]
  have h2:2<=(au (hdV (ab (ab (f0 k))))):=by have:¬ (((au (hdV (ab (ab (f0 k))))):Int) < 2):=of_decide_eq_false h2; omega
  have h8:(au (hdV (ab (ab (f0 k)))))<=8:=by have:¬ (8 < ((au (hdV (ab (ab (f0 k))))):Int)):=of_decide_eq_false h8; omega
  exact aH (agP n0 f0 n2 f2 n4 f4 n6 f6 k h8 h2 _ 0 (by omega) (fun j h=>by omega))
theorem anD (x8:Int) (hp:0<=x8/\x8 < n0/\n0<=9223372036854775807/\aE n0 (aa bF f0)):aN (Ev (G5 n0 f0 n2 f2 n4 f4 n6 f6 x8)) (m70 n0 f0 n2 f2 n4 f4 n6 f6 x8) (.int .i64 (W9 n0 (aa bF f0) x8)):=adC n0 f0 n2 f2 n4 f4 n6 f6 x8 hp
end
def C70:aB:=bI [.agg [.sl bF,.sl ce,.sl ci,.sl aT],tI] (fun
 | [.agg [.sl n0 f0,.sl n2 f2,.sl n4 f4,.sl n6 f6],.int _ x8]=>0<=x8/\x8 < n0/\n0<=9223372036854775807/\aE n0 f0
 | _=>False) fun
 | [.agg [.sl n0 f0,.sl n2 f2,.sl n4 f4,.sl n6 f6],.int _ x8]=>.int .i64 (W9 n0 f0 x8)
 | _=>.any
theorem abo:(vP C70).Ok Tryz.prog 146:=bY xE Tryz.func146 (by kernel_rfl) fun ds hp=>jE (aiI ..) (anD _ _ _ _ _ _ _ _ _ hp)
inductive YN where
 | L0 (ia0:Int)
def akx (n0:Nat) (f0:ah):YN->bp × List O × Option Ex
 | .L0 ia0=>([(11,vi ia0),(10,vi (↑n0:Int)),(9,V.sl n0 (aa bF f0)),(5,vi 0),(4,vi 0),(0,V.sl n0 (aa bF f0)),(1,V.fn 136 [] [])],[],none)
def alV:YN->JJ
 | .L0 ia0=>(0,[])
section
variable (n0:Nat) (f0:ah)
include n0 f0
def aim:T (bN JJ):=aS JJ ny u0 s62 [V.sl n0 (aa bF f0),V.fn 136 [] []]
def LM (cx:List Cx):Lp JJ:=fb (eL (aim n0 f0) [])
def anw:JJ->Lp JJ
 | (0,cx)=>LM n0 f0 cx
 | (_,cx)=>LM n0 f0 cx
def D62:LD JJ YN:=⟨alV,anw n0 f0,akx n0 f0⟩
def abM:YN->RT YN
 | .L0 ia0=>.br (decide (ia0 < (↑n0:Int))) (.ob (decide (0<=ia0/\ia0 < (↑n0:Int))) (.ob (decide (0<=ia0/\ia0<=(↑n0:Int))) (.obp ((sv (hdV (f0 ia0.toNat))).size<=(9223372036854775807:Nat)) (.obt (.br (XB (ia0.toNat - 0) (fun i=>aa bF f0 (0+i)) (sv (hdV (f0 ia0.toNat))) (ba (f0 ia0.toNat)) (au (hdV (ab (ab (f0 ia0.toNat))))) (fun i=>ao b4 (bj (hdV (ab (ab (f0 ia0.toNat)))) i)) (cM (f0 ia0.toNat)) != 0) (.ret (V.tup [vi ia0,vi (XB (ia0.toNat - 0) (fun i=>aa bF f0 (0+i)) (sv (hdV (f0 ia0.toNat))) (ba (f0 ia0.toNat)) (au (hdV (ab (ab (f0 ia0.toNat))))) (fun i=>ao b4 (bj (hdV (ab (ab (f0 ia0.toNat)))) i)) (cM (f0 ia0.toNat)))])) (.next [] (YN.L0 (i64.wrap (ia0+1))) [])))))) (.ret (V.tup [vi 0,vi 0]))
end
def m62 (n0:Nat) (f0:ah):RT YN:=.asm (true=true->n0<=9223372036854775807) (.enter [] (YN.L0 (0)) [])
theorem akC (n0:Nat) (f0:ah):dR ny u0 (D62 n0 f0) (aim n0 f0) (m62 n0 f0) (abM n0 f0):=⟨⟨by kernel_rfl,by kernel_rfl⟩,fun s=>by cases s <;> exact ⟨by kernel_rfl,by kernel_rfl⟩⟩
def c62 (n0:Nat) (f0:ah) (ii:Nat):Int:=(XB (ii - 0) (fun i=>aa bF f0 (0+i)) (sv (hdV (f0 ii))) (ba (f0 ii)) (au (hdV (ab (ab (f0 ii))))) (fun i=>ao b4 (bj (hdV (ab (ab (f0 ii)))) i)) (cM (f0 ii)))
section
variable (n0:Nat) (f0:ah)
include n0 f0
def wA:Int:=eW n0 (c62 n0 f0)
def nU:Int:=de n0 (c62 n0 f0)
theorem acI (hp:aE n0 f0):aN (Ev (abM n0 f0)) (m62 n0 f0) (.tup [.int .i64 (wA n0 f0),.int .i64 (nU n0 f0)]):=bk fun hn=>aH (o6 (Q:=fun i=>(sv (hdV (f0 i))).size<=9223372036854775807) (fun i x=>.obp ((sv (hdV (f0 i))).size<=9223372036854775807) (.obt x)) (fun i x r h hx=>aC h (af hx)) (fun _ _=>rfl) hn hp fun i=>rfl)
theorem anY (hp:aE n0 (aa bF f0)):aN (Ev (abM n0 f0)) (m62 n0 f0) (.tup [.int .i64 (wA n0 (aa bF f0)),.int .i64 (nU n0 (aa bF f0))]):=acI n0 f0 hp
end
def C62:aB:=bI [.sl bF,.fn 136 [] []] (fun
 | [.sl n0 f0,.fn _ [] []]=>aE n0 f0
 | _=>False) fun
 | [.sl n0 f0,.fn _ [] []]=>.tup [.int .i64 (wA n0 f0),.int .i64 (nU n0 f0)]
 | _=>.any
theorem afc:(vP C62).Ok Tryz.prog 135:=bY xE Tryz.func135 (by kernel_rfl) fun ds hp=>jE (akC ..) (anY _ _ hp)
inductive XE where
 | L0 (ia0:Int)
def aij (n0:Nat) (f0:ah):XE->bp × List O × Option Ex
 | .L0 ia0=>([(11,vi ia0),(10,vi (↑n0:Int)),(9,V.sl n0 (aa aT f0)),(5,vi 0),(4,vi 0),(0,V.sl n0 (aa aT f0)),(1,V.fn 142 [] [])],[],none)
def anz:XE->JJ
 | .L0 ia0=>(0,[])
section
variable (n0:Nat) (f0:ah)
include n0 f0
def aga:T (bN JJ):=aS JJ ny u0 s68 [V.sl n0 (aa aT f0),V.fn 142 [] []]
def P3 (cx:List Cx):Lp JJ:=fb (eL (aga n0 f0) [])
def aly:JJ->Lp JJ
 | (0,cx)=>P3 n0 f0 cx
 | (_,cx)=>P3 n0 f0 cx
def D68:LD JJ XE:=⟨anz,aly n0 f0,aij n0 f0⟩
def ZN:XE->RT XE
 | .L0 ia0=>.br (decide (ia0 < (↑n0:Int))) (.ob (decide (0<=ia0/\ia0 < (↑n0:Int))) (.ob (decide (0<=ia0/\ia0<=(↑n0:Int))) (.obp ((sv (hdV (f0 ia0.toNat))).size<=(9223372036854775807:Nat)) (.obt (.br (ko (ia0.toNat - 0) (fun i=>aa aT f0 (0+i)) (sv (hdV (f0 ia0.toNat))) (ba (f0 ia0.toNat)) (cQ (f0 ia0.toNat)) (cM (f0 ia0.toNat)) (cv (f0 ia0.toNat)) (be (f0 ia0.toNat)) != 0) (.ret (V.tup [vi ia0,vi (ko (ia0.toNat - 0) (fun i=>aa aT f0 (0+i)) (sv (hdV (f0 ia0.toNat))) (ba (f0 ia0.toNat)) (cQ (f0 ia0.toNat)) (cM (f0 ia0.toNat)) (cv (f0 ia0.toNat)) (be (f0 ia0.toNat)))])) (.next [] (XE.L0 (i64.wrap (ia0+1))) [])))))) (.ret (V.tup [vi 0,vi 0]))
end
def m68 (n0:Nat) (f0:ah):RT XE:=.asm (true=true->n0<=9223372036854775807) (.enter [] (XE.L0 (0)) [])
theorem ajZ (n0:Nat) (f0:ah):dR ny u0 (D68 n0 f0) (aga n0 f0) (m68 n0 f0) (ZN n0 f0):=⟨⟨by kernel_rfl,by kernel_rfl⟩,fun s=>by cases s <;> exact ⟨by kernel_rfl,by kernel_rfl⟩⟩
def c68 (n0:Nat) (f0:ah) (ii:Nat):Int:=(ko (ii - 0) (fun i=>aa aT f0 (0+i)) (sv (hdV (f0 ii))) (ba (f0 ii)) (cQ (f0 ii)) (cM (f0 ii)) (cv (f0 ii)) (be (f0 ii)))
section
variable (n0:Nat) (f0:ah)
include n0 f0
def wE:Int:=eW n0 (c68 n0 f0)
def nE:Int:=de n0 (c68 n0 f0)
theorem aeI (hp:aE n0 f0):aN (Ev (ZN n0 f0)) (m68 n0 f0) (.tup [.int .i64 (wE n0 f0),.int .i64 (nE n0 f0)]):=bk fun hn=>aH (o6 (Q:=fun i=>(sv (hdV (f0 i))).size<=9223372036854775807) (fun i x=>.obp ((sv (hdV (f0 i))).size<=9223372036854775807) (.obt x)) (fun i x r h hx=>aC h (af hx)) (fun _ _=>rfl) hn hp fun i=>rfl)
theorem amb (hp:aE n0 (aa aT f0)):aN (Ev (ZN n0 f0)) (m68 n0 f0) (.tup [.int .i64 (wE n0 (aa aT f0)),.int .i64 (nE n0 (aa aT f0))]):=aeI n0 f0 hp
end
def C68:aB:=bI [.sl aT,.fn 142 [] []] (fun
 | [.sl n0 f0,.fn _ [] []]=>aE n0 f0
 | _=>False) fun
 | [.sl n0 f0,.fn _ [] []]=>.tup [.int .i64 (wE n0 f0),.int .i64 (nE n0 f0)]
 | _=>.any
theorem adJ:(vP C68).Ok Tryz.prog 141:=bY xE Tryz.func141 (by kernel_rfl) fun ds hp=>jE (ajZ ..) (amb _ _ hp)
def u3:bd:=(146,.con C70)::(135,.con C62)::(141,.con C68)::ny
theorem NO:aR Tryz.prog eqs its u3:=.con abo (.con afc (.con adJ (xE)))
inductive FD where
 | L0 (ia0:Int)
 | L1 (ib0 ib1:Int)
 | L2 (ic0 ic1 ic2:Int)
 | L3 (id0 id1 id2 id3:Int)
def DW (n0:Nat) (f0:ah) (n2:Nat) (f2:ah) (n4:Nat) (f4:ah) (n6:Nat) (f6:ah):FD->bp × List O × Option Ex
 | .L0 ia0=>([(5,vi ia0),(34,V.kb false),(29,V.bool (bif bif decide (8 < (↑n0:Int)) then true else decide (12 < (↑n2:Int)) then true else decide (8 < (↑n4:Int)))),(28,V.bool (bif bif decide (8 < (↑n0:Int)) then true else decide (12 < (↑n2:Int)) then true else decide (8 < (↑n4:Int)))),(23,V.bool (bif decide (8 < (↑n0:Int)) then true else decide (12 < (↑n2:Int)))),(22,V.bool (bif decide (8 < (↑n0:Int)) then true else decide (12 < (↑n2:Int)))),(17,V.bool (decide (8 < (↑n0:Int)))),(16,V.bool (decide (8 < (↑n0:Int)))),(15,vi (↑n0:Int)),(14,V.sl n0 (aa bF f0)),(13,V.pl 0 0),(4,vi 0),(3,vi 0),(2,vi 0),(1,V.pl 0 0),(0,HL n0 f0 n2 f2 n4 f4 n6 f6)],[O.cells [V.sl n0 (aa bF f0),V.sl n2 (aa ce f2),V.sl n4 (aa ci f4),V.sl n6 (aa aT f6)] 31],none)
 | .L1 ib0 ib1=>([(7,vi ib0),(39,V.kb false),(38,vi (↑n0:Int)),(37,V.sl n0 (aa bF f0)),(36,V.pl 0 0),(35,vi ib1),(5,vi ib1),(34,V.kb false),(29,V.bool (bif bif decide (8 < (↑n0:Int)) then true else decide (12 < (↑n2:Int)) then true else decide (8 < (↑n4:Int)))),(28,V.bool (bif bif decide (8 < (↑n0:Int)) then true else decide (12 < (↑n2:Int)) then true else decide (8 < (↑n4:Int)))),(23,V.bool (bif decide (8 < (↑n0:Int)) then true else decide (12 < (↑n2:Int)))),(22,V.bool (bif decide (8 < (↑n0:Int)) then true else decide (12 < (↑n2:Int)))),(17,V.bool (decide (8 < (↑n0:Int)))),(16,V.bool (decide (8 < (↑n0:Int)))),(15,vi (↑n0:Int)),(14,V.sl n0 (aa bF f0)),(13,V.pl 0 0),(4,vi 0),(3,vi 0),(2,vi 0),(1,V.pl 0 0),(0,HL n0 f0 n2 f2 n4 f4 n6 f6)],[O.cells [V.sl n0 (aa bF f0),V.sl n2 (aa ce f2),V.sl n4 (aa ci f4),V.sl n6 (aa aT f6)] 31],none)
 | .L2 ic0 ic1 ic2=>([(9,vi ic0),(53,V.kb false),(52,vi (↑n2:Int)),(51,V.sl n2 (aa ce f2)),(50,V.pl 0 1),(49,vi ic1),(7,vi ic1),(39,V.kb false),(38,vi (↑n0:Int)),(37,V.sl n0 (aa bF f0)),(36,V.pl 0 0),(35,vi ic2),(5,vi ic2),(34,V.kb false),(29,V.bool (bif bif decide (8 < (↑n0:Int)) then true else decide (12 < (↑n2:Int)) then true else decide (8 < (↑n4:Int)))),(28,V.bool (bif bif decide (8 < (↑n0:Int)) then true else decide (12 < (↑n2:Int)) then true else decide (8 < (↑n4:Int)))),(23,V.bool (bif decide (8 < (↑n0:Int)) then true else decide (12 < (↑n2:Int)))),(22,V.bool (bif decide (8 < (↑n0:Int)) then true else decide (12 < (↑n2:Int)))),(17,V.bool (decide (8 < (↑n0:Int)))),(16,V.bool (decide (8 < (↑n0:Int)))),(15,vi (↑n0:Int)),(14,V.sl n0 (aa bF f0)),(13,V.pl 0 0),(4,vi 0),(3,vi 0),(2,vi 0),(1,V.pl 0 0),(0,HL n0 f0 n2 f2 n4 f4 n6 f6)],[O.cells [V.sl n0 (aa bF f0),V.sl n2 (aa ce f2),V.sl n4 (aa ci f4),V.sl n6 (aa aT f6)] 31],none)
 | .L3 id0 id1 id2 id3=>([(11,vi id0),(96,V.kb false),(95,vi (↑n4:Int)),(94,V.sl n4 (aa ci f4)),(93,V.pl 0 2),(92,vi id1),(9,vi id1),(53,V.kb false),(52,vi (↑n2:Int)),(51,V.sl n2 (aa ce f2)),(50,V.pl 0 1),(49,vi id2),(7,vi id2),(39,V.kb false),(38,vi (↑n0:Int)),(37,V.sl n0 (aa bF f0)),(36,V.pl 0 0),(35,vi id3),(5,vi id3),(34,V.kb false),(29,V.bool (bif bif decide (8 < (↑n0:Int)) then true else decide (12 < (↑n2:Int)) then true else decide (8 < (↑n4:Int)))),(28,V.bool (bif bif decide (8 < (↑n0:Int)) then true else decide (12 < (↑n2:Int)) then true else decide (8 < (↑n4:Int)))),(23,V.bool (bif decide (8 < (↑n0:Int)) then true else decide (12 < (↑n2:Int)))),(22,V.bool (bif decide (8 < (↑n0:Int)) then true else decide (12 < (↑n2:Int)))),(17,V.bool (decide (8 < (↑n0:Int)))),(16,V.bool (decide (8 < (↑n0:Int)))),(15,vi (↑n0:Int)),(14,V.sl n0 (aa bF f0)),(13,V.pl 0 0),(4,vi 0),(3,vi 0),(2,vi 0),(1,V.pl 0 0),(0,HL n0 f0 n2 f2 n4 f4 n6 f6)],[O.cells [V.sl n0 (aa bF f0),V.sl n2 (aa ce f2),V.sl n4 (aa ci f4),V.sl n6 (aa aT f6)] 31],none)
def al7:FD->JJ
 | .L0 ia0=>(0,[])
 | .L1 ib0 ib1=>(1,[])
 | .L2 ic0 ic1 ic2=>(2,[])
 | .L3 id0 id1 id2 id3=>(3,[])
section
variable (n0:Nat) (f0:ah) (n2:Nat) (f2:ah) (n4:Nat) (f4:ah) (n6:Nat) (f6:ah)
include n0 f0 n2 f2 n4 f4 n6 f6
def ag7:T (bN JJ):=aS JJ u3 u0 s24 [HL n0 f0 n2 f2 n4 f4 n6 f6]
def BA (cx:List Cx):Lp JJ:=fb (eL (ag7 n0 f0 n2 f2 n4 f4 n6 f6) [false])
def Ox (cx:List Cx):Lp JJ:=fb (eL (u4 u3 u0 (0,[]) (BA n0 f0 n2 f2 n4 f4 n6 f6 []) (DW n0 f0 n2 f2 n4 f4 n6 f6 (.L0 (0:Int)))) [false])
def LJ (cx:List Cx):Lp JJ:=fb (eL (u4 u3 u0 (1,[]) (Ox n0 f0 n2 f2 n4 f4 n6 f6 []) (DW n0 f0 n2 f2 n4 f4 n6 f6 (.L1 (0:Int) (0:Int)))) [false])
def adA (cx:List Cx):Lp JJ:=fb (eL (u4 u3 u0 (2,[]) (LJ n0 f0 n2 f2 n4 f4 n6 f6 []) (DW n0 f0 n2 f2 n4 f4 n6 f6 (.L2 (0:Int) (0:Int) (0:Int)))) [false])
def alI:JJ->Lp JJ
 | (0,cx)=>BA n0 f0 n2 f2 n4 f4 n6 f6 cx
 | (1,cx)=>Ox n0 f0 n2 f2 n4 f4 n6 f6 cx
 | (2,cx)=>LJ n0 f0 n2 f2 n4 f4 n6 f6 cx
 | (3,cx)=>adA n0 f0 n2 f2 n4 f4 n6 f6 cx
 | (_,cx)=>BA n0 f0 n2 f2 n4 f4 n6 f6 cx
def D24:LD JJ FD:=⟨al7,alI n0 f0 n2 f2 n4 f4 n6 f6,DW n0 f0 n2 f2 n4 f4 n6 f6⟩
def uU:FD->RT FD
 | .L0 ia0=>.asm (true=true->n0<=9223372036854775807) (.br (decide (ia0 < (↑n0:Int))) (.obp ((0:Int)<=ia0/\ia0 < (↑n0:Int)/\n0<=(9223372036854775807:Nat)/\∀ (i:Nat),i < n0->(sv (hdV (f0 i))).size<=(9223372036854775807:Nat)) (.obt (.br (W9 n0 (aa bF f0) ia0 != 0) (.ret (V.tup [vi 1,vi ia0,vi (W9 n0 (aa bF f0) ia0)])) (.next [some (some 0)] (FD.L0 (i64.wrap (ia0+1))) [])))) (.enter [some (some 0)] (FD.L1 (0) (ia0)) []))
 | .L1 ib0 ib1=>.asm (true=true->n2<=9223372036854775807) (.br (decide (ib0 < (↑n2:Int))) (.ob (decide (0<=ib0/\ib0 < (↑n2:Int))) (.obc (.obt (.obi (.br (!!xX 2 (aa ae (bQ [vi (ay (f2 ib0.toNat)),vi (ba (f2 ib0.toNat))] 0 1))) (.ob (!!xX 2 (aa ae (bQ [vi (ay (f2 ib0.toNat)),vi (ba (f2 ib0.toNat))] 0 1))) (.obc (.obt (.obi (.obi (.obi (.obi (.obi (.obi (.obi (.obi (.obi (.obi (.obi (.br (bif bif bif !dn (cQ (f2 ib0.toNat)) 1 20000 then true else decide (cM (f2 ib0.toNat) < 0) then true else decide (cv (f2 ib0.toNat)<=cM (f2 ib0.toNat)) then true else decide (1000 < cv (f2 ib0.toNat))) (.ret (V.tup [vi 2,vi ib0,vi 7])) (.next [some (some 0)] (FD.L1 (i64.wrap (ib0+1)) (ib1)) [])))))))))))))))) (.ret (V.tup [vi 2,vi ib0,vi 7]))))))) (.enter [some (some 0)] (FD.L2 (0) (ib0) (ib1)) []))
 | .L2 ic0 ic1 ic2=>.asm (true=true->n4<=9223372036854775807) (.br (decide (ic0 < (↑n4:Int))) (.ob (decide (0<=ic0/\ic0 < (↑n4:Int))) (.obc (.obt (.br ((WP (ay (f4 ic0.toNat)) (ba (f4 ic0.toNat)) (cQ (f4 ic0.toNat)) (cM (f4 ic0.toNat)) (au (hdV (ab (ab (ab (ab (f4 ic0.toNat))))))) fun i=>ao iu (bj (hdV (ab (ab (ab (ab (f4 ic0.toNat)))))) i)) != 0) (.ret (V.tup [vi 3,vi ic0,vi (WP (ay (f4 ic0.toNat)) (ba (f4 ic0.toNat)) (cQ (f4 ic0.toNat)) (cM (f4 ic0.toNat)) (au (hdV (ab (ab (ab (ab (f4 ic0.toNat))))))) fun i=>ao iu (bj (hdV (ab (ab (ab (ab (f4 ic0.toNat)))))) i))])) (.next [some (some 0)] (FD.L2 (i64.wrap (ic0+1)) (ic1) (ic2)) []))))) (.enter [some (some 0)] (FD.L3 (0) (ic0) (ic1) (ic2)) []))
 | .L3 id0 id1 id2 id3=>.asm (true=true->n6<=9223372036854775807) (.br (decide (id0 < (↑n6:Int))) (.obp ((0:Int)<=id0/\id0 < (↑n6:Int)/\n6<=(9223372036854775807:Nat)/\∀ (i:Nat),i < n6->(sv (hdV (f6 i))).size<=(9223372036854775807:Nat)) (.obt (.br (Uv n6 (aa aT f6) id0 != 0) (.ret (V.tup [vi 4,vi id0,vi (Uv n6 (aa aT f6) id0)])) (.next [some (some 0)] (FD.L3 (i64.wrap (id0+1)) (id1) (id2) (id3)) [])))) (.ret (V.tup [vi 0,vi 0,vi 0])))
end
def m24 (n0:Nat) (f0:ah) (n2:Nat) (f2:ah) (n4:Nat) (f4:ah) (n6:Nat) (f6:ah):RT FD:=.asm (true=true->n0<=9223372036854775807) (.obi (.obi (.asm ((!decide (8 < (↑n0:Int)))=true->n2<=9223372036854775807) (.obi (.obi (.obi (.obi (.asm ((!bif decide (8 < (↑n0:Int)) then true else decide (12 < (↑n2:Int)))=true->n4<=9223372036854775807) (.obi (.obi (.obi (.obi (.asm ((!bif bif decide (8 < (↑n0:Int)) then true else decide (12 < (↑n2:Int)) then true else decide (8 < (↑n4:Int)))=true->n6<=9223372036854775807) (.obi (.obi (.br (bif bif bif decide (8 < (↑n0:Int)) then true else decide (12 < (↑n2:Int)) then true else decide (8 < (↑n4:Int)) then true else decide (24 < (↑n6:Int))) (.ret (V.tup [vi 0,vi 0,vi 3])) (.enter [some (some 0)] (FD.L0 (0)) [])))))))))))))))))
theorem aiz (n0:Nat) (f0:ah) (n2:Nat) (f2:ah) (n4:Nat) (f4:ah) (n6:Nat) (f6:ah):dR u3 u0 (D24 n0 f0 n2 f2 n4 f4 n6 f6) (ag7 n0 f0 n2 f2 n4 f4 n6 f6) (m24 n0 f0 n2 f2 n4 f4 n6 f6) (uU n0 f0 n2 f2 n4 f4 n6 f6):=⟨⟨by kernel_rfl,by kernel_rfl⟩,fun s=>by cases s <;> exact ⟨by kernel_rfl,by kernel_rfl⟩⟩
def HE (t:Int × Int × Int):V:=.tup [.int .i64 t.1,.int .i64 t.2.1,.int .i64 t.2.2]
def yV (x y a z w:Int):Int:=bif !!oV x y then (bif (bif bif bif !dn a 1 20000 then true else decide (z < 0) then true else decide (w<=z) then true else decide (1000 < w)) then 7 else 0) else 7
def vU (n:Nat) (c:Nat->Int) (k:Int) (z:Int × Int × Int):Int × Int × Int:=bif de n c != 0 then (k,eW n c,de n c) else z
def cR (n0:Nat) (f0:ah) (i:Nat):Int:=W9 n0 (aa bF f0) (i:Int)
def cT (f2:ah) (i:Nat):Int:=yV (ay (f2 i)) (ba (f2 i)) (cQ (f2 i)) (cM (f2 i)) (cv (f2 i))
def cF (f4:ah) (i:Nat):Int:=WP (ay (f4 i)) (ba (f4 i)) (cQ (f4 i)) (cM (f4 i)) (au (hdV (ab (ab (ab (ab (f4 i))))))) fun j=>ao iu (bj (hdV (ab (ab (ab (ab (f4 i)))))) j)
def cC (n6:Nat) (f6:ah) (i:Nat):Int:=Uv n6 (aa aT f6) (i:Int)
def z3 (n6:Nat) (f6:ah):Int × Int × Int:=vU n6 (cC n6 f6) 4 (0,0,0)
def z2 (n4:Nat) (f4:ah) (n6:Nat) (f6:ah):Int × Int × Int:=vU n4 (cF f4) 3 (z3 n6 f6)
def z1 (n2:Nat) (f2:ah) (n4:Nat) (f4:ah) (n6:Nat) (f6:ah):Int × Int × Int:=vU n2 (cT f2) 2 (z2 n4 f4 n6 f6)
def HA (n0:Nat) (f0:ah) (n2:Nat) (f2:ah) (n4:Nat) (f4:ah) (n6:Nat) (f6:ah):Bool:=bif bif bif decide (8 < (n0:Int)) then true else decide (12 < (n2:Int)) then true else decide (8 < (n4:Int)) then true else decide (24 < (n6:Int))
section
variable (n0:Nat) (f0:ah) (n2:Nat) (f2:ah) (n4:Nat) (f4:ah) (n6:Nat) (f6:ah)
include n0 f0 n2 f2 n4 f4 n6 f6
def XU:Int × Int × Int:=bif HA n0 f0 n2 f2 n4 f4 n6 f6 then (0,0,3) else vU n0 (cR n0 f0) 1 (z1 n2 f2 n4 f4 n6 f6)
def IG:Int:=(XU n0 f0 n2 f2 n4 f4 n6 f6).1
def Oq:Int:=(XU n0 f0 n2 f2 n4 f4 n6 f6).2.1
def mg:Int:=(XU n0 f0 n2 f2 n4 f4 n6 f6).2.2
end
theorem iQ {n:Nat} {c:Nat->Int} {i:Nat} (k:Int) (z:Int × Int × Int) (hi:i < n) (hc:(c i != 0)=true) (h:∀ j,j < i->(c j != 0)=false):vU n c k z=(k,(i:Int),c i):=by
 unfold vU
 obtain ⟨e1,e2⟩:=cm hi hc h
 rw [e1,e2,hc]; rfl
theorem jO {n:Nat} {c:Nat->Int} (k:Int) (z:Int × Int × Int) (h:∀ j,j < n->(c j != 0)=false):vU n c k z=z:=by
 unfold vU
 obtain ⟨e1,e2⟩:=fL h
 rw [e1,e2]; rfl
section
variable (n0:Nat) (f0:ah) (n2:Nat) (f2:ah) (n4:Nat) (f4:ah) (n6:Nat) (f6:ah)
include n0 f0 n2 f2 n4 f4 n6 f6
theorem ahY (hs:aE n6 f6) (i1 i2 i3:Int):Ev (uU n0 f0 n2 f2 n4 f4 n6 f6) (.L3 0 i1 i2 i3) (HE (z3 n6 f6)):=by
 by_cases hn:n6<=9223372036854775807
 ·refine iy (n:=n6) hn (fun i=>cC n6 f6 i != 0) (P:=fun i=>Ev (uU n0 f0 n2 f2 n4 f4 n6 f6) (.L3 i i1 i2 i3) _) (fun i hlt hj next=>Ev.of rfl (evAsm fun _=>ck hlt (aC ⟨by omega,by omega,hn,hs⟩ (af (evBr (fun hb=>evRet ?_) (fun hb=>aQ (next hb))))))) (fun hj=>Ev.of rfl (evAsm fun _=>cd (evRet ?_)))
  ·unfold z3; rw [iQ 4 _ hlt hb hj]; rfl
  ·unfold z3; rw [jO 4 _ hj]; rfl
 ·exact Ev.of rfl (evAsm fun h=>absurd (h rfl) hn)
theorem ajA (hs:aE n6 f6) (i1 i2:Int):Ev (uU n0 f0 n2 f2 n4 f4 n6 f6) (.L2 0 i1 i2) (HE (z2 n4 f4 n6 f6)):=by
 by_cases hn:n4<=9223372036854775807
 ·refine iy (n:=n4) hn (fun i=>cF f4 i != 0) (P:=fun i=>Ev (uU n0 f0 n2 f2 n4 f4 n6 f6) (.L2 i i1 i2) _) (fun i hlt hj next=>Ev.of rfl (evAsm fun _=>ck hlt (bZ hlt (av (af (evBr (fun hb=>evRet ?_) (fun hb=>aQ (next hb)))))))) (fun hj=>Ev.of rfl (evAsm fun _=>cd (aH ?_)))
  ·unfold z2; rw [iQ 3 _ hlt hb hj]; rfl
  ·unfold z2; rw [jO 3 _ hj]; exact ahY n0 f0 n2 f2 n4 f4 n6 f6 hs _ _ _
 ·exact Ev.of rfl (evAsm fun h=>absurd (h rfl) hn)
theorem agF (hs:aE n6 f6) (i1:Int):Ev (uU n0 f0 n2 f2 n4 f4 n6 f6) (.L1 0 i1) (HE (z1 n2 f2 n4 f4 n6 f6)):=by
 by_cases hn:n2<=9223372036854775807
 ·refine iy (n:=n2) hn (fun i=>cT f2 i != 0) (P:=fun i=>Ev (uU n0 f0 n2 f2 n4 f4 n6 f6) (.L1 i i1) _) (fun i hlt hj next=>Ev.of rfl (evAsm fun _=>ck hlt (bZ hlt (av (af (evObi (evBr (fun h=>aM h (av (af ?_))) (fun h=>evRet ?_)))))))) (fun hj=>Ev.of rfl (evAsm fun _=>cd (aH ?_)))
  ·repeat refine evObi ?_
   refine evBr (fun hb=>evRet ?_) (fun hb=>aQ (next ?_))
   ·have e:cT f2 i=7:=by
     unfold cT yV
     rw [show (!!oV (ay (f2 i)) (ba (f2 i)))=true from h]
     exact (congrArg (fun c=>bif c then (7:Int) else 0) hb).trans rfl
    unfold z1; rw [iQ 2 _ hlt (by rw [e]; rfl) hj,e]; rfl
   ·have e:cT f2 i=0:=by
     unfold cT yV
     rw [show (!!oV (ay (f2 i)) (ba (f2 i)))=true from h]
     exact (congrArg (fun c=>bif c then (7:Int) else 0) hb).trans rfl
    rw [e]; rfl
  ·have e:cT f2 i=7:=by
    unfold cT yV
    rw [show (!!oV (ay (f2 i)) (ba (f2 i)))=false from h]; rfl
   unfold z1; rw [iQ 2 _ hlt (by rw [e]; rfl) hj,e]; rfl
  ·unfold z1; rw [jO 2 _ hj]; exact ajA n0 f0 n2 f2 n4 f4 n6 f6 hs _ _
 ·exact Ev.of rfl (evAsm fun h=>absurd (h rfl) hn)
theorem ahp (hr:aE n0 f0) (hs:aE n6 f6):Ev (uU n0 f0 n2 f2 n4 f4 n6 f6) (.L0 0) (HE (vU n0 (cR n0 f0) 1 (z1 n2 f2 n4 f4 n6 f6))):=by
 by_cases hn:n0<=9223372036854775807
 ·refine iy (n:=n0) hn (fun i=>cR n0 f0 i != 0) (P:=fun i=>Ev (uU n0 f0 n2 f2 n4 f4 n6 f6) (.L0 i) _) (fun i hlt hj next=>Ev.of rfl (evAsm fun _=>ck hlt (aC ⟨by omega,by omega,hn,hr⟩ (af (evBr (fun hb=>evRet ?_) (fun hb=>aQ (next hb))))))) (fun hj=>Ev.of rfl (evAsm fun _=>cd (aH ?_)))
  ·rw [iQ 1 _ hlt hb hj]; rfl
  ·rw [jO 1 _ hj]; exact agF n0 f0 n2 f2 n4 f4 n6 f6 hs _
 ·exact Ev.of rfl (evAsm fun h=>absurd (h rfl) hn)
theorem abJ (hp:aE n0 f0/\aE n6 f6):aN (Ev (uU n0 f0 n2 f2 n4 f4 n6 f6)) (m24 n0 f0 n2 f2 n4 f4 n6 f6) (.tup [.int .i64 (IG n0 f0 n2 f2 n4 f4 n6 f6),.int .i64 (Oq n0 f0 n2 f2 n4 f4 n6 f6),.int .i64 (mg n0 f0 n2 f2 n4 f4 n6 f6)]):=by
 show aN _ _ (HE (XU n0 f0 n2 f2 n4 f4 n6 f6))
 unfold XU
 repeat (first | refine evObi ?_ | refine evAsm fun _=>?_)
 refine evBr (fun h=>evRet ?_) (fun h=>aH ?_)
 ·rw [show HA n0 f0 n2 f2 n4 f4 n6 f6=true from h]; rfl
 ·rw [show HA n0 f0 n2 f2 n4 f4 n6 f6=false from h]; exact ahp n0 f0 n2 f2 n4 f4 n6 f6 hp.1 hp.2
theorem alK (hp:aE n0 (aa bF f0)/\aE n6 (aa aT f6)):aN (Ev (uU n0 f0 n2 f2 n4 f4 n6 f6)) (m24 n0 f0 n2 f2 n4 f4 n6 f6) (.tup [.int .i64 (IG n0 (aa bF f0) n2 (aa ce f2) n4 (aa ci f4) n6 (aa aT f6)),.int .i64 (Oq n0 (aa bF f0) n2 (aa ce f2) n4 (aa ci f4) n6 (aa aT f6)),.int .i64 (mg n0 (aa bF f0) n2 (aa ce f2) n4 (aa ci f4) n6 (aa aT f6))]):=abJ n0 f0 n2 f2 n4 f4 n6 f6 hp
end
def C24:aB:=bI [.agg [.sl bF,.sl ce,.sl ci,.sl aT]] (fun
 | [.agg [.sl n0 f0,.sl n2 f2,.sl n4 f4,.sl n6 f6]]=>aE n0 f0/\aE n6 f6
 | _=>False) fun
 | [.agg [.sl n0 f0,.sl n2 f2,.sl n4 f4,.sl n6 f6]]=>.tup [.int .i64 (IG n0 f0 n2 f2 n4 f4 n6 f6),.int .i64 (Oq n0 f0 n2 f2 n4 f4 n6 f6),.int .i64 (mg n0 f0 n2 f2 n4 f4 n6 f6)]
 | _=>.any
theorem agQ:(vP C24).Ok Tryz.prog 64:=bY NO Tryz.func64 (by kernel_rfl) fun ds hp=>jE (aiz ..) (alK _ _ _ _ _ _ _ _ hp)
section
variable (n0:Nat) (f0:ah) (n2:Nat) (f2:ah) (n4:Nat) (f4:ah) (n6:Nat) (f6:ah)
include n0 f0 n2 f2 n4 f4 n6 f6
def m23:RT Empty:=.asm (true=true->n0<=9223372036854775807) (.obi (.obi (.asm ((!decide (8 < (↑n0:Int)))=true->n2<=9223372036854775807) (.obi (.obi (.obi (.obi (.asm ((!bif decide (8 < (↑n0:Int)) then true else decide (12 < (↑n2:Int)))=true->n4<=9223372036854775807) (.obi (.obi (.obi (.obi (.asm ((!bif bif decide (8 < (↑n0:Int)) then true else decide (12 < (↑n2:Int)) then true else decide (8 < (↑n4:Int)))=true->n6<=9223372036854775807) (.obi (.obi (.br (bif bif bif decide (8 < (↑n0:Int)) then true else decide (12 < (↑n2:Int)) then true else decide (8 < (↑n4:Int)) then true else decide (24 < (↑n6:Int))) (.ret (V.tup [vi 0,vi 0,vi 3])) (.obp (∀ (i:Nat),i < n0->(sv (hdV (f0 i))).size<=(9223372036854775807:Nat)) (.obt (.br (nU n0 (aa bF f0) != 0) (.ret (V.tup [vi 1,vi (wA n0 (aa bF f0)),vi (nU n0 (aa bF f0))])) (.obc (.obt (.br (nP n2 (aa ce f2) != 0) (.ret (V.tup [vi 2,vi (vq n2 (aa ce f2)),vi (nP n2 (aa ce f2))])) (.obc (.obt (.br (nA n4 (aa ci f4) != 0) (.ret (V.tup [vi 3,vi (wd n4 (aa ci f4)),vi (nA n4 (aa ci f4))])) (.obp (∀ (i:Nat),i < n6->(sv (hdV (f6 i))).size<=(9223372036854775807:Nat)) (.obt (.br (nE n6 (aa aT f6) != 0) (.ret (V.tup [vi 4,vi (wE n6 (aa aT f6)),vi (nE n6 (aa aT f6))])) (.ret (V.tup [vi 0,vi 0,vi 0]))))))))))))))))))))))))))))))
theorem agu:dh dm (aS JJ u3 u0 s23 [HL n0 f0 n2 f2 n4 f4 n6 f6]) (m23 n0 f0 n2 f2 n4 f4 n6 f6):=⟨by kernel_rfl,by kernel_rfl⟩
def pO:Int:=bif bif bif bif decide (8 < (↑n0:Int)) then true else decide (12 < (↑n2:Int)) then true else decide (8 < (↑n4:Int)) then true else decide (24 < (↑n6:Int)) then 0 else bif nU n0 (aa bF f0) != 0 then 1 else bif nP n2 (aa ce f2) != 0 then 2 else bif nA n4 (aa ci f4) != 0 then 3 else bif nE n6 (aa aT f6) != 0 then 4 else 0
def pA:Int:=bif bif bif bif decide (8 < (↑n0:Int)) then true else decide (12 < (↑n2:Int)) then true else decide (8 < (↑n4:Int)) then true else decide (24 < (↑n6:Int)) then 0 else bif nU n0 (aa bF f0) != 0 then wA n0 (aa bF f0) else bif nP n2 (aa ce f2) != 0 then vq n2 (aa ce f2) else bif nA n4 (aa ci f4) != 0 then wd n4 (aa ci f4) else bif nE n6 (aa aT f6) != 0 then wE n6 (aa aT f6) else 0
def kp:Int:=bif bif bif bif decide (8 < (↑n0:Int)) then true else decide (12 < (↑n2:Int)) then true else decide (8 < (↑n4:Int)) then true else decide (24 < (↑n6:Int)) then 3 else bif nU n0 (aa bF f0) != 0 then nU n0 (aa bF f0) else bif nP n2 (aa ce f2) != 0 then nP n2 (aa ce f2) else bif nA n4 (aa ci f4) != 0 then nA n4 (aa ci f4) else bif nE n6 (aa aT f6) != 0 then nE n6 (aa aT f6) else 0
def YU:V:=.tup [.int i64 (pO n0 f0 n2 f2 n4 f4 n6 f6),.int i64 (pA n0 f0 n2 f2 n4 f4 n6 f6),.int i64 (kp n0 f0 n2 f2 n4 f4 n6 f6)]
theorem amP (hp:aE n0 f0/\aE n6 f6):aN cr (m23 n0 f0 n2 f2 n4 f4 n6 f6) (YU n0 f0 n2 f2 n4 f4 n6 f6):=evAsm (fun a0=>evObi (evObi (evAsm (fun a0=>evObi (evObi (evObi (evObi (evAsm (fun a0=>evObi (evObi (evObi (evObi (evAsm (fun a0=>evObi (evObi (evBr (fun h0=>evRet (by unfold YU pO pA kp; try rw [h0]; rfl)) (fun h0=>aC (by first | assumption | ((first | exact hp.1 | exact hp.2))) (af (evBr (fun h1=>evRet (by unfold YU pO pA kp; try rw [h0]; try rw [h1]; rfl)) (fun h1=>av (af (evBr (fun h2=>evRet (by unfold YU pO pA kp; try rw [h0]; try rw [h1]; try rw [h2]; rfl)) (fun h2=>av (af (evBr (fun h3=>evRet (by unfold YU pO pA kp; try rw [h0]; try rw [h1]; try rw [h2]; try rw [h3]; rfl)) (fun h3=>aC (by first | assumption | ((first | exact hp.1 | exact hp.2))) (af (evBr (fun h4=>evRet (by unfold YU pO pA kp; try rw [h0]; try rw [h1]; try rw [h2]; try rw [h3]; try rw [h4]; rfl)) (fun h4=>evRet (by unfold YU pO pA kp; try rw [h0]; try rw [h1]; try rw [h2]; try rw [h3]; try rw [h4]; rfl))))))))))))))))))))))))))))))
end
def C23:aB:=bI [.agg [.sl bF,.sl ce,.sl ci,.sl aT]] (fun
 | [.agg [.sl n0 f0,.sl n2 f2,.sl n4 f4,.sl n6 f6]]=>aE n0 f0/\aE n6 f6
 | _=>False) fun
 | [.agg [.sl n0 f0,.sl n2 f2,.sl n4 f4,.sl n6 f6]]=>YU n0 f0 n2 f2 n4 f4 n6 f6
 | _=>.any
theorem ae0:(vP C23).Ok Tryz.prog 60:=bY NO Tryz.func60 (by kernel_rfl) fun ds hp=>dG (agu ..) (amP _ _ _ _ _ _ _ _ hp)
def anF (f8:ah) (k:Nat):Bool:=bB (ay (f8 (2 * k))) 0 (i64.wrap (ay (f8 (2 * k+1)) - 1))
def anq (n8:Nat) (f8:ah) (e:Int):Int:=bif e == 0 then (bif jD (n8 / 2) (anF f8) then 4 else 0) else e
section
variable (n0:Nat) (f0:ah) (n2:Nat) (f2:ah) (n4:Nat) (f4:ah) (n6:Nat) (f6:ah)
include n0 f0 n2 f2 n4 f4 n6 f6
def F44 (n8:Nat) (f8:ah):Int:=anq n8 f8 (kp n0 (aa bF f0) n2 (aa ce f2) n4 (aa ci f4) n6 (aa aT f6))
def JZ:Int:=mg n0 (aa bF f0) n2 (aa ce f2) n4 (aa ci f4) n6 (aa aT f6)
def agH (x8 x9:Int):Int:=bif bif JZ n0 (aa bF f0) n2 (aa ce f2) n4 (aa ci f4) n6 (aa aT f6) == 0 then bif decide (x8 < 0) then true else decide (x9<=x8) else false then 4 else JZ n0 (aa bF f0) n2 (aa ce f2) n4 (aa ci f4) n6 (aa aT f6)
end
end
end Go.Dx
namespace Go.Dx
open Go.IntKind (i64 u64 u8)
open Go.Sx
noncomputable section
end
end Go.Dx
namespace Go.Dx
open Go.IntKind (i64 u64 u8)
open Go.Sx Go.Proofs
noncomputable section
attribute [local irreducible] F44 agH JZ
end
end Go.Dx
namespace Go.Proofs
open Go.RowKit Go.Dx
def wX (b:Int) (i:Int):Bool:=bif !(bif decide (97<=b) then decide (b<=122) else false) then (bif i == 0 then true else bif !(bif decide (48<=b) then decide (b<=57) else false) then b != 45 else false) else false
def iF (s:ByteArray):Bool:=cq s.size (fun i=>!wX ((s.data.toList.getD i 0).toNat:Int) i) && decide (0 < s.size/\s.size<=24)
theorem acw {p:Prop} (h:p):Hid p:=h
theorem z8 (w:World) (e:TypeId) (s:ByteArray):Below w.heap.size w (Lib.bytesWorld w e s):=by
 refine ⟨rfl,rfl,rfl,?_,fun b hb=>Lib.bytesWorld_at_old w e s b hb⟩
 rw [Lib.bytesWorld_size]; omega
theorem my (x k:Nat):wX (x:Int) (k:Int)=true ↔ ¬ (97<=x/\x<=122)/\(k=0 ∨ ¬ (48<=x/\x<=57)/\x ≠ 45):=by
 have key:∀ (p1 p2 p3 p4 p5 p6:Bool),(bif !(bif p1 then p2 else false) then (bif p3 then true else bif !(bif p4 then p5 else false) then p6 else false) else false)=true ↔ ¬ (p1=true/\p2=true)/\(p3=true ∨ ¬ (p4=true/\p5=true)/\p6=true):=by decide
 unfold wX
 rw [key]
 simp only [decide_eq_true_eq,beq_iff_eq,bne_iff_ne,ne_eq]
 omega
theorem Om {s:ByteArray} {k x:Nat} (hk:k < s.size) (hx:(s.data.toList.getD k 0).toNat=x) (h:¬ (97<=x/\x<=122)/\(k=0 ∨ ¬ (48<=x/\x<=57)/\x ≠ 45)):iF s=false:=by
 unfold iF
 rw [eV k hk (by rw [hx,(my x k).2 h]; rfl)]; rfl
theorem GX {s:ByteArray} {k x:Nat} (hsp:∀ j:Nat,j < k->wX ((s.data.toList.getD j 0).toNat:Int) j=false) (hx:(s.data.toList.getD k 0).toNat=x) (h:¬ (¬ (97<=x/\x<=122)/\(k=0 ∨ ¬ (48<=x/\x<=57)/\x ≠ 45))):∀ j:Nat,j < k+1->wX ((s.data.toList.getD j 0).toNat:Int) j=false:=fun j hj=>by
 by_cases e:j=k
 ·subst e
  rw [hx]
  cases hb:wX (x:Int) j with
  | false=>rfl
  | true=>exact (h ((my x j).1 hb)).elim
 ·exact hsp j (by omega)
theorem J5 {s:ByteArray} (hsp:∀ j:Nat,j < s.size->wX ((s.data.toList.getD j 0).toNat:Int) j=false):iF s=decide (0 < s.size/\s.size<=24):=by
 unfold iF
 rw [er fun i hi=>by rw [hsp i hi]; rfl]; rfl
theorem Yx (s:ByteArray):s.toList=[] ↔ s.size=0:=by
 rw [ByteArray.toList_eq]
 obtain ⟨⟨l⟩⟩:=s
 show l=[] ↔ l.length=0
 exact List.length_eq_zero_iff.symm
set_option maxHeartbeats 4000000 in
theorem Tryz.name_calls (s:ByteArray) (w:World) (hs:s.size<=9223372036854775807):Calls Tryz.prog 196 #[.string s] w fun e w'=>e=.returned (.bool (iF s))/\Below w.heap.size w w':=by
 have hB:∀ t,t < s.size->(Lib.bytesWorld w 5 s).cell? ⟨w.heap.size,t,none⟩=some (.int .u8 (s.data.toList.getD t 0).toNat):=fun t ht=>Lib.bytesWorld_cell w 5 s t ht
 have hbel:=z8 w 5 s
 go_enter Tryz.func196,Tryz.ntmps196
 go_wp2
 rw [Lib.run_convert_string_bytes w 9 278 5 s (u:=.string) (by kernel_rfl) (by kernel_rfl) (by kernel_rfl)]
 simp only [Result.andThen]
 rw [Oper.upon_value]
 obtain ⟨W1,hW1⟩:∃ W1,W1=Lib.bytesWorld w 5 s:=⟨_,rfl⟩
 rw [← hW1] at hB hbel ⊢
 have HW:=acw hW1
 have HB:=acw hB
 clear hW1 hB
 go_wp2
 go_loop [9] (fun i=>∃ k:Nat,k<=s.size/\i=.int .i64 k/\Hid (∀ j:Nat,j < k->wX ((s.data.toList.getD j 0).toNat:Int) j=false)) (fun i=>s.size - (intOf i).toNat)
 case atStart=>exact ⟨0,Nat.zero_le _,rfl,fun j hj=>absurd hj (Nat.not_lt_zero _)⟩
 case round =>
  obtain ⟨k,hk,rfl,hsp⟩:=hrel
  by_cases hkn:k < s.size
  ·have hc1:=HB.out k hkn
   generalize hx:(s.data.toList.getD k 0).toNat=x at hc1
   have Hx:=acw hx
   clear hx
   go_wp2
   all_goals first
    | (go_ret
       have hb:=Om hkn Hx (by clear HB hsp Hx hc1 HW hbel; try simp only [Bool.not_eq_true',Bool.not_eq_false',decide_eq_false_iff_not,decide_eq_true_eq,beq_iff_eq,bne_iff_ne,ne_eq,beq_eq_false_iff_ne,bne_eq_false_iff_eq] at *; omega)
       rw [hb]; exact ⟨rfl,hbel⟩)
    | exact ⟨⟨k+1,by omega,by first | rfl | (congr 1; omega),GX hsp Hx (by clear HB hsp Hx hc1 HW hbel; try simp only [Bool.not_eq_true',Bool.not_eq_false',decide_eq_false_iff_not,decide_eq_true_eq,beq_iff_eq,bne_iff_ne,ne_eq,beq_eq_false_iff_ne,bne_eq_false_iff_eq] at *; omega)⟩,by simp [intOf]; omega⟩
    | skip
   trace_state
  ·obtain rfl:k=s.size:=by omega
   have he:=J5 hsp
   go_wp2
   ·go_ret
    rename_i h _
    rw [(Yx s).1 h]
    exact ⟨rfl,hbel⟩
   ·go_ret
    rename_i h _
    refine ⟨?_,hbel⟩
    have h0:s.size ≠ 0:=fun e=>h ((Yx s).2 e)
    have e1:s.toList.isEmpty=false:=by cases hl:s.toList with
     | nil=>exact (h hl).elim
     | cons a l=>rfl
    have e2:decide (0 < s.size)=true:=decide_eq_true (by omega)
    have e3:decide ((s.size:Int)<=24)=decide (s.size<=24):=decide_eq_decide.2 (by omega)
    rw [e2]
    show Ending.returned (.bool (!s.toList.isEmpty && decide ((s.size:Int)<=24)))=_
    rw [e1,e3]; rfl
end Go.Proofs
namespace Go.Dx
open Go.Sx Go.Proofs
noncomputable section
def FA:aB:=bI [.str] (fun
 | [.str s]=>s.size<=9223372036854775807
 | _=>False) fun
 | [.str s]=>.bool (iF s)
 | _=>.any
theorem P9:(vP FA).Ok Tryz.prog 196:=by
 refine ⟨fun B m lh w args vs K hrel hargs hsp=>?_,fun _ _ _ _ _ hk ⟨ds,d,p,r,h1,h2,h3,h4,h5⟩=>⟨ds,d,p,r,h1,h2,h3,h4,hk _ _ h5⟩,fun _ _ _ _ ⟨_,_,_,_,_,_,_,_,h⟩=>h⟩
 obtain ⟨ds,d,p,r,h1,h2,⟨h30,h3⟩,h4,h5⟩:=hsp
 simp only [FA,bI,Option.some.injEq,Prod.mk.injEq] at h2
 obtain ⟨rfl,rfl,rfl⟩:=h2
 have hty:=(iz [.str] ds [] [] rfl h30).1
 simp only [bl,cD] at hty
 obtain ⟨e1,e2,e3⟩:=hty
 rw [e2,e3] at e1
 generalize sv (hdV ds)=s at e1
 subst e1
 simp only [jq,unq] at h3 h4 h5
 simp only [bf,vr] at h1
 obtain ⟨_,_,rfl,rfl,rfl⟩:=h1
 simp only [aw,vrel] at hargs
 obtain ⟨_,_,rfl,rfl,rfl⟩:=hargs
 refine ⟨⟨_,Tryz.func196,by kernel_rfl,by kernel_rfl⟩,(Tryz.name_calls s w h3).mono fun e w' ⟨he,hb⟩=>?_⟩
 exact ⟨_,_,m,lh,he,by simp only [cn,vrel],gJ.refl _ _,aW.below hrel hb,h5⟩
end
end Go.Dx
namespace Go.Dx
open Go.IntKind (i64 u64 u8)
open Go.Sx Go.Proofs
noncomputable section
def qx:bd:=[(64,.con C24),(60,.con C23),(146,.con C70),(135,.con C62),(141,.con C68),(136,.con C63),(142,.con C69),(211,.inl aeo u0),(210,.inl ZP u0),(209,.con R6),(207,.con Uh),(150,.con C73),(253,.con Vm),(137,.con C64),(139,.con C66),(205,.con Qu),(138,.con C65),(140,.con C67),(219,.con Oj),(149,.con C72),(206,.con C45),(208,.con C90),(213,.con O4),(215,.con Jf),(152,.con C99),(252,.con Na),(254,.con IY),(255,.con Pg),(204,.con Mj),(212,.con MY),(214,.con Kh),(147,.con C51),(221,.con Pd),(250,.con Mf),(161,.con C86),(148,.con C71),(309,.con U7),(251,.con Mg),(196,.con FA)]
theorem lG:aR Tryz.prog eqs its qx:=.con agQ (.con ae0 (.con abo (.con afc (.con adJ (.con acY (.con adP (fU Tryz.func211 (by kernel_rfl) (fU Tryz.func210 (by kernel_rfl) (.con Kj (.con OY (.con abO (.con yaR (.con aaD (.con acq (.con Ee (.con Te (.con Vr (.con GF (.con Vx (.con QR (.con Ug (.con Gj (.con Ea (.con UA (.con Dh (.con E8 (.con DT (.con E7 (.con EK (.con Ge (.con Tg (.con D7 (.con yay (.con OH (.con VU (.con Mi (.con LK (.con P9 (.nil)))))))))))))))))))))))))))))))))))))))
section
variable (x0 x1 x2:Int)
include x0 x1 x2
def YL:RT Empty:=.obi (.obi (.obi (.ret (V.bool (bif decide (x1<=x0) then decide (x0<=x2) else false)))))
theorem RA:dh dm (aS JJ qx u0 ajY [vi x0,vi x1,vi x2]) (YL x0 x1 x2):=⟨by kernel_rfl,by kernel_rfl⟩
def ar:Bool:=bif decide (x1<=x0) then decide (x0<=x2) else false
def LG:V:=.bool (ar x0 x1 x2)
theorem aaG:aN cr (YL x0 x1 x2) (LG x0 x1 x2):=evObi (evObi (evObi (evRet (by unfold LG ar; rfl))))
end
def DR:aB:=bI bG (fun _=>True) fun
 | [.int _ x0,.int _ x1,.int _ x2]=>LG x0 x1 x2
 | _=>.any
theorem CU:(vP DR).Ok Tryz.prog 133:=bY lG Tryz.func133 (by kernel_rfl) fun ds hp=>dG (RA ..) (aaG _ _ _)
section
variable (x0 x1 x2 x3:Int)
include x0 x1 x2 x3
def Wr:RT Empty:=.obi (.obi (.obi (.obi (.obi (.obi (.obi (.obi (.obi (.ret (V.bool (bif bif decide (x2<=x0) then decide (x0<=x1) else false then decide (x1<=x3) else false)))))))))))
theorem V5:dh dm (aS JJ qx u0 aka [V.agg [vi x0,vi x1],vi x2,vi x3]) (Wr x0 x1 x2 x3):=⟨by kernel_rfl,by kernel_rfl⟩
def eP:Bool:=bif bif decide (x2<=x0) then decide (x0<=x1) else false then decide (x1<=x3) else false
def Pl:V:=.bool (eP x0 x1 x2 x3)
theorem afh:aN cr (Wr x0 x1 x2 x3) (Pl x0 x1 x2 x3):=evObi (evObi (evObi (evObi (evObi (evObi (evObi (evObi (evObi (evRet (by unfold Pl eP; rfl))))))))))
end
def KH:aB:=bI [.agg b4,tI,tI] (fun _=>True) fun
 | [.agg [.int _ x0,.int _ x1],.int _ x2,.int _ x3]=>Pl x0 x1 x2 x3
 | _=>.any
theorem Kk:(vP KH).Ok Tryz.prog 134:=bY lG Tryz.func134 (by kernel_rfl) fun ds hp=>dG (V5 ..) (afh _ _ _ _)
section
variable (x0 x1 x2:Int)
include x0 x1 x2
def X0:RT Empty:=.obi (.obi (.obi (.ret (V.bool (bif decide (x1<=x0) then decide (x0<=x2) else false)))))
theorem T0:dh dm (aS JJ qx u0 XV [vi x0,vi x1,vi x2]) (X0 x0 x1 x2):=⟨by kernel_rfl,by kernel_rfl⟩
def d9:Bool:=bif decide (x1<=x0) then decide (x0<=x2) else false
def Kg:V:=.bool (d9 x0 x1 x2)
theorem ZQ:aN cr (X0 x0 x1 x2) (Kg x0 x1 x2):=evObi (evObi (evObi (evRet (by unfold Kg d9; rfl))))
end
def Qe:aB:=bI bG (fun _=>True) fun
 | [.int _ x0,.int _ x1,.int _ x2]=>Kg x0 x1 x2
 | _=>.any
theorem KO:(vP Qe).Ok Tryz.prog 61:=bY lG Tryz.func61 (by kernel_rfl) fun ds hp=>dG (T0 ..) (ZQ _ _ _)
section
variable (x0 x1 x2:Int)
include x0 x1 x2
def Wz:RT Empty:=.obi (.obi (.obi (.ret (V.bool (bif decide (x1<=x0) then decide (x0<=x2) else false)))))
theorem Vs:dh dm (aS JJ qx u0 afw [vi x0,vi x1,vi x2]) (Wz x0 x1 x2):=⟨by kernel_rfl,by kernel_rfl⟩
def bz:Bool:=bif decide (x1<=x0) then decide (x0<=x2) else false
def Ip:V:=.bool (bz x0 x1 x2)
theorem ad3:aN cr (Wz x0 x1 x2) (Ip x0 x1 x2):=evObi (evObi (evObi (evRet (by unfold Ip bz; rfl))))
end
def Kn:aB:=bI bG (fun _=>True) fun
 | [.int _ x0,.int _ x1,.int _ x2]=>Ip x0 x1 x2
 | _=>.any
theorem Qq:(vP Kn).Ok Tryz.prog 65:=bY lG Tryz.func65 (by kernel_rfl) fun ds hp=>dG (Vs ..) (ad3 _ _ _)
section
variable (x0 x1 x2:Int)
include x0 x1 x2
def Xv:RT Empty:=.obi (.obi (.obi (.ret (V.bool (bif decide (x1<=x0) then decide (x0<=x2) else false)))))
theorem Ux:dh dm (aS JJ qx u0 aih [vi x0,vi x1,vi x2]) (Xv x0 x1 x2):=⟨by kernel_rfl,by kernel_rfl⟩
def aA:Bool:=bif decide (x1<=x0) then decide (x0<=x2) else false
def Ma:V:=.bool (aA x0 x1 x2)
theorem abW:aN cr (Xv x0 x1 x2) (Ma x0 x1 x2):=evObi (evObi (evObi (evRet (by unfold Ma aA; rfl))))
end
def Ig:aB:=bI bG (fun _=>True) fun
 | [.int _ x0,.int _ x1,.int _ x2]=>Ma x0 x1 x2
 | _=>.any
theorem Nf:(vP Ig).Ok Tryz.prog 180:=bY lG Tryz.func180 (by kernel_rfl) fun ds hp=>dG (Ux ..) (abW _ _ _)
def Y6 (s0:ByteArray) (n1:Nat) (f1:ah) (n3:Nat) (f3:ah) (n5:Nat) (f5:ah) (x7 x8:Int):RT Empty:=.ret (V.str s0)
theorem RV (s0:ByteArray) (n1:Nat) (f1:ah) (n3:Nat) (f3:ah) (n5:Nat) (f5:ah) (x7 x8:Int):dh dm (aS JJ qx u0 ahr [V.agg [V.str s0,V.sl n1 (aa ae f1),V.sl n3 (aa ae f3),V.sl n5 (aa [Ty.sl ae] f5),vi x7,vi x8]]) (Y6 s0 n1 f1 n3 f3 n5 f5 x7 x8):=⟨by kernel_rfl,by kernel_rfl⟩
def MC (s0:ByteArray) (n1:Nat) (f1:ah) (n3:Nat) (f3:ah) (n5:Nat) (f5:ah) (x7 x8:Int):V:=.str (s0)
theorem abe (s0:ByteArray) (n1:Nat) (f1:ah) (n3:Nat) (f3:ah) (n5:Nat) (f5:ah) (x7 x8:Int):aN cr (Y6 s0 n1 f1 n3 f3 n5 f5 x7 x8) (MC s0 n1 f1 n3 f3 n5 f5 x7 x8):=evRet (by unfold MC ; rfl)
def Pw:aB:=bI [.agg al] (fun _=>True) fun
 | [.agg [.str s0,.sl n1 f1,.sl n3 f3,.sl n5 f5,.int _ x7,.int _ x8]]=>MC s0 n1 f1 n3 f3 n5 f5 x7 x8
 | _=>.any
theorem Nb:(vP Pw).Ok Tryz.prog 128:=bY lG Tryz.func128 (by kernel_rfl) fun ds hp=>dG (RV ..) (abe _ _ _ _ _ _ _ _ _)
def Yk (s0:ByteArray) (x1 x2 x3 x4 x5 x6 x7 x8 x9 x10 x11 x12 x13:Int):RT Empty:=.ret (V.str s0)
theorem Vl (s0:ByteArray) (x1 x2 x3 x4 x5 x6 x7 x8 x9 x10 x11 x12 x13:Int):dh dm (aS JJ qx u0 aj9 [V.agg [V.str s0,vi x1,vi x2,vi x3,vi x4,vi x5,vi x6,vi x7,vi x8,vi x9,vi x10,vi x11,vi x12,vi x13]]) (Yk s0 x1 x2 x3 x4 x5 x6 x7 x8 x9 x10 x11 x12 x13):=⟨by kernel_rfl,by kernel_rfl⟩
def Jv (s0:ByteArray) (x1 x2 x3 x4 x5 x6 x7 x8 x9 x10 x11 x12 x13:Int):V:=.str (s0)
theorem ae3 (s0:ByteArray) (x1 x2 x3 x4 x5 x6 x7 x8 x9 x10 x11 x12 x13:Int):aN cr (Yk s0 x1 x2 x3 x4 x5 x6 x7 x8 x9 x10 x11 x12 x13) (Jv s0 x1 x2 x3 x4 x5 x6 x7 x8 x9 x10 x11 x12 x13):=evRet (by unfold Jv ; rfl)
def Lk:aB:=bI [.agg am] (fun _=>True) fun
 | [.agg [.str s0,.int _ x1,.int _ x2,.int _ x3,.int _ x4,.int _ x5,.int _ x6,.int _ x7,.int _ x8,.int _ x9,.int _ x10,.int _ x11,.int _ x12,.int _ x13]]=>Jv s0 x1 x2 x3 x4 x5 x6 x7 x8 x9 x10 x11 x12 x13
 | _=>.any
theorem Oh:(vP Lk).Ok Tryz.prog 131:=bY lG Tryz.func131 (by kernel_rfl) fun ds hp=>dG (Vl ..) (ae3 _ _ _ _ _ _ _ _ _ _ _ _ _ _)
def ZH (x0 x1:Int):RT Empty:=.ob (decide (x1 ≠ 0)) (.br (decide (x0.tmod x1 < 0)) (.ob (decide (x1 ≠ 0)) (.ret (vi (i64.wrap (i64.wrap (x0.tdiv x1) - 1))))) (.ob (decide (x1 ≠ 0)) (.ret (vi (i64.wrap (x0.tdiv x1))))))
theorem QV (x0 x1:Int):dh dm (aS JJ qx u0 aiM [vi x0,vi x1]) (ZH x0 x1):=⟨by kernel_rfl,by kernel_rfl⟩
def cX (x0 x1:Int):Int:=bif decide (x0.tmod x1 < 0) then i64.wrap (i64.wrap (x0.tdiv x1) - 1) else i64.wrap (x0.tdiv x1)
def FX (x0 x1:Int):V:=.int i64 (cX x0 x1)
theorem aci (x0 x1:Int) (hp:x1 ≠ 0):aN cr (ZH x0 x1) (FX x0 x1):=aM (by first | assumption | (simp [hp])) (evBr (fun h0=>aM (by first | assumption | (simp [hp])) (evRet (by unfold FX cX; try rw [h0]; rfl))) (fun h0=>aM (by first | assumption | (simp [hp])) (evRet (by unfold FX cX; try rw [h0]; rfl))))
def Jn:aB:=bI b4 (fun
 | [.int _ x0,.int _ x1]=>x1 ≠ 0
 | _=>False) fun
 | [.int _ x0,.int _ x1]=>FX x0 x1
 | _=>.any
theorem IU:(vP Jn).Ok Tryz.prog 181:=bY lG Tryz.func181 (by kernel_rfl) fun ds hp=>dG (QV ..) (aci _ _ hp)
def Xo (x0 x1:Int):RT Empty:=.ob (decide (x1 ≠ 0)) (.ob (decide (x1 ≠ 0)) (.br (decide (x0.tmod x1 < 0)) (.ret (vi (i64.wrap (i64.wrap (x0.tdiv x1) - 1)))) (.ret (vi (i64.wrap (x0.tdiv x1))))))
theorem Wj (x0 x1:Int):dh dm (aS JJ qx u0 ahH [vi x0,vi x1]) (Xo x0 x1):=⟨by kernel_rfl,by kernel_rfl⟩
def eA (x0 x1:Int):Int:=bif decide (x0.tmod x1 < 0) then i64.wrap (i64.wrap (x0.tdiv x1) - 1) else i64.wrap (x0.tdiv x1)
def AJ (x0 x1:Int):V:=.int i64 (eA x0 x1)
theorem adZ (x0 x1:Int) (hp:x1 ≠ 0):aN cr (Xo x0 x1) (AJ x0 x1):=aM (by first | assumption | (simp [hp])) (aM (by first | assumption | (simp [hp])) (evBr (fun h0=>evRet (by unfold AJ eA; try rw [h0]; rfl)) (fun h0=>evRet (by unfold AJ eA; try rw [h0]; rfl))))
def Nm:aB:=bI b4 (fun
 | [.int _ x0,.int _ x1]=>x1 ≠ 0
 | _=>False) fun
 | [.int _ x0,.int _ x1]=>AJ x0 x1
 | _=>.any
theorem CI:(vP Nm).Ok Tryz.prog 91:=bY lG Tryz.func91 (by kernel_rfl) fun ds hp=>dG (Wj ..) (adZ _ _ hp)
def XD (x0 x1:Int):RT Empty:=.ob (decide (x1 ≠ 0)) (.ob (decide (x1 ≠ 0)) (.br (decide (x0.tmod x1 < 0)) (.ret (vi (i64.wrap (i64.wrap (x0.tdiv x1) - 1)))) (.ret (vi (i64.wrap (x0.tdiv x1))))))
theorem R7 (x0 x1:Int):dh dm (aS JJ qx u0 af7 [V.agg [vi x0,vi x1]]) (XD x0 x1):=⟨by kernel_rfl,by kernel_rfl⟩
def cj (x0 x1:Int):Int:=bif decide (x0.tmod x1 < 0) then i64.wrap (i64.wrap (x0.tdiv x1) - 1) else i64.wrap (x0.tdiv x1)
def zt (x0 x1:Int):V:=.int i64 (cj x0 x1)
theorem Z9 (x0 x1:Int) (hp:x1 ≠ 0):aN cr (XD x0 x1) (zt x0 x1):=aM (by first | assumption | (simp [hp])) (aM (by first | assumption | (simp [hp])) (evBr (fun h0=>evRet (by unfold zt cj; try rw [h0]; rfl)) (fun h0=>evRet (by unfold zt cj; try rw [h0]; rfl))))
def Kv:aB:=bI [.agg b4] (fun
 | [.agg [.int _ x0,.int _ x1]]=>x1 ≠ 0
 | _=>False) fun
 | [.agg [.int _ x0,.int _ x1]]=>zt x0 x1
 | _=>.any
theorem Bu:(vP Kv).Ok Tryz.prog 106:=bY lG Tryz.func106 (by kernel_rfl) fun ds hp=>dG (R7 ..) (Z9 _ _ hp)
def WI (x0 x1:Int):RT Empty:=.ob (decide (x1 ≠ 0)) (.br (decide (x0.tmod x1 < 0)) (.ob (decide (x1 ≠ 0)) (.ret (vi (i64.wrap (i64.wrap (x0.tdiv x1) - 1))))) (.ob (decide (x1 ≠ 0)) (.ret (vi (i64.wrap (x0.tdiv x1))))))
theorem R1 (x0 x1:Int):dh dm (aS JJ qx u0 akk [vi x0,vi x1]) (WI x0 x1):=⟨by kernel_rfl,by kernel_rfl⟩
def bU (x0 x1:Int):Int:=bif decide (x0.tmod x1 < 0) then i64.wrap (i64.wrap (x0.tdiv x1) - 1) else i64.wrap (x0.tdiv x1)
def Fe (x0 x1:Int):V:=.int i64 (bU x0 x1)
theorem ae8 (x0 x1:Int) (hp:x1 ≠ 0):aN cr (WI x0 x1) (Fe x0 x1):=aM (by first | assumption | (simp [hp])) (evBr (fun h0=>aM (by first | assumption | (simp [hp])) (evRet (by unfold Fe bU; try rw [h0]; rfl))) (fun h0=>aM (by first | assumption | (simp [hp])) (evRet (by unfold Fe bU; try rw [h0]; rfl))))
def N3:aB:=bI b4 (fun
 | [.int _ x0,.int _ x1]=>x1 ≠ 0
 | _=>False) fun
 | [.int _ x0,.int _ x1]=>Fe x0 x1
 | _=>.any
theorem Lx:(vP N3).Ok Tryz.prog 120:=bY lG Tryz.func120 (by kernel_rfl) fun ds hp=>dG (R1 ..) (ae8 _ _ hp)
def pV:bd:=(133,.con DR)::(134,.con KH)::(61,.con Qe)::(65,.con Kn)::(180,.con Ig)::(128,.con Pw)::(131,.con Lk)::(181,.con Jn)::(91,.con Nm)::(106,.con Kv)::(120,.con N3)::qx
theorem nH:aR Tryz.prog eqs its pV:=.con CU (.con Kk (.con KO (.con Qq (.con Nf (.con Nb (.con Oh (.con IU (.con CI (.con Bu (.con Lx (lG)))))))))))
def WB (x0 x1:Int):RT Empty:=.obp (x1=(0:Int)->False) (.obt (.ret (vi (i64.wrap (0 - cX (i64.wrap (0 - x0)) x1)))))
theorem Wc (x0 x1:Int):dh dm (aS JJ pV u0 afG [vi x0,vi x1]) (WB x0 x1):=⟨by kernel_rfl,by kernel_rfl⟩
def dM (x0 x1:Int):Int:=i64.wrap (0 - cX (i64.wrap (0 - x0)) x1)
def Pi (x0 x1:Int):V:=.int i64 (dM x0 x1)
theorem aeQ (x0 x1:Int) (hp:x1 ≠ 0):aN cr (WB x0 x1) (Pi x0 x1):=aC (by first | assumption | (exact hp)) (af (evRet (by unfold Pi dM; rfl)))
def OU:aB:=bI b4 (fun
 | [.int _ x0,.int _ x1]=>x1 ≠ 0
 | _=>False) fun
 | [.int _ x0,.int _ x1]=>Pi x0 x1
 | _=>.any
theorem I7:(vP OU).Ok Tryz.prog 182:=bY nH Tryz.func182 (by kernel_rfl) fun ds hp=>dG (Wc ..) (aeQ _ _ hp)
def YK (x0 x1:Int):RT Empty:=.obp (x1=(0:Int)->False) (.obt (.ret (vi (i64.wrap (0 - eA (i64.wrap (0 - x0)) x1)))))
theorem Rz (x0 x1:Int):dh dm (aS JJ pV u0 afC [vi x0,vi x1]) (YK x0 x1):=⟨by kernel_rfl,by kernel_rfl⟩
def fI (x0 x1:Int):Int:=i64.wrap (0 - eA (i64.wrap (0 - x0)) x1)
def yaH (x0 x1:Int):V:=.int i64 (fI x0 x1)
theorem ybm (x0 x1:Int) (hp:x1 ≠ 0):aN cr (YK x0 x1) (yaH x0 x1):=aC (by first | assumption | (exact hp)) (af (evRet (by unfold yaH fI; rfl)))
def MK:aB:=bI b4 (fun
 | [.int _ x0,.int _ x1]=>x1 ≠ 0
 | _=>False) fun
 | [.int _ x0,.int _ x1]=>yaH x0 x1
 | _=>.any
theorem Cl:(vP MK).Ok Tryz.prog 92:=bY nH Tryz.func92 (by kernel_rfl) fun ds hp=>dG (Rz ..) (ybm _ _ hp)
def Wp (x0 x1:Int):RT Empty:=.obp (x1=(0:Int)->False) (.obt (.ret (vi (i64.wrap (0 - cj (i64.wrap (0 - x0)) x1)))))
theorem Rx (x0 x1:Int):dh dm (aS JJ pV u0 afM [V.agg [vi x0,vi x1]]) (Wp x0 x1):=⟨by kernel_rfl,by kernel_rfl⟩
def cK (x0 x1:Int):Int:=i64.wrap (0 - cj (i64.wrap (0 - x0)) x1)
def EG (x0 x1:Int):V:=.int i64 (cK x0 x1)
theorem aee (x0 x1:Int) (hp:x1 ≠ 0):aN cr (Wp x0 x1) (EG x0 x1):=aC (by first | assumption | (exact hp)) (af (evRet (by unfold EG cK; rfl)))
def KX:aB:=bI [.agg b4] (fun
 | [.agg [.int _ x0,.int _ x1]]=>x1 ≠ 0
 | _=>False) fun
 | [.agg [.int _ x0,.int _ x1]]=>EG x0 x1
 | _=>.any
theorem Bl:(vP KX).Ok Tryz.prog 108:=bY nH Tryz.func108 (by kernel_rfl) fun ds hp=>dG (Rx ..) (aee _ _ hp)
def WE (x0 x1:Int):RT Empty:=.obp (x1=(0:Int)->False) (.obt (.ret (vi (i64.wrap (0 - bU (i64.wrap (0 - x0)) x1)))))
theorem Vt (x0 x1:Int):dh dm (aS JJ pV u0 akp [vi x0,vi x1]) (WE x0 x1):=⟨by kernel_rfl,by kernel_rfl⟩
def dt (x0 x1:Int):Int:=i64.wrap (0 - bU (i64.wrap (0 - x0)) x1)
def OI (x0 x1:Int):V:=.int i64 (dt x0 x1)
theorem aaR (x0 x1:Int) (hp:x1 ≠ 0):aN cr (WE x0 x1) (OI x0 x1):=aC (by first | assumption | (exact hp)) (af (evRet (by unfold OI dt; rfl)))
def JH:aB:=bI b4 (fun
 | [.int _ x0,.int _ x1]=>x1 ≠ 0
 | _=>False) fun
 | [.int _ x0,.int _ x1]=>OI x0 x1
 | _=>.any
theorem J8:(vP JH).Ok Tryz.prog 99:=bY nH Tryz.func99 (by kernel_rfl) fun ds hp=>dG (Vt ..) (aaR _ _ hp)
section
variable (x0 x1 x2 x3:Int)
include x0 x1 x2 x3
def Wq:RT Empty:=.obi (.br (decide (x0<=x1)) (.ob (decide (x0<=x1)) (.ob (decide (x0<=x1)) (.ob (decide (x0<=x1)) (.obc (.obt (.obi (.br (aA x0 x2 x3) (.ob (aA x0 x2 x3) (.ob (aA x0 x2 x3) (.ob (aA x0 x2 x3) (.obc (.obt (.ret (V.bool (aA x1 x2 x3)))))))) (.ret (V.kb false))))))))) (.ret (V.kb false)))
theorem Sw:dh dm (aS JJ pV u0 afO [V.agg [vi x0,vi x1],vi x2,vi x3]) (Wq x0 x1 x2 x3):=⟨by kernel_rfl,by kernel_rfl⟩
def ef:Bool:=bif decide (x0<=x1) then bif aA x0 x2 x3 then aA x1 x2 x3 else false else false
def zZ:V:=.bool (ef x0 x1 x2 x3)
theorem adn:aN cr (Wq x0 x1 x2 x3) (zZ x0 x1 x2 x3):=evObi (evBr (fun h0=>aM (by first | assumption | (fail)) (aM (by first | assumption | (fail)) (aM (by first | assumption | (fail)) (av (af (evObi (evBr (fun h1=>aM (by first | assumption | (fail)) (aM (by first | assumption | (fail)) (aM (by first | assumption | (fail)) (av (af (evRet (by unfold zZ ef; try rw [h0]; try rw [h1]; rfl))))))) (fun h1=>evRet (by unfold zZ ef; try rw [h0]; try rw [h1]; rfl))))))))) (fun h0=>evRet (by unfold zZ ef; try rw [h0]; rfl)))
end
def OQ:aB:=bI [.agg b4,tI,tI] (fun _=>True) fun
 | [.agg [.int _ x0,.int _ x1],.int _ x2,.int _ x3]=>zZ x0 x1 x2 x3
 | _=>.any
theorem Ia:(vP OQ).Ok Tryz.prog 218:=bY nH Tryz.func218 (by kernel_rfl) fun ds hp=>dG (Sw ..) (adn _ _ _ _)
section
variable (x0 x1 x2:Int)
include x0 x1 x2
def ZG:RT Empty:=.obc (.obt (.ret (V.bool !ar x0 x1 x2)))
theorem VC:dh dm (aS JJ pV u0 Xj [vi x0,V.pd [vi x1],V.pd [vi x2]]) (ZG x0 x1 x2):=⟨by kernel_rfl,by kernel_rfl⟩
def pg:Bool:=!ar x0 x1 x2
def LR:V:=.bool (pg x0 x1 x2)
theorem abc:aN cr (ZG x0 x1 x2) (LR x0 x1 x2):=av (af (evRet (by unfold LR pg; rfl)))
end
def PI:aB:=bI [tI,.pd ae,.pd ae] (fun _=>True) fun
 | [.int _ x0,.pd [.int _ x1],.pd [.int _ x2]]=>LR x0 x1 x2
 | _=>.any
theorem PC:(vP PI).Ok Tryz.prog 222:=bY nH Tryz.func222 (by kernel_rfl) fun ds hp=>dG (VC ..) (abc _ _ _)
theorem wu (n:Nat) (p:Nat->Bool):cq (n+1) p=bif cq n p then p n else false:=by
 cases h:cq n p with
 | false =>
   cases h2:cq (n+1) p with
   | false=>rfl
   | true=>rw [er fun i hi=>dQ h2 i (by omega)] at h; cases h
 | true =>
   cases h3:p n with
   | false=>rw [eV n (by omega) h3]; rfl
   | true=>rw [er fun i hi=>by
      by_cases e:i=n
      ·subst e; exact h3
      ·exact dQ h i (by omega)]; rfl
theorem wJ {S:Type} {Nx:S->V->Prop} {r:V} {x:RT S} {c:Bool} {i n:Nat} (h:i < n) (hn:n<=9223372036854775807) (hc:c=true->((i:Int) == 0)=false) (hx:aN Nx x r):aN Nx (.obj c (decide (0<=i64.wrap ((i:Int) - 1)/\i64.wrap ((i:Int) - 1) < (n:Int))) x) r:=⟨fun hb=>by
 have h0:(i:Int) ≠ 0:=by have:=hc hb; simpa using this
 exact dqt (by rw [wrapI (by omega) (by omega)]; omega),hx⟩
def QL (f0:ah) (i:Nat):Bool:=bif (i:Int) == 0 then true else decide (ay (f0 (i64.wrap ((i:Int) - 1)).toNat) < ay (f0 (i:Int).toNat))
def rng (f0:ah) (i:Nat):Bool:=aA (ay (f0 (i:Int).toNat)) (-5000) 5000
inductive ru where
 | L0 (ia0:Int)
def Vw (n0:Nat) (f0:ah):ru->bp × List O × Option Ex
 | .L0 ia0=>([(3,vi ia0),(2,V.kb false),(0,V.sl n0 (aa ae f0))],[],none)
def acz:ru->JJ
 | .L0 ia0=>(0,[])
section
variable (n0:Nat) (f0:ah)
include n0 f0
def Jy:T (bN JJ):=aS JJ pV u0 ahj [V.sl n0 (aa ae f0)]
def Aj (cx:List Cx):Lp JJ:=fb (eL (Jy n0 f0) [])
def aax:JJ->Lp JJ
 | (0,cx)=>Aj n0 f0 cx
 | (_,cx)=>Aj n0 f0 cx
def ag4:LD JJ ru:=⟨acz,aax n0 f0,Vw n0 f0⟩
def xP:ru->RT ru
 | .L0 ia0=>.asm (true=true->n0<=9223372036854775807) (.br (decide (ia0 < (↑n0:Int))) (.ob (decide (0<=i64.wrap (ia0 - 1)/\i64.wrap (ia0 - 1) < (↑n0:Int))) (.ob (decide (0<=ia0/\ia0 < (↑n0:Int))) (.br (decide (ay (f0 ia0.toNat)<=ay (f0 (i64.wrap (ia0 - 1)).toNat))) (.ret (V.kb false)) (.next [] (ru.L0 (i64.wrap (ia0+1))) [])))) (.ret (V.kb true)))
end
def HT (n0:Nat) (f0:ah):RT ru:=.enter [] (ru.L0 (1)) []
section
variable (n0:Nat) (f0:ah)
include n0 f0
theorem Um:dR pV u0 (ag4 n0 f0) (Jy n0 f0) (HT n0 f0) (xP n0 f0):=⟨⟨by kernel_rfl,by kernel_rfl⟩,fun s=>by cases s <;> exact ⟨by kernel_rfl,by kernel_rfl⟩⟩
def dZ:Bool:=cq n0 (QL f0)
theorem Li:aN (Ev (xP n0 f0)) (HT n0 f0) (.bool (dZ n0 f0)):=by
 have key:=dH (n:=n0) (P:=fun i=>1<=i->(∀ j,j < i->QL f0 j=true)->Ev (xP n0 f0) (.L0 i) (.bool (dZ n0 f0))) fun i hi ih h1 hj=>by
  refine Ev.of rfl (bk fun hn=>evBr (fun h=>?_) (fun h=>evRet ?_))
  ·have hlt:i < n0:=by have:=of_decide_eq_true h; omega
   have h0:((i:Int) == 0)=false:=by simp; omega
   refine aM (dqt (by rw [wrapI (by omega) (by omega)]; omega)) (aM (dqt (by omega)) (evBr (fun hb=>evRet ?_) (fun hb=>aQ ?_)))
   ·have hr:QL f0 i=false:=by unfold QL; rw [h0]; exact jx (by have:=of_decide_eq_true hb; omega)
    simp only [cn]; unfold dZ; rw [eV i hlt hr]
   ·have hr:QL f0 i=true:=by unfold QL; rw [h0]; exact dqt (by have:=of_decide_eq_false hb; omega)
    rw [jT hlt hn]
    refine ih hlt (by omega) fun j h2=>?_
    by_cases e:j=i
    ·subst e; exact hr
    ·exact hj j (by omega)
  ·have:i=n0:=by have:=of_decide_eq_false h; omega
   subst this
   simp only [cn]; unfold dZ; rw [er hj]
 by_cases h0:n0=0
 ·subst h0; exact aH (Ev.of rfl (bk fun _=>ft rfl (evRet rfl)))
 ·exact aH (key 1 (by omega) (by omega) fun j hj=>by
   have:j=0:=by omega
   subst this; rfl)
theorem aaQ:aN (Ev (xP n0 f0)) (HT n0 f0) (.bool (dZ n0 (aa ae f0))):=Li n0 f0
end
def Js:aB:=bI [.sl ae] (fun _=>True) fun
 | [.sl n0 f0]=>.bool (dZ n0 f0)
 | _=>.any
theorem J7:(vP Js).Ok Tryz.prog 200:=bY nH Tryz.func200 (by kernel_rfl) fun ds hp=>jE (Um ..) (aaQ _ _)
inductive rQ where
 | L0 (ia0:Int)
def TV (s0:ByteArray):rQ->bp × List O × Option Ex
 | .L0 ia0=>([(3,vi ia0),(21,V.kb false),(17,V.bool (bif bif decide ((↑s0.size:Int) < 1) then true else decide (24 < (↑s0.size:Int)) then true else decide ((↑(s0.data.1.getD 0 0).toNat:Int) < 97))),(16,V.bool (bif bif decide ((↑s0.size:Int) < 1) then true else decide (24 < (↑s0.size:Int)) then true else decide ((↑(s0.data.1.getD 0 0).toNat:Int) < 97))),(12,V.bool (bif decide ((↑s0.size:Int) < 1) then true else decide (24 < (↑s0.size:Int)))),(11,V.bool (bif decide ((↑s0.size:Int) < 1) then true else decide (24 < (↑s0.size:Int)))),(7,V.bool (decide ((↑s0.size:Int) < 1))),(6,V.bool (decide ((↑s0.size:Int) < 1))),(5,vi (↑s0.size:Int)),(4,V.str s0),(2,V.kb false),(0,V.str s0)],[],none)
def ZM:rQ->JJ
 | .L0 ia0=>(0,[])
section
variable (s0:ByteArray)
include s0
def N1:T (bN JJ):=aS JJ pV u0 agx [V.str s0]
def zw (cx:List Cx):Lp JJ:=fb (eL (N1 s0) [false])
def adX:JJ->Lp JJ
 | (0,cx)=>zw s0 cx
 | (_,cx)=>zw s0 cx
def ah5:LD JJ rQ:=⟨ZM,adX s0,TV s0⟩
def ye:rQ->RT rQ
 | .L0 ia0=>.br (decide (ia0 < (↑s0.size:Int))) (.ob (decide (0<=ia0/\ia0 < (↑s0.size:Int))) (.obi (.obi (.obj (decide (97<=(↑(s0.data.1.getD ia0.toNat 0).toNat:Int))) (decide (0<=ia0/\ia0 < (↑s0.size:Int))) (.obi (.obi (.obi (.obi (.obj (!bif decide (97<=(↑(s0.data.1.getD ia0.toNat 0).toNat:Int)) then decide ((↑(s0.data.1.getD ia0.toNat 0).toNat:Int)<=122) else false) (decide (0<=ia0/\ia0 < (↑s0.size:Int))) (.obi (.obi (.obi (.obi (.obj ((!bif decide (97<=(↑(s0.data.1.getD ia0.toNat 0).toNat:Int)) then decide ((↑(s0.data.1.getD ia0.toNat 0).toNat:Int)<=122) else false) && decide (48<=(↑(s0.data.1.getD ia0.toNat 0).toNat:Int))) (decide (0<=ia0/\ia0 < (↑s0.size:Int))) (.obi (.obi (.obi (.obi (.obi (.obi (.obj (!bif bif decide (97<=(↑(s0.data.1.getD ia0.toNat 0).toNat:Int)) then decide ((↑(s0.data.1.getD ia0.toNat 0).toNat:Int)<=122) else false then true else bif decide (48<=(↑(s0.data.1.getD ia0.toNat 0).toNat:Int)) then decide ((↑(s0.data.1.getD ia0.toNat 0).toNat:Int)<=57) else false) (decide (0<=ia0/\ia0 < (↑s0.size:Int))) (.obi (.obi (.br (!bif bif bif decide (97<=(↑(s0.data.1.getD ia0.toNat 0).toNat:Int)) then decide ((↑(s0.data.1.getD ia0.toNat 0).toNat:Int)<=122) else false then true else bif decide (48<=(↑(s0.data.1.getD ia0.toNat 0).toNat:Int)) then decide ((↑(s0.data.1.getD ia0.toNat 0).toNat:Int)<=57) else false then true else (↑(s0.data.1.getD ia0.toNat 0).toNat:Int) == 45) (.ret (V.kb false)) (.next [] (rQ.L0 (i64.wrap (ia0+1))) []))))))))))))))))))))))))) (.ret (V.kb true))
def EQ:RT rQ:=.obi (.obi (.obi (.obi (.obj (!bif decide ((↑s0.size:Int) < 1) then true else decide (24 < (↑s0.size:Int))) (decide ((0:Int)<=0/\0 < (↑s0.size:Int))) (.obi (.obi (.obi (.obj (!bif bif decide ((↑s0.size:Int) < 1) then true else decide (24 < (↑s0.size:Int)) then true else decide ((↑(s0.data.1.getD 0 0).toNat:Int) < 97)) (decide ((0:Int)<=0/\0 < (↑s0.size:Int))) (.obi (.obi (.br (bif bif bif decide ((↑s0.size:Int) < 1) then true else decide (24 < (↑s0.size:Int)) then true else decide ((↑(s0.data.1.getD 0 0).toNat:Int) < 97) then true else decide (122 < (↑(s0.data.1.getD 0 0).toNat:Int))) (.ret (V.kb false)) (.enter [] (rQ.L0 (0)) []))))))))))))
theorem Wm:dR pV u0 (ah5 s0) (N1 s0) (EQ s0) (ye s0):=⟨⟨by kernel_rfl,by kernel_rfl⟩,fun s=>by cases s <;> exact ⟨by kernel_rfl,by kernel_rfl⟩⟩
def vR:Bool:=bif bif bif decide ((↑s0.size:Int) < 1) then true else decide (24 < (↑s0.size:Int)) then true else decide ((↑(s0.data.1.getD 0 0).toNat:Int) < 97) then true else decide (122 < (↑(s0.data.1.getD 0 0).toNat:Int))
def kR (ii:Nat):Bool:=!bif bif bif decide (97<=(↑(s0.data.1.getD ii 0).toNat:Int)) then decide ((↑(s0.data.1.getD ii 0).toNat:Int)<=122) else false then true else bif decide (48<=(↑(s0.data.1.getD ii 0).toNat:Int)) then decide ((↑(s0.data.1.getD ii 0).toNat:Int)<=57) else false then true else (↑(s0.data.1.getD ii 0).toNat:Int) == 45
def jc:Bool:=bif vR s0 then false else cq s0.size fun i=>!kR s0 i
end
theorem am8 {c:Bool} {n:Nat} (h:(!bif decide ((n:Int) < 1) then true else c)=true):decide ((0:Int)<=0/\0 < (n:Int))=true:=by
 cases hs:decide ((n:Int) < 1) with
 | true=>rw [hs] at h; cases h
 | false=>exact dqt ⟨by omega,by have:=of_decide_eq_false hs; omega⟩
theorem ali {c d:Bool} {n:Nat} (h:(!bif bif decide ((n:Int) < 1) then true else c then true else d)=true):decide ((0:Int)<=0/\0 < (n:Int))=true:=by
 cases hs:decide ((n:Int) < 1) with
 | true=>rw [hs] at h; cases h
 | false=>exact dqt ⟨by omega,by have:=of_decide_eq_false hs; omega⟩
theorem J2 (s0:ByteArray) (hp:s0.size<=9223372036854775807):aN (Ev (ye s0)) (EQ s0) (.bool (jc s0)):=by
 unfold EQ
 repeat (first | refine evObi ?_ | refine evObj am8 ?_ | refine evObj ali ?_)
 refine evBr (fun h=>evRet ?_) (fun h=>aH ?_)
 ·unfold jc; rw [show vR s0=true from h]; rfl
 ·unfold jc; rw [show vR s0=false from h,cond_false]
  refine iy hp (kR s0) (P:=fun i=>Ev (ye s0) (.L0 i) (.bool (cq s0.size fun i=>!kR s0 i))) (fun i hlt hj next=>Ev.of rfl (ck hlt (bZ hlt (by
   repeat (first | refine evObi ?_ | refine m5 hlt ?_)
   refine evBr (fun hb=>evRet ?_) (fun hb=>aQ (next hb))
   simp only [cn]; rw [eV i hlt (by rw [show kR s0 i=true from hb]; rfl)]))))
   (fun hj=>Ev.of rfl (cd (evRet ?_)))
  simp only [cn]; rw [er fun i hi=>by rw [hj i hi]; rfl]
theorem abI (s0:ByteArray) (hp:s0.size<=9223372036854775807):aN (Ev (ye s0)) (EQ s0) (.bool (jc s0)):=J2 s0 hp
def N5:aB:=bI [.str] (fun
 | [.str s0]=>s0.size<=9223372036854775807
 | _=>False) fun
 | [.str s0]=>.bool (jc s0)
 | _=>.any
theorem H7:(vP N5).Ok Tryz.prog 216:=bY nH Tryz.func216 (by kernel_rfl) fun ds hp=>jE (Wm ..) (abI _ hp)
inductive qg where
 | L0 (ia0:Int) (ba1:Bool) (ba2:Bool)
def Sc (n0:Nat) (f0:ah):qg->bp × List O × Option Ex
 | .L0 ia0 ba1 ba2=>([(5,vi ia0),(4,V.bool ba1),(3,V.bool ba2),(2,V.bool (aA (↑n0:Int) 2 12)),(8,V.bool (aA (↑n0:Int) 2 12)),(7,vi (↑n0:Int)),(6,V.sl n0 (aa ae f0)),(0,V.sl n0 (aa ae f0))],[],none)
def ae7:qg->JJ
 | .L0 ia0 ba1 ba2=>(0,[])
section
variable (n0:Nat)
include n0
def JS (f0:ah):T (bN JJ):=aS JJ pV u0 agk [V.sl n0 (aa ae f0)]
def Ad (f0:ah) (cx:List Cx):Lp JJ:=fb (eL (JS n0 f0) [])
def ac6 (f0:ah):JJ->Lp JJ
 | (0,cx)=>Ad n0 f0 cx
 | (_,cx)=>Ad n0 f0 cx
def af2 (f0:ah):LD JJ qg:=⟨ae7,ac6 n0 f0,Sc n0 f0⟩
def uc (f0:ah):qg->RT qg
 | .L0 ia0 ba1 ba2=>.asm (true=true->n0<=9223372036854775807) (.br (decide (ia0 < (↑n0:Int))) (.obi (.obi (.obj (ba2) (decide (0<=ia0/\ia0 < (↑n0:Int))) (.obi (.br (ba2) (.ob (ba2) (.obc (.obt (.obi (.obi (.obi (.obi (.obj (ba1 && !ia0 == 0) (decide (0<=ia0/\ia0 < (↑n0:Int))) (.obi (.obi (.obi (.obi (.obj (ba1 && !ia0 == 0) (decide (0<=i64.wrap (ia0 - 1)/\i64.wrap (ia0 - 1) < (↑n0:Int))) (.obi (.obi (.obi (.obi (.obi (.obi (.next [] (qg.L0 (i64.wrap (ia0+1)) (bif ba1 then bif ia0 == 0 then true else decide (ay (f0 (i64.wrap (ia0 - 1)).toNat) < ay (f0 ia0.toNat)) else false) (aA (ay (f0 ia0.toNat)) (-5000) 5000)) [])))))))))))))))))))) (.obi (.obi (.obi (.obi (.obj (ba1 && !ia0 == 0) (decide (0<=ia0/\ia0 < (↑n0:Int))) (.obi (.obi (.obi (.obi (.obj (ba1 && !ia0 == 0) (decide (0<=i64.wrap (ia0 - 1)/\i64.wrap (ia0 - 1) < (↑n0:Int))) (.obi (.obi (.obi (.obi (.obi (.obi (.next [] (qg.L0 (i64.wrap (ia0+1)) (bif ba1 then bif ia0 == 0 then true else decide (ay (f0 (i64.wrap (ia0 - 1)).toNat) < ay (f0 ia0.toNat)) else false) (false)) [])))))))))))))))))))))) (.ret (V.tup [V.bool (aA (↑n0:Int) 2 12),V.bool ba2,V.bool ba1])))
def Nc (f0:ah):RT qg:=.asm (true=true->n0<=9223372036854775807) (.obc (.obt (.enter [] (qg.L0 (0) (true) (true)) [])))
theorem Sk (f0:ah):dR pV u0 (af2 n0 f0) (JS n0 f0) (Nc n0 f0) (uc n0 f0):=⟨⟨by kernel_rfl,by kernel_rfl⟩,fun s=>by cases s <;> exact ⟨by kernel_rfl,by kernel_rfl⟩⟩
def jo (f0:ah):Bool:=cq n0 (rng f0)
theorem OM (f0:ah):aN (Ev (uc n0 f0)) (Nc n0 f0) (.tup [.bool (aA (n0:Int) 2 12),.bool (jo n0 f0),.bool (dZ n0 f0)]):=by
 refine bk fun hn=>av (af (aH (As hn (P:=fun x=>Ev (uc n0 f0) (.L0 x (cq x.toNat (QL f0)) (cq x.toNat (rng f0))) (.tup [.bool (aA (n0:Int) 2 12),.bool (jo n0 f0),.bool (dZ n0 f0)])) (fun i hlt nx=>?_) (Ev.of rfl (evAsm fun _=>cd (evRet (by simp only [Int.toNat_natCast]; rfl)))))))
 have nx':Ev (uc n0 f0) (.L0 (i64.wrap ((i:Int)+1)) (bif cq i (QL f0) then QL f0 i else false) (bif cq i (rng f0) then rng f0 i else false)) (.tup [.bool (aA (n0:Int) 2 12),.bool (jo n0 f0),.bool (dZ n0 f0)]):=by
  have:=nx
  rw [show (i64.wrap ((i:Int)+1)).toNat=i+1 by rw [jT hlt hn]; rfl,wu,wu] at this
  exact this
 simp only [Int.toNat_natCast]
 have hcc:∀ b:Bool,(b && !(i:Int) == 0)=true->((i:Int) == 0)=false:=fun b h=>by cases b <;> cases he:((i:Int) == 0) <;> simp_all
 refine Ev.of rfl (evAsm fun _=>ck hlt (evObi (evObi (m5 hlt (evObi (evBr (fun hb=>aM hb (av (af ?_))) (fun hb=>?_)))))))
 ·repeat (first | refine evObi ?_ | refine m5 hlt ?_ | refine wJ hlt hn (hcc _) ?_)
  rw [hb,cond_true] at nx'
  exact aQ nx'
 ·repeat (first | refine evObi ?_ | refine m5 hlt ?_ | refine wJ hlt hn (hcc _) ?_)
  rw [hb,cond_false] at nx'
  exact aQ nx' 
theorem aeU (f0:ah):aN (Ev (uc n0 f0)) (Nc n0 f0) (.tup [.bool (aA (n0:Int) 2 12),.bool (jo n0 (aa ae f0)),.bool (dZ n0 (aa ae f0))]):=OM n0 f0
end
def OZ:aB:=bI [.sl ae] (fun _=>True) fun
 | [.sl n0 f0]=>.tup [.bool (aA (n0:Int) 2 12),.bool (jo n0 f0),.bool (dZ n0 f0)]
 | _=>.any
theorem ID:(vP OZ).Ok Tryz.prog 217:=bY nH Tryz.func217 (by kernel_rfl) fun ds hp=>jE (Sk ..) (aeU _ _)
def Rk:bd:=(182,.con OU)::(92,.con MK)::(108,.con KX)::(99,.con JH)::(218,.con OQ)::(222,.con PI)::(200,.con Js)::(216,.con N5)::(217,.con OZ)::pV
theorem WN:aR Tryz.prog eqs its Rk:=.con I7 (.con Cl (.con Bl (.con J8 (.con Ia (.con PC (.con J7 (.con H7 (.con ID (nH)))))))))
inductive rC where
 | L0 (ia0:Int)
def Va (n0:Nat) (f0:ah) (x2 x3:Int):rC->bp × List O × Option Ex
 | .L0 ia0=>([(8,vi ia0),(7,vi (↑n0:Int)),(6,V.sl n0 (aa ae f0)),(4,vi 0),(0,V.sl n0 (aa ae f0)),(1,V.fn 222 [] [V.pd [vi x2],V.pd [vi x3]])],[],none)
def adS:rC->JJ
 | .L0 ia0=>(0,[])
section
variable (n0:Nat) (f0:ah) (x2 x3:Int)
include n0 f0 x2 x3
def H6:T (bN JJ):=aS JJ Rk u0 Td [V.sl n0 (aa ae f0),V.fn 222 [] [V.pd [vi x2],V.pd [vi x3]]]
def zG (cx:List Cx):Lp JJ:=fb (eL (H6 n0 f0 x2 x3) [])
def abR:JJ->Lp JJ
 | (0,cx)=>zG n0 f0 x2 x3 cx
 | (_,cx)=>zG n0 f0 x2 x3 cx
def af4:LD JJ rC:=⟨adS,abR n0 f0 x2 x3,Va n0 f0 x2 x3⟩
def Bt:rC->RT rC
 | .L0 ia0=>.br (decide (ia0 < (↑n0:Int))) (.ob (decide (0<=ia0/\ia0 < (↑n0:Int))) (.obc (.obt (.br (pg (ay (f0 ia0.toNat)) x2 x3) (.ret (vi ia0)) (.next [] (rC.L0 (i64.wrap (ia0+1))) []))))) (.ret (vi (-1)))
end
def JP (n0:Nat) (f0:ah) (x2 x3:Int):RT rC:=.asm (true=true->n0<=9223372036854775807) (.enter [] (rC.L0 (0)) [])
section
variable (n0:Nat) (f0:ah) (x2 x3:Int)
include n0 f0 x2 x3
theorem Sg:dR Rk u0 (af4 n0 f0 x2 x3) (H6 n0 f0 x2 x3) (JP n0 f0 x2 x3) (Bt n0 f0 x2 x3):=⟨⟨by kernel_rfl,by kernel_rfl⟩,fun s=>by cases s <;> exact ⟨by kernel_rfl,by kernel_rfl⟩⟩
def yS:Int  :=vV n0 fun ii=>pg (ay (f0 ii)) x2 x3
theorem PF:aN (Ev (Bt n0 f0 x2 x3)) (JP n0 f0 x2 x3) (.int .i64 (yS n0 f0 x2 x3)):=bk fun hn=>aH (oE hn fun i=>rfl)
theorem acO:aN (Ev (Bt n0 f0 x2 x3)) (JP n0 f0 x2 x3) (.int .i64 (yS n0 (aa ae f0) x2 x3)):=PF n0 f0 x2 x3
end
def IH:aB:=bI [.sl ae,.fn 222 [] [.pd ae,.pd ae]] (fun _=>True) fun
 | [.sl n0 f0,.fn _ [] [.pd [.int _ x2],.pd [.int _ x3]]]=>.int .i64 (yS n0 f0 x2 x3)
 | _=>.any
theorem Ii:(vP IH).Ok Tryz.prog 221:=bY WN Tryz.func221 (by kernel_rfl) fun ds hp=>jE (Sg ..) (acO _ _ _ _)
def afb:bd:=(221,.con IH)::Rk
theorem WH:aR Tryz.prog eqs its afb:=.con Ii (WN)
section
variable (n0:Nat) (f0:ah) (x2 x3:Int)
include n0 f0 x2 x3
def akc:RT Empty:=.obc (.obt (.ret (V.bool (decide (0<=yS n0 (aa ae f0) x2 x3)))))
theorem aaB:dh dm (aS JJ afb u0 s99 [V.sl n0 (aa ae f0),V.fn 222 [] [V.pd [vi x2],V.pd [vi x3]]]) (akc n0 f0 x2 x3):=⟨by kernel_rfl,by kernel_rfl⟩
def xi:Bool:=decide (0<=yS n0 (aa ae f0) x2 x3)
def ae1:V:=.bool (xi n0 f0 x2 x3)
theorem afZ:aN cr (akc n0 f0 x2 x3) (ae1 n0 f0 x2 x3):=av (af (evRet (by unfold ae1 xi; rfl)))
end
def ab1:aB:=bI [.sl ae,.fn 222 [] [.pd ae,.pd ae]] (fun _=>True) fun
 | [.sl n0 f0,.fn _ [] [.pd [.int _ x2],.pd [.int _ x3]]]=>ae1 n0 f0 x2 x3
 | _=>.any
theorem Yz:(vP ab1).Ok Tryz.prog 152:=bY WH Tryz.func152 (by kernel_rfl) fun ds hp=>dG (aaB ..) (afZ _ _ _ _)
def abZ:bd:=(152,.con ab1)::afb
theorem ZJ:aR Tryz.prog eqs its abZ:=.con Yz (WH)
section
variable (n0:Nat) (f0:ah) (x2 x3:Int)
include n0 f0 x2 x3
def Zj:RT Empty:=.obc (.obt (.ret (V.bool !xi n0 (aa ae f0) x2 x3)))
theorem ybi:dh dm (aS JJ abZ u0 XP [V.sl n0 (aa ae f0),vi x2,vi x3]) (Zj n0 f0 x2 x3):=⟨by kernel_rfl,by kernel_rfl⟩
def dq:Bool:=!xi n0 (aa ae f0) x2 x3
def Jh:V:=.bool (dq n0 f0 x2 x3)
theorem aat:aN cr (Zj n0 f0 x2 x3) (Jh n0 f0 x2 x3):=av (af (evRet (by unfold Jh dq; rfl)))
end
def Jk:aB:=bI [.sl ae,tI,tI] (fun _=>True) fun
 | [.sl n0 f0,.int _ x2,.int _ x3]=>Jh n0 f0 x2 x3
 | _=>.any
theorem Ow:(vP Jk).Ok Tryz.prog 164:=bY ZJ Tryz.func164 (by kernel_rfl) fun ds hp=>dG (ybi ..) (aat _ _ _ _)
end
end Go.Dx
