/- Part 4 of a proof. No conditions. -/
import Derived.Test.YtibmdlbnkaihjaaGreatDoorLw3
import Derived.Laws.StructEq
import Derived.ChangeKeysEq
import Derived.Test.YtibmdlbnkaihjaaGreatDoorChecked
import Derived.IntWalk
import Derived.WalkKit
import Derived.Ground.NamesProg
import Derived.Shelf.Strings.SlTrimAscii
set_option maxRecDepth 100000
set_option linter.unusedVariables false
set_option linter.unusedSimpArgs false
namespace Go.Dx
open Go.Sx
inductive bO (J:Type) where
 |res (v:V)
 |head (j:J) (e:bz) (h:List O) (g:Option Ex)
structure Lp (J:Type) where
 fr:Nat×Nat
 body:BB
 k:Ex->bz->List O->Option Ex->T (bO J)
section
variable {α β:Type}
def e7:T α->(α->T β)->T β
 |.ret a,f=>f a
 |.br b x y,f=>.br b (e7 x f) (e7 y f)
 |.ob b x,f=>.ob b (e7 x f)
 |.obi c d x,f=>.obi c d (e7 x f)
 |.obp p x,f=>.obp p (e7 x f)
 |.obq a b x,f=>.obq a b (e7 x f)
 |.fail n,_=>.fail n
 |.loop fr b e h g k,f=>.loop fr b e h g fun x e h g=>e7 (k x e h g) f
 |.all t,f=>.all fun l=>e7 (t l) f
 |.und x y,f=>.und (e7 x f) (e7 y f)
 |.asm p x,f=>.asm p (e7 x f)
theorem BO {LP:eh} {Q:β->Prop} (f:α->T β):∀ t:T α,bw LP (e7 t f) Q=bw LP t fun a=>bw LP (f a) Q:=by
 intro t
 induction t with
 |ret a=>rfl
 |br b x y hx hy=>simp only[e7,bw,hx,hy]
 |ob b x hx=>simp only[e7,bw,hx]
 |obi c d x hx=>simp only[e7,bw,hx]
 |obp p x hx=>simp only[e7,bw,hx]
 |obq a b x hx=>simp only[e7,bw,hx]
 |fail n=>rfl
 |loop fr b e h g k hk=>simp only[e7,bw,hk]
 |all t ht=>simp only[e7,bw,ht]
 |und x y hx hy=>simp only[e7,bw,hx,hy]
 |asm p x hx=>simp only[e7,bw,hx]
theorem jv {LP:eh} (hLP:∀ fr b e h g (P P':Ex->bz->List O->Option Ex->Prop),(∀ x e h g,P x e h g->P' x e h g)->LP fr b e h g P->LP fr b e h g P') {Q Q':α->Prop} (hQ:∀ a,Q a->Q' a):∀ t:T α,bw LP t Q->bw LP t Q':=by
 intro t
 induction t with
 |ret a=>exact hQ a
 |br b x y hx hy=>exact fun h=>⟨fun e=>hx (h.1 e),fun e=>hy (h.2 e)⟩
 |ob b x hx=>exact fun h=>⟨h.1,hx h.2⟩
 |obi c d x hx=>exact fun h=>⟨h.1,hx h.2⟩
 |obp p x hx=>exact fun h=>⟨h.1,hx h.2⟩
 |obq a b x hx=>exact fun h=>⟨h.1,hx h.2⟩
 |fail n=>exact id
 |loop fr b e h g k hk=>exact fun hs=>hLP _ _ _ _ _ _ _ (fun x e h g=>hk x e h g) hs
 |all t ht=>exact fun h l=>ht l (h l)
 |und x y hx hy=>exact fun h=>⟨hx h.1,hy h.2⟩
 |asm p x hx=>exact fun h hp=>hx (h hp)
theorem fT (w0:World) (S:A0):∀ fr b e h g (P P':Ex->bz->List O->Option Ex->Prop),(∀ x e h g,P x e h g->P' x e h g)->cV w0 S fr b e h g P->cV w0 S fr b e h g P':=by
 intro fr b e h g P P' hP
 cases b with
 |s body=>exact fun hl N nbS ν nV nS sl lh QA h1 h2 h3 h4=>hl N nbS ν nV nS sl lh QA h1 h2 h3 fun ex e' h' ν' sl' lh' nV' nS' g0 g1 g2 g3=>h4 ex e' h' ν' sl' lh' nV' nS' g0 g1 g2 (hP _ _ _ _ g3)
 |i body rd=>exact fun hl N N0 ν nV nS sl sl0 lh QA h1 h2 h3 h4 h5 h6 h7 h8=>hl N N0 ν nV nS sl sl0 lh QA h1 h2 h3 h4 h5 h6 h7 fun ex e' h' g' ν' sl' lh' nV' nS' g0 g1 g2 g3=>h8 ex e' h' g' ν' sl' lh' nV' nS' g0 g1 g2 (hP _ _ _ _ g3)
end
mutual
def jN (ρ:mn):V->V->V
 |.any,_=>.any
 |.int _ _,.int k a=>.int k a
 |.bool _,.bool a=>.bool a
 |.bool _,.kb a=>.bool a
 |.kb _,.kb a=>.kb a
 |.str _,.str a=>.str a
 |.agg ys,.agg xs=>.agg (kO ρ ys xs)
 |.tup ys,.tup xs=>.tup (kO ρ ys xs)
 |.fn _ us vs,.fn f xs ys=>.fn f (kO ρ us xs) (kO ρ vs ys)
 |.sl _ _,.sl n f=>.sl n f
 |.pd _,.pd cs=>.pd cs
 | .pl k1 _,.pl k o=>match dB ρ k1 with
   |some (some k')=>cond (Nat.beq k' k) (.pl k1 o) .any
   |_=>.any
 | .pe k1 _ _,.pe k i j=>match dB ρ k1 with
   |some (some k')=>cond (Nat.beq k' k) (.pe k1 i j) .any
   |_=>.any
 | .ss k1 _ _ _,.ss k o n c=>match dB ρ k1 with
   |some (some k')=>cond (Nat.beq k' k) (.ss k1 o n c) .any
   |_=>.any
 | .gs k1 _,.gs k n=>match dB ρ k1 with
   |some (some k')=>cond (Nat.beq k' k) (.gs k1 n) .any
   |_=>.any
 | .gs k1 _,.ns=>match dB ρ k1 with
   |some none=>.gs k1 0
   |_=>.any
 |.ns,.ns=>.ns
 |.np,.np=>.np
 |.yl _,.yl l=>.yl l
 | .go k1 _ _,.go k o n=>match dB ρ k1 with
   |some (some k')=>cond (Nat.beq k' k) (.go k1 o n) .any
   |_=>.any
 |_,_=>.any
def kO (ρ:mn):List V->List V->List V
 |[],[]=>[]
 |y::ys,x::xs=>jN ρ y x::kO ρ ys xs
 |[],_::_=>[.any]
 |_::_,[]=>[]
end
section
variable {ρ:mn}
theorem JF {k k':Nat} {x y:V} (hb:cond (Nat.beq k' k) x V.any=y) (hy:y≠V.any):k'=k/\x=y:=by
 cases hc:Nat.beq k' k with
 |false=>rw[hc]at hb;exact(hy hb.symm).elim
 |true=>rw[hc]at hb;exact⟨Nat.eq_of_beq_eq_true hc,hb⟩
mutual
theorem Gh:∀ (t v:V),jN ρ t v=t->b9 ρ v t
 |.any,v,_=>by cases v<;>simp[b9]
 |.int k n,v,h=>by cases v<;>simp only[jN]at h<;>cases h<;>simp[b9]
 |.bool b,v,h=>by cases v<;>simp only[jN]at h<;>cases h<;>simp[b9]
 |.kb b,v,h=>by cases v<;>simp only[jN]at h<;>cases h<;>simp[b9]
 |.str b,v,h=>by cases v<;>simp only[jN]at h<;>cases h<;>simp[b9]
 | .agg ys,v,h=>by
   cases v<;>simp only[jN]at h<;>first|(cases h;done)|skip
   simp only [V.agg.injEq]at h;simp only[b9];exact yaf ys _ h
 | .tup ys,v,h=>by
   cases v<;>simp only[jN]at h<;>first|(cases h;done)|skip
   simp only [V.tup.injEq]at h;simp only[b9];exact yaf ys _ h
 | .fn f us vs,v,h=>by
   cases v<;>simp only[jN]at h<;>first|(cases h;done)|skip
   simp only [V.fn.injEq]at h;simp only[b9];exact⟨h.1,yaf us _ h.2.1,yaf vs _ h.2.2⟩
 |.sl n f,v,h=>by cases v<;>simp only[jN]at h<;>cases h<;>simp[b9]
 |.pd cs,v,h=>by cases v<;>simp only[jN]at h<;>cases h<;>simp[b9]
 | .pl k1 o1,v,h=>by
   cases v<;>simp only[jN]at h<;>first|(cases h;done)|skip
   split at h
   ·rename_i k' hk
    obtain ⟨rfl,e⟩:=JF h (by simp)
    simp only [V.pl.injEq,true_and]at e
    simp only [b9];exact⟨hk,e⟩
   ·cases h
 | .pe k1 i1 j1,v,h=>by
   cases v<;>simp only[jN]at h<;>first|(cases h;done)|skip
   split at h
   ·rename_i k' hk
    obtain ⟨rfl,e⟩:=JF h (by simp)
    simp only [V.pe.injEq,true_and]at e
    simp only [b9];exact⟨hk,e⟩
   ·cases h
 | .ss k1 i1 j1 c1,v,h=>by
   cases v<;>simp only[jN]at h<;>first|(cases h;done)|skip
   split at h
   ·rename_i k' hk
    obtain ⟨rfl,e⟩:=JF h (by simp)
    simp only [V.ss.injEq,true_and]at e
    simp only [b9];exact⟨hk,e⟩
   ·cases h
 | .gs k1 n1,v,h=>by
   cases v<;>simp only[jN]at h<;>first|(cases h;done)|skip
   ·split at h
    ·rename_i k' hk
     obtain ⟨rfl,e⟩:=JF h (by simp)
     simp only [V.gs.injEq,true_and]at e
     simp only [b9];exact⟨hk,e⟩
    ·cases h
   ·split at h
    ·rename_i hk
     simp only [V.gs.injEq,true_and]at h
     simp only [b9];exact⟨hk,h.symm⟩
    ·cases h
 |.ns,v,h=>by cases v<;>simp only[jN]at h<;>cases h<;>simp[b9]
 |.np,v,h=>by cases v<;>simp only[jN]at h<;>cases h<;>simp[b9]
 |.yl l,v,h=>by cases v<;>simp only[jN]at h<;>cases h<;>simp[b9]
 |.gd b x,v,h=>by cases v<;>simp only[jN]at h<;>cases h
 | .go k1 i1 j1,v,h=>by
   cases v<;>simp only[jN]at h<;>first|(cases h;done)|skip
   split at h
   ·rename_i k' hk
    obtain ⟨rfl,e⟩:=JF h (by simp)
    simp only [V.go.injEq,true_and]at e
    simp only [b9];exact⟨hk,e⟩
   ·cases h
 |.sq n m f,v,h=>by cases v<;>simp only[jN]at h<;>cases h
theorem yaf:∀ (ts vs:List V),kO ρ ts vs=ts->eH ρ vs ts
 |[],[],_=>by simp[eH]
 | y::ys,x::xs,h=>by
   simp only [kO,List.cons.injEq]at h
   simp only [eH];exact⟨Gh y x h.1,yaf ys xs h.2⟩
 |[],_::_,h=>by simp[kO]at h
 |_::_,[],h=>by simp[kO]at h
end
mutual
theorem Q8:∀ (v t:V),b9 [] v t->b9 ρ v t
 |.int ..,t,h=>by cases t<;>simp only[b9]at h ⊢<;>exact h
 |.bool _,t,h=>by cases t<;>simp only[b9]at h ⊢<;>exact h
 |.kb _,t,h=>by cases t<;>simp only[b9]at h ⊢<;>exact h
 |.str _,t,h=>by cases t<;>simp only[b9]at h ⊢<;>exact h
 |.agg xs,t,h=>by cases t<;>simp only[b9]at h ⊢<;>first|exact ji _ _ h|exact h
 |.tup xs,t,h=>by cases t<;>simp only[b9]at h ⊢<;>first|exact ji _ _ h|exact h
 |.fn f xs ys,t,h=>by cases t<;>simp only[b9]at h ⊢<;>first|exact⟨h.1,ji _ _ h.2.1,ji _ _ h.2.2⟩|exact h
 |.sl ..,t,h=>by cases t<;>simp only[b9]at h ⊢<;>exact h
 |.pd ..,t,h=>by cases t<;>simp only[b9]at h ⊢<;>exact h
 |.pl ..,t,h=>by cases t<;>simp only[b9]at h ⊢<;>first|exact h|(simp[dB,fy]at h)
 |.pe ..,t,h=>by cases t<;>simp only[b9]at h ⊢<;>first|exact h|(simp[dB,fy]at h)
 |.ss ..,t,h=>by cases t<;>simp only[b9]at h ⊢<;>first|exact h|(simp[dB,fy]at h)
 |.gs ..,t,h=>by cases t<;>simp only[b9]at h ⊢<;>first|exact h|(simp[dB,fy]at h)
 |.ns,t,h=>by cases t<;>simp only[b9]at h ⊢<;>first|exact h|(simp[dB,fy]at h)
 |.np,t,h=>by cases t<;>simp only[b9]at h ⊢<;>exact h
 |.any,t,h=>by cases t<;>simp only[b9]at h ⊢<;>exact h
 |.gd ..,t,h=>by cases t<;>simp only[b9]at h ⊢<;>exact h
 |.yl _,t,h=>by cases t<;>simp only[b9]at h ⊢<;>exact h
 |.go ..,t,h=>by cases t<;>simp only[b9]at h ⊢<;>first|exact h|(simp[dB,fy]at h)
 |.sq ..,t,h=>by cases t<;>simp only[b9]at h ⊢<;>exact h
theorem ji:∀ (vs ts:List V),eH [] vs ts->eH ρ vs ts
 |[],[],_=>by simp[eH]
 |v::vs,t::ts,h=>by simp only[eH]at h ⊢;exact⟨Q8 v t h.1,ji vs ts h.2⟩
 |[],_::_,h=>by simp[eH]at h
 |_::_,[],h=>by simp[eH]at h
end
end
def yP (ts:List Ty) (n:Nat) (f:aN):Prop:=∀ i,i<n->lk (bK ts) (al ts (f i))=true/\eH [] (f i) (al ts (f i))
structure VF where
 k:Nat
 ts:List Ty
 n:Nat
 f:Nat->List V
 ok:yP ts n f
theorem Kd {t:Ty} (h:bS t=true) (v:V):(cA t v).one=true:=by cases t<;>first|(simp[bS]at h;done)|(simp only[cA];rfl)
theorem w6:∀ {ts:List Ty},ts.all bS=true->∀ vs,(al ts vs).all V.one=true
 |[],_,_=>by simp[al]
 | t::ts,h,vs=>by
   simp only [List.all_cons,Bool.and_eq_true]at h
   simp only [al,List.all_cons,Bool.and_eq_true];exact⟨Kd h.1 _,w6 h.2 _⟩
theorem kA {ts:List Ty} (h:ts.all bS=true) (vs:List V):lk (bK ts) (al ts vs)=true:=Eh (by rw[rI,bH]) (w6 h vs)
theorem IP {t:Ty} (h:bS t=true) (v:V):b9 [] (cA t v) (cA t v):=by cases t<;>first|(simp[bS]at h;done)|(simp only[cA,b9];try simp)
theorem yal:∀ {ts:List Ty},ts.all bS=true->∀ vs,eH [] (al ts vs) (al ts vs)
 |[],_,_=>by simp[al,eH]
 | t::ts,h,vs=>by
   simp only [List.all_cons,Bool.and_eq_true]at h
   simp only [al,eH];exact⟨IP h.1 _,yal h.2 _⟩
theorem ew {ts:List Ty} (h:ts.all bS=true) (n:Nat) (f:aN):yP ts n (aa ts f):=fun i _=>by
 simp only [aa,dz]
 exact ⟨kA h _,yal h _⟩
theorem G0 {ts:List Ty} {n m:Nat} {f g:Nat->List V} (h1:yP ts n f) (h2:yP ts m g):yP ts (n+m) (bG n f g):=fun i hi=>by
 unfold bG
 by_cases hlt:i<n
 ·have hb:Nat.blt i n=true:=Nat.ble_eq_true_of_le hlt
  rw [hb];exact h1 i hlt
 ·have hb:Nat.blt i n=false:=by
   cases hb:Nat.blt i n with
   |false=>rfl
   |true=>have:=Nat.le_of_ble_eq_true hb;omega
  rw [hb];exact h2 _ (by omega)
theorem Al {ts:List Ty} (h:ts.all bS=true) (n:Nat) {ds:List V} (hf:kO [] (al ts ds) ds=al ts ds):yP ts n fun _=>ds:=fun i _=>⟨kA h _,yaf _ _ hf⟩
theorem Pb {ts:List Ty} (h:ts.all bS=true) {n j:Nat} {ds:List V} {f:Nat->List V} (h1:yP ts n f) (hf:kO [] (al ts ds) ds=al ts ds):yP ts n fun i=>cond (Nat.beq i j) ds (f i):=fun i hi=>by
 show lk _ (al ts (cond (Nat.beq i j) ds (f i)))=true/\eH [] (cond (Nat.beq i j) ds (f i)) (al ts (cond (Nat.beq i j) ds (f i)))
 cases Nat.beq i j with
 |true=>exact⟨kA h _,yaf _ _ hf⟩
 |false=>exact h1 i hi
def Db (ts:List Ty) (f:aN):Nat->List (List V)
 |0=>[]
 |n+1=>kO [] (al ts (f n)) (f n)::Db ts f n
def yB (ts:List Ty) (f:aN):Nat->List (List V)
 |0=>[]
 |n+1=>al ts (f n)::yB ts f n
theorem Qk {ts:List Ty} (h:ts.all bS=true) {f:Nat->List V}:∀ {n:Nat},Db ts f n=yB ts f n->yP ts n f
 |0,_=>fun i hi=>by omega
 | n+1,hf=>fun i hi=>by
   simp only [Db,yB,List.cons.injEq]at hf
   by_cases e:i=n
   ·subst e;exact⟨kA h _,yaf _ _ hf.1⟩
   ·exact Qk h hf.2 i (by omega)
def AE (ρ:mn) (e:bz):bz->bz
 |[]=>[]
 |(s,t)::l=>(s,jN ρ t (iu e s))::AE ρ e l
theorem HL {ρ:mn} {e:bz}:∀ {e1:bz},AE ρ e e1=e1->tD ρ e e1
 |[],_=>trivial
 | (s,t)::l,h=>by
   simp only [AE,List.cons.injEq,Prod.mk.injEq,true_and]at h
   exact ⟨Gh _ _ h.1,HL h.2⟩
def v8:List VF->Nat->Option VF
 |[],_=>none
 |v::l,k=>cond (Nat.beq k v.k) (some v) (v8 l k)
def Pw (ρ:mn) (h:List O) (vf:List VF) (k:Nat):O->O
 | .cells cs ty=>match dB ρ k with
   | some (some j)=>match fy h j with
     |some (.cells ds ty')=>.cells (kO ρ cs ds) ty'
     |_=>.dead
   |_=>.dead
 | .gl e n f ty=>match dB ρ k with
   |some none=>.gl e 0 f ty
   | some (some j)=>match fy h j with
     | some (.gl e' m g ty')=>match v8 vf k with
       |some v=>.gl e' m (aa v.ts g) ty'
       |none=>.dead
     |_=>.dead
   |none=>.dead
 |.dead=>.hid
 |.hid=>.hid
def Az (ρ:mn) (h:List O) (vf:List VF):Nat->List O->List O
 |_,[]=>[]
 |k,o::l=>Pw ρ h vf k o::Az ρ h vf (k+1) l
def ot (ρ:mn) (h:List O):List VF->List (Nat×Nat×(Nat->List V))
 |[]=>[]
 | v :: l=>(match dB ρ v.k with
   | some (some j)=>match fy h j with
     |some (.gl e m g _)=>(e,m,g)
     |_=>(0,0,fun _=>[])
   |_=>(0,0,fun _=>[]))::ot ρ h l
def og:List VF->List (Nat×Nat×(Nat->List V))
 |[]=>[]
 |v::l=>(bK v.ts,v.n,v.f)::og l
theorem Br {ρ:mn} {h:List O} {k:Nat} {v:VF}:∀ {vf:List VF},v8 vf k=some v->ot ρ h vf=og vf->v.k=k/\(match dB ρ v.k with
 | some (some j)=>match fy h j with
   |some (.gl e m g _)=>(e,m,g)
   |_=>(0,0,fun _=>[])
 |_=>(0,0,fun _=>[]))=(bK v.ts,v.n,v.f)
 |[],h1,_=>by cases h1
 | x::l,h1,h2=>by
   simp only [ot,og,List.cons.injEq]at h2
   simp only [v8]at h1
   cases hb:Nat.beq k x.k with
   |true=>rw[hb]at h1;cases h1;exact⟨(Nat.eq_of_beq_eq_true hb).symm,h2.1⟩
   |false=>rw[hb]at h1;exact Br h1 h2.2
theorem Un {ρ:mn} {h:List O} {vf:List VF} {k:Nat} {o:O} (hf:Pw ρ h vf k o=o) (hg:ot ρ h vf=og vf):Cr ρ h k o:=by
 cases o with
 | cells cs ty =>
   simp only [Pw]at hf
   split at hf
   ·rename_i j hj
    split at hf
    ·rename_i ds ty' hn
     simp only [O.cells.injEq]at hf
     exact ⟨j,ds,hj,by rw[hn,hf.2],yaf _ _ hf.1⟩
    ·cases hf
   ·cases hf
 | gl e n f ty =>
   simp only [Pw]at hf
   split at hf
   ·rename_i hj
    simp only [O.gl.injEq,true_and,and_true]at hf
    exact .inl ⟨hj,hf.symm⟩
   ·rename_i j hj
    split at hf
    ·rename_i e' m g ty' hn
     split at hf
     ·rename_i v hv
      obtain ⟨rfl,h2⟩:=Br hv hg
      rw [hj]at h2
      simp only [hn,Prod.mk.injEq]at h2
      simp only [O.gl.injEq]at hf
      obtain ⟨rfl,rfl,rfl,rfl⟩:=hf
      obtain ⟨h3,h4,h5⟩:=h2
      refine .inr ⟨j,m,g,hj,hn,Nat.le_refl _,fun i hi=>?_⟩
      have:=v.ok i (by rw[← h4];exact hi)
      rw [← h5,← h3]at this
      exact ⟨this.1,ji _ _ this.2⟩
     ·cases hf
    ·cases hf
   ·cases hf
 |dead=>simp only[Pw]at hf;cases hf
 |hid=>trivial
theorem Gq {ρ:mn} {h:List O} {vf:List VF} (hg:ot ρ h vf=og vf):∀ {l:List O} {k:Nat},Az ρ h vf k l=l->tz ρ h k l
 |[],_,_=>trivial
 | o::l,k,hf=>by
   simp only [Az,List.cons.injEq]at hf
   exact ⟨Un hf.1 hg,Gq hg hf.2⟩
def wy (ρ:mn) (nb:Nat) (h1:List O):Bool:=Nat.beq (bK ρ) (bK h1)&&(DF ρ&&OL ρ nb)
theorem tm (w0:World) {ρ:mn} {nb:Nat} {e e1:bz} {h h1:List O} {vf:List VF} (h0:wy ρ nb h1=true) (he:AE ρ e e1=e1) (hh:Az ρ h vf 0 h1=h1) (hg:ot ρ h vf=og vf):jz w0 nb e h e1 h1:=by
 unfold wy at h0
 simp only [Bool.and_eq_true]at h0
 exact jz.ren w0 ρ h0.1 h0.2.1 h0.2.2 (HL he) (Gq hg hh)
def frR (zs:List VF) (v v':V):Prop:=v'=v∨∃ k n z,v=.gs k n/\z∈zs/\z.k=k/\n<=z.n/\v'=.sl n (aa z.ts z.f)
def WH (zs:List VF):List V->List V->Prop
 |[],[]=>True
 |a::l,b::m=>frR zs a b/\WH zs l m
 |_,_=>False
structure FR (zs:List VF) where
 k:Nat
 n:Nat
 f:Nat->List V
 g:Nat->List V
 ok:∀ i,i<n->WH zs (f i) (g i)
section
variable {zs:List VF}
def II:List (FR zs)->Nat->Option (FR zs)
 |[],_=>none
 |v::l,k=>cond (Nat.beq k v.k) (some v) (II l k)
def ac4 (fr:List (FR zs)) (k:Nat) (o:O):O:=match v8 zs k with
 |some _=>.hid
 | none=>match o with
   | .gl e n f ty=>match II fr k with
     |some r=>.gl e n r.g ty
     |none=>.gl e n f ty
   |o=>o
def frzH (fr:List (FR zs)):Nat->List O->List O
 |_,[]=>[]
 |k,o::l=>ac4 fr k o::frzH fr (k+1) l
def ybg (zs:List VF):Bool:=zs.all fun v=>v.ts.all bS
def IN (h:List O):List VF->List (Option (Nat×Nat×(Nat->List V)))
 |[]=>[]
 | v::l=>(match fy h v.k with
   |some (.gl e m g _)=>some (e,m,g)
   |_=>none)::IN h l
def rr:List VF->List (Option (Nat×Nat×(Nat->List V)))
 |[]=>[]
 |v::l=>some (bK v.ts,v.n,v.f)::rr l
def IC (h:List O):List (FR zs)->List (Option (Nat×(Nat->List V)))
 |[]=>[]
 | v::l=>(match fy h v.k with
   |some (.gl _ m g _)=>some (m,g)
   |_=>none)::IC h l
def IL:List (FR zs)->List (Option (Nat×(Nat->List V)))
 |[]=>[]
 |v::l=>some (v.n,v.f)::IL l
theorem F8 {h:List O} {v:VF}:∀ {l:List VF},IN h l=rr l->v∈l->∃ ty,h[v.k]? = some (.gl (bK v.ts) v.n v.f ty)
 |[],_,hm=>by cases hm
 | x :: l,he,hm=>by
   simp only [IN,rr,List.cons.injEq]at he
   rcases List.mem_cons.1 hm with rfl|hm
   ·have h1:=he.1
    rw [bh]at h1
    split at h1
    ·rename_i e m g ty hk
     simp only [Option.some.injEq,Prod.mk.injEq]at h1
     obtain ⟨rfl,rfl,rfl⟩:=h1
     exact ⟨ty,hk⟩
    ·cases h1
   ·exact F8 he.2 hm
theorem E4 {h:List O} {k:Nat} {r:FR zs}:∀ {l:List (FR zs)},IC h l=IL l->II l k=some r->∃ e ty,h[k]? = some (.gl e r.n r.f ty)
 |[],_,hm=>by cases hm
 | x :: l,he,hm=>by
   simp only [IC,IL,List.cons.injEq]at he
   simp only [II]at hm
   cases hb:Nat.beq k x.k with
   | true =>
     rw [hb]at hm;cases hm
     have h1:=he.1
     rw [bh,← Nat.eq_of_beq_eq_true hb]at h1
     split at h1
     ·rename_i e m g ty hk
      simp only [Option.some.injEq,Prod.mk.injEq]at h1
      obtain ⟨rfl,rfl⟩:=h1
      exact ⟨e,ty,hk⟩
     ·cases h1
   |false=>rw[hb]at hm;exact E4 he.2 hm
theorem wP {v:VF}:∀ {l:List VF},v∈l->v8 l v.k≠none
 | x :: l,hm=>by
   simp only [v8]
   cases hb:Nat.beq v.k x.k with
   |true=>simp
   | false =>
     rcases List.mem_cons.1 hm with rfl|hm
     ·simp at hb
     ·exact wP hm
theorem Ai (fr:List (FR zs)):∀ (l:List O) (b k:Nat),(frzH fr b l)[k]? = (l[k]?).map (ac4 fr (b+k))
 |[],b,k=>by simp[frzH]
 |o::l,b,0=>by simp[frzH]
 | o::l,b,k+1=>by
   simp only [frzH,List.getElem?_cons_succ]
   rw [Ai fr l (b+1) k,show b+1+k=b+(k+1) by omega]
theorem Up {v v':V} (h:frR zs v v') (hv:v.one=true):v'.one=true:=by
 rcases h with rfl|⟨k,n,z,_,_,_,_,rfl⟩
 ·exact hv
 ·rfl
theorem Bs:∀ {l m:List V},WH zs l m->l.all V.one=true->bK m=bK l/\m.all V.one=true
 |[],[],_,_=>⟨rfl,rfl⟩
 | a::l,b::m,h,ho=>by
   simp only [List.all_cons,Bool.and_eq_true]at ho ⊢
   obtain ⟨h1,h2⟩:=Bs h.2 ho.2
   exact ⟨by simp only[bK,h1],Up h.1 ho.1,h2⟩
 |[],_::_,h,_=>h.elim
 |_::_,[],h,_=>h.elim
theorem HJ (w0:World) {nb:Nat} {e:bz} {h:List O} {fr:List (FR zs)} (hc:ybg zs=true) (hz:IN h zs=rr zs) (hf:IC h fr=IL fr):jz w0 nb e h e (frzH fr 0 h):=by
 classical
 intro N ν nV nS sl lh hs hr
 have hB:∀ v,v∈zs->∃ ty,h[v.k]? = some (.gl (bK v.ts) v.n v.f ty):=fun v hv=>F8 hz hv
 let Bf:Nat->Prop:=fun j=>∃ v x,v∈zs/\ν v.k=some (some x)/\x.1=j
 let z1:List ao:=lh.mapIdx fun j o=>if isCells ν.z[j]? = true∨Bf j then o else .hid
 have z1get:∀ j,z1[j]? = (lh[j]?).map fun o=>if isCells ν.z[j]? = true∨Bf j then o else .hid:=fun j=>by simp only[z1,List.getElem?_mapIdx]
 have hza:tt ν.z z1:=fun j az ty hj=>by
  rw [z1get,hr.zl j az ty hj]
  simp only [Option.map_some]
  rw [if_pos (.inl (by rw[hj];rfl))]
 have hzb:tt z1 lh:=fun j az ty hj=>by
  rw [z1get]at hj
  cases hl:lh[j]? with
  |none=>rw[hl]at hj;cases hj
  | some o =>
    rw [hl]at hj
    simp only [Option.map_some,Option.some.injEq]at hj
    split at hj
    ·rw[hj]
    ·cases hj
 let ν1:Nu:=⟨ν.m,z1⟩
 have hsub:ν.sub ν1:=⟨fun _ _ h=>h,hza⟩
 have hfr:∀ {v v':V} {a:af},frR zs v v'->vr w0 ν.z ν v a->vr w0 z1 ν1 v' a:=by
  intro v v' a hv hx
  rcases hv with rfl|⟨k,n,z,rfl,hm,rfl,hn,rfl⟩
  ·exact Z8 hsub _ _ hx
  ·obtain ⟨ty,hk⟩:=hB z hm
   have hts:z.ts.all bS=true:=by unfold ybg at hc;exact List.all_eq_true.1 hc z hm
   simp only [vr]at hx ⊢
   rcases hr.blk _ _ hk with ⟨h1,h2⟩|⟨b,c,az,h1,h2,h3,h4,h5⟩
   ·rcases hx with ⟨_,g2,rfl⟩|⟨b,c,e,g1,_⟩
    ·subst g2;exact⟨none,0,0,rfl,Nat.le_refl _,by omega,trivial,fun i hi=>by omega⟩
    ·rw[h1]at g1;cases g1
   ·rcases hx with ⟨g1,_⟩|⟨b',c',e',g1,rfl,g3⟩
    ·rw[h1]at g1;cases g1
    ·rw [h1]at g1
     obtain ⟨rfl,rfl,rfl⟩:b=b'/\c=c'/\bK z.ts=e':=by simpa using g1
     have hb:z1[b]? = some (.cells az ty):=by
      rw [z1get,h2]
      simp only [Option.map_some]
      rw [if_pos (.inr ⟨z,_,hm,h1,rfl⟩)]
     refine ⟨some (.l b 0),c,bK z.ts,rfl,g3,by omega,⟨az,ty,hb,Nat.zero_le _⟩,fun i hi=>?_⟩
     have hi':i*bK z.ts+bK z.ts<=az.length:=by
      rw [h3,← Nat.succ_mul];exact Nat.mul_le_mul_right _ (by omega)
     have hok:=z.ok i (by omega)
     refine ⟨_,_,rfl,?_,jx hza _ _ (fX (ν:=kQ [] ν) (fun k x hx=>?_) _ _ (ip _ _ _ hok.2 (h5 i (by omega)).2)),mJ _ _ hts⟩
     ·simp only[gy.add,lds,hb,Nat.zero_add]
      rw [if_pos (by omega)]
     ·simp only[kQ,dB,fy]at hx;cases hx
 have hfrs:∀ {l m:List V} {az:List af},WH zs l m->bl w0 ν.z ν l az->bl w0 z1 ν1 m az:=by
  intro l
  induction l with
  |nil=>intro m az h1 h2;cases m with|nil=>simp only[bl]at h2 ⊢;exact h2|cons=>exact h1.elim
  | cons a l ih =>
    intro m az h1 h2
    cases m with
    |nil=>exact h1.elim
    | cons b m =>
      simp only [bl]at h2 ⊢
      obtain ⟨x,xs,rfl,g1,g2⟩:=h2
      exact ⟨x,xs,rfl,hfr h1.1 g1,ih h1.2 g2⟩
 have hget:∀ k o,(frzH fr 0 h)[k]? = some o->o≠.hid->v8 zs k=none/\∃ o',h[k]? = some o'/\o=(match o' with
  | .gl e n f ty=>match II fr k with
    |some r=>O.gl e n r.g ty
    |none=>.gl e n f ty
  |o=>o):=fun k o hk ho=>by
  rw [Ai,Nat.zero_add]at hk
  cases hg:h[k]? with
  |none=>rw[hg]at hk;cases hk
  | some o' =>
    rw [hg]at hk
    simp only [Option.map_some,Option.some.injEq,ac4]at hk
    cases hv:v8 zs k with
    |some v=>rw[hv]at hk;exact(ho hk.symm).elim
    |none=>rw[hv]at hk;exact⟨rfl,o',rfl,hk.symm⟩
 have hlive:∀ k,bb (frzH fr 0 h) k->v8 zs k=none/\bb h k:=fun k hk=>by
  rcases fb hk with ⟨cs,ty,g⟩|⟨e,n,f,ty,g⟩
  ·obtain⟨h1,o',h2,h3⟩:=hget k _ g (by simp)
   refine ⟨h1,?_⟩
   cases o' with
   |cells cs' ty'=>exact dN h2
   |gl e n f ty=>exact fM h2
   |dead=>cases h3
   |hid=>cases h3
  ·obtain⟨h1,o',h2,h3⟩:=hget k _ g (by simp)
   refine ⟨h1,?_⟩
   cases o' with
   |cells cs' ty'=>exact dN h2
   |gl e n f ty=>exact fM h2
   |dead=>cases h3
   |hid=>cases h3
 refine ⟨ν1,nV,nS,NuN.of hsub _,hs.mono hsub,⟨fun k o hk=>?_,fun k k' x x' h1 h2=>hr.inj k k' x x' (hlive k h1).2 (hlive k' h2).2,fun k hk=>hr.dom k ?_,hr.rng,hzb,fun k x hk hx=>?_⟩⟩
 ·by_cases ho:o=.hid
  ·subst ho;trivial
  ·obtain ⟨h1,o',h2,h3⟩:=hget k o hk ho
   have hb:=hr.blk k o' h2
   cases o' with
   |cells cs ty=>subst h3;exact dq hsub (by simp) (fun b az ty g _=>g) hb
   |dead=>subst h3;exact hb
   |hid=>subst h3;trivial
   | gl e n f ty =>
     cases hfa:II fr k with
     |none=>rw[hfa]at h3;subst h3;exact dq hsub (by simp) (fun b az ty g _=>g) hb
     | some r =>
       rw [hfa]at h3;subst h3
       obtain ⟨e',ty',g⟩:=E4 hf hfa
       rw [h2]at g
       simp only [Option.some.injEq,O.gl.injEq]at g
       obtain ⟨_,rfl,rfl,_⟩:=g
       rcases hb with ⟨k1,k2⟩|⟨b,c,az,k1,k2,k3,k4,k5⟩
       ·exact .inl ⟨k1,k2⟩
       ·refine .inr ⟨b,c,az,k1,k2,k3,k4,fun i hi=>?_⟩
        obtain ⟨q1,q2⟩:=k5 i hi
        unfold lk at q1 ⊢
        simp only [Bool.and_eq_true]at q1 ⊢
        obtain ⟨p1,p2⟩:=Bs (r.ok i hi) q1.2
        exact ⟨⟨by rw[p1];exact q1.1,p2⟩,hfrs (r.ok i hi) q2⟩
 ·have hl:(frzH fr 0 h).length=h.length:=by
   have gen:∀ (l:List O) (b:Nat),(frzH fr b l).length=l.length:=fun l=>by
    induction l with
    |nil=>intro b;rfl
    |cons o l ih=>intro b;simp[frzH,ih]
   exact gen h 0
  omega
 ·obtain ⟨h1,h2⟩:=hlive k hk
  have hx':ν k=some (some x):=hx
  have g1:=hr.zn k x h2 hx'
  show isCells z1[x.1]? = false
  rw [z1get]
  cases hl:lh[x.1]? with
  |none=>rfl
  | some o =>
    simp only [Option.map_some]
    rw [if_neg]
    ·rfl
    ·rintro (g2|⟨v,x',hv,g2,g3⟩)
     ·rw[g1]at g2;cases g2
     ·obtain⟨ty,hk'⟩:=hB v hv
      have:=hr.inj v.k k x' x (fM hk') h2 g2 hx' g3
      rw [← this]at h1
      exact wP hv h1
end
inductive RT (S:Type) where
 |ret (v:V)
 |next (ρ:mn) (s:S) (vf:List VF)
 |enter (ρ:mn) (s:S) (vf:List VF)
 |nextz (zs:List VF) (fr:List (FR zs)) (ρ:mn) (s:S) (vf:List VF)
 |enterz (zs:List VF) (fr:List (FR zs)) (ρ:mn) (s:S) (vf:List VF)
 |br (b:Bool) (x y:RT S)
 |brt (x:RT S)
 |brf (y:RT S)
 |brx (b:Bool) (x:RT S)
 |bry (b:Bool) (y:RT S)
 |ob (b:Bool) (x:RT S)
 |obt (x:RT S)
 |obv (b:Bool) (h:b=true) (x:RT S)
 |obi (x:RT S)
 |obj (c b:Bool) (x:RT S)
 |obc (x:RT S)
 |obp (p:Prop) (x:RT S)
 |obe (ts:List Ty) (ds:List V) (x:RT S)
 |und (x y:RT S)
 |asm (p:Prop) (x:RT S)
 |all (f:Nat->RT S)
 |fail
structure LD (J S:Type) where
 id:S->J
 lp:J->Lp J
 inv:S->bz×List O×Option Ex
inductive FT (J:Type) where
 |res (v:V)
 |head (j:J) (g:Option Ex) (ok:Bool) (e:bz) (h:List O) (vs:List (Nat×Nat×(Nat->List V)))
 |loop (fr:Nat×Nat) (b:BB) (k:Ex->bz->List O->Option Ex->T (bO J)) (g:Option Ex) (ok:Bool) (e:bz) (h:List O) (vs:List (Nat×Nat×(Nat->List V)))
 |headz (c:Bool) (zg:List (Option (Nat×Nat×(Nat->List V)))) (fg:List (Option (Nat×(Nat->List V)))) (j:J) (g:Option Ex) (ok:Bool) (e:bz) (h:List O) (vs:List (Nat×Nat×(Nat->List V)))
 |loopz (c:Bool) (zg:List (Option (Nat×Nat×(Nat->List V)))) (fg:List (Option (Nat×(Nat->List V)))) (fr:Nat×Nat) (b:BB) (k:Ex->bz->List O->Option Ex->T (bO J)) (g:Option Ex) (ok:Bool) (e:bz) (h:List O) (vs:List (Nat×Nat×(Nat->List V)))
 |br (b:Bool) (x y:FT J)
 |brt (b:Bool) (x:FT J)
 |brf (b:Bool) (y:FT J)
 |brx (b:Bool) (x:FT J)
 |bry (b:Bool) (y:FT J)
 |ob (b:Bool) (x:FT J)
 |obt (b:Bool) (x:FT J)
 |obi (x:FT J)
 |obj (c b:Bool) (x:FT J)
 |obp (p:Prop) (x:FT J)
 |obe (a b:List V) (x:FT J)
 |und (x y:FT J)
 |asm (p:Prop) (x:FT J)
 |all (f:Nat->FT J)
 |fail (n:Nat)
section
variable {J S:Type}
def amA (a b:List V) (k:RT S->FT J):RT S->FT J
 |.obe _ _ x=>.obe a b (k x)
 |t=>k t
def aln (a b:List V) (k:RT S->T (bO J)):RT S->T (bO J)
 |.obe _ _ x=>.obq a b (k x)
 |t=>.obq a a (k t)
def eg (D:LD J S):T (bO J)->RT S->FT J
 |.ret (.res v),.ret _=>.res v
 |.ret (.head j e h g),.next ρ s vf=>.head j g (wy ρ (D.lp j).fr.2 (D.inv s).2.1) (AE ρ e (D.inv s).1) (Az ρ h vf 0 (D.inv s).2.1) (ot ρ h vf)
 |.loop fr b e h g k,.enter ρ s vf=>.loop fr b k g (wy ρ fr.2 (D.inv s).2.1) (AE ρ e (D.inv s).1) (Az ρ h vf 0 (D.inv s).2.1) (ot ρ h vf)
 |.ret (.head j e h g),.nextz zs fz ρ s vf=>.headz (ybg zs) (IN h zs) (IC h fz) j g (wy ρ (D.lp j).fr.2 (D.inv s).2.1) (AE ρ e (D.inv s).1) (Az ρ (frzH fz 0 h) vf 0 (D.inv s).2.1) (ot ρ (frzH fz 0 h) vf)
 |.loop fr b e h g k,.enterz zs fz ρ s vf=>.loopz (ybg zs) (IN h zs) (IC h fz) fr b k g (wy ρ fr.2 (D.inv s).2.1) (AE ρ e (D.inv s).1) (Az ρ (frzH fz 0 h) vf 0 (D.inv s).2.1) (ot ρ (frzH fz 0 h) vf)
 |.br b x y,.br _ x' y'=>.br b (eg D x x') (eg D y y')
 |.br b x _,.brt x'=>.brt b (eg D x x')
 |.br b _ y,.brf y'=>.brf b (eg D y y')
 |.br b x _,.brx _ x'=>.brx b (eg D x x')
 |.br b _ y,.bry _ y'=>.bry b (eg D y y')
 |.ob b x,.ob _ x'=>.ob b (eg D x x')
 |.ob b x,.obt x'=>.obt b (eg D x x')
 |.ob b x,.obv _ _ x'=>.ob b (eg D x x')
 |.obp p x,.obc x'=>.obp p (eg D x x')
 |.obi _ d x,.obt x'=>.obt d (eg D x x')
 |.obi _ d x,.ob _ x'=>.ob d (eg D x x')
 |.obi _ d x,.obv _ _ x'=>.ob d (eg D x x')
 |.obi _ _ x,.obi x'=>.obi (eg D x x')
 |.obi c d x,.obj _ _ x'=>.obj c d (eg D x x')
 |.obp p x,.obp _ x'=>.obp p (eg D x x')
 |.obq a b x,t=>amA a b (eg D x) t
 |.und x y,.und x' y'=>.und (eg D x x') (eg D y y')
 |.asm p x,.asm _ x'=>.asm p (eg D x x')
 |.all f,.all g=>.all fun l=>eg D (f l) (g l)
 |.fail _,.fail=>.fail 1
 |_,_=>.fail 0
def bY:T (bO J)->RT S->T (bO J)
 |.br b x y,.br _ x' y'=>.br b (bY x x') (bY y y')
 |.br b x y,.brt x'=>.br b (bY x x') y
 |.br b x y,.brf y'=>.br b x (bY y y')
 |.br b x y,.brx _ x'=>.br b (bY x x') y
 |.br b x y,.bry _ y'=>.br b x (bY y y')
 |.ob b x,.ob _ x'=>.ob b (bY x x')
 |.ob b x,.obt x'=>.ob b (bY x x')
 |.ob b x,.obv _ _ x'=>.ob b (bY x x')
 |.obp p x,.obp _ x'=>.obp p (bY x x')
 |.obp p x,.obc x'=>.obp p (bY x x')
 |.obi c d x,.obt x'=>.obi c d (bY x x')
 |.obi c d x,.ob _ x'=>.obi c d (bY x x')
 |.obi c d x,.obv _ _ x'=>.obi c d (bY x x')
 |.obi c _ x,.obi x'=>.obi c c (bY x x')
 |.obi c d x,.obj _ _ x'=>.obi c d (bY x x')
 |.obq a b x,t=>aln a b (bY x) t
 |.und x y,.und x' y'=>.und (bY x x') (bY y y')
 |.asm p x,.asm _ x'=>.asm p (bY x x')
 |.all f,.all g=>.all fun l=>bY (f l) (g l)
 |t,_=>t
def ml (D:LD J S):RT S->FT J
 |.ret v=>.res v
 |.next _ s vf=>.head (D.id s) (D.inv s).2.2 true (D.inv s).1 (D.inv s).2.1 (og vf)
 |.enter _ s vf=>.loop (D.lp (D.id s)).fr (D.lp (D.id s)).body (D.lp (D.id s)).k (D.inv s).2.2 true (D.inv s).1 (D.inv s).2.1 (og vf)
 |.nextz zs fz _ s vf=>.headz true (rr zs) (IL fz) (D.id s) (D.inv s).2.2 true (D.inv s).1 (D.inv s).2.1 (og vf)
 |.enterz zs fz _ s vf=>.loopz true (rr zs) (IL fz) (D.lp (D.id s)).fr (D.lp (D.id s)).body (D.lp (D.id s)).k (D.inv s).2.2 true (D.inv s).1 (D.inv s).2.1 (og vf)
 |.br b x y=>.br b (ml D x) (ml D y)
 |.brt x=>.brt true (ml D x)
 |.brf y=>.brf false (ml D y)
 |.brx b x=>.brx b (ml D x)
 |.bry b y=>.bry b (ml D y)
 |.ob b x=>.ob b (ml D x)
 |.obt x=>.obt true (ml D x)
 |.obv b _ x=>.ob b (ml D x)
 |.obi x=>.obi (ml D x)
 |.obj c b x=>.obj c b (ml D x)
 |.obc x=>.obp True (ml D x)
 |.obp p x=>.obp p (ml D x)
 |.obe ts ds x=>.obe (jL ts ds []) (jM ts ds []) (ml D x)
 |.und x y=>.und (ml D x) (ml D y)
 |.asm p x=>.asm p (ml D x)
 |.all f=>.all fun l=>ml D (f l)
 |.fail=>.fail 1
def aR (Nx:S->V->Prop):RT S->V->Prop
 |.ret v,r=>ce v=ce r
 |.next _ s _,r=>Nx s r
 |.enter _ s _,r=>Nx s r
 |.nextz _ _ _ s _,r=>Nx s r
 |.enterz _ _ _ s _,r=>Nx s r
 |.br b x y,r=>(b=true->aR Nx x r)/\(b=false->aR Nx y r)
 |.brt x,r=>aR Nx x r
 |.brf y,r=>aR Nx y r
 |.brx b x,r=>b=true/\aR Nx x r
 |.bry b y,r=>b=false/\aR Nx y r
 |.ob b x,r=>b=true/\aR Nx x r
 |.obt x,r=>aR Nx x r
 |.obv _ _ x,r=>aR Nx x r
 |.obi x,r=>aR Nx x r
 |.obj c b x,r=>(c=true->b=true)/\aR Nx x r
 |.obc x,r=>aR Nx x r
 |.obp p x,r=>p/\aR Nx x r
 |.obe ts ds x,r=>jL ts ds []=jM ts ds []/\aR Nx x r
 |.und x y,r=>aR Nx x r/\aR Nx y r
 |.asm p x,r=>p->aR Nx x r
 |.all f,r=>∀ l,aR Nx (f l) r
 |.fail,_=>False
def q5 (step:S->RT S):Nat->S->V->Prop
 |0,_,_=>False
 |n+1,s,r=>aR (q5 step n) (step s) r
def Ev (step:S->RT S) (s:S) (r:V):Prop:=∃ n,q5 step n s r
theorem vc {Nx Ny:S->V->Prop} {r:V} (h:∀ s,Nx s r->Ny s r):∀ t:RT S,aR Nx t r->aR Ny t r:=by
 intro t
 induction t with
 |ret v=>exact id
 |next ρ s vf=>exact h s
 |enter ρ s vf=>exact h s
 |nextz zs fz ρ s vf=>exact h s
 |enterz zs fz ρ s vf=>exact h s
 |br b x y hx hy=>exact fun k=>⟨fun e=>hx (k.1 e),fun e=>hy (k.2 e)⟩
 |brt x hx=>exact hx
 |brf y hy=>exact hy
 |brx b x hx=>exact fun k=>⟨k.1,hx k.2⟩
 |bry b y hy=>exact fun k=>⟨k.1,hy k.2⟩
 |ob b x hx=>exact fun k=>⟨k.1,hx k.2⟩
 |obt x hx=>exact hx
 |obv b h x hx=>exact hx
 |obi x hx=>exact hx
 |obj c b x hx=>exact fun k=>⟨k.1,hx k.2⟩
 |obc x hx=>exact hx
 |obp p x hx=>exact fun k=>⟨k.1,hx k.2⟩
 |obe a b x hx=>exact fun k=>⟨k.1,hx k.2⟩
 |und x y hx hy=>exact fun k=>⟨hx k.1,hy k.2⟩
 |asm p x hx=>exact fun k hp=>hx (k hp)
 |all f hf=>exact fun k l=>hf l (k l)
 |fail=>exact id
theorem Ao {step:S->RT S} {r:V}:∀ {n:Nat} {s:S},q5 step n s r->q5 step (n+1) s r
 |0,s,h=>h.elim
 |n+1,s,h=>vc (fun s hs=>Ao hs) _ h
theorem uE {step:S->RT S} {r:V} {n m:Nat} {s:S} (h:q5 step n s r) (hm:n<=m):q5 step m s r:=by
 induction hm with
 |refl=>exact h
 |step _ ih=>exact Ao ih
section
variable {Nx:S->V->Prop} {r:V}
theorem evRet {v:V} (h:ce v=ce r):aR Nx (.ret v) r:=h
theorem evBr {b:Bool} {x y:RT S} (h1:b=true->aR Nx x r) (h2:b=false->aR Nx y r):aR Nx (.br b x y) r:=⟨h1,h2⟩
theorem ec {x:RT S} (h:aR Nx x r):aR Nx (.brt x) r:=h
theorem lZ {x:RT S} (h:aR Nx x r):aR Nx (.brf x) r:=h
theorem al0 {b:Bool} {x:RT S} (h1:b=false) (h:aR Nx x r):aR Nx (.bry b x) r:=⟨h1,h⟩
theorem yd {b:Bool} (h:(!b)=false):b=true:=by cases b;cases h;rfl
theorem R1 {b:Bool} (h:(!b)=true):b=false:=by cases b;rfl;cases h
theorem aE {b:Bool} {x:RT S} (h1:b=true) (h2:aR Nx x r):aR Nx (.ob b x) r:=⟨h1,h2⟩
theorem evObt {x:RT S} (h:aR Nx x r):aR Nx (.obt x) r:=h
theorem akH {b:Bool} {hb:b=true} {x:RT S} (h:aR Nx x r):aR Nx (.obv b hb x) r:=h
theorem evObi {x:RT S} (h:aR Nx x r):aR Nx (.obi x) r:=h
theorem evObj {c b:Bool} {x:RT S} (h1:c=true->b=true) (h2:aR Nx x r):aR Nx (.obj c b x) r:=⟨h1,h2⟩
theorem aw {x:RT S} (h:aR Nx x r):aR Nx (.obc x) r:=h
theorem evObp {p:Prop} {x:RT S} (h1:p) (h2:aR Nx x r):aR Nx (.obp p x) r:=⟨h1,h2⟩
theorem ZW {ts:List Ty} {ds:List V} {x:RT S} (h1:jL ts ds []=jM ts ds []) (h2:aR Nx x r):aR Nx (.obe ts ds x) r:=⟨h1,h2⟩
theorem alD {x y:RT S} (h1:aR Nx x r) (h2:aR Nx y r):aR Nx (.und x y) r:=⟨h1,h2⟩
theorem evAsm {p:Prop} {x:RT S} (h:p->aR Nx x r):aR Nx (.asm p x) r:=h
theorem bg {p:Prop} {x:RT S} (h:p->aR Nx x r):aR Nx (.asm (true=true->p) x) r:=fun k=>h (k rfl)
theorem ul {f:Nat->RT S} (h:∀ l,aR Nx (f l) r):aR Nx (.all f) r:=h
theorem aF {ρ:mn} {s:S} {vf:List VF} (h:Nx s r):aR Nx (.enter ρ s vf) r:=h
theorem aK {ρ:mn} {s:S} {vf:List VF} (h:Nx s r):aR Nx (.next ρ s vf) r:=h
end
def eK:RT S->Bool
 |.br _ x y=>eK x&&eK y
 |.brt x=>eK x
 |.brf y=>eK y
 |.brx _ x=>eK x
 |.bry _ y=>eK y
 |.ob _ x=>eK x
 |.obt x=>eK x
 |.obv _ _ x=>eK x
 |.obi x=>eK x
 |.obj _ _ x=>eK x
 |.obc x=>eK x
 |.obp _ x=>eK x
 |.obe _ _ x=>eK x
 |.und x y=>eK x&&eK y
 |.asm _ x=>eK x
 |.all _=>false
 |_=>true
theorem acQ {step:S->RT S} {r:V}:∀ t:RT S,eK t=true->aR (Ev step) t r->∃ n,aR (q5 step n) t r:=by
 intro t
 induction t with
 |ret v=>exact fun _ h=>⟨0,h⟩
 |next ρ s vf=>exact fun _ ⟨n,h⟩=>⟨n,h⟩
 |enter ρ s vf=>exact fun _ ⟨n,h⟩=>⟨n,h⟩
 |nextz zs fz ρ s vf=>exact fun _ ⟨n,h⟩=>⟨n,h⟩
 |enterz zs fz ρ s vf=>exact fun _ ⟨n,h⟩=>⟨n,h⟩
 | br b x y hx hy =>
   intro h0 h
   simp only [eK,Bool.and_eq_true]at h0
   cases b with
   |true=>obtain⟨n,hn⟩:=hx h0.1 (h.1 rfl);exact⟨n,fun _=>hn,fun e=>by cases e⟩
   |false=>obtain⟨n,hn⟩:=hy h0.2 (h.2 rfl);exact⟨n,(fun e=>by cases e),fun _=>hn⟩
 |brt x hx=>exact fun h0 h=>hx h0 h
 |brf y hy=>exact fun h0 h=>hy h0 h
 |brx b x hx=>exact fun h0 h=>let ⟨n,hn⟩:=hx h0 h.2;⟨n,h.1,hn⟩
 |bry b y hy=>exact fun h0 h=>let ⟨n,hn⟩:=hy h0 h.2;⟨n,h.1,hn⟩
 |ob b x hx=>exact fun h0 h=>let ⟨n,hn⟩:=hx h0 h.2;⟨n,h.1,hn⟩
 |obt x hx=>exact fun h0 h=>hx h0 h
 |obv b h x hx=>exact fun h0 h=>hx h0 h
 |obi x hx=>exact fun h0 h=>hx h0 h
 |obj c b x hx=>exact fun h0 h=>let ⟨n,hn⟩:=hx h0 h.2;⟨n,h.1,hn⟩
 |obc x hx=>exact fun h0 h=>hx h0 h
 |obp p x hx=>exact fun h0 h=>let ⟨n,hn⟩:=hx h0 h.2;⟨n,h.1,hn⟩
 |obe a b x hx=>exact fun h0 h=>let ⟨n,hn⟩:=hx h0 h.2;⟨n,h.1,hn⟩
 | und x y hx hy =>
   intro h0 h
   simp only [eK,Bool.and_eq_true]at h0
   obtain ⟨n,hn⟩:=hx h0.1 h.1
   obtain ⟨m,hm⟩:=hy h0.2 h.2
   exact ⟨max n m,vc (fun s hs=>uE hs (Nat.le_max_left _ _)) _ hn,vc (fun s hs=>uE hs (Nat.le_max_right _ _)) _ hm⟩
 | asm p x hx =>
   intro h0 h
   by_cases hp:p
   ·obtain⟨n,hn⟩:=hx h0 (h hp);exact⟨n,fun _=>hn⟩
   ·exact⟨0,fun k=>(hp k).elim⟩
 |all f hf=>intro h0;cases h0
 |fail=>exact fun _ h=>h.elim
theorem Ev.of {step:S->RT S} {s:S} {r:V} (h0:eK (step s)=true) (h:aR (Ev step) (step s) r):Ev step s r :=
 let ⟨n,hn⟩:=acQ _ h0 h;⟨n+1,hn⟩
theorem zF {w0:World} {LP:eh} {D:LD J S} {Q:bO J->Prop} {Nx:S->V->Prop} {r:V} (hres:∀ v,ce v=ce r->Q (.res v))
 (hhead:∀ s e h,Nx s r->jz w0 (D.lp (D.id s)).fr.2 e h (D.inv s).1 (D.inv s).2.1->Q (.head (D.id s) e h (D.inv s).2.2))
 (hloop:∀ s e h,Nx s r->jz w0 (D.lp (D.id s)).fr.2 e h (D.inv s).1 (D.inv s).2.1->LP (D.lp (D.id s)).fr (D.lp (D.id s)).body e h (D.inv s).2.2 fun x e h g=>bw LP ((D.lp (D.id s)).k x e h g) Q) :
 ∀ (t:T (bO J)) (rt:RT S),eg D t rt=ml D rt->bY t rt=t->aR Nx rt r->bw LP t Q:=by
 intro t
 induction t with
 | ret a =>
   intro rt hf _ hr
   cases a with
   |res v=>cases rt<;>simp only[eg,ml]at hf<;>cases hf;exact hres _ hr
   | head j e h g =>
     cases rt<;>simp only[eg,ml]at hf<;>first|(cases hf;done)|skip
     ·simp only[FT.head.injEq]at hf
      obtain ⟨rfl,rfl,h1,h2,h3,h4⟩:=hf
      exact hhead _ e h hr (tm w0 h1 h2 h3 h4)
     ·simp only[FT.headz.injEq]at hf
      obtain ⟨hc,hz,hfr,rfl,rfl,h1,h2,h3,h4⟩:=hf
      exact hhead _ e h hr ((HJ w0 hc hz hfr).trans (tm w0 h1 h2 h3 h4))
 | br b x y hx hy =>
   intro rt hf hs hr
   cases rt<;>simp only[eg,ml]at hf<;>first|(cases hf;done)|skip
   ·simp only[FT.br.injEq]at hf
    simp only [bY,T.br.injEq,true_and]at hs
    obtain ⟨rfl,h1,h2⟩:=hf
    exact ⟨fun e=>hx _ h1 hs.1 (hr.1 e),fun e=>hy _ h2 hs.2 (hr.2 e)⟩
   ·simp only[FT.brt.injEq]at hf
    simp only [bY,T.br.injEq,true_and]at hs
    obtain ⟨rfl,h1⟩:=hf
    exact ⟨fun e=>hx _ h1 hs.1 hr,fun e=>by cases e⟩
   ·simp only[FT.brf.injEq]at hf
    simp only [bY,T.br.injEq,true_and]at hs
    obtain ⟨rfl,h1⟩:=hf
    exact ⟨(fun e=>by cases e),fun e=>hy _ h1 hs hr⟩
   ·simp only[FT.brx.injEq]at hf
    simp only [bY,T.br.injEq,true_and]at hs
    obtain ⟨rfl,h1⟩:=hf
    exact ⟨fun e=>hx _ h1 hs.1 hr.2,fun e=>by rw[hr.1]at e;cases e⟩
   ·simp only[FT.bry.injEq]at hf
    simp only [bY,T.br.injEq,true_and]at hs
    obtain ⟨rfl,h1⟩:=hf
    exact ⟨(fun e=>by rw[hr.1]at e;cases e),fun e=>hy _ h1 hs hr.2⟩
 | ob b x hx =>
   intro rt hf hs hr
   cases rt<;>simp only[eg,ml]at hf<;>first|(cases hf;done)|skip
   ·simp only[FT.ob.injEq]at hf
    simp only [bY,T.ob.injEq,true_and]at hs
    obtain ⟨rfl,h1⟩:=hf
    exact ⟨hr.1,hx _ h1 hs hr.2⟩
   ·simp only[FT.obt.injEq]at hf
    simp only [bY,T.ob.injEq,true_and]at hs
    obtain ⟨rfl,h1⟩:=hf
    exact ⟨rfl,hx _ h1 hs hr⟩
   ·rename_i b' hb' x'
    simp only [FT.ob.injEq]at hf
    simp only [bY,T.ob.injEq,true_and]at hs
    obtain ⟨rfl,h1⟩:=hf
    exact ⟨hb',hx _ h1 hs hr⟩
 | obp p x hx =>
   intro rt hf hs hr
   cases rt<;>simp only[eg,ml]at hf<;>first|(cases hf;done)|skip
   ·simp only[FT.obp.injEq]at hf
    simp only [bY,T.obp.injEq,true_and]at hs
    obtain ⟨rfl,h1⟩:=hf
    exact ⟨trivial,hx _ h1 hs hr⟩
   ·simp only[FT.obp.injEq]at hf
    simp only [bY,T.obp.injEq,true_and]at hs
    obtain ⟨rfl,h1⟩:=hf
    exact ⟨hr.1,hx _ h1 hs hr.2⟩
 | obi c d x hx =>
   intro rt hf hs hr
   cases rt<;>simp only[eg,ml]at hf<;>first|(cases hf;done)|skip
   ·simp only[FT.ob.injEq]at hf
    simp only [bY,T.obi.injEq,true_and]at hs
    obtain ⟨rfl,h1⟩:=hf
    exact ⟨fun _=>hr.1,hx _ h1 hs hr.2⟩
   ·simp only[FT.obt.injEq]at hf
    simp only [bY,T.obi.injEq,true_and]at hs
    obtain ⟨rfl,h1⟩:=hf
    exact ⟨fun _=>rfl,hx _ h1 hs hr⟩
   ·rename_i b' hb' x'
    simp only [FT.ob.injEq]at hf
    simp only [bY,T.obi.injEq,true_and]at hs
    obtain ⟨rfl,h1⟩:=hf
    exact ⟨fun _=>hb',hx _ h1 hs hr⟩
   ·simp only[FT.obi.injEq]at hf
    simp only [bY,T.obi.injEq,true_and]at hs
    obtain ⟨h0,h1⟩:=hs
    subst h0
    exact ⟨id,hx _ hf h1 hr⟩
   ·simp only[FT.obj.injEq]at hf
    simp only [bY,T.obi.injEq,true_and]at hs
    obtain ⟨rfl,rfl,h1⟩:=hf
    exact ⟨hr.1,hx _ h1 hs hr.2⟩
 | obq a b x hx =>
   intro rt hf hs hr
   have gen:amA a b (eg D x) rt=eg D x rt->aln a b (bY x) rt=.obq a a (bY x rt)->bw LP (.obq a b x) Q:=fun e1 e2=>by
    have hs':T.obq a a (bY x rt)=T.obq a b x:=e2.symm.trans hs
    simp only [T.obq.injEq,true_and]at hs'
    exact ⟨hs'.1,hx _ (e1.symm.trans hf) hs'.2 hr⟩
   cases rt<;>first|exact gen rfl rfl|skip
   rename_i ts ds x'
   have hf':FT.obe a b (eg D x x')=FT.obe (jL ts ds []) (jM ts ds []) (ml D x'):=hf
   have hs':T.obq a b (bY x x')=T.obq a b x:=hs
   simp only [FT.obe.injEq]at hf'
   simp only [T.obq.injEq,true_and]at hs'
   obtain ⟨rfl,rfl,h1⟩:=hf'
   exact ⟨hr.1,hx _ h1 hs' hr.2⟩
 | fail n =>
   intro rt hf hs hr
   cases rt<;>simp only[eg,ml]at hf<;>first|(cases hf;done)|exact hr.elim
 | loop fr b e h g k hk =>
   intro rt hf hs hr
   cases rt<;>simp only[eg,ml]at hf<;>first|(cases hf;done)|skip
   ·simp only[FT.loop.injEq]at hf
    obtain ⟨rfl,rfl,rfl,rfl,h1,h2,h3,h4⟩:=hf
    exact hloop _ e h hr (tm w0 h1 h2 h3 h4)
   ·simp only[FT.loopz.injEq]at hf
    obtain ⟨hc,hz,hfr,rfl,rfl,rfl,rfl,h1,h2,h3,h4⟩:=hf
    exact hloop _ e h hr ((HJ w0 hc hz hfr).trans (tm w0 h1 h2 h3 h4))
 | all f hf0 =>
   intro rt hf hs hr
   cases rt<;>simp only[eg,ml]at hf<;>first|(cases hf;done)|skip
   simp only [FT.all.injEq]at hf
   simp only [bY,T.all.injEq]at hs
   exact fun l=>hf0 l _ (congrFun hf l) (congrFun hs l) (hr l)
 | und x y hx hy =>
   intro rt hf hs hr
   cases rt<;>simp only[eg,ml]at hf<;>first|(cases hf;done)|skip
   simp only [FT.und.injEq]at hf
   simp only [bY,T.und.injEq]at hs
   exact ⟨hx _ hf.1 hs.1 hr.1,hy _ hf.2 hs.2 hr.2⟩
 | asm p x hx =>
   intro rt hf hs hr
   cases rt<;>simp only[eg,ml]at hf<;>first|(cases hf;done)|skip
   simp only [FT.asm.injEq]at hf
   simp only [bY,T.asm.injEq,true_and]at hs
   obtain ⟨rfl,h1⟩:=hf
   exact fun hp=>hx _ h1 hs (hr hp)
def rdT (ct:bj) (un:kw) (j:J) (l:Lp J) (e:bz) (h:List O) (g:Option Ex):T (bO J) :=
 match l.body with
 | .s body=>e7 (rT (lV ct l.fr.1) (ln ct) un l.fr 0 body e h fun x e h=>.ret (x,e,h)) fun r=>match r.1 with
   |.normal=>.ret (.head j r.2.1 r.2.2 none)
   |x=>l.k x r.2.1 r.2.2 none
 | .i body rd=>e7 (lG (lV ct l.fr.1) (ln ct) un l.fr rd (rdY (lV ct l.fr.1) (ln ct) un l.fr.1 0 rd) 0 body e h g fun x e h g=>.ret (x,e,h,g)) fun r=>match r.1 with
   |.normal=>.ret (.head j r.2.1 r.2.2.1 r.2.2.2)
   |x=>l.k x r.2.1 r.2.2.1 r.2.2.2
def Ig (ct:bj) (un:kw) (D:LD J S) (s:S):T (bO J):=rdT ct un (D.id s) (D.lp (D.id s)) (D.inv s).1 (D.inv s).2.1 (D.inv s).2.2
def QN (w0:World) (D:LD J S) (step:S->RT S) (r:V) (n:Nat):bO J->Prop
 |.res v=>ce v=ce r
 |.head j e h g=>∃ s,D.id s=j/\(D.inv s).2.2=g/\jz w0 (D.lp (D.id s)).fr.2 e h (D.inv s).1 (D.inv s).2.1/\q5 step n s r
theorem tx {w0:World} {D:LD J S} {step:S->RT S} {r:V} {n m:Nat} (hm:n<=m):∀ a,QN w0 D step r n a->QN w0 D step r m a
 |.res v,h=>h
 |.head j e h g,⟨s,h1,h2,h3,h4⟩=>⟨s,h1,h2,h3,uE h4 hm⟩
theorem aen {w0:World} {S:A0} {fr:Nat×Nat} {body:fE} {e:bz} {h:List O} {g:Option Ex} {P:Ex->bz->List O->Option Ex->Prop} (hl:cV w0 S (fr.1,fr.2) (.s body) e h none P):cV w0 S fr (.s body) e h g P:=hl
theorem ajv {ct:bj} {un:kw} {w0:World} (hd:nQ ct=true) {D:LD J S} {step:S->RT S} {r:V} (hs:∀ s,eg D (Ig ct un D s) (step s)=ml D (step s)) (hq:∀ s,bY (Ig ct un D s) (step s)=Ig ct un D s) :
 ∀ (n:Nat) (s:S) (e:bz) (h:List O),q5 step n s r->jz w0 (D.lp (D.id s)).fr.2 e h (D.inv s).1 (D.inv s).2.1 ->
 cV w0 (SV ct) (D.lp (D.id s)).fr (D.lp (D.id s)).body e h (D.inv s).2.2 fun x e h g=>bw (cV w0 (SV ct)) ((D.lp (D.id s)).k x e h g) (QN w0 D step r n):=by
 intro n
 induction n using Nat.strongRecOn with
 | ind n ih =>
   intro s e h hn hsub
   have key:∀ (p:Nat) (s':S),p<=n->q5 step p s' r->∃ m,p=m+1/\bw (cV w0 (SV ct)) (Ig ct un D s') (QN w0 D step r m):=by
    intro p s' hp he
    match p,hp,he with
    |0,_,he=>exact he.elim
    | m+1,hp,he =>
      exact ⟨m,rfl,zF (w0:=w0) (Nx:=q5 step m) (fun v hv=>hv) (fun s e h h1 h2=>⟨s,rfl,rfl,h2,h1⟩) (fun s e h h1 h2=>ih m (by omega) s e h h1 h2) _ _ (hs s') (hq s') he⟩
   generalize hj:D.id s=j at *
   match hb:(D.lp j).body with
   | .s body =>
     refine aen (akc (un:=un) hd 0 {p:Nat×S // p.1<=n/\q5 step p.1 p.2 r/\D.id p.2=j} (fun p=>((D.inv p.1.2).1,(D.inv p.1.2).2.1)) (fun p=>p.1.1) ⟨⟨(n,s),Nat.le_refl _,hn,hj⟩,hsub⟩ ?_)
     rintro ⟨⟨p,s'⟩,hp,he,hj'⟩
     obtain ⟨m,hpm,hk⟩:=key p s' hp he
     simp only at hj' hp hpm
     unfold Ig rdT at hk
     rw [hj',hb]at hk
     simp only [BO]at hk
     refine jv (fT _ _) (fun a ha=>?_) _ hk
     obtain ⟨x,e',h'⟩:=a
     cases x with
     | normal =>
       obtain ⟨s2,g1,g2,g3,g4⟩:=ha
       rw [g1]at g3
       exact ⟨⟨(m,s2),by omega,g4,g1⟩,g3,by simp only;omega⟩
     |exit i=>exact jv (fT _ _) (tx (by omega)) _ ha
     |ret=>exact jv (fT _ _) (tx (by omega)) _ ha
   | .i body rd =>
     refine aeP (un:=un) hd 0 0 {p:Nat×S // p.1<=n/\q5 step p.1 p.2 r/\D.id p.2=j} (fun p=>D.inv p.1.2) (fun p=>p.1.1) ⟨⟨(n,s),Nat.le_refl _,hn,hj⟩,rfl,hsub⟩ ?_
     rintro ⟨⟨p,s'⟩,hp,he,hj'⟩
     obtain ⟨m,hpm,hk⟩:=key p s' hp he
     simp only at hj' hp hpm
     unfold Ig rdT at hk
     rw [hj',hb]at hk
     simp only [BO]at hk
     refine jv (fT _ _) (fun a ha=>?_) _ hk
     obtain ⟨x,e',h',g'⟩:=a
     cases x with
     | normal =>
       obtain ⟨s2,g1,g2,g3,g4⟩:=ha
       rw [g1]at g3
       exact ⟨⟨(m,s2),by omega,g4,g1⟩,g2.symm,g3,by simp only;omega⟩
     |exit i=>exact jv (fT _ _) (tx (by omega)) _ ha
     |ret=>exact jv (fT _ _) (tx (by omega)) _ ha
def aP (J:Type) (ct:bj) (un:kw) (sf:aC) (ds:List V):T (bO J):=mf (lV ct LV) (ln ct) un LV sf ds [] fun v _=>.ret (.res v)
def pC (r:V):bO J->Prop
 |.res v=>ce v=ce r
 |.head ..=>True
theorem abC {w0:World} {D:LD J S} {step:S->RT S} {r:V} {n:Nat}:∀ a,QN w0 D step r n a->pC r a
 |.res v,h=>h
 |.head ..,_=>trivial
theorem afX {ct:bj} {un:kw} {w0:World} (hd:nQ ct=true) {t:T (bO J)} (D:LD J S) (step:S->RT S) (m:RT S) {r:V} (h1:eg D t m=ml D m) (h2:bY t m=t)
 (hs:∀ s,eg D (Ig ct un D s) (step s)=ml D (step s)) (hq:∀ s,bY (Ig ct un D s) (step s)=Ig ct un D s) (hr:aR (Ev step) m r):bw (cV w0 (SV ct)) t (pC r) :=
 zF (w0:=w0) (Nx:=Ev step) (fun v hv=>hv) (fun _ _ _ _ _=>trivial) (fun s e h ⟨n,hn⟩ hsub=>fT _ _ _ _ _ _ _ _ _ (fun x e h g hk=>jv (fT _ _) abC _ hk) (ajv hd hs hq n s e h hn hsub)) _ _ h1 h2 hr
theorem zO {ts:List Ty} (h:ts.all bS=true) (n:Nat) (f:aN):cz n (fun i=>lk (bK ts) (aa ts f i))=true:=eu fun i _=>kA h _
def eR:T (bO J)->Lp J
 |.loop fr b _ _ _ k=>⟨fr,b,k⟩
 |_=>⟨(0,0),.s .skip,fun _ _ _ _=>.fail 0⟩
def cL:LD J Empty:=⟨fun s=>(Empty.elim s),fun _=>⟨(0,0),.s .skip,fun _ _ _ _=>.fail 0⟩,fun s=>(Empty.elim s)⟩
def cq:Empty->V->Prop:=fun s=>Empty.elim s
theorem Ta {ct:bj} {w0:World} (hd:nQ ct=true) {t:T (bO J)} (m:RT Empty) {r:V} (h1:eg cL t m=ml cL m) (h2:bY t m=t) (hr:aR cq m r):bw (cV w0 (SV ct)) t (pC r) :=
 zF (w0:=w0) (Nx:=cq) (fun v hv=>hv) (fun s=>(Empty.elim s)) (fun s=>(Empty.elim s)) _ _ h1 h2 hr
def cJ (D:LD J S) (t:T (bO J)) (m:RT S):Prop:=eg D t m=ml D m/\bY t m=t
def dD (ct:bj) (un:kw) (D:LD J S) (t:T (bO J)) (m:RT S) (st:S->RT S):Prop:=cJ D t m/\∀ s,cJ D (Ig ct un D s) (st s)
def Run (ct:bj) (t:T (bO J)) (r:V):Prop:=nQ ct=true->∀ w0,bw (cV w0 (SV ct)) t (pC r)
theorem cQ {ct:bj} {t:T (bO J)} {m:RT Empty} {r:V} (h:cJ cL t m) (hr:aR cq m r):Run ct t r:=fun hd _=>Ta hd m h.1 h.2 hr
theorem iS {ct:bj} {un:kw} {D:LD J S} {t:T (bO J)} {m:RT S} {st:S->RT S} {r:V} (h:dD ct un D t m st) (hr:aR (Ev st) m r):Run ct t r:=fun hd _=>afX hd D st m h.1.1 h.1.2 (fun s=>(h.2 s).1) (fun s=>(h.2 s).2) hr
inductive Cx where
 |i (n:Int)
 |n (n:Nat)
 |b (b:Bool)
 |s (s:ByteArray)
 |f (f:aN)
def Kx:List Cx->Nat->Int
 |.i n::_,0=>n
 |_::l,k+1=>Kx l k
 |_,_=>0
def wL:List Cx->Nat->Nat
 |.n n::_,0=>n
 |_::l,k+1=>wL l k
 |_,_=>0
abbrev JJ:=Nat×List Cx
def Qr (J:Type) (e:Nat) (ty:TypeId) (ct:bj) (un:kw) (sf:aC) (ds:List V):T (bO J):=mf (lV ct LV) (ln ct) un LV sf ds [] fun v h=>.ob (ID h v) (.ret (.res (IU e ty h v)))
theorem Du {P:Program} {eqs:List TypeId} {its:List gk} {ct:bj} {f:FuncId} {fn:Func} {sf:aC} {un:kw} {ts:List Ty} {pre:List V->Prop} {r:List V->V} (hT:aW P eqs its ct) (hE:∀ t∈eqs,cD P t) (hI:kh P eqs its) (hf:P.funcs[f]? = some fn)
 (hn : (fn.name == "runtime.NumGoroutine") = false) (hc : dT P eqs its fn = some sf) (hd : eX sf.ntmps sf.body = true) (ho : fq ts = true)
 (h:∀ w0 ds,pre (al ts ds)->bw (cV w0 (SV ct)) (aP J ct un sf (al ts ds)) (pC (r (al ts ds)))):(vP (bF ts pre r)).Ok P f :=
 TZ (α:=bO J) (K0:=fun v=>.ret (.res v)) (Q0:=pC) (fun _ _ _ h=>h) hT hE hI hf hn hc hd ho h
theorem VC {P:Program} {eqs:List TypeId} {its:List gk} {ct:bj} {f:FuncId} {fn:Func} {sf:aC} {un:kw} {e:Nat} {ty:TypeId} {ts:List Ty} {pre:List V->Prop} {r:List V->V} (hT:aW P eqs its ct) (hE:∀ t∈eqs,cD P t) (hI:kh P eqs its) (hf:P.funcs[f]? = some fn)
 (hn : (fn.name == "runtime.NumGoroutine") = false) (hc : dT P eqs its fn = some sf) (hd : eX sf.ntmps sf.body = true) (ho : fq ts = true)
 (h:∀ w0 ds,pre (al ts ds)->bw (cV w0 (SV ct)) (Qr J e ty ct un sf (al ts ds)) (pC (r (al ts ds)))):(vL e ty (bF ts pre r)).Ok P f :=
 QP (α:=bO J) (K0:=fun v h=>.ob (ID h v) (.ret (.res (IU e ty h v)))) (Q0:=pC) (fun _ _ _ _ h=>h) hT hE hI hf hn hc hd ho h
end
end Go.Dx
namespace Go.Sx
def qm (P:Program) (t:TypeId):Bool:=match P.underlying t with
 |some (.int _)=>true
 |_=>false
def nh (P:Program):List Field->Nat->Bool
 |[],_=>true
 |f :: fs, i => decide (f.name ≠ "_") && Nat.beq f.offset i && qm P f.type && nh P fs (i + 1)
section
variable {P:Program} {m:aD}
theorem tG {t:TypeId} (h:qm P t=true):∃ k,P.underlying t=some (.int k):=by
 unfold qm at h
 split at h
 ·rename_i k hk;exact⟨k,hk⟩
 ·cases h
theorem iQ {t:TypeId} {k:IntKind} (ht:P.underlying t=some (.int k)) {us:Array Value} {i:Nat} {v:Value} (hv:us[i]? = some v) (w:World):(part t us i).run P w=.ok v w:=by
 unfold part
 have hi:(isAgg t).run P w=.ok false w:=by
  unfold isAgg
  rw [ac (aG ht w)];rfl
 rw [ac hi]
 simp only [Bool.false_eq_true,if_false,hv]
 rfl
theorem oo {d:Nat}:∀ (fs:List Field) (i:Nat) (xs ys:List af) (us vs:Array Value) (b:Bool) (w:World),nh P fs i=true->fs.length=xs.length->ay m xs (us.toList.drop i)->ay m ys (vs.toList.drop i)->dp xs ys=some b ->
 (Op.eqFields (d+1) us vs fs).run P w=.ok b w
 | [],i,xs,ys,us,vs,b,w,_,hl,_,_,hb=>by
   cases xs with
   |cons _ _=>simp at hl
   | nil=>cases ys with
     |nil=>simp[dp]at hb;subst hb;rfl
     |cons _ _=>simp[dp]at hb
 | f :: fs,i,xs,ys,us,vs,b,w,hf,hl,hx,hy,hb=>by
   simp only [nh,Bool.and_eq_true,decide_eq_true_eq]at hf
   obtain ⟨⟨⟨h1,h2⟩,h3⟩,h4⟩:=hf
   obtain ⟨k,hk⟩:=tG h3
   have ho:=Nat.eq_of_beq_eq_true h2
   cases xs with
   |nil=>simp at hl
   | cons x xs=>cases ys with
     |nil=>cases x<;>simp[dp]at hb
     | cons y ys =>
       cases x<;>try (simp[dp]at hb;done)
       rename_i ka a
       cases y<;>try (simp[dp]at hb;done)
       rename_i kb c
       simp only [dp]at hb
       split at hb
       ·rename_i hkk
        subst hkk
        simp only [Option.map_eq_some_iff]at hb
        obtain ⟨b',hb',rfl⟩:=hb
        simp only [ay]at hx hy
        obtain ⟨u,us',hu,hur,hus⟩:=hx
        obtain ⟨v,vs',hv,hvr,hvs⟩:=hy
        simp only [vrel]at hur hvr
        subst hur;subst hvr
        have gu:us[i]? = some (.int ka a):=by
         have:=congrArg (·[0]?) hu
         simpa using this
        have gv:vs[i]? = some (.int ka c):=by
         have:=congrArg (·[0]?) hv
         simpa using this
        have du:us.toList.drop (i+1)=us':=by rw[← List.drop_drop,hu];rfl
        have dv:vs.toList.drop (i+1)=vs':=by rw[← List.drop_drop,hv];rfl
        simp only [Op.eqFields]
        rw [if_pos h1,ho,ac (iQ hk gu w),ac (iQ hk gv w),ac (run_equalIn_int w d f.type ka k a c hk)]
        cases hac:(a==c) with
        |false=>simp only[Bool.not_false,if_true,Bool.false_and];rfl
        | true =>
          simp only [Bool.not_true,Bool.false_eq_true,if_false,Bool.true_and]
          exact oo fs (i+1) xs ys us vs b' w h4 (by simpa using hl) (by rw[du];exact hus) (by rw[dv];exact hvs) hb'
       ·cases hb
theorem fF {t:TypeId} (ht:P.underlying t=some (.struct (P.fieldsOf t))) (hp:P.stoodInHeld t=false) (hg:P.eqGuardType P.depth t=false) (hn:(P.info? t).map (·.size)=some (P.fieldsOf t).toList.length) (hf:nh P (P.fieldsOf t).toList 0=true):cD P t:=by
 refine ⟨hg,fun n hn' xs ys us vs m b w hl hx hy hb=>?_⟩
 rw [hn]at hn';cases hn'
 unfold Op.equal
 rw [show Op.maxDepth=9998+1+1 from rfl,run_equalIn_struct w _ t us vs ht hp]
 exact oo (d:=9998) _ 0 xs ys us vs b w hf hl.symm (by simpa using hx) (by simpa using hy) hb
theorem p8 {d:Nat} {e:TypeId} (he:qm P e=true) (h1:P.cellsOf e=1):∀ (n i:Nat) (xs ys:List af) (us vs:Array Value) (b:Bool) (w:World),n=xs.length->ay m xs (us.toList.drop i)->ay m ys (vs.toList.drop i)->dp xs ys=some b ->
 (Op.eqItems (d+1) e (P.cellsOf e) us vs (List.range' i n)).run P w=.ok b w
 | 0, i,xs,ys,us,vs,b,w,hl,_,_,hb=>by
   cases xs with
   |cons _ _=>simp at hl
   | nil=>cases ys with
     |nil=>simp[dp]at hb;subst hb;rfl
     |cons _ _=>simp[dp]at hb
 | n + 1, i,xs,ys,us,vs,b,w,hl,hx,hy,hb=>by
   obtain ⟨k,hk⟩:=tG he
   cases xs with
   |nil=>simp at hl
   | cons x xs=>cases ys with
     |nil=>cases x<;>simp[dp]at hb
     | cons y ys =>
       cases x<;>try (simp[dp]at hb;done)
       rename_i ka a
       cases y<;>try (simp[dp]at hb;done)
       rename_i kb c
       simp only [dp]at hb
       split at hb
       ·rename_i hkk
        subst hkk
        simp only [Option.map_eq_some_iff]at hb
        obtain ⟨b',hb',rfl⟩:=hb
        simp only [ay]at hx hy
        obtain ⟨u,us',hu,hur,hus⟩:=hx
        obtain ⟨v,vs',hv,hvr,hvs⟩:=hy
        simp only [vrel]at hur hvr
        subst hur;subst hvr
        have gu:us[i]? = some (.int ka a):=by
         have:=congrArg (·[0]?) hu
         simpa using this
        have gv:vs[i]? = some (.int ka c):=by
         have:=congrArg (·[0]?) hv
         simpa using this
        have du:us.toList.drop (i+1)=us':=by rw[← List.drop_drop,hu];rfl
        have dv:vs.toList.drop (i+1)=vs':=by rw[← List.drop_drop,hv];rfl
        rw [List.range'_succ]
        simp only [Op.eqItems,h1,Nat.mul_one]
        rw [ac (iQ hk gu w),ac (iQ hk gv w),ac (run_equalIn_int w d e ka k a c hk)]
        cases hac:(a==c) with
        |false=>simp only[Bool.not_false,if_true,Bool.false_and];rfl
        | true =>
          simp only [Bool.not_true,Bool.false_eq_true,if_false,Bool.true_and]
          have:=p8 (d:=d) he h1 n (i+1) xs ys us vs b' w (by simpa using hl) (by rw[du];exact hus) (by rw[dv];exact hvs) hb'
          rw [h1]at this;exact this
       ·cases hb
theorem yT {t:TypeId} (e:TypeId) (n:Nat) (ht:P.underlying t=some (.array n e)) (hi:(P.info? e).isSome=true) (hg:P.eqGuardType P.depth t=false) (hn:(P.info? t).map (·.size)=some n) (h1:P.cellsOf e=1) (hf:qm P e=true):cD P t:=by
 obtain ⟨ie,hi⟩:=Option.isSome_iff_exists.1 hi
 refine ⟨hg,fun n' hn' xs ys us vs m b w hl hx hy hb=>?_⟩
 rw [hn]at hn';cases hn'
 unfold Op.equal
 rw [show Op.maxDepth=9998+1+1 from rfl,run_equalIn_array w _ us vs ht hi,List.range_eq_range']
 exact p8 (d:=9998) hf h1 n 0 xs ys us vs b w hl.symm (by simpa using hx) (by simpa using hy) hb
end
end Go.Sx
namespace Go.Dx
open Go.Sx
end Go.Dx
namespace Go.Dx
abbrev ar (l:List V):Int:=iv (ap l)
abbrev aQ (l:List V):Int:=iv (ap (ab l))
abbrev ca (l:List V):Int:=iv (ap (ab (ab l)))
abbrev bW (l:List V):Int:=iv (ap (ab (ab (ab l))))
abbrev db (l:List V):Int:=iv (ap (ab (ab (ab (ab l)))))
abbrev bf (l:List V):Int:=iv (ap (ab (ab (ab (ab (ab l))))))
theorem dqt {p:Prop} [inst:Decidable p] (h:p):decide p=true:=decide_eq_true h
theorem gx {p:Prop} [inst:Decidable p] (h:¬p):decide p=false:=decide_eq_false h
theorem imn {a b:Int} (h:0<=a) (g:0<=b):0<=a*b:=Int.mul_nonneg h g
theorem iml {a b c:Int} (h:a<=b) (g:0<=c):c*a<=c*b:=Int.mul_le_mul_of_nonneg_left h g
def iR:Nat->Nat->mn->mn
 |_,0,l=>l
 |k,n+1,l=>some (some k)::iR (k+1) n l
def vX (ct:bj) (un:kw) (j:JJ) (l:Lp JJ) (s:bz×List O×Option Sx.Ex):T (bO JJ):=rdT ct un j l s.1 s.2.1 s.2.2
abbrev vi (n:Int):V:=.int .i64 n
abbrev tI:Ty:=.int .i64
abbrev wI (x:Int):Int:=IntKind.i64.wrap x
abbrev bZ:List Ty:=[Ty.int IntKind.i64,Ty.int IntKind.i64]
abbrev je:List Ty:=[Ty.int IntKind.i64,Ty.int IntKind.i64,Ty.int IntKind.i64,Ty.int IntKind.i64]
abbrev ae:List Ty:=[Ty.int IntKind.i64]
abbrev aJ:List Ty:=[Ty.str,Ty.int IntKind.i64,Ty.sl [Ty.int IntKind.i64,Ty.int IntKind.i64],Ty.int IntKind.i64]
abbrev aV:List Ty:=[Ty.int IntKind.i64,Ty.int IntKind.i64,Ty.int IntKind.i64,Ty.int IntKind.i64,Ty.sl [Ty.int IntKind.i64,Ty.int IntKind.i64,Ty.int IntKind.i64,Ty.int IntKind.i64]]
abbrev aH:List Ty:=[Ty.str,Ty.int IntKind.i64,Ty.int IntKind.i64,Ty.int IntKind.i64,Ty.int IntKind.i64,Ty.int IntKind.i64]
abbrev aU:List Ty:=[Ty.int IntKind.i64,Ty.int IntKind.i64,Ty.int IntKind.i64,Ty.int IntKind.i64,Ty.int IntKind.i64]
abbrev ak:List Ty:=[Ty.str,Ty.sl [Ty.int IntKind.i64],Ty.sl [Ty.int IntKind.i64],Ty.sl [Ty.sl [Ty.int IntKind.i64]],Ty.int IntKind.i64,Ty.int IntKind.i64]
abbrev ah:List Ty:=[Ty.str,Ty.int IntKind.i64,Ty.int IntKind.i64,Ty.int IntKind.i64,Ty.int IntKind.i64,Ty.int IntKind.i64,Ty.int IntKind.i64,Ty.int IntKind.i64,Ty.int IntKind.i64,Ty.int IntKind.i64,Ty.int IntKind.i64,Ty.int IntKind.i64,Ty.int IntKind.i64,Ty.int IntKind.i64]
abbrev bQ:List Ty:=[Ty.int IntKind.i64,Ty.int IntKind.i64,Ty.int IntKind.i64]
abbrev wi (n0:Nat) (f0:aN) (n2:Nat) (f2:aN) (n4:Nat) (f4:aN) (n6:Nat) (f6:aN):V:=.agg [.sl n0 (aa aJ f0),.sl n2 (aa aU f2),.sl n4 (aa aV f4),.sl n6 (aa aH f6)]
end Go.Dx
namespace Go.Dx
open Go.IntKind (i64 u64 u8)
open Go.Sx Go.Proofs
def eqs:List TypeId:=[39,55,116,45,330,151]
noncomputable section
noncomputable def itF (n:FuncId) (f:Func):gk:=⟨n,((pG Tryz.prog eqs f).getD (0,.skip)).1,((pG Tryz.prog eqs f).getD (0,.skip)).2⟩
def its:List gk:=[itF 158 Tryz.f158,itF 227 Tryz.f227,itF 311 Tryz.f311]
noncomputable def bD (f:Func):aC:=(dT Tryz.prog eqs its f).getD ⟨0,[],.skip⟩
def ail:aC:=bD Tryz.f10
def aiq:aC:=bD Tryz.f15
def afS:aC:=bD Tryz.f17
def ag5:aC:=bD Tryz.f18
def afu:aC:=bD Tryz.f22
def afi:aC:=bD Tryz.f23
def ad9:aC:=bD Tryz.f29
def ao3:aC:=bD Tryz.f30
def apl:aC:=bD Tryz.f32
def yG:aC:=bD Tryz.f33
def ace:aC:=bD Tryz.f34
def agK:aC:=bD Tryz.f35
def aht:aC:=bD Tryz.f36
def afd:aC:=bD Tryz.f37
def ag4:aC:=bD Tryz.f38
def RL:aC:=bD Tryz.f46
def aeD:aC:=bD Tryz.f47
def KJ:aC:=bD Tryz.f48
def acy:aC:=bD Tryz.f49
def aio:aC:=bD Tryz.f50
def ae9:aC:=bD Tryz.f53
def af7:aC:=bD Tryz.f54
def adb:aC:=bD Tryz.f55
def ae4:aC:=bD Tryz.f56
def ah8:aC:=bD Tryz.f59
def aq0:aC:=bD Tryz.f60
def Mn:aC:=bD Tryz.f61
def aeU:aC:=bD Tryz.f62
def ahm:aC:=bD Tryz.f63
def aqj:aC:=bD Tryz.f64
def aip:aC:=bD Tryz.f65
def ads:aC:=bD Tryz.f66
def aeS:aC:=bD Tryz.f67
def zM:aC:=bD Tryz.f68
def ack:aC:=bD Tryz.f69
def agU:aC:=bD Tryz.f70
def abm:aC:=bD Tryz.f71
def Ea:aC:=bD Tryz.f79
def acp:aC:=bD Tryz.f80
def alO:aC:=bD Tryz.f81
def aqQ:aC:=bD Tryz.f82
def apj:aC:=bD Tryz.f83
def apm:aC:=bD Tryz.f84
def Pl:aC:=bD Tryz.f85
def NW:aC:=bD Tryz.f86
def JI:aC:=bD Tryz.f87
def QU:aC:=bD Tryz.f88
def ahL:aC:=bD Tryz.f89
def uh:aC:=bD Tryz.f90
def acq:aC:=bD Tryz.f91
def ac5:aC:=bD Tryz.f92
def ap1:aC:=bD Tryz.f93
def aql:aC:=bD Tryz.f94
def aix:aC:=bD Tryz.f95
def ad0:aC:=bD Tryz.f96
def aer:aC:=bD Tryz.f97
def abL:aC:=bD Tryz.f98
def agr:aC:=bD Tryz.f99
def agN:aC:=bD Tryz.f100
def afA:aC:=bD Tryz.f101
def ahH:aC:=bD Tryz.f102
def acF:aC:=bD Tryz.f106
def ae8:aC:=bD Tryz.f108
def N2:aC:=bD Tryz.f111
def Ca:aC:=bD Tryz.f112
def Mk:aC:=bD Tryz.f113
def M5:aC:=bD Tryz.f114
def Jo:aC:=bD Tryz.f115
def CN:aC:=bD Tryz.f116
def aca:aC:=bD Tryz.f118
def aiN:aC:=bD Tryz.f120
def acY:aC:=bD Tryz.f121
def ab5:aC:=bD Tryz.f122
def ahf:aC:=bD Tryz.f123
def agc:aC:=bD Tryz.f124
def zK:aC:=bD Tryz.f125
def ag1:aC:=bD Tryz.f127
def agp:aC:=bD Tryz.f128
def agP:aC:=bD Tryz.f129
def agC:aC:=bD Tryz.f130
def aeV:aC:=bD Tryz.f131
def aeI:aC:=bD Tryz.f132
def afw:aC:=bD Tryz.f133
def aig:aC:=bD Tryz.f134
def aqr:aC:=bD Tryz.f135
def aoW:aC:=bD Tryz.f136
def aoH:aC:=bD Tryz.f137
def aoB:aC:=bD Tryz.f138
def aoS:aC:=bD Tryz.f139
def arF:aC:=bD Tryz.f140
def ap0:aC:=bD Tryz.f141
def aoM:aC:=bD Tryz.f142
def acG:aC:=bD Tryz.f143
def adx:aC:=bD Tryz.f144
def afj:aC:=bD Tryz.f145
def aqw:aC:=bD Tryz.f146
def aqt:aC:=bD Tryz.f147
def ap8:aC:=bD Tryz.f148
def aq9:aC:=bD Tryz.f149
def aqC:aC:=bD Tryz.f150
def adh:aC:=bD Tryz.f151
def aii:aC:=bD Tryz.f152
def aeJ:aC:=bD Tryz.f153
def Ot:aC:=bD Tryz.f154
def Jv:aC:=bD Tryz.f155
def PU:aC:=bD Tryz.f156
def PH:aC:=bD Tryz.f159
def ahi:aC:=bD Tryz.f160
def arw:aC:=bD Tryz.f161
def ara:aC:=bD Tryz.f162
def ajU:aC:=bD Tryz.f163
def Pp:aC:=bD Tryz.f164
def Rv:aC:=bD Tryz.f165
def aed:aC:=bD Tryz.f166
def gj:aC:=bD Tryz.f167
def m4:aC:=bD Tryz.f168
def MJ:aC:=bD Tryz.f169
def Ky:aC:=bD Tryz.f170
def ao7:aC:=bD Tryz.f171
def ape:aC:=bD Tryz.f172
def aon:aC:=bD Tryz.f173
def ad6:aC:=bD Tryz.f174
def ahq:aC:=bD Tryz.f175
def acL:aC:=bD Tryz.f176
def ahr:aC:=bD Tryz.f177
def aeL:aC:=bD Tryz.f178
def ab6:aC:=bD Tryz.f179
def adv:aC:=bD Tryz.f180
def ahs:aC:=bD Tryz.f181
def aej:aC:=bD Tryz.f182
def abf:aC:=bD Tryz.f188
def ahl:aC:=bD Tryz.f190
def Dm:aC:=bD Tryz.f191
def aeA:aC:=bD Tryz.f192
def JB:aC:=bD Tryz.f193
def ahK:aC:=bD Tryz.f195
def ahu:aC:=bD Tryz.f197
def aeT:aC:=bD Tryz.f198
def abI:aC:=bD Tryz.f199
def aff:aC:=bD Tryz.f200
def af4:aC:=bD Tryz.f201
def agF:aC:=bD Tryz.f202
def ahx:aC:=bD Tryz.f203
def alH:aC:=bD Tryz.f204
def amt:aC:=bD Tryz.f205
def amg:aC:=bD Tryz.f206
def ajE:aC:=bD Tryz.f207
def apH:aC:=bD Tryz.f208
def alF:aC:=bD Tryz.f209
def LU:aC:=bD Tryz.f210
def NF:aC:=bD Tryz.f211
def alZ:aC:=bD Tryz.f212
def anx:aC:=bD Tryz.f213
def alc:aC:=bD Tryz.f214
def akx:aC:=bD Tryz.f215
def af8:aC:=bD Tryz.f216
def ags:aC:=bD Tryz.f217
def aij:aC:=bD Tryz.f218
def als:aC:=bD Tryz.f219
def ae5:aC:=bD Tryz.f220
def Mm:aC:=bD Tryz.f221
def Ju:aC:=bD Tryz.f222
def o7:aC:=bD Tryz.f223
def lr:aC:=bD Tryz.f224
def agI:aC:=bD Tryz.f225
def ag0:aC:=bD Tryz.f226
def aoJ:aC:=bD Tryz.f228
def aoR:aC:=bD Tryz.f229
def afN:aC:=bD Tryz.f230
def ac9:aC:=bD Tryz.f231
def aqH:aC:=bD Tryz.f235
def afa:aC:=bD Tryz.f247
def ach:aC:=bD Tryz.f248
def acv:aC:=bD Tryz.f249
def ZV:aC:=bD Tryz.f250
def amF:aC:=bD Tryz.f252
def aki:aC:=bD Tryz.f253
def aj3:aC:=bD Tryz.f254
def aj8:aC:=bD Tryz.f255
def aiM:aC:=bD Tryz.f256
def M1:aC:=bD Tryz.f257
def afC:aC:=bD Tryz.f258
def acR:aC:=bD Tryz.f259
def afk:aC:=bD Tryz.f260
def adV:aC:=bD Tryz.f261
def LL:aC:=bD Tryz.f283
def MM:aC:=bD Tryz.f284
def aiC:aC:=bD Tryz.f285
def abt:aC:=bD Tryz.f286
def PZ:aC:=bD Tryz.f309
end
theorem hE:∀ t∈eqs,cD Tryz.prog t:=by
 intro t ht
 simp only [eqs,List.mem_cons,List.not_mem_nil,or_false]at ht
 rcases ht with rfl|rfl|rfl|rfl|rfl|rfl
 ·exact fF (by kernel_rfl) (by kernel_rfl) (by kernel_rfl) (by kernel_rfl) (by kernel_rfl)
 ·exact fF (by kernel_rfl) (by kernel_rfl) (by kernel_rfl) (by kernel_rfl) (by kernel_rfl)
 ·exact fF (by kernel_rfl) (by kernel_rfl) (by kernel_rfl) (by kernel_rfl) (by kernel_rfl)
 ·exact yT 3 2 (by kernel_rfl) (by kernel_rfl) (by kernel_rfl) (by kernel_rfl) (by kernel_rfl) (by kernel_rfl)
 ·exact fF (by kernel_rfl) (by kernel_rfl) (by kernel_rfl) (by kernel_rfl) (by kernel_rfl)
 ·exact fF (by kernel_rfl) (by kernel_rfl) (by kernel_rfl) (by kernel_rfl) (by kernel_rfl)
theorem hI:kh Tryz.prog eqs its:=by
 intro it ht
 simp only [its,List.mem_cons,List.not_mem_nil,or_false]at ht
 rcases ht with rfl|rfl|rfl
 ·exact⟨_,Tryz.func158,by kernel_rfl,by kernel_rfl⟩
 ·exact⟨_,Tryz.func227,by kernel_rfl,by kernel_rfl⟩
 ·exact⟨_,Tryz.func311,by kernel_rfl,by kernel_rfl⟩
def u0:kw:=fun _=>0
noncomputable def fnQ (fn : Func) (sf : aC) (ts : List Ty) : Bool × Option aC × Bool × Bool := (fn.name == "runtime.NumGoroutine", dT Tryz.prog eqs its fn, eX sf.ntmps sf.body, fq ts)
abbrev dm {α:Sort _} {β:Sort _} (_:α) (b:β):β:=b
abbrev RT.am {S:Type} (n:Nat) (x:RT S):RT S:=.asm (true=true->n<=9223372036854775807) x
abbrev RT.cb {S:Type} (x:RT S):RT S:=.obc (.obt x)
abbrev RT.ii {S:Type} (x:RT S):RT S:=.obi (.obi x)
abbrev RT.iv {S:Type} (x:RT S):RT S:=.ii (.ii x)
abbrev nz (x:Int):Prop:=x=0->False
abbrev dI (x:Int) (n:Nat):Bool:=decide (0<=x/\x<(n:Int))
theorem fZ {f : FuncId} {fn : Func} {sf : aC} {un : kw} {ct : bj} (hf : Tryz.prog.funcs[f]? = some fn) (hk : (fn.name == "runtime.NumGoroutine", dT Tryz.prog eqs its fn, eX sf.ntmps sf.body) = (false, some sf, true)) (hl : aW Tryz.prog eqs its ct) : aW Tryz.prog eqs its ((f, .inl sf un) :: ct) := .inl hf (congrArg Prod.fst hk) (congrArg (fun x => x.2.1) hk) (congrArg (fun x => x.2.2) hk) hl
theorem d9 {fn : Func} {sf : aC} {ts : List Ty} (h : fnQ fn sf ts = (false, some sf, true, true)) : (fn.name == "runtime.NumGoroutine") = false /\ dT Tryz.prog eqs its fn = some sf /\ eX sf.ntmps sf.body = true /\ fq ts = true := by
 have h1:=congrArg Prod.fst h
 have h2:=congrArg (fun x=>x.2.1) h
 have h3:=congrArg (fun x=>x.2.2.1) h
 have h4:=congrArg (fun x=>x.2.2.2) h
 exact ⟨h1,h2,h3,h4⟩
section
variable {ct:bj} {f:FuncId} {fn:Func} {sf:aC} {un:kw} {ts:List Ty} {pre:List V->Prop} {r:List V->V}
theorem bV (hT:aW Tryz.prog eqs its ct) (hf:Tryz.prog.funcs[f]? = some fn) (hk:fnQ fn sf ts=(false,some sf,true,true)) (h:∀ ds,pre (al ts ds)->Run ct (aP JJ ct un sf (al ts ds)) (r (al ts ds))):(vP (bF ts pre r)).Ok Tryz.prog f :=
 Du (J:=JJ) (un:=un) hT hE hI hf (d9 hk).1 (d9 hk).2.1 (d9 hk).2.2.1 (d9 hk).2.2.2 fun w0 ds hp=>h ds hp hT.dst w0
theorem arc {e:Nat} {ty:TypeId} (hT:aW Tryz.prog eqs its ct) (hf:Tryz.prog.funcs[f]? = some fn) (hk:fnQ fn sf ts=(false,some sf,true,true)) (h:∀ ds,pre (al ts ds)->Run ct (Qr JJ e ty ct un sf (al ts ds)) (r (al ts ds))):(vL e ty (bF ts pre r)).Ok Tryz.prog f :=
 VC (J:=JJ) (un:=un) hT hE hI hf (d9 hk).1 (d9 hk).2.1 (d9 hk).2.2.1 (d9 hk).2.2.2 fun w0 ds hp=>h ds hp hT.dst w0
end
end Go.Dx
namespace Go.Dx
open Go.IntKind (i64 u64 u8)
open Go.Sx Go.Proofs
variable (x0 x1 x2 x3 x4 x5:Int)
noncomputable section
def Cu:bj:=[]
theorem xG:aW Tryz.prog eqs its Cu:=.nil
def m84:RT Empty:=.ret (V.agg [vi (wI (x0-x2)),vi (wI (x1-x3))])
theorem ajy:cJ cL (aP JJ Cu u0 ara [V.agg [vi x0,vi x1],V.agg [vi x2,vi x3]]) (m84 x0 x1 x2 x3):=⟨by kernel_rfl,by kernel_rfl⟩
def xA:Int:=wI (x0-x2)
def xm:Int:=wI (x1-x3)
def R84:V:=.agg [vi (xA x0 x2),vi (xm x1 x3)]
theorem aop:aR cq (m84 x0 x1 x2 x3) (R84 x0 x1 x2 x3):=evRet (by unfold R84 xA xm;rfl)
def C84:aB:=bF [.agg bZ,.agg bZ] (fun _=>True) fun
 |[.agg [.int _ x0,.int _ x1],.agg [.int _ x2,.int _ x3]]=>R84 x0 x1 x2 x3
 |_=>.any
theorem UR:(vP C84).Ok Tryz.prog 162:=bV xG Tryz.func162 (by kernel_rfl) fun ds hp=>cQ (ajy ..) (aop _ _ _ _)
def amc:RT Empty:=.ret (vi (wI (wI (x0*x3)-wI (x1*x2))))
theorem ahv:cJ cL (aP JJ Cu u0 ajU [V.agg [vi x0,vi x1],V.agg [vi x2,vi x3]]) (amc x0 x1 x2 x3):=⟨by kernel_rfl,by kernel_rfl⟩
def yL:Int:=wI (wI (x0*x3)-wI (x1*x2))
def agB:V:=vi (yL x0 x1 x2 x3)
theorem am6:aR cq (amc x0 x1 x2 x3) (agB x0 x1 x2 x3):=evRet (by unfold agB yL;rfl)
def Qm:aB:=bF [.agg bZ,.agg bZ] (fun _=>True) fun
 |[.agg [.int _ x0,.int _ x1],.agg [.int _ x2,.int _ x3]]=>agB x0 x1 x2 x3
 |_=>.any
theorem Hm:(vP Qm).Ok Tryz.prog 163:=bV xG Tryz.func163 (by kernel_rfl) fun ds hp=>cQ (ahv ..) (am6 _ _ _ _)
def m86:RT Empty:=.obi (.obi (.obi (.ret (V.bool (bif decide (x0<x1) then true else decide (x2<x0))))))
theorem alu:cJ cL (aP JJ Cu u0 arw [vi x0,vi x1,vi x2]) (m86 x0 x1 x2):=⟨by kernel_rfl,by kernel_rfl⟩
def bq:Bool:=bif decide (x0<x1) then true else decide (x2<x0)
def R86:V:=.bool (bq x0 x1 x2)
theorem apd:aR cq (m86 x0 x1 x2) (R86 x0 x1 x2):=evObi (evObi (evObi (evRet (by unfold R86 bq;rfl))))
def C86:aB:=bF bQ (fun _=>True) fun
 |[.int _ x0,.int _ x1,.int _ x2]=>R86 x0 x1 x2
 |_=>.any
theorem PV:(vP C86).Ok Tryz.prog 161:=bV xG Tryz.func161 (by kernel_rfl) fun ds hp=>cQ (alu ..) (apd _ _ _)
def m71:RT Empty:=.obi (.obi (.obi (.ret (V.bool (bif decide (x1<=x0) then decide (x0<=x2) else false)))))
theorem aji:cJ cL (aP JJ Cu u0 ap8 [vi x0,vi x1,vi x2]) (m71 x0 x1 x2):=⟨by kernel_rfl,by kernel_rfl⟩
def yac:Bool:=bif decide (x1<=x0) then decide (x0<=x2) else false
def R71:V:=.bool (yac x0 x1 x2)
theorem ao4:aR cq (m71 x0 x1 x2) (R71 x0 x1 x2):=evObi (evObi (evObi (evRet (by unfold R71 yac;rfl))))
def C71:aB:=bF bQ (fun _=>True) fun
 |[.int _ x0,.int _ x1,.int _ x2]=>R71 x0 x1 x2
 |_=>.any
theorem Xk:(vP C71).Ok Tryz.prog 148:=bV xG Tryz.func148 (by kernel_rfl) fun ds hp=>cQ (aji ..) (ao4 _ _ _)
def m79:RT Empty:=.ret (vi (wI (wI (x0*x3)-wI (x1*x2))))
theorem ajJ:cJ cL (aP JJ Cu u0 aon [V.agg [vi x0,vi x1],V.agg [vi x2,vi x3]]) (m79 x0 x1 x2 x3):=⟨by kernel_rfl,by kernel_rfl⟩
def yao:Int:=wI (wI (x0*x3)-wI (x1*x2))
def R79:V:=vi (yao x0 x1 x2 x3)
theorem aoE:aR cq (m79 x0 x1 x2 x3) (R79 x0 x1 x2 x3):=evRet (by unfold R79 yao;rfl)
def C79:aB:=bF [.agg bZ,.agg bZ] (fun _=>True) fun
 |[.agg [.int _ x0,.int _ x1],.agg [.int _ x2,.int _ x3]]=>R79 x0 x1 x2 x3
 |_=>.any
theorem UL:(vP C79).Ok Tryz.prog 173:=bV xG Tryz.func173 (by kernel_rfl) fun ds hp=>cQ (ajJ ..) (aoE _ _ _ _)
def alq:RT Empty:=.ret (V.bool (x0 != x0))
theorem abp:cJ cL (aP JJ Cu u0 PZ [vi x0]) (alq x0):=⟨by kernel_rfl,by kernel_rfl⟩
def Lg:Bool:=x0 != x0
def afz:V:=.bool (Lg x0)
theorem ano:aR cq (alq x0) (afz x0):=evRet (by unfold afz Lg;rfl)
def Wn:aB:=bF ae (fun _=>True) fun
 |[.int _ x0]=>afz x0
 |_=>.any
theorem ND:(vP Wn).Ok Tryz.prog 309:=bV xG Tryz.func309 (by kernel_rfl) fun ds hp=>cQ (abp ..) (ano _)
def P2:bj:=[(162,.con C84),(163,.con Qm),(161,.con C86),(148,.con C71),(173,.con C79),(309,.con Wn)]
theorem Fo:aW Tryz.prog eqs its P2:=.con UR (.con Hm (.con PV (.con Xk (.con UL (.con ND (.nil))))))
def m78:RT Empty:=.obc (.obt (.obc (.obt (.obc (.obt (.ret (vi (yL (xA x2 x0) (xm x3 x1) (xA x4 x0) (xm x5 x1)))))))))
theorem alx:cJ cL (aP JJ P2 u0 apm [V.agg [vi x0,vi x1,vi x2,vi x3],V.agg [vi x4,vi x5]]) (m78 x0 x1 x2 x3 x4 x5):=⟨by kernel_rfl,by kernel_rfl⟩
def Bt:Int:=yL (xA x2 x0) (xm x3 x1) (xA x4 x0) (xm x5 x1)
def R78:V:=vi (Bt x0 x1 x2 x3 x4 x5)
theorem apB:aR cq (m78 x0 x1 x2 x3 x4 x5) (R78 x0 x1 x2 x3 x4 x5):=aw (evObt (aw (evObt (aw (evObt (evRet (by unfold R78 Bt;rfl)))))))
def C78:aB:=bF [.agg je,.agg bZ] (fun _=>True) fun
 |[.agg [.int _ x0,.int _ x1,.int _ x2,.int _ x3],.agg [.int _ x4,.int _ x5]]=>R78 x0 x1 x2 x3 x4 x5
 |_=>.any
theorem Tl:(vP C78).Ok Tryz.prog 84:=bV Fo Tryz.func84 (by kernel_rfl) fun ds hp=>cQ (alx ..) (apB _ _ _ _ _ _)
def m81:RT Empty:=.br (decide (x0<0)) (.ob (decide (x1≠0)) (.ret (vi (wI (0-wI ((wI (wI (x1-1)-x0)).tdiv x1)))))) (.ob (decide (x1≠0)) (.ret (vi (wI (x0.tdiv x1)))))
theorem aku:cJ cL (aP JJ P2 u0 apj [vi x0,vi x1]) (m81 x0 x1):=⟨by kernel_rfl,by kernel_rfl⟩
def qx:Int:=bif decide (x0<0) then wI (0-wI ((wI (wI (x1-1)-x0)).tdiv x1)) else wI (x0.tdiv x1)
def R81:V:=vi (qx x0 x1)
theorem ap9 (hp:x1≠0):aR cq (m81 x0 x1) (R81 x0 x1):=evBr (fun h0=>aE (by first|assumption|(simp[hp])) (evRet (by unfold R81 qx;try rw[h0];rfl))) (fun h0=>aE (by first|assumption|(simp[hp])) (evRet (by unfold R81 qx;try rw[h0];rfl)))
def C81:aB:=bF bZ (fun
 |[.int _ x0,.int _ x1]=>x1≠0
 |_=>False) fun
 |[.int _ x0,.int _ x1]=>R81 x0 x1
 |_=>.any
theorem Tc:(vP C81).Ok Tryz.prog 83:=bV Fo Tryz.func83 (by kernel_rfl) fun ds hp=>cQ (aku ..) (ap9 _ _ hp)
def m88:RT Empty:=.ob (decide (x1≠0)) (.obi (.obi (.obj (decide (x0<0)) (decide (x1≠0)) (.obi (.obi (.br (bif decide (x0<0) then x0.tmod x1 != 0 else false) (.ret (vi (wI (wI (x0.tdiv x1)-1)))) (.ret (vi (wI (x0.tdiv x1))))))))))
theorem ai7:cJ cL (aP JJ P2 u0 aoR [vi x0,vi x1]) (m88 x0 x1):=⟨by kernel_rfl,by kernel_rfl⟩
def pz:Int:=bif bif decide (x0<0) then x0.tmod x1 != 0 else false then wI (wI (x0.tdiv x1)-1) else wI (x0.tdiv x1)
def R88:V:=vi (pz x0 x1)
theorem aq5 (hp:x1≠0):aR cq (m88 x0 x1) (R88 x0 x1):=aE (by first|assumption|(simp[hp])) (evObi (evObi (evObj (by first|assumption|(simp_all)) (evObi (evObi (evBr (fun h0=>evRet (by unfold R88 pz;try rw[h0];rfl)) (fun h0=>evRet (by unfold R88 pz;try rw[h0];rfl))))))))
def C88:aB:=bF bZ (fun
 |[.int _ x0,.int _ x1]=>x1≠0
 |_=>False) fun
 |[.int _ x0,.int _ x1]=>R88 x0 x1
 |_=>.any
theorem TR:(vP C88).Ok Tryz.prog 229:=bV Fo Tryz.func229 (by kernel_rfl) fun ds hp=>cQ (ai7 ..) (aq5 _ _ hp)
end
end Go.Dx
namespace Go.Dx
open Go.IntKind (i64 u64 u8)
open Go.Sx
theorem cO {n:Nat} {P:Nat->Prop} (h:∀ i,i<=n->(i<n->P (i+1))->P i):∀ i,i<=n->P i:=by
 have key:∀ k i,i+k=n->P i:=by
  intro k
  induction k with
  |zero=>intro i e;exact h i (by omega) fun h=>by omega
  |succ k ih=>intro i e;exact h i (by omega) fun _=>ih (i+1) (by omega)
 exact fun i hi=>key (n-i) i (by omega)
theorem wrapI {x:Int} (h1:-9223372036854775808<=x) (h2:x<=9223372036854775807):wI x=x:=IntWalk.i64_in _ (by omega)
theorem j7 {i n:Nat} (h:i<n) (hn:n<=9223372036854775807):wI ((i:Int)+1)=((i+1:Nat):Int):=by
 rw [wrapI (by omega) (by omega)];omega
theorem xb {n:Nat} {p:Nat->Bool}:cz n p=true↔∀ i,i<n->p i=true:=⟨cS,eu⟩
theorem eY {n:Nat} {p:Nat->Bool} (i:Nat) (hi:i<n) (h:p i=false):cz n p=false:=by
 cases hb:cz n p with
 |false=>rfl
 |true=>rw[cS hb i hi]at h;cases h
def Ef (p:Nat->Bool):Nat->Nat->Int
 |0,_=>-1
 |k+1,i=>bif p i then(i:Int) else Ef p k (i+1)
def zV (n:Nat) (p:Nat->Bool):Int:=Ef p n 0
theorem xI {p:Nat->Bool}:∀ (k i:Nat),(∀ j,i<=j->j<i+k->p j=false)->Ef p k i=-1
 |0,_,_=>rfl
 |k+1,i,h=>by simp only[Ef,h i (Nat.le_refl _) (by omega),cond_false];exact xI k (i+1) fun j h1 h2=>h j (by omega) (by omega)
theorem wA {p:Nat->Bool} {j:Nat} (hj:p j=true):∀ (k i:Nat),i<=j->j<i+k->(∀ l,i<=l->l<j->p l=false)->Ef p k i=j
 |0,i,h1,h2,_=>by omega
 | k+1,i,h1,h2,h=>by
   by_cases e:i=j
   ·subst e;simp only[Ef,hj,cond_true]
   ·simp only[Ef,h i (Nat.le_refl _) (by omega),cond_false]
    exact wA hj k (i+1) (by omega) (by omega) fun l h3 h4=>h l (by omega) h4
section
variable {n:Nat} {p:Nat->Bool}
include n p
theorem tN (h:∀ j,j<n->p j=false):zV n p=-1:=xI n 0 fun j _ h2=>h j (by omega)
theorem uZ {j:Nat} (hj:p j=true) (h1:j<n) (h:∀ l,l<j->p l=false):zV n p=j:=wA hj n 0 (by omega) (by omega) fun l _ h4=>h l h4
theorem Og:(zV n p=-1/\∀ j,j<n->p j=false)∨∃ j,j<n/\zV n p=(j:Int)/\p j=true/\∀ l,l<j->p l=false:=by
 by_cases h:∀ j,j<n->p j=false
 ·exact .inl ⟨tN h,h⟩
 ·right
  have:∃ j,j<n/\p j=true:=by
   simp only [Classical.not_forall]at h
   obtain ⟨j,hj,hp⟩:=h
   exact ⟨j,hj,by simpa using hp⟩
  have key:∀ m,(∃ j,j<m/\j<n/\p j=true)->∃ j,j<n/\p j=true/\∀ l,l<j->p l=false:=by
   intro m
   induction m with
   |zero=>rintro⟨j,hj,_⟩;omega
   | succ m ih =>
     rintro ⟨j,hj,hn,hp⟩
     by_cases hm:∃ j,j<m/\j<n/\p j=true
     ·exact ih hm
     ·refine⟨j,hn,hp,fun l hl=>?_⟩
      cases hb:p l with
      |false=>rfl
      |true=>exact(hm ⟨l,by omega,by omega,hb⟩).elim
  obtain ⟨j,hj,hp⟩:=this
  obtain ⟨j,h1,h2,h3⟩:=key n ⟨j,hj,hj,hp⟩
  exact ⟨j,h1,uZ h2 h1 h3,h2,h3⟩
end
def jh (n:Nat) (p:Nat->Bool):Bool:=!cz n fun i=>!p i
theorem nA {n:Nat} {p:Nat->Bool}:decide (0<=zV n p)=jh n p:=by
 rcases Og (n:=n) (p:=p) with ⟨h1,h2⟩|⟨j,h1,h2,h3,_⟩
 ·rw[h1];unfold jh;rw[eu fun i hi=>by rw[h2 i hi];rfl];rfl
 ·rw[h2];unfold jh;rw[eY j h1 (by rw[h3];rfl)];simp
end Go.Dx
namespace Go.Dx
open Go.IntKind (i64 u64 u8)
open Go.Sx
section
variable {S:Type} {step:S->RT S}
theorem rA {L : Int -> S} {n:Nat} {p:Nat->Bool} (hn:n<=9223372036854775807)
 (hst:∀ i:Nat,step (L i)=.br (decide ((i:Int)<(n:Int))) (.ob (decide (0<=(i:Int)/\(i:Int)<(n:Int))) (.obc (.obt (.br (p i) (.ret (.int .i64 i)) (.next [] (L (wI ((i:Int)+1))) []))))) (.ret (.int .i64 (-1)))) :
 Ev step (L 0) (.int .i64 (zV n p)):=by
 have key := cO (n := n) (P:=fun i=>(∀ j,j<i->p j=false)->Ev step (L i) (.int .i64 (zV n p))) fun i hi ih hj=>by
  refine Ev.of (by rw[hst];rfl) ?_
  rw [hst]
  refine evBr (fun h=>?_) (fun h=>?_)
  ·have hlt:i<n:=by simpa using h
   refine aE (by simpa using hlt) (aw (evObt (evBr (fun hb=>evRet ?_) (fun hb=>aK ?_))))
   ·rw[uZ hb hlt hj]
   ·rw [j7 hlt hn]
    exact ih hlt fun j h1=>by
     by_cases e:j=i
     ·subst e;exact hb
     ·exact hj j (by omega)
  ·have : i = n := by have:¬ i<n:=by simpa using h
                      omega
   subst this
   refine evRet ?_
   rw [tN hj]
 exact key 0 (Nat.zero_le _) fun j hj=>by omega
end
end Go.Dx
namespace Go.Dx
open Go.IntKind (i64 u64 u8)
open Go.Sx
theorem iA {n:Nat} (hn:n<=9223372036854775807) (p:Nat->Bool) {P:Int->Prop} (hstep:∀ i:Nat,i<n->(∀ j,j<i->p j=false)->(p i=false->P (wI ((i:Int)+1)))->P i) (hend:(∀ j,j<n->p j=false)->P n):P 0:=by
 have key:=cO (n:=n) (P:=fun i=>(∀ j,j<i->p j=false)->P i) fun i hi ih hj=>by
  by_cases hlt:i<n
  ·refine hstep i hlt hj fun hp=>?_
   rw [j7 hlt hn]
   exact ih hlt fun j h1=>by
    by_cases e:j=i
    ·subst e;exact hp
    ·exact hj j (by omega)
  ·have:i=n:=by omega
   subst this;exact hend hj
 exact key 0 (Nat.zero_le _) fun j hj=>by omega
theorem Bv {n:Nat} (hn:n<=9223372036854775807) {P:Int->Prop} (hstep:∀ i:Nat,i<n->P (wI ((i:Int)+1))->P i) (hend:P n):P 0 :=
 iA hn (fun _=>false) (fun i hi _ h=>hstep i hi (h rfl)) fun _=>hend
section
variable {S:Type} {Nx:S->V->Prop} {r:V} {x y:RT S} {i n:Nat}
theorem cr (h:i<n) (hx:aR Nx x r):aR Nx (.br (decide ((i:Int)<(n:Int))) x y) r:=⟨fun _=>hx,fun k=>by have:=of_decide_eq_false k;omega⟩
theorem ck (hy:aR Nx y r):aR Nx (.br (decide ((n:Int)<(n:Int))) x y) r:=⟨(fun k=>by have:=of_decide_eq_true k;omega),fun _=>hy⟩
theorem b7 (h:i<n) (hx:aR Nx x r):aR Nx (.ob (decide (0<=(i:Int)/\(i:Int)<(n:Int))) x) r:=⟨decide_eq_true (by omega),hx⟩
theorem ny {c:Bool} (h:i<n) (hx:aR Nx x r):aR Nx (.obj c (decide (0<=(i:Int)/\(i:Int)<(n:Int))) x) r:=⟨fun _=>decide_eq_true (by omega),hx⟩
theorem eG {b:Bool} (h:b=true) (hx:aR Nx x r):aR Nx (.br b x y) r:=⟨fun _=>hx,fun k=>by rw[h]at k;cases k⟩
theorem ed {b:Bool} (h:b=false) (hy:aR Nx y r):aR Nx (.br b x y) r:=⟨(fun k=>by rw[h]at k;cases k),fun _=>hy⟩
end
end Go.Dx
namespace Go.Dx
open Go.IntKind (i64 u64 u8)
section
variable {n:Nat} {p:Nat->Bool}
include n p
theorem cn (i:Nat) (hi:i<n) (h:p i=true):jh n p=true:=by
 unfold jh;rw[eY i hi (by rw[h];rfl)];rfl
theorem b8 (h:∀ i,i<n->p i=false):jh n p=false:=by
 unfold jh;rw[eu fun i hi=>by rw[h i hi];rfl];rfl
theorem Ua:jh n p=true↔∃ i,i<n/\p i=true:=by
 constructor
 ·intro h
  apply Classical.byContradiction
  intro hn
  rw [b8 fun i hi=>by
   cases hp:p i with
   |false=>rfl
   |true=>exact(hn ⟨i,hi,hp⟩).elim]at h
  cases h
 ·rintro⟨i,hi,h⟩;exact cn i hi h
end
end Go.Dx
namespace Go.Dx
open Go.IntKind (i64 u64 u8)
open Go.Sx
def eZ (n:Nat) (c:Nat->Int):Int:=bif zV n (fun i=>c i != 0)==-1 then 0 else zV n fun i=>c i != 0
def dw (n:Nat) (c:Nat->Int):Int:=bif zV n (fun i=>c i != 0)==-1 then 0 else c (zV n fun i=>c i != 0).toNat
theorem fR {n:Nat} {c:Nat->Int} (h:∀ j,j<n->(c j != 0)=false):eZ n c=0/\dw n c=0:=by
 unfold eZ dw;rw[tN h];exact⟨rfl,rfl⟩
theorem cu {n:Nat} {c:Nat->Int} {i:Nat} (hi:i<n) (hc:(c i != 0)=true) (h:∀ j,j<i->(c j != 0)=false):eZ n c=i/\dw n c=c i:=by
 unfold eZ dw;rw[uZ hc hi h]
 have:((i:Int)==-1)=false:=by rw[beq_eq_false_iff_ne];omega
 rw [this];exact⟨rfl,rfl⟩
section
variable {S:Type} {step:S->RT S}
theorem pK {L:Int->S} {n:Nat} {c:Nat->Int} {Q:Nat->Prop} {ρ:mn} (W:Nat->RT S->RT S) (hW:∀ i x r,Q i->aR (Ev step) x r->aR (Ev step) (W i x) r) (hWn:∀ i x,eK (W i x)=eK x) (hn:n<=9223372036854775807) (hQ:∀ i,i<n->Q i)
 (hst:∀ i:Nat,step (L i)=.br (decide ((i:Int)<(n:Int))) (.ob (decide (0<=(i:Int)/\(i:Int)<(n:Int))) (.ob (decide (0<=(i:Int)/\(i:Int)<=(n:Int))) (W i (.br (c i != 0) (.ret (.tup [.int .i64 i,.int .i64 (c i)])) (.next ρ (L (wI ((i:Int)+1))) []))))) (.ret (.tup [.int .i64 0,.int .i64 0]))) :
 Ev step (L 0) (.tup [.int .i64 (eZ n c),.int .i64 (dw n c)]) :=
 iA hn (fun i=>c i != 0) (P:=fun i=>Ev step (L i) (.tup [.int .i64 (eZ n c),.int .i64 (dw n c)])) (fun i hlt hj next=>Ev.of (by rw[hst];simp only[eK,hWn,Bool.and_self]) (by
  rw [hst]
  refine cr hlt (b7 hlt (aE (decide_eq_true (by omega)) (hW i _ _ (hQ i hlt) (evBr (fun hb=>evRet ?_) (fun hb=>aK (next hb))))))
  rw [(cu hlt hb hj).1,(cu hlt hb hj).2])) (fun hj=>Ev.of (by rw[hst];simp only[eK,hWn,Bool.and_self]) (by
  rw [hst]
  refine ck (evRet ?_)
  rw [(fR hj).1,(fR hj).2]))
end
def yaa (n:Nat) (f:Nat->List V):Prop:=∀ i,i<n->(sv (ap (f i))).size<=9223372036854775807
end Go.Dx
namespace Go.Dx
open Go.IntKind (i64 u64 u8)
theorem ng {b:Bool} (h:(!!b)=true):(!b)=false:=by cases b<;>first|rfl|cases h
theorem ng' {b:Bool} (h:(!!b)=false):(!b)=true:=by cases b<;>first|rfl|cases h
end Go.Dx
namespace Go.Dx
open Go.IntKind (i64 u64 u8)
open Go.Sx Go.Proofs
variable (n0:Nat) (f0:aN) (x0:Int) (s0:ByteArray) (x1:Int) (n2:Nat) (f2:aN) (x2:Int) (s2:ByteArray) (x3:Int) (n4:Nat) (f4:aN) (x4 x5:Int) (s5:ByteArray) (n6:Nat) (f6:aN) (x6:Int) (s6:ByteArray) (n7:Nat) (f7:aN) (x7 x8 x9 x10 x11:Int)
noncomputable section
def ae2:bj:=(84,.con C78)::(83,.con C81)::(229,.con C88)::P2
theorem X8:aW Tryz.prog eqs its ae2:=.con Tl (.con Tc (.con TR (Fo)))
def amW:RT Empty:=.cb (.ret (V.bool (bq x0 (-100000) 100000)))
theorem adz:cJ cL (aP JJ ae2 u0 ZV [vi x0]) (amW x0):=⟨by kernel_rfl,by kernel_rfl⟩
def zq:Bool:=bq x0 (-100000) 100000
def aiK:V:=.bool (zq x0)
theorem ajz:aR cq (amW x0) (aiK x0):=aw (evObt (evRet (by unfold aiK zq;rfl)))
def NA:aB:=bF ae (fun _=>True) fun
 |[.int _ x0]=>aiK x0
 |_=>.any
theorem ET:(vP NA).Ok Tryz.prog 250:=bV X8 Tryz.func250 (by kernel_rfl) fun ds hp=>cQ (adz ..) (ajz _)
def ye:bj:=(250,.con NA)::ae2
theorem w7:aW Tryz.prog eqs its ye:=.con ET (X8)
def anw:RT Empty:=dm (x1,n2,f2,x4,x6,n7,f7,x9) (.ret (V.bool (s0.toList==s5.toList)))
theorem ahN:cJ cL (aP JJ ye u0 alH [V.agg [V.str s0,vi x1,V.sl n2 (aa bZ f2),vi x4],V.pd [V.str s5,vi x6,V.sl n7 (aa bZ f7),vi x9]]) (anw s0 x1 n2 f2 x4 s5 x6 n7 f7 x9):=⟨by kernel_rfl,by kernel_rfl⟩
def yu:Bool:=s0.toList==s5.toList
def adK:V:=dm (x1,n2,f2,x4,x6,n7,f7,x9) (.bool (yu s0 s5))
theorem ajW:aR cq (anw s0 x1 n2 f2 x4 s5 x6 n7 f7 x9) (adK s0 x1 n2 f2 x4 s5 x6 n7 f7 x9):=evRet (by unfold adK yu;rfl)
def NE:aB:=bF [.agg aJ,.pd aJ] (fun _=>True) fun
 |[.agg [.str s0,.int _ x1,.sl n2 f2,.int _ x4],.pd [.str s5,.int _ x6,.sl n7 f7,.int _ x9]]=>adK s0 x1 n2 f2 x4 s5 x6 n7 f7 x9
 |_=>.any
theorem Gs:(vP NE).Ok Tryz.prog 204:=bV w7 Tryz.func204 (by kernel_rfl) fun ds hp=>cQ (ahN ..) (ajW _ _ _ _ _ _ _ _ _ _)
def ak4:RT Empty:=.cb (.ii (.obi (.br (!bq x1 1 1000) (.ob (!bq x1 1 1000) (.ob (!bq x1 1 1000) (.cb (.obi (.br (!bq x0 0 (wI (x1-1))) (.ob (!bq x0 0 (wI (x1-1))) (.cb (.ii (.obi (.br (!bq x3 1 1000) (.ob (!bq x3 1 1000) (.ob (!bq x3 1 1000) (.cb (.ret (V.bool (bq x2 0 (wI (x3-1)))))))) (.ret (V.kb true))))))) (.ret (V.kb true))))))) (.ret (V.kb true)))))
theorem afo:cJ cL (aP JJ ye u0 alZ [V.agg [vi x0,vi x1,vi x2,vi x3]]) (ak4 x0 x1 x2 x3):=⟨by kernel_rfl,by kernel_rfl⟩
def kp:Bool:=bif !bq x1 1 1000 then bif !bq x0 0 (wI (x1-1)) then bif !bq x3 1 1000 then bq x2 0 (wI (x3-1)) else true else true else true
def I3:V:=.bool (kp x0 x1 x2 x3)
theorem amk:aR cq (ak4 x0 x1 x2 x3) (I3 x0 x1 x2 x3):=aw (evObt (evObi (evObi (evObi (evBr (fun h0=>aE (by first|assumption|(fail)) (aE (by first|assumption|(fail)) (aw (evObt (evObi (evBr (fun h1=>aE (by first|assumption|(fail)) (aw (evObt (evObi (evObi (evObi (evBr (fun h2=>aE (by first|assumption|(fail)) (aE (by first|assumption|(fail)) (aw (evObt (evRet (by unfold I3 kp;try rw[h0];try rw[h1];try rw[h2];rfl)))))) (fun h2=>evRet (by unfold I3 kp;try rw[h0];try rw[h1];try rw[h2];rfl))))))))) (fun h1=>evRet (by unfold I3 kp;try rw[h0];try rw[h1];rfl)))))))) (fun h0=>evRet (by unfold I3 kp;try rw[h0];rfl)))))))
def Oq:aB:=bF [.agg je] (fun _=>True) fun
 |[.agg [.int _ x0,.int _ x1,.int _ x2,.int _ x3]]=>I3 x0 x1 x2 x3
 |_=>.any
theorem F4:(vP Oq).Ok Tryz.prog 212:=bV w7 Tryz.func212 (by kernel_rfl) fun ds hp=>cQ (afo ..) (amk _ _ _ _)
def ajh:RT Empty:=dm (x1,x2,x3,x4,x5,x7,x8,x9,x10,x11) (.ret (V.bool (s0.toList==s6.toList)))
theorem aeG:cJ cL (aP JJ ye u0 alc [V.agg [V.str s0,vi x1,vi x2,vi x3,vi x4,vi x5],V.pd [V.str s6,vi x7,vi x8,vi x9,vi x10,vi x11]]) (ajh s0 x1 x2 x3 x4 x5 s6 x7 x8 x9 x10 x11):=⟨by kernel_rfl,by kernel_rfl⟩
def zP:Bool:=s0.toList==s6.toList
def ag8:V:=dm (x1,x2,x3,x4,x5,x7,x8,x9,x10,x11) (.bool (zP s0 s6))
theorem ams:aR cq (ajh s0 x1 x2 x3 x4 x5 s6 x7 x8 x9 x10 x11) (ag8 s0 x1 x2 x3 x4 x5 s6 x7 x8 x9 x10 x11):=evRet (by unfold ag8 zP;rfl)
def LB:aB:=bF [.agg aH,.pd aH] (fun _=>True) fun
 |[.agg [.str s0,.int _ x1,.int _ x2,.int _ x3,.int _ x4,.int _ x5],.pd [.str s6,.int _ x7,.int _ x8,.int _ x9,.int _ x10,.int _ x11]]=>ag8 s0 x1 x2 x3 x4 x5 s6 x7 x8 x9 x10 x11
 |_=>.any
theorem Hz:(vP LB).Ok Tryz.prog 214:=bV w7 Tryz.func214 (by kernel_rfl) fun ds hp=>cQ (aeG ..) (ams _ _ _ _ _ _ _ _ _ _ _ _)
inductive S51 where
 |L0 (ia0:Int)
def alW:S51->bz×List O×Option Ex
 |.L0 ia0=>([(3,vi ia0),(2,V.kb false),(0,V.sl n0 (aa ae f0))],[],none)
def aqq:S51->JJ
 |.L0 ia0=>(0,[])
def am2:T (bO JJ):=aP JJ ye u0 aqt [V.sl n0 (aa ae f0)]
def NC (cx:List Cx):Lp JJ:=eR (ej (am2 n0 f0) [])
def apX:JJ->Lp JJ
 |(0,cx)=>NC n0 f0 cx
 |(_,cx)=>NC n0 f0 cx
def D51:LD JJ S51:=⟨aqq,apX n0 f0,alW n0 f0⟩
def Xa:S51->RT S51
 |.L0 ia0=>.am n0 (.br (decide (ia0<(↑n0:Int))) (.ob (decide (0<=ia0/\ia0<(↑n0:Int))) (.cb (.br (!yac (ar (f0 ia0.toNat)) (-100000) 100000) (.ret (V.kb false)) (.next [] (S51.L0 (wI (ia0+1))) [])))) (.ret (V.kb true)))
def m51:RT S51:=dm (n0,f0) (.enter [] (S51.L0 (0)) [])
theorem amr:dD ye u0 (D51 n0 f0) (am2 n0 f0) (m51 n0 f0) (Xa n0 f0):=⟨⟨by kernel_rfl,by kernel_rfl⟩,fun s=>by cases s<;>exact⟨by kernel_rfl,by kernel_rfl⟩⟩
def wk:Bool:=cz n0 fun i=>yac (ar (f0 i)) (-100000) 100000
theorem agT:aR (Ev (Xa n0 f0)) (m51 n0 f0) (.bool (wk n0 f0)):=by
 refine aF ?_
 have key:=cO (n:=n0) (P:=fun i=>(∀ j,j<i->yac (ar (f0 j)) (-100000) 100000=true)->Ev (Xa n0 f0) (.L0 i) (.bool (wk n0 f0))) fun i hi ih hj=>by
  refine Ev.of rfl (bg fun hn=>evBr (fun h=>?_) (fun h=>evRet ?_))
  ·have hlt:i<n0:=by simpa using h
   refine aE (by simpa using hlt) (aw (evObt (evBr (fun hb=>evRet ?_) (fun hb=>aK ?_))))
   ·simp only[ce];unfold wk;rw[eY i hlt (by simpa using hb)]
   ·rw [j7 hlt hn];exact ih hlt fun j h1=>by
     by_cases e:j=i
     ·subst e;simpa using hb
     ·exact hj j (by omega)
  ·have:i=n0:=by
    have:¬ i<n0:=by simpa using h
    omega
   subst this
   simp only [ce];unfold wk;rw[eu hj]
 exact key 0 (Nat.zero_le _) fun j hj=>by omega
theorem apI:aR (Ev (Xa n0 f0)) (m51 n0 f0) (.bool (wk n0 (aa ae f0))):=agT n0 f0
def C51:aB:=bF [.sl ae] (fun _=>True) fun
 |[.sl n0 f0]=>.bool (wk n0 f0)
 |_=>.any
theorem Uv:(vP C51).Ok Tryz.prog 147:=bV w7 Tryz.func147 (by kernel_rfl) fun ds hp=>iS (amr ..) (apI _ _)
inductive BU where
 |L0 (ia0:Int)
def ahZ:BU->bz×List O×Option Ex
 |.L0 ia0=>([(8,vi ia0),(7,vi (↑n0:Int)),(6,V.sl n0 (aa ae f0)),(4,vi 0),(0,V.sl n0 (aa ae f0)),(1,V.fn 250 [] [])],[],none)
def ajw:BU->JJ
 |.L0 ia0=>(0,[])
def ZH:T (bO JJ):=aP JJ ye u0 Mm [V.sl n0 (aa ae f0),V.fn 250 [] []]
def Fc (cx:List Cx):Lp JJ:=eR (ej (ZH n0 f0) [])
def am9:JJ->Lp JJ
 |(0,cx)=>Fc n0 f0 cx
 |(_,cx)=>Fc n0 f0 cx
def apz:LD JJ BU:=⟨ajw,am9 n0 f0,ahZ n0 f0⟩
def Ni:BU->RT BU
 |.L0 ia0=>.br (decide (ia0<(↑n0:Int))) (.ob (decide (0<=ia0/\ia0<(↑n0:Int))) (.cb (.br (zq (ar (f0 ia0.toNat))) (.ret (vi ia0)) (.next [] (BU.L0 (wI (ia0+1))) [])))) (.ret (vi (-1)))
def adS:RT BU:=dm f0 (.am n0 (.enter [] (BU.L0 (0)) []))
theorem adk:dD ye u0 (apz n0 f0) (ZH n0 f0) (adS n0 f0) (Ni n0 f0):=⟨⟨by kernel_rfl,by kernel_rfl⟩,fun s=>by cases s<;>exact⟨by kernel_rfl,by kernel_rfl⟩⟩
def Ik:Int  :=zV n0 fun ii=>zq (ar (f0 ii))
theorem U1:aR (Ev (Ni n0 f0)) (adS n0 f0) (vi (Ik n0 f0)):=bg fun hn=>aF (rA hn fun i=>rfl)
theorem anj:aR (Ev (Ni n0 f0)) (adS n0 f0) (vi (Ik n0 (aa ae f0))):=U1 n0 f0
def Qq:aB:=bF [.sl ae,.fn 250 [] []] (fun _=>True) fun
 |[.sl n0 f0,.fn _ [] []]=>vi (Ik n0 f0)
 |_=>.any
theorem yaI:(vP Qq).Ok Tryz.prog 221:=bV w7 Tryz.func221 (by kernel_rfl) fun ds hp=>iS (adk ..) (anj _ _)
def xT:bj:=(204,.con NE)::(212,.con Oq)::(214,.con LB)::(147,.con C51)::(221,.con Qq)::ye
theorem Bz:aW Tryz.prog eqs its xT:=.con Gs (.con F4 (.con Hz (.con Uv (.con yaI (w7)))))
def m99:RT Empty:=.cb (.ret (V.bool (decide (0<=Ik n0 (aa ae f0)))))
theorem ajM:cJ cL (aP JJ xT u0 aii [V.sl n0 (aa ae f0),V.fn 250 [] []]) (m99 n0 f0):=⟨by kernel_rfl,by kernel_rfl⟩
def AP:Bool:=decide (0<=Ik n0 (aa ae f0))
def R99:V:=.bool (AP n0 f0)
theorem aqZ:aR cq (m99 n0 f0) (R99 n0 f0):=aw (evObt (evRet (by unfold R99 AP;rfl)))
def C99:aB:=bF [.sl ae,.fn 250 [] []] (fun _=>True) fun
 |[.sl n0 f0,.fn _ [] []]=>R99 n0 f0
 |_=>.any
theorem VM:(vP C99).Ok Tryz.prog 152:=bV Bz Tryz.func152 (by kernel_rfl) fun ds hp=>cQ (ajM ..) (aqZ _ _)
inductive BP where
 |L0 (ia0:Int)
def aho:BP->bz×List O×Option Ex
 |.L0 ia0=>([(8,vi ia0),(7,vi (↑n0:Int)),(6,V.sl n0 (aa aJ f0)),(4,vi 0),(0,V.sl n0 (aa aJ f0)),(1,V.fn 204 [] [V.pd [V.str s2,vi x3,V.sl n4 (aa bZ f4),vi x6]])],[],none)
def akS:BP->JJ
 |.L0 ia0=>(0,[])
def Zu:T (bO JJ):=aP JJ xT u0 amF [V.sl n0 (aa aJ f0),V.fn 204 [] [V.pd [V.str s2,vi x3,V.sl n4 (aa bZ f4),vi x6]]]
def HU (cx:List Cx):Lp JJ:=eR (ej (Zu n0 f0 s2 x3 n4 f4 x6) [])
def ajb:JJ->Lp JJ
 |(0,cx)=>HU n0 f0 s2 x3 n4 f4 x6 cx
 |(_,cx)=>HU n0 f0 s2 x3 n4 f4 x6 cx
def arn:LD JJ BP:=⟨akS,ajb n0 f0 s2 x3 n4 f4 x6,aho n0 f0 s2 x3 n4 f4 x6⟩
def KC (n0:Nat) (f0:aN) (s2:ByteArray) (x3:Int) (n4:Nat) (f4:aN) (x6:Int):BP->RT BP
 |.L0 ia0=>.br (decide (ia0<(↑n0:Int))) (.ob (decide (0<=ia0/\ia0<(↑n0:Int))) (.cb (.br (yu (sv (ap (f0 ia0.toNat))) s2) (.ret (vi ia0)) (.next [] (BP.L0 (wI (ia0+1))) [])))) (.ret (vi (-1)))
def ad1:RT BP:=dm (f0,s2,x3,n4,f4,x6) (.am n0 (.enter [] (BP.L0 (0)) []))
theorem adm:dD xT u0 (arn n0 f0 s2 x3 n4 f4 x6) (Zu n0 f0 s2 x3 n4 f4 x6) (ad1 n0 f0 s2 x3 n4 f4 x6) (KC n0 f0 s2 x3 n4 f4 x6):=⟨⟨by kernel_rfl,by kernel_rfl⟩,fun s=>by cases s<;>exact⟨by kernel_rfl,by kernel_rfl⟩⟩
def IM:Int  :=zV n0 fun ii=>yu (sv (ap (f0 ii))) s2
theorem VE:aR (Ev (KC n0 f0 s2 x3 n4 f4 x6)) (ad1 n0 f0 s2 x3 n4 f4 x6) (vi (IM n0 f0 s2)):=bg fun hn=>aF (rA hn fun i=>rfl)
theorem alm:aR (Ev (KC n0 f0 s2 x3 n4 f4 x6)) (ad1 n0 f0 s2 x3 n4 f4 x6) (vi (IM n0 (aa aJ f0) s2)):=VE n0 f0 s2 x3 n4 f4 x6
def OE:aB:=bF [.sl aJ,.fn 204 [] [.pd aJ]] (fun _=>True) fun
 |[.sl n0 f0,.fn _ [] [.pd [.str s2,.int _ x3,.sl n4 f4,.int _ x6]]]=>vi (IM n0 f0 s2)
 |_=>.any
theorem EB:(vP OE).Ok Tryz.prog 252:=bV Bz Tryz.func252 (by kernel_rfl) fun ds hp=>iS (adm ..) (alm _ _ _ _ _ _ _)
inductive BQ where
 |L0 (ia0:Int)
def afq:BQ->bz×List O×Option Ex
 |.L0 ia0=>([(8,vi ia0),(7,vi (↑n0:Int)),(6,V.sl n0 (aa je f0)),(4,vi 0),(0,V.sl n0 (aa je f0)),(1,V.fn 212 [] [])],[],none)
def akV:BQ->JJ
 |.L0 ia0=>(0,[])
def Zy:T (bO JJ):=aP JJ xT u0 aj3 [V.sl n0 (aa je f0),V.fn 212 [] []]
def Gw (cx:List Cx):Lp JJ:=eR (ej (Zy n0 f0) [])
def aj5:JJ->Lp JJ
 |(0,cx)=>Gw n0 f0 cx
 |(_,cx)=>Gw n0 f0 cx
def apJ:LD JJ BQ:=⟨akV,aj5 n0 f0,afq n0 f0⟩
def Pu:BQ->RT BQ
 |.L0 ia0=>.br (decide (ia0<(↑n0:Int))) (.ob (decide (0<=ia0/\ia0<(↑n0:Int))) (.cb (.br (kp (ar (f0 ia0.toNat)) (aQ (f0 ia0.toNat)) (ca (f0 ia0.toNat)) (bW (f0 ia0.toNat))) (.ret (vi ia0)) (.next [] (BQ.L0 (wI (ia0+1))) [])))) (.ret (vi (-1)))
def aiI:RT BQ:=dm f0 (.am n0 (.enter [] (BQ.L0 (0)) []))
theorem abh:dD xT u0 (apJ n0 f0) (Zy n0 f0) (aiI n0 f0) (Pu n0 f0):=⟨⟨by kernel_rfl,by kernel_rfl⟩,fun s=>by cases s<;>exact⟨by kernel_rfl,by kernel_rfl⟩⟩
def I0:Int  :=zV n0 fun ii=>kp (ar (f0 ii)) (aQ (f0 ii)) (ca (f0 ii)) (bW (f0 ii))
theorem Sz:aR (Ev (Pu n0 f0)) (aiI n0 f0) (vi (I0 n0 f0)):=bg fun hn=>aF (rA hn fun i=>rfl)
theorem anf:aR (Ev (Pu n0 f0)) (aiI n0 f0) (vi (I0 n0 (aa je f0))):=Sz n0 f0
def Kf:aB:=bF [.sl je,.fn 212 [] []] (fun _=>True) fun
 |[.sl n0 f0,.fn _ [] []]=>vi (I0 n0 f0)
 |_=>.any
theorem Gu:(vP Kf).Ok Tryz.prog 254:=bV Bz Tryz.func254 (by kernel_rfl) fun ds hp=>iS (abh ..) (anf _ _)
inductive Ap where
 |L0 (ia0:Int)
def acb:Ap->bz×List O×Option Ex
 |.L0 ia0=>([(8,vi ia0),(7,vi (↑n0:Int)),(6,V.sl n0 (aa aH f0)),(4,vi 0),(0,V.sl n0 (aa aH f0)),(1,V.fn 214 [] [V.pd [V.str s2,vi x3,vi x4,vi x5,vi x6,vi x7]])],[],none)
def alT:Ap->JJ
 |.L0 ia0=>(0,[])
def aaZ:T (bO JJ):=aP JJ xT u0 aj8 [V.sl n0 (aa aH f0),V.fn 214 [] [V.pd [V.str s2,vi x3,vi x4,vi x5,vi x6,vi x7]]]
def Fg (cx:List Cx):Lp JJ:=eR (ej (aaZ n0 f0 s2 x3 x4 x5 x6 x7) [])
def alr:JJ->Lp JJ
 |(0,cx)=>Fg n0 f0 s2 x3 x4 x5 x6 x7 cx
 |(_,cx)=>Fg n0 f0 s2 x3 x4 x5 x6 x7 cx
def arG:LD JJ Ap:=⟨alT,alr n0 f0 s2 x3 x4 x5 x6 x7,acb n0 f0 s2 x3 x4 x5 x6 x7⟩
def LX (n0:Nat) (f0:aN) (s2:ByteArray) (x3 x4 x5 x6 x7:Int):Ap->RT Ap
 |.L0 ia0=>.br (decide (ia0<(↑n0:Int))) (.ob (decide (0<=ia0/\ia0<(↑n0:Int))) (.cb (.br (zP (sv (ap (f0 ia0.toNat))) s2) (.ret (vi ia0)) (.next [] (Ap.L0 (wI (ia0+1))) [])))) (.ret (vi (-1)))
def ahX:RT Ap:=dm (f0,s2,x3,x4,x5,x6,x7) (.am n0 (.enter [] (Ap.L0 (0)) []))
theorem adZ:dD xT u0 (arG n0 f0 s2 x3 x4 x5 x6 x7) (aaZ n0 f0 s2 x3 x4 x5 x6 x7) (ahX n0 f0 s2 x3 x4 x5 x6 x7) (LX n0 f0 s2 x3 x4 x5 x6 x7):=⟨⟨by kernel_rfl,by kernel_rfl⟩,fun s=>by cases s<;>exact⟨by kernel_rfl,by kernel_rfl⟩⟩
def Iu:Int  :=zV n0 fun ii=>zP (sv (ap (f0 ii))) s2
theorem WT:aR (Ev (LX n0 f0 s2 x3 x4 x5 x6 x7)) (ahX n0 f0 s2 x3 x4 x5 x6 x7) (vi (Iu n0 f0 s2)):=bg fun hn=>aF (rA hn fun i=>rfl)
theorem ajf:aR (Ev (LX n0 f0 s2 x3 x4 x5 x6 x7)) (ahX n0 f0 s2 x3 x4 x5 x6 x7) (vi (Iu n0 (aa aH f0) s2)):=WT n0 f0 s2 x3 x4 x5 x6 x7
def Qs:aB:=bF [.sl aH,.fn 214 [] [.pd aH]] (fun _=>True) fun
 |[.sl n0 f0,.fn _ [] [.pd [.str s2,.int _ x3,.int _ x4,.int _ x5,.int _ x6,.int _ x7]]]=>vi (Iu n0 f0 s2)
 |_=>.any
theorem Fb:(vP Qs).Ok Tryz.prog 255:=bV Bz Tryz.func255 (by kernel_rfl) fun ds hp=>iS (adZ ..) (ajf _ _ _ _ _ _ _ _)
def Iv:bj:=(152,.con C99)::(252,.con OE)::(254,.con Kf)::(255,.con Qs)::xT
theorem Bg:aW Tryz.prog eqs its Iv:=.con VM (.con EB (.con Gu (.con Fb (Bz))))
def m45:RT Empty:=.cb (.ret (V.bool (AP n0 (aa ae f0))))
theorem akB:cJ cL (aP JJ Iv u0 amg [V.sl n0 (aa ae f0)]) (m45 n0 f0):=⟨by kernel_rfl,by kernel_rfl⟩
def jQ:Bool:=AP n0 (aa ae f0)
def R45:V:=.bool (jQ n0 f0)
theorem aoO:aR cq (m45 n0 f0) (R45 n0 f0):=aw (evObt (evRet (by unfold R45 jQ;rfl)))
def C45:aB:=bF [.sl ae] (fun _=>True) fun
 |[.sl n0 f0]=>R45 n0 f0
 |_=>.any
theorem R5:(vP C45).Ok Tryz.prog 206:=bV Bg Tryz.func206 (by kernel_rfl) fun ds hp=>cQ (akB ..) (aoO _ _)
def m90:RT Empty:=dm (x3,n4,f4,x6) (.cb (.ret (V.bool (decide (0<=IM n0 (aa aJ f0) s2)))))
theorem alY:cJ cL (aP JJ Iv u0 apH [V.sl n0 (aa aJ f0),V.fn 204 [] [V.pd [V.str s2,vi x3,V.sl n4 (aa bZ f4),vi x6]]]) (m90 n0 f0 s2 x3 n4 f4 x6):=⟨by kernel_rfl,by kernel_rfl⟩
def rU:Bool:=decide (0<=IM n0 (aa aJ f0) s2)
def R90:V:=dm (x3,n4,f4,x6) (.bool (rU n0 f0 s2))
theorem aqb:aR cq (m90 n0 f0 s2 x3 n4 f4 x6) (R90 n0 f0 s2 x3 n4 f4 x6):=aw (evObt (evRet (by unfold R90 rU;rfl)))
def C90:aB:=bF [.sl aJ,.fn 204 [] [.pd aJ]] (fun _=>True) fun
 |[.sl n0 f0,.fn _ [] [.pd [.str s2,.int _ x3,.sl n4 f4,.int _ x6]]]=>R90 n0 f0 s2 x3 n4 f4 x6
 |_=>.any
theorem Vr:(vP C90).Ok Tryz.prog 208:=bV Bg Tryz.func208 (by kernel_rfl) fun ds hp=>cQ (alY ..) (aqb _ _ _ _ _ _ _)
def amv:RT Empty:=.cb (.ret (V.bool (decide (0<=I0 n0 (aa je f0)))))
theorem afO:cJ cL (aP JJ Iv u0 anx [V.sl n0 (aa je f0),V.fn 212 [] []]) (amv n0 f0):=⟨by kernel_rfl,by kernel_rfl⟩
def q6:Bool:=decide (0<=I0 n0 (aa je f0))
def afe:V:=.bool (q6 n0 f0)
theorem amo:aR cq (amv n0 f0) (afe n0 f0):=aw (evObt (evRet (by unfold afe q6;rfl)))
def Qg:aB:=bF [.sl je,.fn 212 [] []] (fun _=>True) fun
 |[.sl n0 f0,.fn _ [] []]=>afe n0 f0
 |_=>.any
theorem HF:(vP Qg).Ok Tryz.prog 213:=bV Bg Tryz.func213 (by kernel_rfl) fun ds hp=>cQ (afO ..) (amo _ _)
def anC:RT Empty:=dm (x3,x4,x5,x6,x7) (.cb (.ret (V.bool (decide (0<=Iu n0 (aa aH f0) s2)))))
theorem aeh:cJ cL (aP JJ Iv u0 akx [V.sl n0 (aa aH f0),V.fn 214 [] [V.pd [V.str s2,vi x3,vi x4,vi x5,vi x6,vi x7]]]) (anC n0 f0 s2 x3 x4 x5 x6 x7):=⟨by kernel_rfl,by kernel_rfl⟩
def q8:Bool:=decide (0<=Iu n0 (aa aH f0) s2)
def ahT:V:=dm (x3,x4,x5,x6,x7) (.bool (q8 n0 f0 s2))
theorem al4:aR cq (anC n0 f0 s2 x3 x4 x5 x6 x7) (ahT n0 f0 s2 x3 x4 x5 x6 x7):=aw (evObt (evRet (by unfold ahT q8;rfl)))
def Kw:aB:=bF [.sl aH,.fn 214 [] [.pd aH]] (fun _=>True) fun
 |[.sl n0 f0,.fn _ [] [.pd [.str s2,.int _ x3,.int _ x4,.int _ x5,.int _ x6,.int _ x7]]]=>ahT n0 f0 s2 x3 x4 x5 x6 x7
 |_=>.any
theorem Fu:(vP Kw).Ok Tryz.prog 215:=bV Bg Tryz.func215 (by kernel_rfl) fun ds hp=>cQ (aeh ..) (al4 _ _ _ _ _ _ _ _)
def yj:bj:=(206,.con C45)::(208,.con C90)::(213,.con Qg)::(215,.con Kw)::Iv
theorem wq:aW Tryz.prog eqs its yj:=.con R5 (.con Vr (.con HF (.con Fu (Bg))))
def aj1:RT Empty:=.obt (.obt (.cb (.ret (V.bool (jQ 2 (aa ae (bn [vi x0,vi x1] 0 1)))))))
theorem ahn:cJ cL (aP JJ yj u0 amt [V.agg [vi x0,vi x1]]) (aj1 x0 x1):=⟨by kernel_rfl,by kernel_rfl⟩
def rp:Bool:=jQ 2 (aa ae (bn [vi x0,vi x1] 0 1))
def aee:V:=.bool (rp x0 x1)
theorem ak5:aR cq (aj1 x0 x1) (aee x0 x1):=evObt (evObt (aw (evObt (evRet (by unfold aee rp;rfl)))))
def RJ:aB:=bF [.agg bZ] (fun _=>True) fun
 |[.agg [.int _ x0,.int _ x1]]=>aee x0 x1
 |_=>.any
theorem Fy:(vP RJ).Ok Tryz.prog 205:=bV wq Tryz.func205 (by kernel_rfl) fun ds hp=>cQ (ahn ..) (ak5 _ _)
def m65:RT Empty:=dm (n0,f0) (.cb (.obi (.br (!jQ 2 (aa ae (bn [vi x2,vi x3] 0 1))) (.ob (!jQ 2 (aa ae (bn [vi x2,vi x3] 0 1))) (.cb (.ii (.obi (.br (!bq x4 1 20000) (.ob (!bq x4 1 20000) (.ob (!bq x4 1 20000) (.cb (.obi (.br (!bq x5 0 (wI (x6-1))) (.ob (!bq x5 0 (wI (x6-1))) (.cb (.br (bq x6 1 1000) (.ret (vi 7)) (.ret (vi 0))))) (.ret (vi 7))))))) (.ret (vi 7))))))) (.ret (vi 7)))))
theorem ajO:cJ cL (aP JJ yj u0 aoB [V.sl n0 (aa aU f0),V.agg [vi x2,vi x3,vi x4,vi x5,vi x6]]) (m65 n0 f0 x2 x3 x4 x5 x6):=⟨by kernel_rfl,by kernel_rfl⟩
def mM:Int:=bif !jQ 2 (aa ae (bn [vi x2,vi x3] 0 1)) then bif !bq x4 1 20000 then bif !bq x5 0 (wI (x6-1)) then bif bq x6 1 1000 then 7 else 0 else 7 else 7 else 7
def R65:V:=dm (n0,f0) (vi (mM x2 x3 x4 x5 x6))
theorem ao6:aR cq (m65 n0 f0 x2 x3 x4 x5 x6) (R65 n0 f0 x2 x3 x4 x5 x6):=aw (evObt (evObi (evBr (fun h0=>aE (by first|assumption|(fail)) (aw (evObt (evObi (evObi (evObi (evBr (fun h1=>aE (by first|assumption|(fail)) (aE (by first|assumption|(fail)) (aw (evObt (evObi (evBr (fun h2=>aE (by first|assumption|(fail)) (aw (evObt (evBr (fun h3=>evRet (by unfold R65 mM;try rw[h0];try rw[h1];try rw[h2];try rw[h3];rfl)) (fun h3=>evRet (by unfold R65 mM;try rw[h0];try rw[h1];try rw[h2];try rw[h3];rfl)))))) (fun h2=>evRet (by unfold R65 mM;try rw[h0];try rw[h1];try rw[h2];rfl)))))))) (fun h1=>evRet (by unfold R65 mM;try rw[h0];try rw[h1];rfl))))))))) (fun h0=>evRet (by unfold R65 mM;try rw[h0];rfl)))))
def C65:aB:=bF [.sl aU,.agg aU] (fun _=>True) fun
 |[.sl n0 f0,.agg [.int _ x2,.int _ x3,.int _ x4,.int _ x5,.int _ x6]]=>R65 n0 f0 x2 x3 x4 x5 x6
 |_=>.any
theorem Ut:(vP C65).Ok Tryz.prog 138:=bV wq Tryz.func138 (by kernel_rfl) fun ds hp=>cQ (ajO ..) (ao6 _ _ _ _ _ _ _)
def m67:RT Empty:=dm (n0,f0) (.obt (.obt (.obt (.obt (.cb (.br (jQ 4 (aa ae (bn [vi x2,vi x3,vi x4,vi x5] 0 1))) (.ret (vi 7)) (.br (x2==x4&&(x3==x5&&true)) (.ret (vi 2)) (.am n6 (.br (decide (6<(↑n6:Int))) (.ret (vi 3)) (.cb (.br (q6 n6 (aa je f6)) (.ret (vi 7)) (.ret (vi 0)))))))))))))
theorem anc:cJ cL (aP JJ yj u0 arF [V.sl n0 (aa aV f0),V.agg [vi x2,vi x3,vi x4,vi x5,V.sl n6 (aa je f6)]]) (m67 n0 f0 x2 x3 x4 x5 n6 f6):=⟨by kernel_rfl,by kernel_rfl⟩
def mR:Int:=bif jQ 4 (aa ae (bn [vi x2,vi x3,vi x4,vi x5] 0 1)) then 7 else bif x2==x4&&(x3==x5&&true) then 2 else bif decide (6<(↑n6:Int)) then 3 else bif q6 n6 (aa je f6) then 7 else 0
def R67:V:=dm (n0,f0) (vi (mR x2 x3 x4 x5 n6 f6))
theorem aoq:aR cq (m67 n0 f0 x2 x3 x4 x5 n6 f6) (R67 n0 f0 x2 x3 x4 x5 n6 f6):=evObt (evObt (evObt (evObt (aw (evObt (evBr (fun h0=>evRet (by unfold R67 mR;try rw[h0];rfl)) (fun h0=>evBr (fun h1=>evRet (by unfold R67 mR;try rw[h0];try rw[h1];rfl)) (fun h1=>evAsm (fun a2=>evBr (fun h2=>evRet (by unfold R67 mR;try rw[h0];try rw[h1];try rw[h2];rfl)) (fun h2=>aw (evObt (evBr (fun h3=>evRet (by unfold R67 mR;try rw[h0];try rw[h1];try rw[h2];try rw[h3];rfl)) (fun h3=>evRet (by unfold R67 mR;try rw[h0];try rw[h1];try rw[h2];try rw[h3];rfl))))))))))))))
def C67:aB:=bF [.sl aV,.agg aV] (fun _=>True) fun
 |[.sl n0 f0,.agg [.int _ x2,.int _ x3,.int _ x4,.int _ x5,.sl n6 f6]]=>R67 n0 f0 x2 x3 x4 x5 n6 f6
 |_=>.any
theorem WJ:(vP C67).Ok Tryz.prog 140:=bV wq Tryz.func140 (by kernel_rfl) fun ds hp=>cQ (anc ..) (aoq _ _ _ _ _ _ _ _)
inductive yap where
 |L0 (ia0:Int)
def ahF:yap->bz×List O×Option Ex
 |.L0 ia0=>([(3,vi ia0),(2,V.kb false),(0,V.str s0)],[],none)
def aj4:yap->JJ
 |.L0 ia0=>(0,[])
def aba:T (bO JJ):=aP JJ yj u0 als [V.str s0]
def G9 (cx:List Cx):Lp JJ:=eR (ej (aba s0) [])
def ajZ:JJ->Lp JJ
 |(0,cx)=>G9 s0 cx
 |(_,cx)=>G9 s0 cx
def aoG:LD JJ yap:=⟨aj4,ajZ s0,ahF s0⟩
def NM:yap->RT yap
 |.L0 ia0=>.br (decide (ia0<(↑s0.size:Int))) (.ob (decide (0<=ia0/\ia0<(↑s0.size:Int))) (.ii (.obj (decide (97<=(↑(s0.data.1.getD ia0.toNat 0).toNat:Int))) (decide (0<=ia0/\ia0<(↑s0.size:Int))) (.iv (.ii (.obj ((!bif decide (97<=(↑(s0.data.1.getD ia0.toNat 0).toNat:Int)) then decide ((↑(s0.data.1.getD ia0.toNat 0).toNat:Int)<=122) else false)&&!ia0==0) (decide (0<=ia0/\ia0<(↑s0.size:Int))) (.iv (.obj ((!bif decide (97<=(↑(s0.data.1.getD ia0.toNat 0).toNat:Int)) then decide ((↑(s0.data.1.getD ia0.toNat 0).toNat:Int)<=122) else false)&&!ia0==0&&decide (48<=(↑(s0.data.1.getD ia0.toNat 0).toNat:Int))) (decide (0<=ia0/\ia0<(↑s0.size:Int))) (.iv (.ii (.obi (.obj ((!bif decide (97<=(↑(s0.data.1.getD ia0.toNat 0).toNat:Int)) then decide ((↑(s0.data.1.getD ia0.toNat 0).toNat:Int)<=122) else false)&&!ia0==0&&!bif decide (48<=(↑(s0.data.1.getD ia0.toNat 0).toNat:Int)) then decide ((↑(s0.data.1.getD ia0.toNat 0).toNat:Int)<=57) else false) (decide (0<=ia0/\ia0<(↑s0.size:Int))) (.iv (.ii (.br (bif !bif decide (97<=(↑(s0.data.1.getD ia0.toNat 0).toNat:Int)) then decide ((↑(s0.data.1.getD ia0.toNat 0).toNat:Int)<=122) else false then bif ia0==0 then true else bif !bif decide (48<=(↑(s0.data.1.getD ia0.toNat 0).toNat:Int)) then decide ((↑(s0.data.1.getD ia0.toNat 0).toNat:Int)<=57) else false then(↑(s0.data.1.getD ia0.toNat 0).toNat:Int)!=45 else false else false) (.ret (V.kb false)) (.next [] (yap.L0 (wI (ia0+1))) [])))))))))))))))) (.ii (.obi (.ret (V.bool (bif decide (0<(↑s0.size:Int)) then decide ((↑s0.size:Int)<=24) else false)))))
def ajr:RT yap:=dm s0 (.enter [] (yap.L0 (0)) [])
theorem adN:dD yj u0 (aoG s0) (aba s0) (ajr s0) (NM s0):=⟨⟨by kernel_rfl,by kernel_rfl⟩,fun s=>by cases s<;>exact⟨by kernel_rfl,by kernel_rfl⟩⟩
def Co (i:Nat):Bool:=bif !bif decide (97<=((s0.data.toList.getD i 0).toNat:Int)) then decide (((s0.data.toList.getD i 0).toNat:Int)<=122) else false then bif(i:Int)==0 then true else bif !bif decide (48<=((s0.data.toList.getD i 0).toNat:Int)) then decide (((s0.data.toList.getD i 0).toNat:Int)<=57) else false then((s0.data.toList.getD i 0).toNat:Int)!=45 else false else false
def lT:Bool:=cz s0.size (fun i=>!Co s0 i)&&bif decide (0<(s0.size:Int)) then decide ((s0.size:Int)<=24) else false
theorem ase {n:Nat} (p:Nat->Bool) {P:Int->Prop} (hstep:∀ i:Nat,i<n->(∀ j,j<i->p j=false)->(p i=false->P (wI ((i:Int)+1)))->P i) (hend:(∀ j,j<n->p j=false)->P n) (hn:n<=9223372036854775807):P 0:=iA hn p hstep hend
theorem alN (hp:s0.size<=9223372036854775807):aR (Ev (NM s0)) (ajr s0) (.bool (lT s0)):=aF (iA hp (Co s0) (P:=fun i=>Ev (NM s0) (.L0 i) (.bool (lT s0))) (fun i hlt hj next=>Ev.of rfl (cr hlt (b7 hlt (by
 repeat (first|refine evObi ?_|refine ny hlt ?_)
 refine evBr (fun hb=>evRet ?_) (fun hb=>aK (next hb))
 simp only [ce];unfold lT;rw[eY i hlt (by show(!Co s0 i)=false;rw[show Co s0 i=true from hb];rfl)];rfl))))
 (fun hj=>Ev.of rfl (ck (by
 repeat refine evObi ?_
 refine evRet ?_
 simp only [ce];unfold lT;rw[eu fun i hi=>by rw[hj i hi];rfl];rfl))))
def Pz:aB:=bF [.str] (fun
 |[.str s0]=>s0.size<=9223372036854775807
 |_=>False) fun
 |[.str s0]=>.bool (lT s0)
 |_=>.any
theorem H6:(vP Pz).Ok Tryz.prog 219:=bV wq Tryz.func219 (by kernel_rfl) fun ds hp=>iS (adN ..) (alN _ hp)
inductive Zw where
 |L0 (ia0:Int)
def amM:Zw->bz×List O×Option Ex
 |.L0 ia0=>([(3,vi ia0),(28,V.kb false),(27,vi (↑n4:Int)),(26,V.sl n4 (aa je f4)),(25,V.pl 0 4),(24,V.kb false),(23,V.agg [vi x2,vi x3]),(22,V.pl 0 2),(21,V.agg [vi x0,vi x1]),(20,V.pl 0 0),(19,V.kb false),(18,V.bool (wk 4 (aa ae (bn [vi x0,vi x1,vi x2,vi x3] 0 1)))),(17,V.ss 1 0 4 4),(16,vi x3),(15,V.pl 0 3),(14,V.pl 0 2),(13,vi x2),(12,V.pl 0 2),(11,V.pl 0 2),(10,vi x1),(9,V.pl 0 1),(8,V.pl 0 0),(7,vi x0),(6,V.pl 0 0),(5,V.pl 0 0),(2,vi 0),(1,V.pl 0 0),(0,V.agg [vi x0,vi x1,vi x2,vi x3,V.sl n4 (aa je f4)])],[O.cells [vi x0,vi x1,vi x2,vi x3,V.sl n4 (aa je f4)] 146,O.cells [vi x0,vi x1,vi x2,vi x3] 3],none)
def arv:Zw->JJ
 |.L0 ia0=>(0,[])
def ajL:T (bO JJ):=aP JJ yj u0 aq9 [V.agg [vi x0,vi x1,vi x2,vi x3,V.sl n4 (aa je f4)]]
def Oh (cx:List Cx):Lp JJ:=eR (ej (ajL x0 x1 x2 x3 n4 f4) [false,false,false])
def apO:JJ->Lp JJ
 |(0,cx)=>Oh x0 x1 x2 x3 n4 f4 cx
 |(_,cx)=>Oh x0 x1 x2 x3 n4 f4 cx
def D72:LD JJ Zw:=⟨arv,apO x0 x1 x2 x3 n4 f4,amM x0 x1 x2 x3 n4 f4⟩
def Xq (x0 x1 x2 x3:Int) (n4:Nat) (f4:aN):Zw->RT Zw
 |.L0 ia0=>.am n4 (.br (decide (ia0<(↑n4:Int))) (.ob (decide (0<=ia0/\ia0<(↑n4:Int))) (.iv (.iv (.iv (.iv (.ii (.obi (.br (bif bif bif bif bif decide (ar (f4 ia0.toNat)<0) then true else decide (aQ (f4 ia0.toNat)<=ar (f4 ia0.toNat)) then true else decide (1000<aQ (f4 ia0.toNat)) then true else decide (ca (f4 ia0.toNat)<0) then true else decide (bW (f4 ia0.toNat)<=ca (f4 ia0.toNat)) then true else decide (1000<bW (f4 ia0.toNat))) (.ret (vi 7)) (.next [some (some 0),some (some 1)] (Zw.L0 (wI (ia0+1))) []))))))))) (.ret (vi 0)))
def m72:RT Zw:=dm f4 (.obt (.obt (.obt (.obt (.cb (.br (!wk 4 (aa ae (bn [vi x0,vi x1,vi x2,vi x3] 0 1))) (.ret (vi 7)) (.br (x0==x2&&(x1==x3&&true)) (.ret (vi 2)) (.am n4 (.br (decide (6<(↑n4:Int))) (.ret (vi 3)) (.enter [some (some 0),some (some 1)] (Zw.L0 (0)) []))))))))))
theorem alp:dD yj u0 (D72 x0 x1 x2 x3 n4 f4) (ajL x0 x1 x2 x3 n4 f4) (m72 x0 x1 x2 x3 n4 f4) (Xq x0 x1 x2 x3 n4 f4):=⟨⟨by kernel_rfl,by kernel_rfl⟩,fun s=>by cases s<;>exact⟨by kernel_rfl,by kernel_rfl⟩⟩
def sL (l:List V):Bool:=bif bif bif bif bif decide (ar l<0) then true else decide (aQ l<=ar l) then true else decide (1000<aQ l) then true else decide (ca l<0) then true else decide (bW l<=ca l) then true else decide (1000<bW l)
def Sv (x0 x1 x2 x3:Int) (n4:Nat) (f4:aN):Int:=bif !wk 4 (aa ae (bn [vi x0,vi x1,vi x2,vi x3] 0 ((1+1+1+1-0) / 4))) then 7 else bif x0==x2&&(x1==x3&&true) then 2 else bif decide (6<(n4:Int)) then 3 else bif jh n4 (fun i=>sL (f4 i)) then 7 else 0
theorem adg:aR (Ev (Xq x0 x1 x2 x3 n4 f4)) (m72 x0 x1 x2 x3 n4 f4) (vi (Sv x0 x1 x2 x3 n4 f4)):=by
 unfold Sv
 repeat (first|refine evObt ?_|refine aw ?_)
 refine evBr (fun h0=>evRet (by rw[h0];rfl)) (fun h0=>?_)
 rw [h0,cond_false]
 refine evBr (fun h1=>evRet (by rw[h1];rfl)) (fun h1=>?_)
 rw [h1,cond_false]
 refine bg fun hn=>?_
 refine evBr (fun h2=>evRet (by rw[h2];rfl)) (fun h2=>?_)
 rw [h2,cond_false]
 refine aF (iA hn (fun i=>sL (f4 i)) (P:=fun i=>Ev (Xq x0 x1 x2 x3 n4 f4) (.L0 i) (vi (bif jh n4 (fun i=>sL (f4 i)) then 7 else 0))) (fun i hlt hj next=>Ev.of rfl (bg fun _=>cr hlt (b7 hlt (by
  repeat (first|refine evObi ?_|refine ny hlt ?_)
  refine evBr (fun hb=>evRet ?_) (fun hb=>aK (next hb))
  rw [cn i hlt (show sL (f4 i)=true from hb)];rfl))))
  (fun hj=>Ev.of rfl (bg fun _=>ck (evRet ?_))))
 rw [b8 hj];rfl
theorem arm:aR (Ev (Xq x0 x1 x2 x3 n4 f4)) (m72 x0 x1 x2 x3 n4 f4) (vi (Sv x0 x1 x2 x3 n4 (aa je f4))):=adg x0 x1 x2 x3 n4 f4
def C72:aB:=bF [.agg aV] (fun _=>True) fun
 |[.agg [.int _ x0,.int _ x1,.int _ x2,.int _ x3,.sl n4 f4]]=>vi (Sv x0 x1 x2 x3 n4 f4)
 |_=>.any
theorem WP:(vP C72).Ok Tryz.prog 149:=bV wq Tryz.func149 (by kernel_rfl) fun ds hp=>iS (alp ..) (arm _ _ _ _ _ _)
def yaE:bj:=(205,.con RJ)::(138,.con C65)::(140,.con C67)::(219,.con Pz)::(149,.con C72)::yj
theorem Q5:aW Tryz.prog eqs its yaE:=.con Fy (.con Ut (.con WJ (.con H6 (.con WP (wq)))))
inductive Av where
 |L0 (ia0:Int)
def aiQ:Av->bz×List O×Option Ex
 |.L0 ia0=>([(8,vi ia0),(7,vi (↑n0:Int)),(6,V.sl n0 (aa bZ f0)),(4,vi 0),(0,V.sl n0 (aa bZ f0)),(1,V.fn 205 [] [])],[],none)
def akd:Av->JJ
 |.L0 ia0=>(0,[])
def ZU:T (bO JJ):=aP JJ yaE u0 aki [V.sl n0 (aa bZ f0),V.fn 205 [] []]
def F2 (cx:List Cx):Lp JJ:=eR (ej (ZU n0 f0) [])
def amu:JJ->Lp JJ
 |(0,cx)=>F2 n0 f0 cx
 |(_,cx)=>F2 n0 f0 cx
def apT:LD JJ Av:=⟨akd,amu n0 f0,aiQ n0 f0⟩
def Qa:Av->RT Av
 |.L0 ia0=>.br (decide (ia0<(↑n0:Int))) (.ob (decide (0<=ia0/\ia0<(↑n0:Int))) (.cb (.br (rp (ar (f0 ia0.toNat)) (aQ (f0 ia0.toNat))) (.ret (vi ia0)) (.next [] (Av.L0 (wI (ia0+1))) [])))) (.ret (vi (-1)))
def ah2:RT Av:=dm f0 (.am n0 (.enter [] (Av.L0 (0)) []))
theorem acW:dD yaE u0 (apT n0 f0) (ZU n0 f0) (ah2 n0 f0) (Qa n0 f0):=⟨⟨by kernel_rfl,by kernel_rfl⟩,fun s=>by cases s<;>exact⟨by kernel_rfl,by kernel_rfl⟩⟩
def yaK:Int  :=zV n0 fun ii=>rp (ar (f0 ii)) (aQ (f0 ii))
theorem Vz:aR (Ev (Qa n0 f0)) (ah2 n0 f0) (vi (yaK n0 f0)):=bg fun hn=>aF (rA hn fun i=>rfl)
theorem akq:aR (Ev (Qa n0 f0)) (ah2 n0 f0) (vi (yaK n0 (aa bZ f0))):=Vz n0 f0
def WE:aB:=bF [.sl bZ,.fn 205 [] []] (fun _=>True) fun
 |[.sl n0 f0,.fn _ [] []]=>vi (yaK n0 f0)
 |_=>.any
theorem Qn:(vP WE).Ok Tryz.prog 253:=bV Q5 Tryz.func253 (by kernel_rfl) fun ds hp=>iS (acW ..) (akq _ _)
inductive Yn where
 |L0 (ia0:Int)
def alg:Yn->bz×List O×Option Ex
 |.L0 ia0=>([(11,vi ia0),(10,vi (↑n0:Int)),(9,V.sl n0 (aa aU f0)),(5,vi 0),(4,vi 0),(0,V.sl n0 (aa aU f0)),(1,V.fn 138 [] [])],[],none)
def apK:Yn->JJ
 |.L0 ia0=>(0,[])
def alK:T (bO JJ):=aP JJ yaE u0 aoH [V.sl n0 (aa aU f0),V.fn 138 [] []]
def QM (cx:List Cx):Lp JJ:=eR (ej (alK n0 f0) [])
def apk:JJ->Lp JJ
 |(0,cx)=>QM n0 f0 cx
 |(_,cx)=>QM n0 f0 cx
def D64:LD JJ Yn:=⟨apK,apk n0 f0,alg n0 f0⟩
def aea:Yn->RT Yn
 |.L0 ia0=>.br (decide (ia0<(↑n0:Int))) (.ob (decide (0<=ia0/\ia0<(↑n0:Int))) (.ob (decide (0<=ia0/\ia0<=(↑n0:Int))) (.cb (.br (mM (ar (f0 ia0.toNat)) (aQ (f0 ia0.toNat)) (ca (f0 ia0.toNat)) (bW (f0 ia0.toNat)) (db (f0 ia0.toNat))!=0) (.ret (V.tup [vi ia0,vi (mM (ar (f0 ia0.toNat)) (aQ (f0 ia0.toNat)) (ca (f0 ia0.toNat)) (bW (f0 ia0.toNat)) (db (f0 ia0.toNat)))])) (.next [] (Yn.L0 (wI (ia0+1))) []))))) (.ret (V.tup [vi 0,vi 0]))
def m64:RT Yn:=dm f0 (.am n0 (.enter [] (Yn.L0 (0)) []))
theorem akw:dD yaE u0 (D64 n0 f0) (alK n0 f0) (m64 n0 f0) (aea n0 f0):=⟨⟨by kernel_rfl,by kernel_rfl⟩,fun s=>by cases s<;>exact⟨by kernel_rfl,by kernel_rfl⟩⟩
def c64 (ii:Nat):Int:=dm n0 ((mM (ar (f0 ii)) (aQ (f0 ii)) (ca (f0 ii)) (bW (f0 ii)) (db (f0 ii))))
def ww:Int:=eZ n0 (c64 n0 f0)
def ox:Int:=dw n0 (c64 n0 f0)
theorem abH:aR (Ev (aea n0 f0)) (m64 n0 f0) (.tup [vi (ww n0 f0),vi (ox n0 f0)]):=bg fun hn=>aF (pK (Q:=fun _=>True) (fun _ x=>.obc (.obt x)) (fun i x r h hx=>aw (evObt hx)) (fun _ _=>rfl) hn (fun _ _=>trivial) fun i=>rfl)
theorem aqG:aR (Ev (aea n0 f0)) (m64 n0 f0) (.tup [vi (ww n0 (aa aU f0)),vi (ox n0 (aa aU f0))]):=abH n0 f0
def C64:aB:=bF [.sl aU,.fn 138 [] []] (fun _=>True) fun
 |[.sl n0 f0,.fn _ [] []]=>.tup [vi (ww n0 f0),vi (ox n0 f0)]
 |_=>.any
theorem aci:(vP C64).Ok Tryz.prog 137:=bV Q5 Tryz.func137 (by kernel_rfl) fun ds hp=>iS (akw ..) (aqG _ _)
inductive Yd where
 |L0 (ia0:Int)
def alh:Yd->bz×List O×Option Ex
 |.L0 ia0=>([(11,vi ia0),(10,vi (↑n0:Int)),(9,V.sl n0 (aa aV f0)),(5,vi 0),(4,vi 0),(0,V.sl n0 (aa aV f0)),(1,V.fn 140 [] [])],[],none)
def ap7:Yd->JJ
 |.L0 ia0=>(0,[])
def al5:T (bO JJ):=aP JJ yaE u0 aoS [V.sl n0 (aa aV f0),V.fn 140 [] []]
def Me (cx:List Cx):Lp JJ:=eR (ej (al5 n0 f0) [])
def aqL:JJ->Lp JJ
 |(0,cx)=>Me n0 f0 cx
 |(_,cx)=>Me n0 f0 cx
def D66:LD JJ Yd:=⟨ap7,aqL n0 f0,alh n0 f0⟩
def agb:Yd->RT Yd
 |.L0 ia0=>.br (decide (ia0<(↑n0:Int))) (.ob (decide (0<=ia0/\ia0<(↑n0:Int))) (.ob (decide (0<=ia0/\ia0<=(↑n0:Int))) (.cb (.br ((mR (ar (f0 ia0.toNat)) (aQ (f0 ia0.toNat)) (ca (f0 ia0.toNat)) (bW (f0 ia0.toNat)) (au (ap (ab (ab (ab (ab (f0 ia0.toNat))))))) fun i=>al je (aX (ap (ab (ab (ab (ab (f0 ia0.toNat)))))) i))!=0) (.ret (V.tup [vi ia0,vi (mR (ar (f0 ia0.toNat)) (aQ (f0 ia0.toNat)) (ca (f0 ia0.toNat)) (bW (f0 ia0.toNat)) (au (ap (ab (ab (ab (ab (f0 ia0.toNat))))))) fun i=>al je (aX (ap (ab (ab (ab (ab (f0 ia0.toNat)))))) i))])) (.next [] (Yd.L0 (wI (ia0+1))) []))))) (.ret (V.tup [vi 0,vi 0]))
def m66:RT Yd:=dm f0 (.am n0 (.enter [] (Yd.L0 (0)) []))
theorem akJ:dD yaE u0 (D66 n0 f0) (al5 n0 f0) (m66 n0 f0) (agb n0 f0):=⟨⟨by kernel_rfl,by kernel_rfl⟩,fun s=>by cases s<;>exact⟨by kernel_rfl,by kernel_rfl⟩⟩
def c66 (ii:Nat):Int:=dm n0 ((mR (ar (f0 ii)) (aQ (f0 ii)) (ca (f0 ii)) (bW (f0 ii)) (au (ap (ab (ab (ab (ab (f0 ii))))))) fun i=>al je (aX (ap (ab (ab (ab (ab (f0 ii)))))) i)))
def w5:Int:=eZ n0 (c66 n0 f0)
def nZ:Int:=dw n0 (c66 n0 f0)
theorem ad7:aR (Ev (agb n0 f0)) (m66 n0 f0) (.tup [vi (w5 n0 f0),vi (nZ n0 f0)]):=bg fun hn=>aF (pK (Q:=fun _=>True) (fun _ x=>.obc (.obt x)) (fun i x r h hx=>aw (evObt hx)) (fun _ _=>rfl) hn (fun _ _=>trivial) fun i=>rfl)
theorem apu:aR (Ev (agb n0 f0)) (m66 n0 f0) (.tup [vi (w5 n0 (aa aV f0)),vi (nZ n0 (aa aV f0))]):=ad7 n0 f0
def C66:aB:=bF [.sl aV,.fn 140 [] []] (fun _=>True) fun
 |[.sl n0 f0,.fn _ [] []]=>.tup [vi (w5 n0 f0),vi (nZ n0 f0)]
 |_=>.any
theorem aeE:(vP C66).Ok Tryz.prog 139:=bV Q5 Tryz.func139 (by kernel_rfl) fun ds hp=>iS (akJ ..) (apu _ _)
end
end Go.Dx
namespace Go.Proofs
open Go.Shelf
def Tryz.lays160_ren:Go.Shelf.Ren:=⟨fun|160=>251|232=>277|231=>276|227=>278|234=>280|233=>279|236=>282|235=>281|228=>305|271=>308|151=>307|197=>306|120=>319|152=>318|260=>317|137=>330|119=>331|224=>332|225=>333|217=>339|266=>341|n=>n,fun|9=>9|4=>4|3=>3|5=>5|117=>311|116=>310|0=>0|124=>314|21=>21|105=>342|46=>315|119=>363|139=>366|138=>365|n=>n,fun|3=>0|4=>1|n=>n⟩
theorem Tryz.lays160:Go.Proofs.Lays.n160 Tryz.prog Tryz.lays160_ren:={
 mixed:=by kernel_rfl
 f119:=Tryz.func331.trans (congrArg some (by kernel_rfl))
 f120:=Tryz.func319.trans (congrArg some (by kernel_rfl))
 f137:=Tryz.func330.trans (congrArg some (by kernel_rfl))
 f151:=Tryz.func307.trans (congrArg some (by kernel_rfl))
 f152:=Tryz.func318.trans (congrArg some (by kernel_rfl))
 f160:=Tryz.func251.trans (congrArg some (by kernel_rfl))
 f197:=Tryz.func306.trans (congrArg some (by kernel_rfl))
 f217:=Tryz.func339.trans (congrArg some (by kernel_rfl))
 f224:=Tryz.func332.trans (congrArg some (by kernel_rfl))
 f225:=Tryz.func333.trans (congrArg some (by kernel_rfl))
 f227:=Tryz.func278.trans (congrArg some (by kernel_rfl))
 f228:=Tryz.func305.trans (congrArg some (by kernel_rfl))
 f231:=Tryz.func276.trans (congrArg some (by kernel_rfl))
 f232:=Tryz.func277.trans (congrArg some (by kernel_rfl))
 f233:=Tryz.func279.trans (congrArg some (by kernel_rfl))
 f234:=Tryz.func280.trans (congrArg some (by kernel_rfl))
 f235:=Tryz.func281.trans (congrArg some (by kernel_rfl))
 f236:=Tryz.func282.trans (congrArg some (by kernel_rfl))
 f260:=Tryz.func317.trans (congrArg some (by kernel_rfl))
 f266:=Tryz.func341.trans (congrArg some (by kernel_rfl))
 f271:=Tryz.func308.trans (congrArg some (by kernel_rfl))
 t0:=Tryz.underlying0
 a0:=Tryz.isAgg0
 z0:=Tryz.sizeOf0
 v0:=Tryz.zeroValue0
 t3:=Tryz.underlying3
 a3:=Tryz.isAgg3
 z3:=Tryz.sizeOf3
 v3:=Tryz.zeroValue3
 t4:=Tryz.underlying4
 a4:=Tryz.isAgg4
 z4:=Tryz.sizeOf4
 v4:=Tryz.zeroValue4
 t5:=Tryz.underlying5
 a5:=Tryz.isAgg5
 z5:=Tryz.sizeOf5
 v5:=Tryz.zeroValue5
 t9:=Tryz.underlying9
 a9:=Tryz.isAgg9
 z9:=Tryz.sizeOf9
 v9:=Tryz.zeroValue9
 t21:=Tryz.underlying21
 a21:=Tryz.isAgg21
 z21:=Tryz.sizeOf21
 v21:=Tryz.zeroValue21
 t46:=Tryz.underlying315
 a46:=Tryz.isAgg315
 z46:=Tryz.sizeOf315
 v46:=Tryz.zeroValue315
 t105:=Tryz.underlying342
 a105:=Tryz.isAgg342
 z105:=Tryz.sizeOf342
 v105:=Tryz.zeroValue342
 t116:=Tryz.underlying310
 a116:=Tryz.isAgg310
 z116:=Tryz.sizeOf310
 t117:=Tryz.underlying311
 a117:=Tryz.isAgg311
 z117:=Tryz.sizeOf311
 v117:=Tryz.zeroValue311
 t119:=Tryz.underlying363
 a119:=Tryz.isAgg363
 z119:=Tryz.sizeOf363
 t124:=Tryz.underlying314
 a124:=Tryz.isAgg314
 z124:=Tryz.sizeOf314
 v124:=Tryz.zeroValue314
 t138:=Tryz.underlying365
 a138:=Tryz.isAgg365
 z138:=Tryz.sizeOf365
 v138:=Tryz.zeroValue365
 t139:=Tryz.underlying366
 a139:=Tryz.isAgg366
 z139:=Tryz.sizeOf366
 v139:=Tryz.zeroValue366
 g3:=by kernel_rfl
 g4:=by kernel_rfl }
end Go.Proofs
namespace Go.Dx
open Go.IntKind (i64 u64 u8)
open Go.Sx Go.Proofs Go.Shelf Go.RowKit
noncomputable section
def UN:ByteArray:=⟨#[97,98,99,100,101,102,103,104,105,106,107,108,109,110,111,112,113,114,115,116,117,118,119,120,121,122,48,49,50,51,52,53,54,55,56,57,45]⟩
def wo (s c:ByteArray):ByteArray:=⟨(Lib.trimS s.data.toList c.data.toList).toArray⟩
def NB:aB:=bF [.str,.str] (fun
 |[.str s,.str c]=>s.size<=9223372036854775807/\c=UN
 |_=>False) fun
 |[.str s,.str c]=>.str (wo s c)
 |_=>.any
theorem yaz (s:ByteArray) (w:World) (hs:s.size<=9223372036854775807):Calls Tryz.prog 251 #[.string s,.string UN] w fun e w'=>e=.returned (.string (wo s UN))/\Below w.heap.size w w' :=
 Any.strings_Trim_laid Tryz.lays160 (by kernel_rfl) s UN w hs (by decide) (ascii_of_all (by decide))
theorem aZ.below {B:cU} {m:aD} {lh:List ao} {w w':World} (h:aZ B m lh w) (hb:Below w.heap.size w w'):aZ B m lh w':=by
 obtain ⟨h1,h2,h3,h4,h5⟩:=hb
 have hsz:B.w0.heap.size<=w'.heap.size:=Nat.le_trans h.size h4
 refine ⟨h1.trans h.os,h2.trans h.tape,h3.trans h.output,hsz,fun b hb=>(h5 b (Nat.lt_of_lt_of_le hb h.size)).trans (h.old b hb),Nat.le_trans h.fsize h4,fun b hb ho=>(h5 b (Nat.lt_of_lt_of_le hb h.fsize)).trans (h.kept b hb ho),fun k cs ty hk=>?_,h.inj,h.dom,h.dead,fun k b hk=>Nat.lt_of_lt_of_le (h.rng k b hk) h4⟩
 obtain ⟨b,vs,g1,g2,g3,g4⟩:=h.loc k cs ty hk
 exact ⟨b,vs,g1,g2,(h5 b (h.rng k b g1)).trans g3,g4⟩
theorem Nb:(vP NB).Ok Tryz.prog 251:=by
 refine ⟨fun B m lh w args vs K hrel hargs hsp=>?_,fun _ _ _ _ _ hk ⟨ds,d,p,r,h1,h2,h3,h4,h5⟩=>⟨ds,d,p,r,h1,h2,h3,h4,hk _ _ h5⟩,fun _ _ _ _ ⟨_,_,_,_,_,_,_,_,h⟩=>h⟩
 obtain ⟨ds,d,p,r,h1,h2,⟨h30,h3⟩,h4,h5⟩:=hsp
 simp only [NB,bF,Option.some.injEq,Prod.mk.injEq]at h2
 obtain ⟨rfl,rfl,rfl⟩:=h2
 have hty:=(iB [.str,.str] ds [] [] rfl h30).1
 simp only [bp,cE]at hty
 obtain ⟨e1,e2,e3,e4,e5⟩:=hty
 rw [e5]at e3
 rw [e3,e2,e4]at e1
 generalize sv (ap ds)=s at e1
 generalize sv (ap (ab ds))=c at e1
 subst e1
 simp only [jC,Qp]at h3 h4 h5
 obtain ⟨hs,rfl⟩:=h3
 simp only [bl,vr]at h1
 obtain ⟨_,_,rfl,rfl,_,_,rfl,rfl,rfl⟩:=h1
 simp only [ay,vrel]at hargs
 obtain ⟨_,_,rfl,rfl,_,_,rfl,rfl,rfl⟩:=hargs
 refine ⟨⟨_,Tryz.func251,by kernel_rfl,by kernel_rfl⟩,(yaz s w hs).mono fun e w' ⟨he,hb⟩=>?_⟩
 exact ⟨_,_,m,lh,he,by simp only[ce,vrel],gJ.refl _ _,aZ.below hrel hb,h5⟩
theorem yaJ (s:ByteArray) (h:(!s.toList==(⟨#[]⟩:ByteArray).toList)=true):(0:Int)<(s.size:Int):=by
 have e:(⟨#[]⟩:ByteArray).toList=[]:=by decide +kernel
 by_cases hz:s.size=0
 ·have:s=⟨#[]⟩:=by
   cases s with|mk d=>
   have:d=#[]:=Array.eq_empty_of_size_eq_zero hz
   rw [this]
  rw [this,e]at h;cases h
 ·omega
end
end Go.Dx
namespace Go.Dx
open Go.IntKind (i64 u64 u8)
open Go.Sx Go.Proofs
variable (n0:Nat) (f0:aN) (x0:Int) (s0:ByteArray) (x1:Int) (n2:Nat) (f2:aN) (x2:Int) (s2:ByteArray) (x3:Int) (n4:Nat) (f4:aN) (x4 x5:Int) (n6:Nat) (f6:aN) (x6 x7:Int) (n8:Nat) (f8:aN) (x8 x9:Int)
noncomputable section
def Ib:bj:=[(253,.con WE),(137,.con C64),(139,.con C66),(205,.con RJ),(138,.con C65),(140,.con C67),(219,.con Pz),(149,.con C72),(206,.con C45),(208,.con C90),(213,.con Qg),(215,.con Kw),(152,.con C99),(252,.con OE),(254,.con Kf),(255,.con Qs),(204,.con NE),(212,.con Oq),(214,.con LB),(147,.con C51),(221,.con Qq),(250,.con NA),(84,.con C78),(83,.con C81),(229,.con C88),(162,.con C84),(163,.con Qm),(161,.con C86),(148,.con C71),(173,.con C79),(309,.con Wn),(251,.con NB)]
theorem HZ:aW Tryz.prog eqs its Ib:=.con Qn (.con aci (.con aeE (.con Fy (.con Ut (.con WJ (.con H6 (.con WP (.con R5 (.con Vr (.con HF (.con Fu (.con VM (.con EB (.con Gu (.con Fb (.con Gs (.con F4 (.con Hz (.con Uv (.con yaI (.con ET (.con Tl (.con Tc (.con TR (.con UR (.con Hm (.con PV (.con Xk (.con UL (.con ND (.con Nb (.nil))))))))))))))))))))))))))))))))
def ajj:RT Empty:=.cb (.ret (V.bool (decide (0<=yaK n0 (aa bZ f0)))))
theorem afG:cJ cL (aP JJ Ib u0 alF [V.sl n0 (aa bZ f0),V.fn 205 [] []]) (ajj n0 f0):=⟨by kernel_rfl,by kernel_rfl⟩
def jH:Bool:=decide (0<=yaK n0 (aa bZ f0))
def aei:V:=.bool (jH n0 f0)
theorem amS:aR cq (ajj n0 f0) (aei n0 f0):=aw (evObt (evRet (by unfold aei jH;rfl)))
def Tk:aB:=bF [.sl bZ,.fn 205 [] []] (fun _=>True) fun
 |[.sl n0 f0,.fn _ [] []]=>aei n0 f0
 |_=>.any
theorem LE:(vP Tk).Ok Tryz.prog 209:=bV HZ Tryz.func209 (by kernel_rfl) fun ds hp=>cQ (afG ..) (amS _ _)
def ajQ:RT Empty:=.obp (s0.size<=(9223372036854775807:Nat)/\ByteArray.mk (Array.mk [(97:UInt8),(98:UInt8),(99:UInt8),(100:UInt8),(101:UInt8),(102:UInt8),(103:UInt8),(104:UInt8),(105:UInt8),(106:UInt8),(107:UInt8),(108:UInt8),(109:UInt8),(110:UInt8),(111:UInt8),(112:UInt8),(113:UInt8),(114:UInt8),(115:UInt8),(116:UInt8),(117:UInt8),(118:UInt8),(119:UInt8),(120:UInt8),(121:UInt8),(122:UInt8),(48:UInt8),(49:UInt8),(50:UInt8),(51:UInt8),(52:UInt8),(53:UInt8),(54:UInt8),(55:UInt8),(56:UInt8),(57:UInt8),(45:UInt8)])=ByteArray.mk (Array.mk [(97:UInt8),(98:UInt8),(99:UInt8),(100:UInt8),(101:UInt8),(102:UInt8),(103:UInt8),(104:UInt8),(105:UInt8),(106:UInt8),(107:UInt8),(108:UInt8),(109:UInt8),(110:UInt8),(111:UInt8),(112:UInt8),(113:UInt8),(114:UInt8),(115:UInt8),(116:UInt8),(117:UInt8),(118:UInt8),(119:UInt8),(120:UInt8),(121:UInt8),(122:UInt8),(48:UInt8),(49:UInt8),(50:UInt8),(51:UInt8),(52:UInt8),(53:UInt8),(54:UInt8),(55:UInt8),(56:UInt8),(57:UInt8),(45:UInt8)])) (.obt (.iv (.ii (.obj (bif bif !s0.toList==(ByteArray.mk (Array.mk [])).toList then decide ((↑s0.size:Int)<=24) else false then(wo s0 (ByteArray.mk (Array.mk [97,98,99,100,101,102,103,104,105,106,107,108,109,110,111,112,113,114,115,116,117,118,119,120,121,122,48,49,50,51,52,53,54,55,56,57,45]))).toList==(ByteArray.mk (Array.mk [])).toList else false) (decide ((0:Int)<=0/\0<(↑s0.size:Int))) (.ii (.obi (.obj (bif bif bif !s0.toList==(ByteArray.mk (Array.mk [])).toList then decide ((↑s0.size:Int)<=24) else false then(wo s0 (ByteArray.mk (Array.mk [97,98,99,100,101,102,103,104,105,106,107,108,109,110,111,112,113,114,115,116,117,118,119,120,121,122,48,49,50,51,52,53,54,55,56,57,45]))).toList==(ByteArray.mk (Array.mk [])).toList else false then decide (97<=(↑(s0.data.1.getD 0 0).toNat:Int)) else false) (decide ((0:Int)<=0/\0<(↑s0.size:Int))) (.ii (.ret (V.bool (bif bif bif bif !s0.toList==(ByteArray.mk (Array.mk [])).toList then decide ((↑s0.size:Int)<=24) else false then(wo s0 (ByteArray.mk (Array.mk [97,98,99,100,101,102,103,104,105,106,107,108,109,110,111,112,113,114,115,116,117,118,119,120,121,122,48,49,50,51,52,53,54,55,56,57,45]))).toList==(ByteArray.mk (Array.mk [])).toList else false then decide (97<=(↑(s0.data.1.getD 0 0).toNat:Int)) else false then decide ((↑(s0.data.1.getD 0 0).toNat:Int)<=122) else false)))))))))))
theorem ahp:cJ cL (aP JJ Ib u0 ajE [V.str s0]) (ajQ s0):=⟨by kernel_rfl,by kernel_rfl⟩
def mo:Bool:=bif bif bif bif !s0.toList==(ByteArray.mk (Array.mk [])).toList then decide ((↑s0.size:Int)<=24) else false then(wo s0 (ByteArray.mk (Array.mk [97,98,99,100,101,102,103,104,105,106,107,108,109,110,111,112,113,114,115,116,117,118,119,120,121,122,48,49,50,51,52,53,54,55,56,57,45]))).toList==(ByteArray.mk (Array.mk [])).toList else false then decide (97<=(↑(s0.data.1.getD 0 0).toNat:Int)) else false then decide ((↑(s0.data.1.getD 0 0).toNat:Int)<=122) else false
def ahj:V:=.bool (mo s0)
theorem aml (hp:s0.size<=9223372036854775807):aR cq (ajQ s0) (ahj s0):=evObp (by first|assumption|(exact⟨hp,rfl⟩)) (evObt (evObi (evObi (evObi (evObi (evObi (evObi (evObj (by first|assumption|(intro h;refine dqt ⟨Int.le_refl 0,yaJ s0 ?_⟩;cases hb:(!s0.toList==(⟨#[]⟩:ByteArray).toList) with|true=>rfl|false=>(rw[hb]at h;simp at h))) (evObi (evObi (evObi (evObj (by first|assumption|(intro h;refine dqt ⟨Int.le_refl 0,yaJ s0 ?_⟩;cases hb:(!s0.toList==(⟨#[]⟩:ByteArray).toList) with|true=>rfl|false=>(rw[hb]at h;simp at h))) (evObi (evObi (evRet (by unfold ahj mo;rfl))))))))))))))))
def Vs:aB:=bF [.str] (fun
 |[.str s0]=>s0.size<=9223372036854775807
 |_=>False) fun
 |[.str s0]=>ahj s0
 |_=>.any
theorem Qb:(vP Vs).Ok Tryz.prog 207:=bV HZ Tryz.func207 (by kernel_rfl) fun ds hp=>cQ (ahp ..) (aml _ hp)
inductive S73 where
 |L0 (ia0:Int)
def ak7:S73->bz×List O×Option Ex
 |.L0 ia0=>([(6,vi ia0),(15,V.kb false),(14,V.bool (lT (sv (ap (f6 x8.toNat))))),(13,V.str (sv (ap (f6 x8.toNat)))),(12,V.pl 0 0),(5,V.pl 0 0),(11,V.agg [V.str (sv (ap (f6 x8.toNat))),vi (aQ (f6 x8.toNat)),vi (ca (f6 x8.toNat)),vi (bW (f6 x8.toNat)),vi (db (f6 x8.toNat)),vi (bf (f6 x8.toNat))]),(10,V.pd [V.str (sv (ap (f6 x8.toNat))),vi (aQ (f6 x8.toNat)),vi (ca (f6 x8.toNat)),vi (bW (f6 x8.toNat)),vi (db (f6 x8.toNat)),vi (bf (f6 x8.toNat))]),(9,vi x8),(8,V.sl n6 (aa aH f6)),(7,V.pl 1 3),(4,vi 0),(2,V.pl 1 0),(0,wi n0 f0 n2 f2 n4 f4 n6 f6),(1,vi x8)],[O.cells [V.str (sv (ap (f6 x8.toNat))),vi (aQ (f6 x8.toNat)),vi (ca (f6 x8.toNat)),vi (bW (f6 x8.toNat)),vi (db (f6 x8.toNat)),vi (bf (f6 x8.toNat))] 82,O.cells [V.sl n0 (aa aJ f0),V.sl n2 (aa aU f2),V.sl n4 (aa aV f4),V.sl n6 (aa aH f6)] 31],none)
def aqO:S73->JJ
 |.L0 ia0=>(0,[])
def aj6:T (bO JJ):=aP JJ Ib u0 aqC [wi n0 f0 n2 f2 n4 f4 n6 f6,vi x8]
def O4 (cx:List Cx):Lp JJ:=eR (ej (aj6 n0 f0 n2 f2 n4 f4 n6 f6 x8) [false])
def aqD:JJ->Lp JJ
 |(0,cx)=>O4 n0 f0 n2 f2 n4 f4 n6 f6 x8 cx
 |(_,cx)=>O4 n0 f0 n2 f2 n4 f4 n6 f6 x8 cx
def D73:LD JJ S73:=⟨aqO,aqD n0 f0 n2 f2 n4 f4 n6 f6 x8,ak7 n0 f0 n2 f2 n4 f4 n6 f6 x8⟩
def T4 (n0:Nat) (f0:aN) (n2:Nat) (f2:aN) (n4:Nat) (f4:aN) (n6:Nat) (f6:aN) (x8:Int):S73->RT S73
 |.L0 ia0=>.br (decide (ia0<x8)) (.ob (decide (0<=ia0/\ia0<(↑n6:Int))) (.br ((sv (ap (f6 ia0.toNat))).toList==(sv (ap (f6 x8.toNat))).toList) (.ret (vi 5)) (.next [some (some 0),some (some 1)] (S73.L0 (wI (ia0+1))) []))) (.cb (.obi (.br (!!wk 2 (aa ae (bn [vi (aQ (f6 x8.toNat)),vi (ca (f6 x8.toNat))] 0 1))) (.ob (!!wk 2 (aa ae (bn [vi (aQ (f6 x8.toNat)),vi (ca (f6 x8.toNat))] 0 1))) (.cb (.obi (.br (!!yac (bW (f6 x8.toNat)) 1 200) (.ob (!!yac (bW (f6 x8.toNat)) 1 200) (.cb (.obi (.br (!!yac (db (f6 x8.toNat)) (-1000) 1000) (.ob (!!yac (db (f6 x8.toNat)) (-1000) 1000) (.cb (.br (!yac (bf (f6 x8.toNat)) (-1000) 1000) (.ret (vi 7)) (.ii (.obi (.br (bif db (f6 x8.toNat)==0 then bf (f6 x8.toNat)==0 else false) (.ret (vi 2)) (.ret (vi 0)))))))) (.ret (vi 7)))))) (.ret (vi 7)))))) (.ret (vi 7)))))
def m73:RT S73:=dm (n0,f0,n2,f2,n4,f4) (.ob (decide (0<=x8/\x8<(↑n6:Int))) (.obp ((sv (ap (f6 x8.toNat))).size<=(9223372036854775807:Nat)) (.obt (.br (!lT (sv (ap (f6 x8.toNat)))) (.ret (vi 6)) (.enter [some (some 1),some (some 0)] (S73.L0 (0)) [])))))
theorem ajF:dD Ib u0 (D73 n0 f0 n2 f2 n4 f4 n6 f6 x8) (aj6 n0 f0 n2 f2 n4 f4 n6 f6 x8) (m73 n0 f0 n2 f2 n4 f4 n6 f6 x8) (T4 n0 f0 n2 f2 n4 f4 n6 f6 x8):=⟨⟨by kernel_rfl,by kernel_rfl⟩,fun s=>by cases s<;>exact⟨by kernel_rfl,by kernel_rfl⟩⟩
def Ww (x y h dx dy:Int):Int:=bif bif bif bif !wk 2 (aa ae (bn [vi x,vi y] 0 ((1+1-0) / 2))) then true else !yac h 1 200 then true else !yac dx (-1000) 1000 then true else !yac dy (-1000) 1000 then 7 else bif bif dx==0 then dy==0 else false then 2 else 0
def VI:Int:=dm n6 (bif !lT (sv (ap (f6 x8.toNat))) then 6 else bif jh x8.toNat (fun k=>(sv (ap (f6 k))).toList==(sv (ap (f6 x8.toNat))).toList) then 5 else Ww (aQ (f6 x8.toNat)) (ca (f6 x8.toNat)) (bW (f6 x8.toNat)) (db (f6 x8.toNat)) (bf (f6 x8.toNat)))
theorem agG (hp:0<=x8/\x8<n6/\n6<=9223372036854775807/\yaa n6 f6):aR (Ev (T4 n0 f0 n2 f2 n4 f4 n6 f6 x8)) (m73 n0 f0 n2 f2 n4 f4 n6 f6 x8) (vi (VI n6 f6 x8)):=by
 obtain ⟨h0,h1,h2,h3⟩:=hp
 obtain ⟨k,rfl⟩:∃ k:Nat,x8=(k:Int):=⟨x8.toNat,by omega⟩
 have hk:k<n6:=by omega
 refine b7 hk (evObp (h3 k hk) (evObt ?_))
 unfold VI
 simp only [Int.toNat_natCast]
 refine evBr (fun h=>evRet (by rw[show(!lT (sv (ap (f6 k))))=true from h];rfl)) (fun h=>?_)
 rw [show(!lT (sv (ap (f6 k))))=false from h,cond_false]
 refine aF (iA (n:=k) (by omega) (fun i=>(sv (ap (f6 i))).toList==(sv (ap (f6 k))).toList) (P:=fun i=>Ev (T4 n0 f0 n2 f2 n4 f4 n6 f6 (k:Int)) (.L0 i) _) (fun i hlt hj next=>Ev.of rfl (cr hlt (b7 (by omega) (evBr (fun hb=>evRet ?_) (fun hb=>aK (next hb))))))
  (fun hj=>Ev.of rfl (ck ?_)))
 ·rw[cn i hlt hb];rfl
 ·rw [b8 hj,cond_false]
  unfold Ww
  refine aw (evObt (evObi (evBr (fun h=>aE h (aw (evObt (evObi (evBr (fun h'=>aE h' (aw (evObt (evObi (evBr (fun h''=>aE h'' (aw (evObt (evBr (fun h3=>evRet ?_) (fun h3=>?_))))) (fun h''=>evRet ?_)))))) (fun h'=>evRet ?_)))))) (fun h=>evRet ?_))))
  all_goals try simp only[Int.toNat_natCast]at *
  ·rw[ng h,ng h',ng h'',h3];rfl
  ·rw[ng h,ng h',ng h'',h3]
   repeat refine evObi ?_
   refine evBr (fun h4=>evRet ?_) (fun h4=>evRet ?_)<;>(simp only[cond_false];rw[h4];rfl)
  ·rw[ng h,ng h',ng' h''];rfl
  ·rw[ng h,ng' h'];rfl
  ·rw[ng' h];rfl
theorem ars (hp:0<=x8/\x8<n6/\n6<=9223372036854775807/\yaa n6 (aa aH f6)):aR (Ev (T4 n0 f0 n2 f2 n4 f4 n6 f6 x8)) (m73 n0 f0 n2 f2 n4 f4 n6 f6 x8) (vi (VI n6 (aa aH f6) x8)):=agG n0 f0 n2 f2 n4 f4 n6 f6 x8 hp
def C73:aB:=bF [.agg [.sl aJ,.sl aU,.sl aV,.sl aH],tI] (fun
 |[.agg [.sl n0 f0,.sl n2 f2,.sl n4 f4,.sl n6 f6],.int _ x8]=>0<=x8/\x8<n6/\n6<=9223372036854775807/\yaa n6 f6
 |_=>False) fun
 |[.agg [.sl n0 f0,.sl n2 f2,.sl n4 f4,.sl n6 f6],.int _ x8]=>vi (VI n6 f6 x8)
 |_=>.any
theorem adW:(vP C73).Ok Tryz.prog 150:=bV HZ Tryz.func150 (by kernel_rfl) fun ds hp=>iS (ajF ..) (ars _ _ _ _ _ _ _ _ _ hp)
def qp:bj:=(211,.inl NF u0)::(210,.inl LU u0)::(209,.con Tk)::(207,.con Vs)::(150,.con C73)::Ib
theorem yaw:aW Tryz.prog eqs its qp:=fZ Tryz.func211 (by kernel_rfl) (fZ Tryz.func210 (by kernel_rfl) (.con LE (.con Qb (.con adW (HZ)))))
inductive qW where
 |L0 (ia0:Int) (fa1:Nat->List V)
 |L1 (ib0:Int) (fb1:Nat->List V)
 |L2 (ic0:Int) (fc1:Nat->List V)
 |L3 (id0:Int) (fd1:Nat->List V)
 |L4 (ie0:Int) (ne1 ne2:Nat) (ie3 ie4 ie5:Int) (ne6:Nat) (ie7 ie8 ie9 ie10:Int) (fe11:Nat->List V)
 |L5 (if0:Int) (nf1 nf2:Nat) (if3 if4 if5:Int) (nf6:Nat) (if7 if8 if9 if10:Int) (ff11:Nat->List V)
 |L6 (ig0:Int) (ng1 ng2:Nat) (ig3 ig4 ig5:Int) (ng6:Nat) (ig7 ig8 ig9 ig10:Int) (fg11:Nat->List V)
 |L7 (ih0:Int) (nh1 nh2:Nat) (ih3 ih4 ih5:Int) (nh6:Nat) (ih7 ih8 ih9 ih10:Int) (fh11:Nat->List V)
def A8 (n0:Nat) (f0:aN) (s2:ByteArray) (x3:Int) (n4:Nat) (f4:aN) (x6:Int):qW->bz×List O×Option Ex
 |.L0 ia0 fa1=>([(3,vi ia0),(8,V.kb false),(7,vi (↑n4:Int)),(6,V.gs 2 n4),(2,V.ns),(0,V.gs 2 n4)],[O.cells [V.str s2,vi x3,V.sl n4 (aa bZ f4),vi x6] 189,O.hid,O.gl 2 n4 (aa bZ fa1) 45],none)
 |.L1 ib0 fb1=>([(3,vi ib0),(8,V.kb false),(7,vi (↑n4:Int)),(6,V.gs 2 n4),(2,V.ns),(0,V.gs 2 n4)],[O.cells [V.str s2,vi x3,V.sl n4 (aa bZ f4),vi x6] 189,O.hid,O.gl 2 n4 (aa bZ fb1) 45],none)
 |.L2 ic0 fc1=>([(3,vi ic0),(8,V.kb false),(7,vi (↑n4:Int)),(6,V.gs 2 n4),(2,V.ns),(0,V.gs 2 n4)],[O.cells [V.str s2,vi x3,V.sl n4 (aa bZ f4),vi x6] 189,O.hid,O.gl 2 n4 (aa bZ fc1) 45],none)
 |.L3 id0 fd1=>([(3,vi id0),(8,V.kb false),(7,vi (↑n4:Int)),(6,V.gs 2 n4),(2,V.ns),(0,V.gs 2 n4)],[O.cells [V.str s2,vi x3,V.sl n4 (aa bZ f4),vi x6] 189,O.hid,O.gl 2 n4 (aa bZ fd1) 45],none)
 |.L4 ie0 ne1 ne2 ie3 ie4 ie5 ne6 ie7 ie8 ie9 ie10 fe11=>([(5,vi ie0),(4,V.go 2 ne1 ne2),(28,V.go 2 ne1 ne2),(27,vi ie3),(26,V.gs 2 n4),(25,V.kb true),(24,V.agg [vi ie4,vi ie5]),(23,V.pe 2 ne6 0),(22,vi ie7),(21,vi ie3),(20,V.gs 2 n4),(19,V.agg [vi ie8,vi ie9]),(18,V.pe 2 ne1 0),(17,vi ie3),(16,V.gs 2 n4),(13,V.kb true),(12,vi (↑n4:Int)),(11,V.gs 2 n4),(10,vi ie3),(3,vi ie10),(8,V.kb false),(7,vi (↑n4:Int)),(6,V.gs 2 n4),(2,V.ns),(0,V.gs 2 n4)],[O.cells [V.str s2,vi x3,V.sl n4 (aa bZ f4),vi x6] 189,O.hid,O.gl 2 n4 (aa bZ fe11) 45],none)
 |.L5 if0 nf1 nf2 if3 if4 if5 nf6 if7 if8 if9 if10 ff11=>([(5,vi if0),(4,V.go 2 nf1 nf2),(28,V.go 2 nf1 nf2),(27,vi if3),(26,V.gs 2 n4),(25,V.kb true),(24,V.agg [vi if4,vi if5]),(23,V.pe 2 nf6 0),(22,vi if7),(21,vi if3),(20,V.gs 2 n4),(19,V.agg [vi if8,vi if9]),(18,V.pe 2 nf1 0),(17,vi if3),(16,V.gs 2 n4),(13,V.kb true),(12,vi (↑n4:Int)),(11,V.gs 2 n4),(10,vi if3),(3,vi if10),(8,V.kb false),(7,vi (↑n4:Int)),(6,V.gs 2 n4),(2,V.ns),(0,V.gs 2 n4)],[O.cells [V.str s2,vi x3,V.sl n4 (aa bZ f4),vi x6] 189,O.hid,O.gl 2 n4 (aa bZ ff11) 45],none)
 |.L6 ig0 ng1 ng2 ig3 ig4 ig5 ng6 ig7 ig8 ig9 ig10 fg11=>([(5,vi ig0),(4,V.go 2 ng1 ng2),(28,V.go 2 ng1 ng2),(27,vi ig3),(26,V.gs 2 n4),(25,V.kb true),(24,V.agg [vi ig4,vi ig5]),(23,V.pe 2 ng6 0),(22,vi ig7),(21,vi ig3),(20,V.gs 2 n4),(19,V.agg [vi ig8,vi ig9]),(18,V.pe 2 ng1 0),(17,vi ig3),(16,V.gs 2 n4),(13,V.kb true),(12,vi (↑n4:Int)),(11,V.gs 2 n4),(10,vi ig3),(3,vi ig10),(8,V.kb false),(7,vi (↑n4:Int)),(6,V.gs 2 n4),(2,V.ns),(0,V.gs 2 n4)],[O.cells [V.str s2,vi x3,V.sl n4 (aa bZ f4),vi x6] 189,O.hid,O.gl 2 n4 (aa bZ fg11) 45],none)
 |.L7 ih0 nh1 nh2 ih3 ih4 ih5 nh6 ih7 ih8 ih9 ih10 fh11=>([(5,vi ih0),(4,V.go 2 nh1 nh2),(28,V.go 2 nh1 nh2),(27,vi ih3),(26,V.gs 2 n4),(25,V.kb true),(24,V.agg [vi ih4,vi ih5]),(23,V.pe 2 nh6 0),(22,vi ih7),(21,vi ih3),(20,V.gs 2 n4),(19,V.agg [vi ih8,vi ih9]),(18,V.pe 2 nh1 0),(17,vi ih3),(16,V.gs 2 n4),(13,V.kb true),(12,vi (↑n4:Int)),(11,V.gs 2 n4),(10,vi ih3),(3,vi ih10),(8,V.kb false),(7,vi (↑n4:Int)),(6,V.gs 2 n4),(2,V.ns),(0,V.gs 2 n4)],[O.cells [V.str s2,vi x3,V.sl n4 (aa bZ f4),vi x6] 189,O.hid,O.gl 2 n4 (aa bZ fh11) 45],none)
def aoX:qW->JJ
 |.L0 ia0 fa1=>(0,[])
 |.L1 ib0 fb1=>(1,[])
 |.L2 ic0 fc1=>(2,[])
 |.L3 id0 fd1=>(3,[])
 |.L4 ie0 ne1 ne2 ie3 ie4 ie5 ne6 ie7 ie8 ie9 ie10 fe11=>(4,[])
 |.L5 if0 nf1 nf2 if3 if4 if5 nf6 if7 if8 if9 if10 ff11=>(5,[])
 |.L6 ig0 ng1 ng2 ig3 ig4 ig5 ng6 ig7 ig8 ig9 ig10 fg11=>(6,[])
 |.L7 ih0 nh1 nh2 ih3 ih4 ih5 nh6 ih7 ih8 ih9 ih10 fh11=>(7,[])
def LJ:T (bO JJ):=aP JJ qp u0 aoW [V.sl n0 (aa aJ f0),V.agg [V.str s2,vi x3,V.sl n4 (aa bZ f4),vi x6]]
def D3 (cx:List Cx):Lp JJ:=eR (ej (LJ n0 f0 s2 x3 n4 f4 x6) [false,false,false,false,false,true,false,true,true,false,true,false])
def K4 (cx:List Cx):Lp JJ:=eR (ej (LJ n0 f0 s2 x3 n4 f4 x6) [false,false,false,false,false,true,false,true,true,false,false,false])
def Ks (cx:List Cx):Lp JJ:=eR (ej (LJ n0 f0 s2 x3 n4 f4 x6) [false,false,false,false,false,true,false,true,false,false,false])
def Mc (cx:List Cx):Lp JJ:=eR (ej (LJ n0 f0 s2 x3 n4 f4 x6) [false,false,false,false,false,true,false,false,false,false])
def acJ (cx:List Cx):Lp JJ:=eR (ej (vX qp u0 (0,[]) (D3 n0 f0 s2 x3 n4 f4 x6 []) (A8 n0 f0 s2 x3 n4 f4 x6 (.L0 (0:Int) (fun _=>[])))) [true,true])
def aiE (cx:List Cx):Lp JJ:=eR (ej (vX qp u0 (1,[]) (K4 n0 f0 s2 x3 n4 f4 x6 []) (A8 n0 f0 s2 x3 n4 f4 x6 (.L1 (0:Int) (fun _=>[])))) [true,true])
def ahd (cx:List Cx):Lp JJ:=eR (ej (vX qp u0 (2,[]) (Ks n0 f0 s2 x3 n4 f4 x6 []) (A8 n0 f0 s2 x3 n4 f4 x6 (.L2 (0:Int) (fun _=>[])))) [true,true])
def aiD (cx:List Cx):Lp JJ:=eR (ej (vX qp u0 (3,[]) (Mc n0 f0 s2 x3 n4 f4 x6 []) (A8 n0 f0 s2 x3 n4 f4 x6 (.L3 (0:Int) (fun _=>[])))) [true,true])
def arB:JJ->Lp JJ
 |(0,cx)=>D3 n0 f0 s2 x3 n4 f4 x6 cx
 |(1,cx)=>K4 n0 f0 s2 x3 n4 f4 x6 cx
 |(2,cx)=>Ks n0 f0 s2 x3 n4 f4 x6 cx
 |(3,cx)=>Mc n0 f0 s2 x3 n4 f4 x6 cx
 |(4,cx)=>acJ n0 f0 s2 x3 n4 f4 x6 cx
 |(5,cx)=>aiE n0 f0 s2 x3 n4 f4 x6 cx
 |(6,cx)=>ahd n0 f0 s2 x3 n4 f4 x6 cx
 |(7,cx)=>aiD n0 f0 s2 x3 n4 f4 x6 cx
 |(_,cx)=>D3 n0 f0 s2 x3 n4 f4 x6 cx
def D63:LD JJ qW:=⟨aoX,arB n0 f0 s2 x3 n4 f4 x6,A8 n0 f0 s2 x3 n4 f4 x6⟩
def Jl (mk:Int->Nat->Nat->Int->Int->Int->Nat->Int->Int->Int->Int->(Nat->List V)->qW) (if0:Int) (nf1:Nat) (nf2:Nat) (if3:Int) (if4:Int) (if5:Int) (nf6:Nat) (if7:Int) (if8:Int) (if9:Int) (if10:Int) (ff11:Nat->List V):RT qW:=.br (decide (if0<(↑nf2:Int))) (.ob (decide (0<=if0/\if0<(↑nf2:Int)/\nf1+nf2<=n4)) (.ob (decide (nf1+if0.toNat<n4)) (.ob (decide (0<=wI (if0-1)/\wI (if0-1)<(↑nf2:Int)/\nf1+nf2<=n4)) (.ob (decide (nf1+(wI (if0-1)).toNat<n4)) (.br (!(ar (ff11 (nf1+if0.toNat))==ar (ff11 (nf1+(wI (if0-1)).toNat))&&(aQ (ff11 (nf1+if0.toNat))==aQ (ff11 (nf1+(wI (if0-1)).toNat))&&true))) (.ob (decide (0<=if0/\if0<(↑nf2:Int)/\nf1+nf2<=n4)) (.ob (decide (nf1+if0.toNat<n4)) (.ob (decide (0<=if10/\if10<(↑n4:Int)/\n4<=n4)) (.ob (decide (if10.toNat<n4)) (.next (iR 0 3 []) (mk (wI (if0+1)) (nf1) (nf2) (if3) (if4) (if5) (nf6) (if7) (if8) (if9) (wI (if10+1)) (fun i'=>bif i'.beq if10.toNat then [vi (ar (ff11 (nf1+if0.toNat))),vi (aQ (ff11 (nf1+if0.toNat)))] else aa bZ ff11 i')) [⟨2,bZ,n4,fun i'=>bif i'.beq if10.toNat then [vi (ar (ff11 (nf1+if0.toNat))),vi (aQ (ff11 (nf1+if0.toNat)))] else aa bZ ff11 i',Pb rfl (ew rfl _ _) rfl⟩]))))) (.next (iR 0 3 []) (mk (wI (if0+1)) (nf1) (nf2) (if3) (if4) (if5) (nf6) (if7) (if8) (if9) (if10) (aa bZ ff11)) [⟨2,bZ,n4,aa bZ ff11,ew rfl _ _⟩])))))) (.ob (decide (0<=if10/\if10<=(↑n4:Int))) (.ob (decide (0<n4-if10.toNat/\if10.toNat+(n4-if10.toNat)<=n4)) (.ob (decide (0<=if10/\if10<=(↑n4:Int))) (.br (decide ((↑if10.toNat:Int)<(↑n4:Int))) (.ret (vi 2)) (.ii (.asm ((x3==3)=true->n4<=9223372036854775807) (.ii (.br (bif x3==3 then decide (2<(↑n4:Int)) else false) (.ret (vi 2)) (.ret (vi 0))))))))))
def JW (mk:Int->(Nat->List V)->qW) (mk2:Int->Nat->Nat->Int->Int->Int->Nat->Int->Int->Int->Int->(Nat->List V)->qW) (ib0:Int) (fb1:Nat->List V):RT qW:=.br (decide (ib0<(↑n4:Int))) (.ob (decide (0<=ib0/\ib0<(↑n4:Int)/\n4<=n4)) (.ob (decide (ib0.toNat<n4)) (.ob (decide (0<=wI (ib0-1)/\wI (ib0-1)<(↑n4:Int)/\n4<=n4)) (.ob (decide ((wI (ib0-1)).toNat<n4)) (.br (ar (fb1 ib0.toNat)==ar (fb1 (wI (ib0-1)).toNat)&&(aQ (fb1 ib0.toNat)==aQ (fb1 (wI (ib0-1)).toNat)&&true)) (.ob (decide (0<=ib0/\ib0<=(↑n4:Int))) (.enter (iR 0 3 []) (mk2 (1) (ib0.toNat) (n4-ib0.toNat) (ib0) (ar (fb1 (wI (ib0-1)).toNat)) (aQ (fb1 (wI (ib0-1)).toNat)) ((wI (ib0-1)).toNat) (wI (ib0-1)) (ar (fb1 ib0.toNat)) (aQ (fb1 ib0.toNat)) (ib0) (aa bZ fb1)) [⟨2,bZ,n4,aa bZ fb1,ew rfl _ _⟩])) (.next (iR 0 3 []) (mk (wI (ib0+1)) (aa bZ fb1)) [⟨2,bZ,n4,aa bZ fb1,ew rfl _ _⟩])))))) (.br (decide ((↑n4:Int)<(↑n4:Int))) (.ret (vi 2)) (.ii (.asm ((x3==3)=true->n4<=9223372036854775807) (.ii (.br (bif x3==3 then decide (2<(↑n4:Int)) else false) (.ret (vi 2)) (.ret (vi 0)))))))
def oQ (n0:Nat) (f0:aN) (s2:ByteArray) (x3:Int) (n4:Nat) (f4:aN) (x6:Int):qW->RT qW
 |.L0 ia0 fa1=>.br (decide (ia0<(↑n4:Int))) (.ob (decide (0<=ia0/\ia0<(↑n4:Int)/\n4<=n4)) (.ob (decide (ia0.toNat<n4)) (.ob (decide (0<=wI (ia0-1)/\wI (ia0-1)<(↑n4:Int)/\n4<=n4)) (.ob (decide ((wI (ia0-1)).toNat<n4)) (.br (ar (fa1 ia0.toNat)==ar (fa1 (wI (ia0-1)).toNat)&&(aQ (fa1 ia0.toNat)==aQ (fa1 (wI (ia0-1)).toNat)&&true)) (.ob (decide (0<=ia0/\ia0<=(↑n4:Int))) (.enter (iR 0 3 []) (qW.L4 (1) (ia0.toNat) (n4-ia0.toNat) (ia0) (ar (fa1 (wI (ia0-1)).toNat)) (aQ (fa1 (wI (ia0-1)).toNat)) ((wI (ia0-1)).toNat) (wI (ia0-1)) (ar (fa1 ia0.toNat)) (aQ (fa1 ia0.toNat)) (ia0) (aa bZ fa1)) [⟨2,bZ,n4,aa bZ fa1,ew rfl _ _⟩])) (.next (iR 0 3 []) (qW.L0 (wI (ia0+1)) (aa bZ fa1)) [⟨2,bZ,n4,aa bZ fa1,ew rfl _ _⟩])))))) (.am n4 (.br (decide ((↑n4:Int)<(↑n4:Int))) (.ret (vi 2)) (.ii (.asm ((x3==3)=true->n4<=9223372036854775807) (.ii (.br (bif x3==3 then decide (2<(↑n4:Int)) else false) (.ret (vi 2)) (.ret (vi 0))))))))
 |.L1 ib0 fb1=>JW x3 n4 qW.L1 qW.L5 ib0 fb1
 |.L2 ic0 fc1=>JW x3 n4 qW.L2 qW.L6 ic0 fc1
 |.L3 id0 fd1=>JW x3 n4 qW.L3 qW.L7 id0 fd1
 |.L4 ie0 ne1 ne2 ie3 ie4 ie5 ne6 ie7 ie8 ie9 ie10 fe11=>.br (decide (ie0<(↑ne2:Int))) (.ob (decide (0<=ie0/\ie0<(↑ne2:Int)/\ne1+ne2<=n4)) (.ob (decide (ne1+ie0.toNat<n4)) (.ob (decide (0<=wI (ie0-1)/\wI (ie0-1)<(↑ne2:Int)/\ne1+ne2<=n4)) (.ob (decide (ne1+(wI (ie0-1)).toNat<n4)) (.br (!(ar (fe11 (ne1+ie0.toNat))==ar (fe11 (ne1+(wI (ie0-1)).toNat))&&(aQ (fe11 (ne1+ie0.toNat))==aQ (fe11 (ne1+(wI (ie0-1)).toNat))&&true))) (.ob (decide (0<=ie0/\ie0<(↑ne2:Int)/\ne1+ne2<=n4)) (.ob (decide (ne1+ie0.toNat<n4)) (.ob (decide (0<=ie10/\ie10<(↑n4:Int)/\n4<=n4)) (.ob (decide (ie10.toNat<n4)) (.next (iR 0 3 []) (qW.L4 (wI (ie0+1)) (ne1) (ne2) (ie3) (ie4) (ie5) (ne6) (ie7) (ie8) (ie9) (wI (ie10+1)) (fun i'=>bif i'.beq ie10.toNat then [vi (ar (fe11 (ne1+ie0.toNat))),vi (aQ (fe11 (ne1+ie0.toNat)))] else aa bZ fe11 i')) [⟨2,bZ,n4,fun i'=>bif i'.beq ie10.toNat then [vi (ar (fe11 (ne1+ie0.toNat))),vi (aQ (fe11 (ne1+ie0.toNat)))] else aa bZ fe11 i',Pb rfl (ew rfl _ _) rfl⟩]))))) (.next (iR 0 3 []) (qW.L4 (wI (ie0+1)) (ne1) (ne2) (ie3) (ie4) (ie5) (ne6) (ie7) (ie8) (ie9) (ie10) (aa bZ fe11)) [⟨2,bZ,n4,aa bZ fe11,ew rfl _ _⟩])))))) (.ob (decide (0<=ie10/\ie10<=(↑n4:Int))) (.ob (decide (0<n4-ie10.toNat/\ie10.toNat+(n4-ie10.toNat)<=n4)) (.ob (decide (0<=ie10/\ie10<=(↑n4:Int))) (.am n4 (.br (decide ((↑ie10.toNat:Int)<(↑n4:Int))) (.ret (vi 2)) (.ii (.asm ((x3==3)=true->n4<=9223372036854775807) (.ii (.br (bif x3==3 then decide (2<(↑n4:Int)) else false) (.ret (vi 2)) (.ret (vi 0)))))))))))
 |.L5 if0 nf1 nf2 if3 if4 if5 nf6 if7 if8 if9 if10 ff11=>Jl x3 n4 qW.L5 if0 nf1 nf2 if3 if4 if5 nf6 if7 if8 if9 if10 ff11
 |.L6 ig0 ng1 ng2 ig3 ig4 ig5 ng6 ig7 ig8 ig9 ig10 fg11=>Jl x3 n4 qW.L6 ig0 ng1 ng2 ig3 ig4 ig5 ng6 ig7 ig8 ig9 ig10 fg11
 |.L7 ih0 nh1 nh2 ih3 ih4 ih5 nh6 ih7 ih8 ih9 ih10 fh11=>Jl x3 n4 qW.L7 ih0 nh1 nh2 ih3 ih4 ih5 nh6 ih7 ih8 ih9 ih10 fh11
def m63:RT qW:=.obp (s2.size<=(9223372036854775807:Nat)) (.obt (.br (!mo s2) (.ret (vi 6)) (.cb (.br (rU n0 (aa aJ f0) s2) (.ret (vi 5)) (.cb (.br (bq x3 0 3) (.ret (vi 2)) (.am n4 (.br (decide ((↑n4:Int)<2)) (.ret (vi 4)) (.am n4 (.br (decide (8<(↑n4:Int))) (.ret (vi 3)) (.cb (.obi (.br (!jH n4 (aa bZ f4)) (.ob (!jH n4 (aa bZ f4)) (.cb (.br (bq x6 100 30000) (.ret (vi 7)) (.und (.und (.und (.asm (n4=0) (.und (.brt (.am n4 (.br (decide (0<(↑n4:Int))) (.ret (vi 2)) (.ii (.asm ((x3==3)=true->n4<=9223372036854775807) (.ii (.br (bif x3==3 then decide (2<(↑n4:Int)) else false) (.ret (vi 2)) (.ret (vi 0))))))))) (.am n4 (.brt (.br (decide (0<(↑n4:Int))) (.ret (vi 2)) (.ii (.asm ((x3==3)=true->n4<=9223372036854775807) (.ii (.br (bif x3==3 then decide (2<(↑n4:Int)) else false) (.ret (vi 2)) (.ret (vi 0))))))))))) (.obv (cz n4 fun i=>lk 2 (aa bZ f4 i)) (zO rfl _ _) (.ob (decide (n4*16<=140737488355328)&&!Nat.beq 16 0) (.und (.br (decide ((↑n4:Int)<2)) (.am n4 (.br (decide ((↑n4:Int)<(↑n4:Int))) (.ret (vi 2)) (.ii (.asm ((x3==3)=true->n4<=9223372036854775807) (.ii (.br (bif x3==3 then decide (2<(↑n4:Int)) else false) (.ret (vi 2)) (.ret (vi 0)))))))) (.enter (iR 0 3 []) (qW.L0 (1) (aa bZ f4)) [⟨2,bZ,n4,aa bZ f4,ew rfl _ _⟩])) (.am n4 (.br (decide ((↑n4:Int)<2)) (.br (decide ((↑n4:Int)<(↑n4:Int))) (.ret (vi 2)) (.ii (.asm ((x3==3)=true->n4<=9223372036854775807) (.ii (.br (bif x3==3 then decide (2<(↑n4:Int)) else false) (.ret (vi 2)) (.ret (vi 0))))))) (.enter (iR 0 3 []) (qW.L1 (1) (aa bZ f4)) [⟨2,bZ,n4,aa bZ f4,ew rfl _ _⟩]))))))) (.am n4 (.und (.asm (n4=0) (.brt (.br (decide (0<(↑n4:Int))) (.ret (vi 2)) (.ii (.asm ((x3==3)=true->n4<=9223372036854775807) (.ii (.br (bif x3==3 then decide (2<(↑n4:Int)) else false) (.ret (vi 2)) (.ret (vi 0))))))))) (.obv (cz n4 fun i=>lk 2 (aa bZ f4 i)) (zO rfl _ _) (.ob (decide (n4*16<=140737488355328)&&!Nat.beq 16 0) (.br (decide ((↑n4:Int)<2)) (.br (decide ((↑n4:Int)<(↑n4:Int))) (.ret (vi 2)) (.ii (.asm ((x3==3)=true->n4<=9223372036854775807) (.ii (.br (bif x3==3 then decide (2<(↑n4:Int)) else false) (.ret (vi 2)) (.ret (vi 0))))))) (.enter (iR 0 3 []) (qW.L2 (1) (aa bZ f4)) [⟨2,bZ,n4,aa bZ f4,ew rfl _ _⟩]))))))) (.am n4 (.und (.asm (n4=0) (.brt (.br (decide (0<(↑n4:Int))) (.ret (vi 2)) (.ii (.asm ((x3==3)=true->n4<=9223372036854775807) (.ii (.br (bif x3==3 then decide (2<(↑n4:Int)) else false) (.ret (vi 2)) (.ret (vi 0))))))))) (.obv (cz n4 fun i=>lk 2 (aa bZ f4 i)) (zO rfl _ _) (.ob (decide (n4*16<=140737488355328)&&!Nat.beq 16 0) (.br (decide ((↑n4:Int)<2)) (.br (decide ((↑n4:Int)<(↑n4:Int))) (.ret (vi 2)) (.ii (.asm ((x3==3)=true->n4<=9223372036854775807) (.ii (.br (bif x3==3 then decide (2<(↑n4:Int)) else false) (.ret (vi 2)) (.ret (vi 0))))))) (.enter (iR 0 3 []) (qW.L3 (1) (aa bZ f4)) [⟨2,bZ,n4,aa bZ f4,ew rfl _ _⟩])))))))))) (.ret (vi 7)))))))))))))))
theorem akh:dD qp u0 (D63 n0 f0 s2 x3 n4 f4 x6) (LJ n0 f0 s2 x3 n4 f4 x6) (m63 n0 f0 s2 x3 n4 f4 x6) (oQ n0 f0 s2 x3 n4 f4 x6):=⟨⟨by kernel_rfl,by kernel_rfl⟩,fun s=>by cases s<;>exact⟨by kernel_rfl,by kernel_rfl⟩⟩
def rD (f:Nat->List V) (i j:Nat):Bool:=ar (f i)==ar (f j)&&(aQ (f i)==aQ (f j)&&true)
def nN (n:Nat) (f:Nat->List V):Bool:=jh n fun i=>decide (0<i)&&rD f i (i-1)
def gg (x3:Int) (n4:Nat):Int:=bif bif x3==3 then decide (2<(n4:Int)) else false then 2 else 0
def Y0 (n0:Nat) (f0:aN) (s2:ByteArray) (x3:Int) (n4:Nat) (f4:aN) (x6:Int):Int:=bif !mo s2 then 6 else bif rU n0 f0 s2 then 5 else bif bq x3 0 3 then 2 else bif decide ((n4:Int)<2) then 4 else bif decide (8<(n4:Int)) then 3 else bif !!jH n4 f4 then 7 else bif bq x6 100 30000 then 7 else bif nN n4 f4 then 2 else gg x3 n4
theorem wB {S:Type} {Nx:S->V->Prop} {x3:Int} {n4:Nat} {q:Prop}:aR Nx (.obi (.obi (.asm q (.obi (.obi (.br (bif x3==3 then decide (2<(n4:Int)) else false) (.ret (vi 2)) (.ret (vi 0)))))))) (vi (gg x3 n4)):=by
 refine evObi (evObi (evAsm fun _=>evObi (evObi (evBr (fun h=>evRet ?_) (fun h=>evRet ?_)))))<;>(unfold gg;rw[h];rfl)
theorem amC (h8:n4<=8) (k0:Nat) (hk:1<=k0) (hk':k0<n4) (t1 t2 t3:Int) (t4:Nat) (t5 t6 t7:Int):(∀ k2:Nat,k2<=n4-k0->1<=k2->∀ (k:Nat) (f:Nat->List V),k+1<=k0+k2->Ev (oQ n0 f0 s2 x3 n4 f4 x6) (.L4 k2 k0 (n4-k0) t1 t2 t3 t4 t5 t6 t7 k f) (vi 2))/\(∀ k2:Nat,k2<=n4-k0->1<=k2->∀ (k:Nat) (f:Nat->List V),k+1<=k0+k2->Ev (oQ n0 f0 s2 x3 n4 f4 x6) (.L5 k2 k0 (n4-k0) t1 t2 t3 t4 t5 t6 t7 k f) (vi 2))/\(∀ k2:Nat,k2<=n4-k0->1<=k2->∀ (k:Nat) (f:Nat->List V),k+1<=k0+k2->Ev (oQ n0 f0 s2 x3 n4 f4 x6) (.L6 k2 k0 (n4-k0) t1 t2 t3 t4 t5 t6 t7 k f) (vi 2))/\(∀ k2:Nat,k2<=n4-k0->1<=k2->∀ (k:Nat) (f:Nat->List V),k+1<=k0+k2->Ev (oQ n0 f0 s2 x3 n4 f4 x6) (.L7 k2 k0 (n4-k0) t1 t2 t3 t4 t5 t6 t7 k f) (vi 2)):=by
 refine ⟨?_,?_,?_,?_⟩
 all_goals
  refine cO fun k2 hk2 ih h1 k f hkk=>Ev.of rfl ?_
  have w1:wI ((k2:Int)-1)=((k2-1:Nat):Int):=by rw[wrapI (by omega) (by omega)];omega
  have w2:wI ((k2:Int)+1)=((k2+1:Nat):Int):=by rw[wrapI (by omega) (by omega)];omega
  have w3:wI ((k:Int)+1)=((k+1:Nat):Int):=by rw[wrapI (by omega) (by omega)];omega
  refine evBr (fun h=>?_) (fun h=>?_)
  ·have hlt:k2<n4-k0:=by have:=of_decide_eq_true h;omega
   refine aE (dqt (by omega)) (aE (dqt (by omega)) (aE (dqt (by rw[w1];omega)) (aE (dqt (by rw[w1];omega)) (evBr (fun _=>?_) (fun _=>?_)))))
   ·refine aE (dqt (by omega)) (aE (dqt (by omega)) (aE (dqt (by omega)) (aE (dqt (by omega)) (aK ?_))))
    rw [w2,w3]
    exact ih hlt (by omega) (k+1) _ (by omega)
   ·refine aK ?_
    rw [w2]
    exact ih hlt (by omega) k _ (by omega)
  ·have hge:¬ k2<n4-k0:=by have:=of_decide_eq_false h;omega
   refine aE (dqt (by omega)) (aE (dqt (by omega)) (aE (dqt (by omega)) ?_))
   try refine evAsm fun _=>?_
   exact eG (dqt (by omega)) (evRet rfl)
theorem akY (h8:n4<=8) (h2:2<=n4):(∀ i:Nat,i<=n4->1<=i->(∀ j,j<i->(decide (0<j)&&rD f4 j (j-1))=false)->∀ f:Nat->List V,(∀ i j,rD f i j=rD f4 i j)->Ev (oQ n0 f0 s2 x3 n4 f4 x6) (.L0 i f) (vi (bif nN n4 f4 then 2 else gg x3 n4)))/\(∀ i:Nat,i<=n4->1<=i->(∀ j,j<i->(decide (0<j)&&rD f4 j (j-1))=false)->∀ f:Nat->List V,(∀ i j,rD f i j=rD f4 i j)->Ev (oQ n0 f0 s2 x3 n4 f4 x6) (.L1 i f) (vi (bif nN n4 f4 then 2 else gg x3 n4)))/\(∀ i:Nat,i<=n4->1<=i->(∀ j,j<i->(decide (0<j)&&rD f4 j (j-1))=false)->∀ f:Nat->List V,(∀ i j,rD f i j=rD f4 i j)->Ev (oQ n0 f0 s2 x3 n4 f4 x6) (.L2 i f) (vi (bif nN n4 f4 then 2 else gg x3 n4)))/\(∀ i:Nat,i<=n4->1<=i->(∀ j,j<i->(decide (0<j)&&rD f4 j (j-1))=false)->∀ f:Nat->List V,(∀ i j,rD f i j=rD f4 i j)->Ev (oQ n0 f0 s2 x3 n4 f4 x6) (.L3 i f) (vi (bif nN n4 f4 then 2 else gg x3 n4))):=by
 refine ⟨?_,?_,?_,?_⟩
 all_goals
  refine cO fun i hi ih h1 hj f hf=>Ev.of rfl ?_
  have w1:wI ((i:Int)-1)=((i-1:Nat):Int):=by rw[wrapI (by omega) (by omega)];omega
  have w2:wI ((i:Int)+1)=((i+1:Nat):Int):=by rw[wrapI (by omega) (by omega)];omega
  refine evBr (fun h=>?_) (fun h=>?_)
  ·have hlt:i<n4:=by have:=of_decide_eq_true h;omega
   refine aE (dqt (by omega)) (aE (dqt (by omega)) (aE (dqt (by rw[w1];omega)) (aE (dqt (by rw[w1];omega)) (evBr (fun hb=>?_) (fun hb=>?_)))))
   ·have hb':rD f4 i (i-1)=true:=by
     rw [← hf];rw[w1]at hb;simpa only[Int.toNat_natCast,rD] using hb
    rw [show nN n4 f4=true from cn i hlt (by rw[hb'];simp;omega),cond_true]
    refine aE (dqt (by omega)) (aF ?_)
    have q:=amC n0 f0 s2 x3 n4 f4 x6 h8 i h1 hlt
    simp only [Int.toNat_natCast]
    first|exact(q _ _ _ _ _ _ _).1 1 (by omega) (by omega) i _ (by omega)|exact(q _ _ _ _ _ _ _).2.1 1 (by omega) (by omega) i _ (by omega)|exact(q _ _ _ _ _ _ _).2.2.1 1 (by omega) (by omega) i _ (by omega)|exact(q _ _ _ _ _ _ _).2.2.2 1 (by omega) (by omega) i _ (by omega)
   ·have hb':rD f4 i (i-1)=false:=by
     rw [← hf];rw[w1]at hb;simpa only[Int.toNat_natCast,rD] using hb
    refine aK ?_
    rw [w2]
    refine ih hlt (by omega) (fun j h3=>?_) _ (fun a b=>hf a b)
    by_cases e:j=i
    ·subst e;rw[hb',Bool.and_false]
    ·exact hj j (by omega)
  ·have:i=n4:=by have:=of_decide_eq_false h;omega
   subst this
   rw [show nN i f4=false from b8 hj,cond_false]
   try refine evAsm fun _=>?_
   exact ck wB
theorem F7 (h8:n4<=8) (h2:2<=n4) (f:Nat->List V) (hf:∀ i j,rD f i j=rD f4 i j):(Ev (oQ n0 f0 s2 x3 n4 f4 x6) (.L0 1 f) (vi (bif nN n4 f4 then 2 else gg x3 n4)))/\(Ev (oQ n0 f0 s2 x3 n4 f4 x6) (.L1 1 f) (vi (bif nN n4 f4 then 2 else gg x3 n4)))/\(Ev (oQ n0 f0 s2 x3 n4 f4 x6) (.L2 1 f) (vi (bif nN n4 f4 then 2 else gg x3 n4)))/\(Ev (oQ n0 f0 s2 x3 n4 f4 x6) (.L3 1 f) (vi (bif nN n4 f4 then 2 else gg x3 n4))):=by
 have q:=akY n0 f0 s2 x3 n4 f4 x6 h8 h2
 have h0:∀ j,j<1->(decide (0<j)&&rD f4 j (j-1))=false:=fun j hj=>by
  have:j=0:=by omega
  subst this;rfl
 exact ⟨q.1 1 (by omega) (Nat.le_refl _) h0 f hf,q.2.1 1 (by omega) (Nat.le_refl _) h0 f hf,q.2.2.1 1 (by omega) (Nat.le_refl _) h0 f hf,q.2.2.2 1 (by omega) (Nat.le_refl _) h0 f hf⟩
theorem aet (hp:s2.size<=9223372036854775807):aR (Ev (oQ n0 f0 s2 x3 n4 f4 x6)) (m63 n0 f0 s2 x3 n4 f4 x6) (vi (Y0 n0 f0 s2 x3 n4 f4 x6)):=by
 unfold Y0
 refine evObp hp (evObt ?_)
 refine evBr (fun h=>evRet (by rw[h];rfl)) (fun h=>?_)
 rw [h,cond_false]
 refine aw (evObt (evBr (fun h=>evRet (by rw[show rU n0 f0 s2=true from h];rfl)) (fun h=>?_)))
 rw [show rU n0 f0 s2=false from h,cond_false]
 refine aw (evObt (evBr (fun h=>evRet (by rw[h];rfl)) (fun h=>?_)))
 rw [h,cond_false]
 refine bg fun hn=>evBr (fun h=>evRet (by rw[h];rfl)) (fun h2=>?_)
 rw [h2,cond_false]
 refine bg fun hn=>evBr (fun h=>evRet (by rw[h];rfl)) (fun h8=>?_)
 rw [h8,cond_false]
 have h2:2<=n4:=by have:=of_decide_eq_false h2;omega
 have h8:n4<=8:=by have:=of_decide_eq_false h8;omega
 have e2:decide ((n4:Int)<2)=false:=gx (by omega)
 refine aw (evObt (evObi (evBr (fun h=>?_) (fun h=>evRet (by rw[show(!!jH n4 f4)=true from by rw[show(!jH n4 f4)=false from h];rfl];rfl)))))
 rw [show(!!jH n4 f4)=false from by rw[show(!jH n4 f4)=true from h];rfl,cond_false]
 refine aE h (aw (evObt (evBr (fun h=>evRet (by rw[h];rfl)) (fun h=>?_))))
 rw [h,cond_false]
 have h16:(decide (n4*16<=140737488355328)&&!Nat.beq 16 0)=true:=by rw[dqt (show n4*16<=140737488355328 by omega)];rfl
 have hne:n4=0->False:=by omega
 have hi:∀ i j,rD (aa bZ f4) i j=rD f4 i j:=fun _ _=>rfl
 repeat' (first
  |exact evAsm (fun h0=>(hne h0).elim)
  |exact aF (F7 _ _ _ _ _ _ _ h8 h2 _ hi).1
  |exact aF (F7 _ _ _ _ _ _ _ h8 h2 _ hi).2.1
  |exact aF (F7 _ _ _ _ _ _ _ h8 h2 _ hi).2.2.1
  |exact aF (F7 _ _ _ _ _ _ _ h8 h2 _ hi).2.2.2
  |refine alD ?_ ?_
  |refine evAsm (fun _=>?_)
  |refine akH ?_
  |refine aE h16 ?_
  |refine ed e2 ?_
  |refine ed rfl ?_
  |refine eG rfl ?_)
theorem aqW (hp:s2.size<=9223372036854775807):aR (Ev (oQ n0 f0 s2 x3 n4 f4 x6)) (m63 n0 f0 s2 x3 n4 f4 x6) (vi (Y0 n0 (aa aJ f0) s2 x3 n4 (aa bZ f4) x6)):=aet n0 f0 s2 x3 n4 f4 x6 hp
def C63:aB:=bF [.sl aJ,.agg aJ] (fun
 |[.sl n0 f0,.agg [.str s2,.int _ x3,.sl n4 f4,.int _ x6]]=>s2.size<=9223372036854775807
 |_=>False) fun
 |[.sl n0 f0,.agg [.str s2,.int _ x3,.sl n4 f4,.int _ x6]]=>vi (Y0 n0 f0 s2 x3 n4 f4 x6)
 |_=>.any
theorem aft:(vP C63).Ok Tryz.prog 136:=bV yaw Tryz.func136 (by kernel_rfl) fun ds hp=>iS (akh ..) (aqW _ _ _ _ _ _ _ hp)
def m69:RT Empty:=.obp (s2.size<=(9223372036854775807:Nat)) (.obt (.br (!mo s2) (.ret (vi 6)) (.cb (.br (q8 n0 (aa aH f0) s2) (.ret (vi 5)) (.cb (.obi (.br (!jQ 2 (aa ae (bn [vi x3,vi x4] 0 1))) (.ob (!jQ 2 (aa ae (bn [vi x3,vi x4] 0 1))) (.cb (.obi (.br (!bq x5 1 200) (.ob (!bq x5 1 200) (.cb (.obi (.br (!bq x6 (-1000) 1000) (.ob (!bq x6 (-1000) 1000) (.cb (.br (bq x7 (-1000) 1000) (.ret (vi 7)) (.ii (.obi (.br (bif x6==0 then x7==0 else false) (.ret (vi 2)) (.ret (vi 0)))))))) (.ret (vi 7)))))) (.ret (vi 7)))))) (.ret (vi 7)))))))))
theorem akD:cJ cL (aP JJ qp u0 aoM [V.sl n0 (aa aH f0),V.agg [V.str s2,vi x3,vi x4,vi x5,vi x6,vi x7]]) (m69 n0 f0 s2 x3 x4 x5 x6 x7):=⟨by kernel_rfl,by kernel_rfl⟩
def ky:Int:=bif !mo s2 then 6 else bif q8 n0 (aa aH f0) s2 then 5 else bif !jQ 2 (aa ae (bn [vi x3,vi x4] 0 1)) then bif !bq x5 1 200 then bif !bq x6 (-1000) 1000 then bif bq x7 (-1000) 1000 then 7 else bif bif x6==0 then x7==0 else false then 2 else 0 else 7 else 7 else 7
def RY:V:=vi (ky n0 f0 s2 x3 x4 x5 x6 x7)
theorem aph (hp:s2.size<=9223372036854775807):aR cq (m69 n0 f0 s2 x3 x4 x5 x6 x7) (RY n0 f0 s2 x3 x4 x5 x6 x7):=evObp (by first|assumption|(exact hp)) (evObt (evBr (fun h0=>evRet (by unfold RY ky;try rw[h0];rfl)) (fun h0=>aw (evObt (evBr (fun h1=>evRet (by unfold RY ky;try rw[h0];try rw[h1];rfl)) (fun h1=>aw (evObt (evObi (evBr (fun h2=>aE (by first|assumption|(fail)) (aw (evObt (evObi (evBr (fun h3=>aE (by first|assumption|(fail)) (aw (evObt (evObi (evBr (fun h4=>aE (by first|assumption|(fail)) (aw (evObt (evBr (fun h5=>evRet (by unfold RY ky;try rw[h0];try rw[h1];try rw[h2];try rw[h3];try rw[h4];try rw[h5];rfl)) (fun h5=>evObi (evObi (evObi (evBr (fun h6=>evRet (by unfold RY ky;try rw[h0];try rw[h1];try rw[h2];try rw[h3];try rw[h4];try rw[h5];try rw[h6];rfl)) (fun h6=>evRet (by unfold RY ky;try rw[h0];try rw[h1];try rw[h2];try rw[h3];try rw[h4];try rw[h5];try rw[h6];rfl)))))))))) (fun h4=>evRet (by unfold RY ky;try rw[h0];try rw[h1];try rw[h2];try rw[h3];try rw[h4];rfl))))))) (fun h3=>evRet (by unfold RY ky;try rw[h0];try rw[h1];try rw[h2];try rw[h3];rfl))))))) (fun h2=>evRet (by unfold RY ky;try rw[h0];try rw[h1];try rw[h2];rfl)))))))))))
def C69:aB:=bF [.sl aH,.agg aH] (fun
 |[.sl n0 f0,.agg [.str s2,.int _ x3,.int _ x4,.int _ x5,.int _ x6,.int _ x7]]=>s2.size<=9223372036854775807
 |_=>False) fun
 |[.sl n0 f0,.agg [.str s2,.int _ x3,.int _ x4,.int _ x5,.int _ x6,.int _ x7]]=>RY n0 f0 s2 x3 x4 x5 x6 x7
 |_=>.any
theorem agJ:(vP C69).Ok Tryz.prog 142:=bV yaw Tryz.func142 (by kernel_rfl) fun ds hp=>cQ (akD ..) (aph _ _ _ _ _ _ _ _ hp)
def nY:bj:=(136,.con C63)::(142,.con C69)::qp
theorem yN:aW Tryz.prog eqs its nY:=.con aft (.con agJ (yaw))
inductive Je where
 |L0 (ia0:Int)
 |L1 (ib0 ib1:Int)
 |L2 (ic0 ic1 ic2:Int)
def Qv:Je->bz×List O×Option Ex
 |.L0 ia0=>([(6,vi ia0),(17,V.kb false),(16,V.bool (lT (sv (ap (f0 x8.toNat))))),(15,V.str (sv (ap (f0 x8.toNat)))),(14,V.pl 0 0),(5,V.pl 0 0),(13,V.agg [V.str (sv (ap (f0 x8.toNat))),vi (aQ (f0 x8.toNat)),V.sl (au (ap (ab (ab (f0 x8.toNat))))) fun i=>al bZ (aX (ap (ab (ab (f0 x8.toNat)))) i),vi (bW (f0 x8.toNat))]),(12,V.pd [V.str (sv (ap (f0 x8.toNat))),vi (aQ (f0 x8.toNat)),V.sl (au (ap (ab (ab (f0 x8.toNat))))) fun i=>al bZ (aX (ap (ab (ab (f0 x8.toNat)))) i),vi (bW (f0 x8.toNat))]),(11,vi x8),(10,V.sl n0 (aa aJ f0)),(9,V.pl 1 0),(4,vi 0),(2,V.pl 1 0),(0,wi n0 f0 n2 f2 n4 f4 n6 f6),(1,vi x8)],[O.cells [V.str (sv (ap (f0 x8.toNat))),vi (aQ (f0 x8.toNat)),V.sl (au (ap (ab (ab (f0 x8.toNat))))) fun i=>al bZ (aX (ap (ab (ab (f0 x8.toNat)))) i),vi (bW (f0 x8.toNat))] 189,O.cells [V.sl n0 (aa aJ f0),V.sl n2 (aa aU f2),V.sl n4 (aa aV f4),V.sl n6 (aa aH f6)] 31],none)
 |.L1 ib0 ib1=>([(7,vi ib0),(43,V.kb false),(42,vi (↑(au (ap (ab (ab (f0 x8.toNat))))):Int)),(41,V.sl (au (ap (ab (ab (f0 x8.toNat))))) fun i=>al bZ (aX (ap (ab (ab (f0 x8.toNat)))) i)),(40,V.pl 0 2),(39,V.kb false),(38,vi (↑(au (ap (ab (ab (f0 x8.toNat))))):Int)),(37,V.sl (au (ap (ab (ab (f0 x8.toNat))))) fun i=>al bZ (aX (ap (ab (ab (f0 x8.toNat)))) i)),(36,V.pl 0 2),(35,V.kb false),(34,V.bool (yac (aQ (f0 x8.toNat)) 0 3)),(33,vi (aQ (f0 x8.toNat))),(32,V.pl 0 1),(20,V.kb false),(19,vi x8),(18,vi ib1),(6,vi ib1),(17,V.kb false),(16,V.bool (lT (sv (ap (f0 x8.toNat))))),(15,V.str (sv (ap (f0 x8.toNat)))),(14,V.pl 0 0),(5,V.pl 0 0),(13,V.agg [V.str (sv (ap (f0 x8.toNat))),vi (aQ (f0 x8.toNat)),V.sl (au (ap (ab (ab (f0 x8.toNat))))) fun i=>al bZ (aX (ap (ab (ab (f0 x8.toNat)))) i),vi (bW (f0 x8.toNat))]),(12,V.pd [V.str (sv (ap (f0 x8.toNat))),vi (aQ (f0 x8.toNat)),V.sl (au (ap (ab (ab (f0 x8.toNat))))) fun i=>al bZ (aX (ap (ab (ab (f0 x8.toNat)))) i),vi (bW (f0 x8.toNat))]),(11,vi x8),(10,V.sl n0 (aa aJ f0)),(9,V.pl 1 0),(4,vi 0),(2,V.pl 1 0),(0,wi n0 f0 n2 f2 n4 f4 n6 f6),(1,vi x8)],[O.cells [V.str (sv (ap (f0 x8.toNat))),vi (aQ (f0 x8.toNat)),V.sl (au (ap (ab (ab (f0 x8.toNat))))) fun i=>al bZ (aX (ap (ab (ab (f0 x8.toNat)))) i),vi (bW (f0 x8.toNat))] 189,O.cells [V.sl n0 (aa aJ f0),V.sl n2 (aa aU f2),V.sl n4 (aa aV f4),V.sl n6 (aa aH f6)] 31],none)
 |.L2 ic0 ic1 ic2=>([(8,vi ic0),(69,V.kb false),(68,V.bool (yac (bW (f0 x8.toNat)) 100 30000)),(67,vi (bW (f0 x8.toNat))),(66,V.pl 0 3),(48,V.kb false),(47,vi (↑(au (ap (ab (ab (f0 x8.toNat))))):Int)),(46,V.sl (au (ap (ab (ab (f0 x8.toNat))))) fun i=>al bZ (aX (ap (ab (ab (f0 x8.toNat)))) i)),(45,V.pl 0 2),(44,vi ic1),(7,vi ic1),(43,V.kb false),(42,vi (↑(au (ap (ab (ab (f0 x8.toNat))))):Int)),(41,V.sl (au (ap (ab (ab (f0 x8.toNat))))) fun i=>al bZ (aX (ap (ab (ab (f0 x8.toNat)))) i)),(40,V.pl 0 2),(39,V.kb false),(38,vi (↑(au (ap (ab (ab (f0 x8.toNat))))):Int)),(37,V.sl (au (ap (ab (ab (f0 x8.toNat))))) fun i=>al bZ (aX (ap (ab (ab (f0 x8.toNat)))) i)),(36,V.pl 0 2),(35,V.kb false),(34,V.bool (yac (aQ (f0 x8.toNat)) 0 3)),(33,vi (aQ (f0 x8.toNat))),(32,V.pl 0 1),(20,V.kb false),(19,vi x8),(18,vi ic2),(6,vi ic2),(17,V.kb false),(16,V.bool (lT (sv (ap (f0 x8.toNat))))),(15,V.str (sv (ap (f0 x8.toNat)))),(14,V.pl 0 0),(5,V.pl 0 0),(13,V.agg [V.str (sv (ap (f0 x8.toNat))),vi (aQ (f0 x8.toNat)),V.sl (au (ap (ab (ab (f0 x8.toNat))))) fun i=>al bZ (aX (ap (ab (ab (f0 x8.toNat)))) i),vi (bW (f0 x8.toNat))]),(12,V.pd [V.str (sv (ap (f0 x8.toNat))),vi (aQ (f0 x8.toNat)),V.sl (au (ap (ab (ab (f0 x8.toNat))))) fun i=>al bZ (aX (ap (ab (ab (f0 x8.toNat)))) i),vi (bW (f0 x8.toNat))]),(11,vi x8),(10,V.sl n0 (aa aJ f0)),(9,V.pl 1 0),(4,vi 0),(2,V.pl 1 0),(0,wi n0 f0 n2 f2 n4 f4 n6 f6),(1,vi x8)],[O.cells [V.str (sv (ap (f0 x8.toNat))),vi (aQ (f0 x8.toNat)),V.sl (au (ap (ab (ab (f0 x8.toNat))))) fun i=>al bZ (aX (ap (ab (ab (f0 x8.toNat)))) i),vi (bW (f0 x8.toNat))] 189,O.cells [V.sl n0 (aa aJ f0),V.sl n2 (aa aU f2),V.sl n4 (aa aV f4),V.sl n6 (aa aH f6)] 31],none)
def aqx:Je->JJ
 |.L0 ia0=>(0,[])
 |.L1 ib0 ib1=>(1,[])
 |.L2 ic0 ic1 ic2=>(2,[])
def ajo:T (bO JJ):=aP JJ nY u0 aqw [wi n0 f0 n2 f2 n4 f4 n6 f6,vi x8]
def Cn (cx:List Cx):Lp JJ:=eR (ej (ajo n0 f0 n2 f2 n4 f4 n6 f6 x8) [false])
def KE (cx:List Cx):Lp JJ:=eR (ej (vX nY u0 (0,[]) (Cn n0 f0 n2 f2 n4 f4 n6 f6 x8 []) (Qv n0 f0 n2 f2 n4 f4 n6 f6 x8 (.L0 (0:Int)))) [false,false,false,false])
def acX (cx:List Cx):Lp JJ:=eR (ej (vX nY u0 (1,[]) (KE n0 f0 n2 f2 n4 f4 n6 f6 x8 []) (Qv n0 f0 n2 f2 n4 f4 n6 f6 x8 (.L1 (0:Int) (0:Int)))) [false,false])
def aqY:JJ->Lp JJ
 |(0,cx)=>Cn n0 f0 n2 f2 n4 f4 n6 f6 x8 cx
 |(1,cx)=>KE n0 f0 n2 f2 n4 f4 n6 f6 x8 cx
 |(2,cx)=>acX n0 f0 n2 f2 n4 f4 n6 f6 x8 cx
 |(_,cx)=>Cn n0 f0 n2 f2 n4 f4 n6 f6 x8 cx
def D70:LD JJ Je:=⟨aqx,aqY n0 f0 n2 f2 n4 f4 n6 f6 x8,Qv n0 f0 n2 f2 n4 f4 n6 f6 x8⟩
def Iw (n0:Nat) (f0:aN) (n2:Nat) (f2:aN) (n4:Nat) (f4:aN) (n6:Nat) (f6:aN) (x8:Int):Je->RT Je
 |.L0 ia0=>.br (decide (ia0<x8)) (.ob (decide (0<=ia0/\ia0<(↑n0:Int))) (.br ((sv (ap (f0 ia0.toNat))).toList==(sv (ap (f0 x8.toNat))).toList) (.ret (vi 5)) (.next [some (some 0),some (some 1)] (Je.L0 (wI (ia0+1))) []))) (.cb (.br (!yac (aQ (f0 x8.toNat)) 0 3) (.ret (vi 2)) (.asm (true=true->au (ap (ab (ab (f0 x8.toNat))))<=9223372036854775807) (.br (decide ((↑(au (ap (ab (ab (f0 x8.toNat))))):Int)<2)) (.ret (vi 4)) (.asm (true=true->au (ap (ab (ab (f0 x8.toNat))))<=9223372036854775807) (.br (decide (8<(↑(au (ap (ab (ab (f0 x8.toNat))))):Int))) (.ret (vi 3)) (.enter [some (some 0),some (some 1)] (Je.L1 (0) (ia0)) [])))))))
 |.L1 ib0 ib1=>.asm (true=true->au (ap (ab (ab (f0 x8.toNat))))<=9223372036854775807) (.br (decide (ib0<(↑(au (ap (ab (ab (f0 x8.toNat))))):Int))) (.ob (decide (0<=ib0/\ib0<(↑(au (ap (ab (ab (f0 x8.toNat))))):Int))) (.obt (.ob (decide (0<=ib0/\ib0<(↑(au (ap (ab (ab (f0 x8.toNat))))):Int))) (.obt (.cb (.br (!wk 2 (aa ae (bn [vi (ar (aX (ap (ab (ab (f0 x8.toNat)))) ib0.toNat)),vi (aQ (aX (ap (ab (ab (f0 x8.toNat)))) ib0.toNat))] 0 1))) (.ret (vi 7)) (.next [some (some 0),some (some 1)] (Je.L1 (wI (ib0+1)) (ib1)) []))))))) (.cb (.br (!yac (bW (f0 x8.toNat)) 100 30000) (.ret (vi 7)) (.enter [some (some 0),some (some 1)] (Je.L2 (1) (ib0) (ib1)) []))))
 |.L2 ic0 ic1 ic2=>.asm (true=true->au (ap (ab (ab (f0 x8.toNat))))<=9223372036854775807) (.br (decide (ic0<(↑(au (ap (ab (ab (f0 x8.toNat))))):Int))) (.ob (decide (0<=ic0/\ic0<(↑(au (ap (ab (ab (f0 x8.toNat))))):Int))) (.ob (decide (0<=wI (ic0-1)/\wI (ic0-1)<(↑(au (ap (ab (ab (f0 x8.toNat))))):Int))) (.br (ar (aX (ap (ab (ab (f0 x8.toNat)))) ic0.toNat)==ar (aX (ap (ab (ab (f0 x8.toNat)))) (wI (ic0-1)).toNat)&&(aQ (aX (ap (ab (ab (f0 x8.toNat)))) ic0.toNat)==aQ (aX (ap (ab (ab (f0 x8.toNat)))) (wI (ic0-1)).toNat)&&true)) (.ret (vi 2)) (.next [some (some 0),some (some 1)] (Je.L2 (wI (ic0+1)) (ic1) (ic2)) [])))) (.ii (.asm ((aQ (f0 x8.toNat)==3)=true->au (ap (ab (ab (f0 x8.toNat))))<=9223372036854775807) (.ii (.br (bif aQ (f0 x8.toNat)==3 then decide (2<(↑(au (ap (ab (ab (f0 x8.toNat))))):Int)) else false) (.ret (vi 2)) (.ret (vi 0)))))))
def m70:RT Je:=dm (n2,f2,n4,f4,n6,f6) (.ob (decide (0<=x8/\x8<(↑n0:Int))) (.obp ((sv (ap (f0 x8.toNat))).size<=(9223372036854775807:Nat)) (.obt (.br (!lT (sv (ap (f0 x8.toNat)))) (.ret (vi 6)) (.enter [some (some 1),some (some 0)] (Je.L0 (0)) [])))))
theorem alX:dD nY u0 (D70 n0 f0 n2 f2 n4 f4 n6 f6 x8) (ajo n0 f0 n2 f2 n4 f4 n6 f6 x8) (m70 n0 f0 n2 f2 n4 f4 n6 f6 x8) (Iw n0 f0 n2 f2 n4 f4 n6 f6 x8):=⟨⟨by kernel_rfl,by kernel_rfl⟩,fun s=>by cases s<;>exact⟨by kernel_rfl,by kernel_rfl⟩⟩
def pA (x y:Int):Bool:=wk 2 (aa ae (bn [vi x,vi y] 0 ((1+1-0) / 2)))
def NK (k:Int) (n:Nat) (f:Nat->List V) (h:Int):Int:=bif !yac k 0 3 then 2 else bif decide ((n:Int)<2) then 4 else bif decide (8<(n:Int)) then 3 else bif jh n (fun i=>!pA (ar (f i)) (aQ (f i))) then 7 else bif !yac h 100 30000 then 7 else bif nN n f then 2 else gg k n
def Yw:Int:=dm n0 (bif !lT (sv (ap (f0 x8.toNat))) then 6 else bif jh x8.toNat (fun k=>(sv (ap (f0 k))).toList==(sv (ap (f0 x8.toNat))).toList) then 5 else NK (aQ (f0 x8.toNat)) (au (ap (ab (ab (f0 x8.toNat))))) (aX (ap (ab (ab (f0 x8.toNat))))) (bW (f0 x8.toNat)))
section
variable (k:Nat) (h8:(au (ap (ab (ab (f0 k)))))<=8) (h2:2<=(au (ap (ab (ab (f0 k)))))) (i1:Int)
include k h8 h2 i1
theorem amw (i2:Int):∀ i:Nat,i<=(au (ap (ab (ab (f0 k)))))->1<=i->(∀ j,j<i->(decide (0<j)&&rD (aX (ap (ab (ab (f0 k))))) j (j-1))=false)->Ev (Iw n0 f0 n2 f2 n4 f4 n6 f6 (k:Int)) (.L2 i i1 i2) (vi (bif nN (au (ap (ab (ab (f0 k))))) (aX (ap (ab (ab (f0 k))))) then 2 else gg (aQ (f0 k)) (au (ap (ab (ab (f0 k))))))):=by
 refine cO fun i hi ih h1 hj=>Ev.of rfl ?_
 have w1:wI ((i:Int)-1)=((i-1:Nat):Int):=by rw[wrapI (by omega) (by omega)];omega
 have w2:wI ((i:Int)+1)=((i+1:Nat):Int):=by rw[wrapI (by omega) (by omega)];omega
 refine evAsm fun _=>evBr (fun h=>?_) (fun h=>?_)
 ·have hlt:i<(au (ap (ab (ab (f0 k))))):=by have:(i:Int)<((au (ap (ab (ab (f0 k))))):Int):=of_decide_eq_true h;omega
  refine aE (dqt (show 0<=(i:Int)/\(i:Int)<((au (ap (ab (ab (f0 k))))):Int) by omega)) (aE (dqt (show 0<=wI ((i:Int)-1)/\wI ((i:Int)-1)<((au (ap (ab (ab (f0 k))))):Int) by rw[w1];omega)) (evBr (fun hb=>?_) (fun hb=>?_)))
  ·have hb':rD (aX (ap (ab (ab (f0 k))))) i (i-1)=true:=by
    rw [w1]at hb;simpa only[Int.toNat_natCast,rD] using hb
   rw [show nN (au (ap (ab (ab (f0 k))))) (aX (ap (ab (ab (f0 k)))))=true from cn i hlt (by rw[hb'];simp;omega),cond_true]
   exact evRet rfl
  ·have hb':rD (aX (ap (ab (ab (f0 k))))) i (i-1)=false:=by
    rw [w1]at hb;simpa only[Int.toNat_natCast,rD] using hb
   refine aK ?_
   rw [w2]
   refine ih hlt (by omega) (fun j h3=>?_)
   by_cases e:j=i
   ·subst e;rw[hb',Bool.and_false]
   ·exact hj j (by omega)
 ·have e:i=(au (ap (ab (ab (f0 k))))):=by have:¬ (i:Int)<((au (ap (ab (ab (f0 k))))):Int):=of_decide_eq_false h;omega
  rw [show nN (au (ap (ab (ab (f0 k))))) (aX (ap (ab (ab (f0 k)))))=false from b8 fun j h=>hj j (by omega),cond_false]
  exact wB
theorem aka:∀ i:Nat,i<=(au (ap (ab (ab (f0 k)))))->(∀ j,j<i->(!pA (ar ((aX (ap (ab (ab (f0 k))))) j)) (aQ ((aX (ap (ab (ab (f0 k))))) j)))=false)->Ev (Iw n0 f0 n2 f2 n4 f4 n6 f6 (k:Int)) (.L1 i i1) (vi (bif jh (au (ap (ab (ab (f0 k))))) (fun i=>!pA (ar ((aX (ap (ab (ab (f0 k))))) i)) (aQ ((aX (ap (ab (ab (f0 k))))) i))) then 7 else bif !yac (bW (f0 k)) 100 30000 then 7 else bif nN (au (ap (ab (ab (f0 k))))) (aX (ap (ab (ab (f0 k))))) then 2 else gg (aQ (f0 k)) (au (ap (ab (ab (f0 k))))))):=by
 refine cO fun i hi ih hj=>Ev.of rfl ?_
 have w2:wI ((i:Int)+1)=((i+1:Nat):Int):=by rw[wrapI (by omega) (by omega)];omega
 refine evAsm fun _=>evBr (fun h=>?_) (fun h=>?_)
 ·have hlt:i<(au (ap (ab (ab (f0 k))))):=by have:(i:Int)<((au (ap (ab (ab (f0 k))))):Int):=of_decide_eq_true h;omega
  refine aE (dqt (show 0<=(i:Int)/\(i:Int)<((au (ap (ab (ab (f0 k))))):Int) by omega)) (evObt (aE (dqt (show 0<=(i:Int)/\(i:Int)<((au (ap (ab (ab (f0 k))))):Int) by omega)) (evObt (aw (evObt (evBr (fun hb=>evRet ?_) (fun hb=>aK ?_)))))))
  ·rw[cn (p:=fun i=>!pA (ar ((aX (ap (ab (ab (f0 k))))) i)) (aQ ((aX (ap (ab (ab (f0 k))))) i))) i hlt hb];rfl
  ·rw[w2]
   refine ih hlt (fun j h3=>?_)
   by_cases e:j=i
   ·subst e;exact hb
   ·exact hj j (by omega)
 ·have e:i=(au (ap (ab (ab (f0 k))))):=by have:¬ (i:Int)<((au (ap (ab (ab (f0 k))))):Int):=of_decide_eq_false h;omega
  rw [show jh (au (ap (ab (ab (f0 k))))) (fun i=>!pA (ar ((aX (ap (ab (ab (f0 k))))) i)) (aQ ((aX (ap (ab (ab (f0 k))))) i)))=false from b8 fun j h=>hj j (by omega),cond_false]
  refine aw (evObt (evBr (fun h=>evRet (by rw[show(!yac (bW (f0 k)) 100 30000)=true from h];rfl)) (fun h=>?_)))
  rw [show(!yac (bW (f0 k)) 100 30000)=false from h,cond_false]
  refine aF (amw n0 f0 n2 f2 n4 f4 n6 f6 k h8 h2 _ _ 1 (by omega) (by omega) (fun j h=>?_))
  have:j=0:=by omega
  subst this;rfl
end
theorem agm (hp:0<=x8/\x8<n0/\n0<=9223372036854775807/\yaa n0 f0):aR (Ev (Iw n0 f0 n2 f2 n4 f4 n6 f6 x8)) (m70 n0 f0 n2 f2 n4 f4 n6 f6 x8) (vi (Yw n0 f0 x8)):=by
 obtain ⟨h0,h1,h2,h3⟩:=hp
 obtain ⟨k,rfl⟩:∃ k:Nat,x8=(k:Int):=⟨x8.toNat,by omega⟩
 have hk:k<n0:=by omega
 refine b7 hk (evObp (h3 k hk) (evObt ?_))
 unfold Yw
 simp only [Int.toNat_natCast]
 refine evBr (fun h=>evRet (by rw[show(!lT (sv (ap (f0 k))))=true from h];rfl)) (fun h=>?_)
 rw [show(!lT (sv (ap (f0 k))))=false from h,cond_false]
 refine aF (iA (n:=k) (by omega) (fun i=>(sv (ap (f0 i))).toList==(sv (ap (f0 k))).toList) (P:=fun i=>Ev (Iw n0 f0 n2 f2 n4 f4 n6 f6 (k:Int)) (.L0 i) _) (fun i hlt hj next=>Ev.of rfl (cr hlt (b7 (by omega) (evBr (fun hb=>evRet ?_) (fun hb=>aK (next hb))))))
  (fun hj=>Ev.of rfl (ck ?_)))
 ·rw[cn i hlt hb];rfl
 ·rw[b8 hj,cond_false]
  unfold NK
  refine aw (evObt (evBr (fun h=>evRet (by rw[show(!yac (aQ (f0 k)) 0 3)=true from h];rfl)) (fun h=>?_)))
  rw [show(!yac (aQ (f0 k)) 0 3)=false from h,cond_false]
  refine bg fun hn=>evBr (fun h=>evRet (by rw[show decide (((au (ap (ab (ab (f0 k))))):Int)<2)=true from h];rfl)) (fun h2=>?_)
  rw [show decide (((au (ap (ab (ab (f0 k))))):Int)<2)=false from h2,cond_false]
  refine bg fun hn=>evBr (fun h=>evRet (by rw[show decide (8<((au (ap (ab (ab (f0 k))))):Int))=true from h];rfl)) (fun h8=>?_)
  rw [show decide (8<((au (ap (ab (ab (f0 k))))):Int))=false from h8,cond_false]
  have h2:2<=(au (ap (ab (ab (f0 k))))):=by have:¬ (((au (ap (ab (ab (f0 k))))):Int)<2):=of_decide_eq_false h2;omega
  have h8:(au (ap (ab (ab (f0 k)))))<=8:=by have:¬ (8<((au (ap (ab (ab (f0 k))))):Int)):=of_decide_eq_false h8;omega
  exact aF (aka n0 f0 n2 f2 n4 f4 n6 f6 k h8 h2 _ 0 (by omega) (fun j h=>by omega))
theorem arj (hp:0<=x8/\x8<n0/\n0<=9223372036854775807/\yaa n0 (aa aJ f0)):aR (Ev (Iw n0 f0 n2 f2 n4 f4 n6 f6 x8)) (m70 n0 f0 n2 f2 n4 f4 n6 f6 x8) (vi (Yw n0 (aa aJ f0) x8)):=agm n0 f0 n2 f2 n4 f4 n6 f6 x8 hp
def C70:aB:=bF [.agg [.sl aJ,.sl aU,.sl aV,.sl aH],tI] (fun
 |[.agg [.sl n0 f0,.sl n2 f2,.sl n4 f4,.sl n6 f6],.int _ x8]=>0<=x8/\x8<n0/\n0<=9223372036854775807/\yaa n0 f0
 |_=>False) fun
 |[.agg [.sl n0 f0,.sl n2 f2,.sl n4 f4,.sl n6 f6],.int _ x8]=>vi (Yw n0 f0 x8)
 |_=>.any
theorem adt:(vP C70).Ok Tryz.prog 146:=bV yN Tryz.func146 (by kernel_rfl) fun ds hp=>iS (alX ..) (arj _ _ _ _ _ _ _ _ _ hp)
inductive S62 where
 |L0 (ia0:Int)
def anv:S62->bz×List O×Option Ex
 |.L0 ia0=>([(11,vi ia0),(10,vi (↑n0:Int)),(9,V.sl n0 (aa aJ f0)),(5,vi 0),(4,vi 0),(0,V.sl n0 (aa aJ f0)),(1,V.fn 136 [] [])],[],none)
def apf:S62->JJ
 |.L0 ia0=>(0,[])
def alE:T (bO JJ):=aP JJ nY u0 aqr [V.sl n0 (aa aJ f0),V.fn 136 [] []]
def yaP (cx:List Cx):Lp JJ:=eR (ej (alE n0 f0) [])
def arb:JJ->Lp JJ
 |(0,cx)=>yaP n0 f0 cx
 |(_,cx)=>yaP n0 f0 cx
def D62:LD JJ S62:=⟨apf,arb n0 f0,anv n0 f0⟩
def adU:S62->RT S62
 |.L0 ia0=>.br (decide (ia0<(↑n0:Int))) (.ob (decide (0<=ia0/\ia0<(↑n0:Int))) (.ob (decide (0<=ia0/\ia0<=(↑n0:Int))) (.obp ((sv (ap (f0 ia0.toNat))).size<=(9223372036854775807:Nat)) (.obt (.br (Y0 (ia0.toNat-0) (fun i=>aa aJ f0 (0+i)) (sv (ap (f0 ia0.toNat))) (aQ (f0 ia0.toNat)) (au (ap (ab (ab (f0 ia0.toNat))))) (fun i=>al bZ (aX (ap (ab (ab (f0 ia0.toNat)))) i)) (bW (f0 ia0.toNat))!=0) (.ret (V.tup [vi ia0,vi (Y0 (ia0.toNat-0) (fun i=>aa aJ f0 (0+i)) (sv (ap (f0 ia0.toNat))) (aQ (f0 ia0.toNat)) (au (ap (ab (ab (f0 ia0.toNat))))) (fun i=>al bZ (aX (ap (ab (ab (f0 ia0.toNat)))) i)) (bW (f0 ia0.toNat)))])) (.next [] (S62.L0 (wI (ia0+1))) [])))))) (.ret (V.tup [vi 0,vi 0]))
def m62:RT S62:=dm f0 (.am n0 (.enter [] (S62.L0 (0)) []))
theorem anA:dD nY u0 (D62 n0 f0) (alE n0 f0) (m62 n0 f0) (adU n0 f0):=⟨⟨by kernel_rfl,by kernel_rfl⟩,fun s=>by cases s<;>exact⟨by kernel_rfl,by kernel_rfl⟩⟩
def c62 (ii:Nat):Int:=dm n0 ((Y0 (ii-0) (fun i=>aa aJ f0 (0+i)) (sv (ap (f0 ii))) (aQ (f0 ii)) (au (ap (ab (ab (f0 ii))))) (fun i=>al bZ (aX (ap (ab (ab (f0 ii)))) i)) (bW (f0 ii))))
def xu:Int:=eZ n0 (c62 n0 f0)
def oD:Int:=dw n0 (c62 n0 f0)
theorem ae3 (hp:yaa n0 f0):aR (Ev (adU n0 f0)) (m62 n0 f0) (.tup [vi (xu n0 f0),vi (oD n0 f0)]):=bg fun hn=>aF (pK (Q:=fun i=>(sv (ap (f0 i))).size<=9223372036854775807) (fun i x=>.obp ((sv (ap (f0 i))).size<=9223372036854775807) (.obt x)) (fun i x r h hx=>evObp h (evObt hx)) (fun _ _=>rfl) hn hp fun i=>rfl)
theorem arD (hp:yaa n0 (aa aJ f0)):aR (Ev (adU n0 f0)) (m62 n0 f0) (.tup [vi (xu n0 (aa aJ f0)),vi (oD n0 (aa aJ f0))]):=ae3 n0 f0 hp
def C62:aB:=bF [.sl aJ,.fn 136 [] []] (fun
 |[.sl n0 f0,.fn _ [] []]=>yaa n0 f0
 |_=>False) fun
 |[.sl n0 f0,.fn _ [] []]=>.tup [vi (xu n0 f0),vi (oD n0 f0)]
 |_=>.any
theorem aiH:(vP C62).Ok Tryz.prog 135:=bV yN Tryz.func135 (by kernel_rfl) fun ds hp=>iS (anA ..) (arD _ _ hp)
inductive Y5 where
 |L0 (ia0:Int)
def alz:Y5->bz×List O×Option Ex
 |.L0 ia0=>([(11,vi ia0),(10,vi (↑n0:Int)),(9,V.sl n0 (aa aH f0)),(5,vi 0),(4,vi 0),(0,V.sl n0 (aa aH f0)),(1,V.fn 142 [] [])],[],none)
def ard:Y5->JJ
 |.L0 ia0=>(0,[])
def ajA:T (bO JJ):=aP JJ nY u0 ap0 [V.sl n0 (aa aH f0),V.fn 142 [] []]
def Ri (cx:List Cx):Lp JJ:=eR (ej (ajA n0 f0) [])
def aoK:JJ->Lp JJ
 |(0,cx)=>Ri n0 f0 cx
 |(_,cx)=>Ri n0 f0 cx
def D68:LD JJ Y5:=⟨ard,aoK n0 f0,alz n0 f0⟩
def abd:Y5->RT Y5
 |.L0 ia0=>.br (decide (ia0<(↑n0:Int))) (.ob (decide (0<=ia0/\ia0<(↑n0:Int))) (.ob (decide (0<=ia0/\ia0<=(↑n0:Int))) (.obp ((sv (ap (f0 ia0.toNat))).size<=(9223372036854775807:Nat)) (.obt (.br (ky (ia0.toNat-0) (fun i=>aa aH f0 (0+i)) (sv (ap (f0 ia0.toNat))) (aQ (f0 ia0.toNat)) (ca (f0 ia0.toNat)) (bW (f0 ia0.toNat)) (db (f0 ia0.toNat)) (bf (f0 ia0.toNat))!=0) (.ret (V.tup [vi ia0,vi (ky (ia0.toNat-0) (fun i=>aa aH f0 (0+i)) (sv (ap (f0 ia0.toNat))) (aQ (f0 ia0.toNat)) (ca (f0 ia0.toNat)) (bW (f0 ia0.toNat)) (db (f0 ia0.toNat)) (bf (f0 ia0.toNat)))])) (.next [] (Y5.L0 (wI (ia0+1))) [])))))) (.ret (V.tup [vi 0,vi 0]))
def m68:RT Y5:=dm f0 (.am n0 (.enter [] (Y5.L0 (0)) []))
theorem am5:dD nY u0 (D68 n0 f0) (ajA n0 f0) (m68 n0 f0) (abd n0 f0):=⟨⟨by kernel_rfl,by kernel_rfl⟩,fun s=>by cases s<;>exact⟨by kernel_rfl,by kernel_rfl⟩⟩
def c68 (ii:Nat):Int:=dm n0 ((ky (ii-0) (fun i=>aa aH f0 (0+i)) (sv (ap (f0 ii))) (aQ (f0 ii)) (ca (f0 ii)) (bW (f0 ii)) (db (f0 ii)) (bf (f0 ii))))
def xz:Int:=eZ n0 (c68 n0 f0)
def oe:Int:=dw n0 (c68 n0 f0)
theorem ahY (hp:yaa n0 f0):aR (Ev (abd n0 f0)) (m68 n0 f0) (.tup [vi (xz n0 f0),vi (oe n0 f0)]):=bg fun hn=>aF (pK (Q:=fun i=>(sv (ap (f0 i))).size<=9223372036854775807) (fun i x=>.obp ((sv (ap (f0 i))).size<=9223372036854775807) (.obt x)) (fun i x r h hx=>evObp h (evObt hx)) (fun _ _=>rfl) hn hp fun i=>rfl)
theorem apx (hp:yaa n0 (aa aH f0)):aR (Ev (abd n0 f0)) (m68 n0 f0) (.tup [vi (xz n0 (aa aH f0)),vi (oe n0 (aa aH f0))]):=ahY n0 f0 hp
def C68:aB:=bF [.sl aH,.fn 142 [] []] (fun
 |[.sl n0 f0,.fn _ [] []]=>yaa n0 f0
 |_=>False) fun
 |[.sl n0 f0,.fn _ [] []]=>.tup [vi (xz n0 f0),vi (oe n0 f0)]
 |_=>.any
theorem agA:(vP C68).Ok Tryz.prog 141:=bV yN Tryz.func141 (by kernel_rfl) fun ds hp=>iS (am5 ..) (apx _ _ hp)
def sJ:bj:=(146,.con C70)::(135,.con C62)::(141,.con C68)::nY
theorem Do:aW Tryz.prog eqs its sJ:=.con adt (.con aiH (.con agA (yN)))
inductive GZ where
 |L0 (ia0:Int)
 |L1 (ib0 ib1:Int)
 |L2 (ic0 ic1 ic2:Int)
 |L3 (id0 id1 id2 id3:Int)
def Fe:GZ->bz×List O×Option Ex
 |.L0 ia0=>([(5,vi ia0),(34,V.kb false),(29,V.bool (bif bif decide (8<(↑n0:Int)) then true else decide (12<(↑n2:Int)) then true else decide (8<(↑n4:Int)))),(28,V.bool (bif bif decide (8<(↑n0:Int)) then true else decide (12<(↑n2:Int)) then true else decide (8<(↑n4:Int)))),(23,V.bool (bif decide (8<(↑n0:Int)) then true else decide (12<(↑n2:Int)))),(22,V.bool (bif decide (8<(↑n0:Int)) then true else decide (12<(↑n2:Int)))),(17,V.bool (decide (8<(↑n0:Int)))),(16,V.bool (decide (8<(↑n0:Int)))),(15,vi (↑n0:Int)),(14,V.sl n0 (aa aJ f0)),(13,V.pl 0 0),(4,vi 0),(3,vi 0),(2,vi 0),(1,V.pl 0 0),(0,wi n0 f0 n2 f2 n4 f4 n6 f6)],[O.cells [V.sl n0 (aa aJ f0),V.sl n2 (aa aU f2),V.sl n4 (aa aV f4),V.sl n6 (aa aH f6)] 31],none)
 |.L1 ib0 ib1=>([(7,vi ib0),(39,V.kb false),(38,vi (↑n0:Int)),(37,V.sl n0 (aa aJ f0)),(36,V.pl 0 0),(35,vi ib1),(5,vi ib1),(34,V.kb false),(29,V.bool (bif bif decide (8<(↑n0:Int)) then true else decide (12<(↑n2:Int)) then true else decide (8<(↑n4:Int)))),(28,V.bool (bif bif decide (8<(↑n0:Int)) then true else decide (12<(↑n2:Int)) then true else decide (8<(↑n4:Int)))),(23,V.bool (bif decide (8<(↑n0:Int)) then true else decide (12<(↑n2:Int)))),(22,V.bool (bif decide (8<(↑n0:Int)) then true else decide (12<(↑n2:Int)))),(17,V.bool (decide (8<(↑n0:Int)))),(16,V.bool (decide (8<(↑n0:Int)))),(15,vi (↑n0:Int)),(14,V.sl n0 (aa aJ f0)),(13,V.pl 0 0),(4,vi 0),(3,vi 0),(2,vi 0),(1,V.pl 0 0),(0,wi n0 f0 n2 f2 n4 f4 n6 f6)],[O.cells [V.sl n0 (aa aJ f0),V.sl n2 (aa aU f2),V.sl n4 (aa aV f4),V.sl n6 (aa aH f6)] 31],none)
 |.L2 ic0 ic1 ic2=>([(9,vi ic0),(53,V.kb false),(52,vi (↑n2:Int)),(51,V.sl n2 (aa aU f2)),(50,V.pl 0 1),(49,vi ic1),(7,vi ic1),(39,V.kb false),(38,vi (↑n0:Int)),(37,V.sl n0 (aa aJ f0)),(36,V.pl 0 0),(35,vi ic2),(5,vi ic2),(34,V.kb false),(29,V.bool (bif bif decide (8<(↑n0:Int)) then true else decide (12<(↑n2:Int)) then true else decide (8<(↑n4:Int)))),(28,V.bool (bif bif decide (8<(↑n0:Int)) then true else decide (12<(↑n2:Int)) then true else decide (8<(↑n4:Int)))),(23,V.bool (bif decide (8<(↑n0:Int)) then true else decide (12<(↑n2:Int)))),(22,V.bool (bif decide (8<(↑n0:Int)) then true else decide (12<(↑n2:Int)))),(17,V.bool (decide (8<(↑n0:Int)))),(16,V.bool (decide (8<(↑n0:Int)))),(15,vi (↑n0:Int)),(14,V.sl n0 (aa aJ f0)),(13,V.pl 0 0),(4,vi 0),(3,vi 0),(2,vi 0),(1,V.pl 0 0),(0,wi n0 f0 n2 f2 n4 f4 n6 f6)],[O.cells [V.sl n0 (aa aJ f0),V.sl n2 (aa aU f2),V.sl n4 (aa aV f4),V.sl n6 (aa aH f6)] 31],none)
 |.L3 id0 id1 id2 id3=>([(11,vi id0),(96,V.kb false),(95,vi (↑n4:Int)),(94,V.sl n4 (aa aV f4)),(93,V.pl 0 2),(92,vi id1),(9,vi id1),(53,V.kb false),(52,vi (↑n2:Int)),(51,V.sl n2 (aa aU f2)),(50,V.pl 0 1),(49,vi id2),(7,vi id2),(39,V.kb false),(38,vi (↑n0:Int)),(37,V.sl n0 (aa aJ f0)),(36,V.pl 0 0),(35,vi id3),(5,vi id3),(34,V.kb false),(29,V.bool (bif bif decide (8<(↑n0:Int)) then true else decide (12<(↑n2:Int)) then true else decide (8<(↑n4:Int)))),(28,V.bool (bif bif decide (8<(↑n0:Int)) then true else decide (12<(↑n2:Int)) then true else decide (8<(↑n4:Int)))),(23,V.bool (bif decide (8<(↑n0:Int)) then true else decide (12<(↑n2:Int)))),(22,V.bool (bif decide (8<(↑n0:Int)) then true else decide (12<(↑n2:Int)))),(17,V.bool (decide (8<(↑n0:Int)))),(16,V.bool (decide (8<(↑n0:Int)))),(15,vi (↑n0:Int)),(14,V.sl n0 (aa aJ f0)),(13,V.pl 0 0),(4,vi 0),(3,vi 0),(2,vi 0),(1,V.pl 0 0),(0,wi n0 f0 n2 f2 n4 f4 n6 f6)],[O.cells [V.sl n0 (aa aJ f0),V.sl n2 (aa aU f2),V.sl n4 (aa aV f4),V.sl n6 (aa aH f6)] 31],none)
def apt:GZ->JJ
 |.L0 ia0=>(0,[])
 |.L1 ib0 ib1=>(1,[])
 |.L2 ic0 ic1 ic2=>(2,[])
 |.L3 id0 id1 id2 id3=>(3,[])
def akp:T (bO JJ):=aP JJ sJ u0 aqj [wi n0 f0 n2 f2 n4 f4 n6 f6]
def CK (cx:List Cx):Lp JJ:=eR (ej (akp n0 f0 n2 f2 n4 f4 n6 f6) [false])
def yaU (cx:List Cx):Lp JJ:=eR (ej (vX sJ u0 (0,[]) (CK n0 f0 n2 f2 n4 f4 n6 f6 []) (Fe n0 f0 n2 f2 n4 f4 n6 f6 (.L0 (0:Int)))) [false])
def Na (cx:List Cx):Lp JJ:=eR (ej (vX sJ u0 (1,[]) (yaU n0 f0 n2 f2 n4 f4 n6 f6 []) (Fe n0 f0 n2 f2 n4 f4 n6 f6 (.L1 (0:Int) (0:Int)))) [false])
def agj (cx:List Cx):Lp JJ:=eR (ej (vX sJ u0 (2,[]) (Na n0 f0 n2 f2 n4 f4 n6 f6 []) (Fe n0 f0 n2 f2 n4 f4 n6 f6 (.L2 (0:Int) (0:Int) (0:Int)))) [false])
def aoV:JJ->Lp JJ
 |(0,cx)=>CK n0 f0 n2 f2 n4 f4 n6 f6 cx
 |(1,cx)=>yaU n0 f0 n2 f2 n4 f4 n6 f6 cx
 |(2,cx)=>Na n0 f0 n2 f2 n4 f4 n6 f6 cx
 |(3,cx)=>agj n0 f0 n2 f2 n4 f4 n6 f6 cx
 |(_,cx)=>CK n0 f0 n2 f2 n4 f4 n6 f6 cx
def D24:LD JJ GZ:=⟨apt,aoV n0 f0 n2 f2 n4 f4 n6 f6,Fe n0 f0 n2 f2 n4 f4 n6 f6⟩
def vQ:GZ->RT GZ
 |.L0 ia0=>.am n0 (.br (decide (ia0<(↑n0:Int))) (.obp ((0:Int)<=ia0/\ia0<(↑n0:Int)/\n0<=(9223372036854775807:Nat)/\yaa n0 f0) (.obt (.br (Yw n0 (aa aJ f0) ia0 != 0) (.ret (V.tup [vi 1,vi ia0,vi (Yw n0 (aa aJ f0) ia0)])) (.next [some (some 0)] (GZ.L0 (wI (ia0+1))) [])))) (.enter [some (some 0)] (GZ.L1 (0) (ia0)) []))
 |.L1 ib0 ib1=>.am n2 (.br (decide (ib0<(↑n2:Int))) (.ob (decide (0<=ib0/\ib0<(↑n2:Int))) (.cb (.obi (.br (!!wk 2 (aa ae (bn [vi (ar (f2 ib0.toNat)),vi (aQ (f2 ib0.toNat))] 0 1))) (.ob (!!wk 2 (aa ae (bn [vi (ar (f2 ib0.toNat)),vi (aQ (f2 ib0.toNat))] 0 1))) (.cb (.iv (.iv (.ii (.obi (.br (bif bif bif !yac (ca (f2 ib0.toNat)) 1 20000 then true else decide (bW (f2 ib0.toNat)<0) then true else decide (db (f2 ib0.toNat)<=bW (f2 ib0.toNat)) then true else decide (1000<db (f2 ib0.toNat))) (.ret (V.tup [vi 2,vi ib0,vi 7])) (.next [some (some 0)] (GZ.L1 (wI (ib0+1)) (ib1)) [])))))))) (.ret (V.tup [vi 2,vi ib0,vi 7])))))) (.enter [some (some 0)] (GZ.L2 (0) (ib0) (ib1)) []))
 |.L2 ic0 ic1 ic2=>.am n4 (.br (decide (ic0<(↑n4:Int))) (.ob (decide (0<=ic0/\ic0<(↑n4:Int))) (.cb (.br ((Sv (ar (f4 ic0.toNat)) (aQ (f4 ic0.toNat)) (ca (f4 ic0.toNat)) (bW (f4 ic0.toNat)) (au (ap (ab (ab (ab (ab (f4 ic0.toNat))))))) fun i=>al je (aX (ap (ab (ab (ab (ab (f4 ic0.toNat)))))) i))!=0) (.ret (V.tup [vi 3,vi ic0,vi (Sv (ar (f4 ic0.toNat)) (aQ (f4 ic0.toNat)) (ca (f4 ic0.toNat)) (bW (f4 ic0.toNat)) (au (ap (ab (ab (ab (ab (f4 ic0.toNat))))))) fun i=>al je (aX (ap (ab (ab (ab (ab (f4 ic0.toNat)))))) i))])) (.next [some (some 0)] (GZ.L2 (wI (ic0+1)) (ic1) (ic2)) [])))) (.enter [some (some 0)] (GZ.L3 (0) (ic0) (ic1) (ic2)) []))
 |.L3 id0 id1 id2 id3=>.am n6 (.br (decide (id0<(↑n6:Int))) (.obp ((0:Int)<=id0/\id0<(↑n6:Int)/\n6<=(9223372036854775807:Nat)/\yaa n6 f6) (.obt (.br (VI n6 (aa aH f6) id0 != 0) (.ret (V.tup [vi 4,vi id0,vi (VI n6 (aa aH f6) id0)])) (.next [some (some 0)] (GZ.L3 (wI (id0+1)) (id1) (id2) (id3)) [])))) (.ret (V.tup [vi 0,vi 0,vi 0])))
def m24:RT GZ:=dm (f0,f2,f4,f6) (.am n0 (.ii (.asm ((!decide (8<(↑n0:Int)))=true->n2<=9223372036854775807) (.iv (.asm ((!bif decide (8<(↑n0:Int)) then true else decide (12<(↑n2:Int)))=true->n4<=9223372036854775807) (.iv (.asm ((!bif bif decide (8<(↑n0:Int)) then true else decide (12<(↑n2:Int)) then true else decide (8<(↑n4:Int)))=true->n6<=9223372036854775807) (.ii (.br (bif bif bif decide (8<(↑n0:Int)) then true else decide (12<(↑n2:Int)) then true else decide (8<(↑n4:Int)) then true else decide (24<(↑n6:Int))) (.ret (V.tup [vi 0,vi 0,vi 3])) (.enter [some (some 0)] (GZ.L0 (0)) []))))))))))
theorem alP:dD sJ u0 (D24 n0 f0 n2 f2 n4 f4 n6 f6) (akp n0 f0 n2 f2 n4 f4 n6 f6) (m24 n0 f0 n2 f2 n4 f4 n6 f6) (vQ n0 f0 n2 f2 n4 f4 n6 f6):=⟨⟨by kernel_rfl,by kernel_rfl⟩,fun s=>by cases s<;>exact⟨by kernel_rfl,by kernel_rfl⟩⟩
def Ja (t:Int×Int×Int):V:=.tup [vi t.1,vi t.2.1,vi t.2.2]
def Aj (x y a z w:Int):Int:=bif !!pA x y then(bif(bif bif bif !yac a 1 20000 then true else decide (z<0) then true else decide (w<=z) then true else decide (1000<w)) then 7 else 0) else 7
def wS (n:Nat) (c:Nat->Int) (k:Int) (z:Int×Int×Int):Int×Int×Int:=bif dw n c != 0 then(k,eZ n c,dw n c) else z
def cR (i:Nat):Int:=Yw n0 (aa aJ f0) (i:Int)
def cT (i:Nat):Int:=Aj (ar (f2 i)) (aQ (f2 i)) (ca (f2 i)) (bW (f2 i)) (db (f2 i))
def cF (i:Nat):Int:=Sv (ar (f4 i)) (aQ (f4 i)) (ca (f4 i)) (bW (f4 i)) (au (ap (ab (ab (ab (ab (f4 i))))))) fun j=>al je (aX (ap (ab (ab (ab (ab (f4 i)))))) j)
def cC (i:Nat):Int:=VI n6 (aa aH f6) (i:Int)
def z3:Int×Int×Int:=wS n6 (cC n6 f6) 4 (0,0,0)
def z2:Int×Int×Int:=wS n4 (cF f4) 3 (z3 n6 f6)
def z1:Int×Int×Int:=wS n2 (cT f2) 2 (z2 n4 f4 n6 f6)
def I5 (n0:Nat) (f0:aN) (n2:Nat) (f2:aN) (n4:Nat) (f4:aN) (n6:Nat) (f6:aN):Bool:=bif bif bif decide (8<(n0:Int)) then true else decide (12<(n2:Int)) then true else decide (8<(n4:Int)) then true else decide (24<(n6:Int))
def Zj:Int×Int×Int:=bif I5 n0 f0 n2 f2 n4 f4 n6 f6 then(0,0,3) else wS n0 (cR n0 f0) 1 (z1 n2 f2 n4 f4 n6 f6)
def J1:Int:=(Zj n0 f0 n2 f2 n4 f4 n6 f6).1
def PE:Int:=(Zj n0 f0 n2 f2 n4 f4 n6 f6).2.1
def ef:Int:=(Zj n0 f0 n2 f2 n4 f4 n6 f6).2.2
theorem i6 {n:Nat} {c:Nat->Int} {i:Nat} (k:Int) (z:Int×Int×Int) (hi:i<n) (hc:(c i != 0)=true) (h:∀ j,j<i->(c j != 0)=false):wS n c k z=(k,(i:Int),c i):=by
 unfold wS
 obtain ⟨e1,e2⟩:=cu hi hc h
 rw [e1,e2,hc];rfl
theorem jY {n:Nat} {c:Nat->Int} (k:Int) (z:Int×Int×Int) (h:∀ j,j<n->(c j != 0)=false):wS n c k z=z:=by
 unfold wS
 obtain ⟨e1,e2⟩:=fR h
 rw [e1,e2];rfl
section
variable (hs:yaa n6 f6) (i1:Int)
include hs i1
theorem ala (i2 i3:Int):Ev (vQ n0 f0 n2 f2 n4 f4 n6 f6) (.L3 0 i1 i2 i3) (Ja (z3 n6 f6)):=by
 by_cases hn:n6<=9223372036854775807
 ·refine iA (n:=n6) hn (fun i=>cC n6 f6 i != 0) (P:=fun i=>Ev (vQ n0 f0 n2 f2 n4 f4 n6 f6) (.L3 i i1 i2 i3) _) (fun i hlt hj next=>Ev.of rfl (evAsm fun _=>cr hlt (evObp ⟨by omega,by omega,hn,hs⟩ (evObt (evBr (fun hb=>evRet ?_) (fun hb=>aK (next hb))))))) (fun hj=>Ev.of rfl (evAsm fun _=>ck (evRet ?_)))
  ·unfold z3;rw[i6 4 _ hlt hb hj];rfl
  ·unfold z3;rw[jY 4 _ hj];rfl
 ·exact Ev.of rfl (evAsm fun h=>absurd (h rfl) hn)
theorem amK (i2:Int):Ev (vQ n0 f0 n2 f2 n4 f4 n6 f6) (.L2 0 i1 i2) (Ja (z2 n4 f4 n6 f6)):=by
 by_cases hn:n4<=9223372036854775807
 ·refine iA (n:=n4) hn (fun i=>cF f4 i != 0) (P:=fun i=>Ev (vQ n0 f0 n2 f2 n4 f4 n6 f6) (.L2 i i1 i2) _) (fun i hlt hj next=>Ev.of rfl (evAsm fun _=>cr hlt (b7 hlt (aw (evObt (evBr (fun hb=>evRet ?_) (fun hb=>aK (next hb)))))))) (fun hj=>Ev.of rfl (evAsm fun _=>ck (aF ?_)))
  ·unfold z2;rw[i6 3 _ hlt hb hj];rfl
  ·unfold z2;rw[jY 3 _ hj];exact ala n0 f0 n2 f2 n4 f4 n6 f6 hs _ _ _
 ·exact Ev.of rfl (evAsm fun h=>absurd (h rfl) hn)
theorem aj0:Ev (vQ n0 f0 n2 f2 n4 f4 n6 f6) (.L1 0 i1) (Ja (z1 n2 f2 n4 f4 n6 f6)):=by
 by_cases hn:n2<=9223372036854775807
 ·refine iA (n:=n2) hn (fun i=>cT f2 i != 0) (P:=fun i=>Ev (vQ n0 f0 n2 f2 n4 f4 n6 f6) (.L1 i i1) _) (fun i hlt hj next=>Ev.of rfl (evAsm fun _=>cr hlt (b7 hlt (aw (evObt (evObi (evBr (fun h=>aE h (aw (evObt ?_))) (fun h=>evRet ?_)))))))) (fun hj=>Ev.of rfl (evAsm fun _=>ck (aF ?_)))
  ·repeat refine evObi ?_
   refine evBr (fun hb=>evRet ?_) (fun hb=>aK (next ?_))
   ·have e:cT f2 i=7:=by
     unfold cT Aj
     rw [show(!!pA (ar (f2 i)) (aQ (f2 i)))=true from h]
     exact (congrArg (fun c=>bif c then(7:Int) else 0) hb).trans rfl
    unfold z1;rw[i6 2 _ hlt (by rw[e];rfl) hj,e];rfl
   ·have e:cT f2 i=0:=by
     unfold cT Aj
     rw [show(!!pA (ar (f2 i)) (aQ (f2 i)))=true from h]
     exact (congrArg (fun c=>bif c then(7:Int) else 0) hb).trans rfl
    rw [e];rfl
  ·have e:cT f2 i=7:=by
    unfold cT Aj
    rw [show(!!pA (ar (f2 i)) (aQ (f2 i)))=false from h];rfl
   unfold z1;rw[i6 2 _ hlt (by rw[e];rfl) hj,e];rfl
  ·unfold z1;rw[jY 2 _ hj];exact amK n0 f0 n2 f2 n4 f4 n6 f6 hs _ _
 ·exact Ev.of rfl (evAsm fun h=>absurd (h rfl) hn)
end
theorem akG (hr:yaa n0 f0) (hs:yaa n6 f6):Ev (vQ n0 f0 n2 f2 n4 f4 n6 f6) (.L0 0) (Ja (wS n0 (cR n0 f0) 1 (z1 n2 f2 n4 f4 n6 f6))):=by
 by_cases hn:n0<=9223372036854775807
 ·refine iA (n:=n0) hn (fun i=>cR n0 f0 i != 0) (P:=fun i=>Ev (vQ n0 f0 n2 f2 n4 f4 n6 f6) (.L0 i) _) (fun i hlt hj next=>Ev.of rfl (evAsm fun _=>cr hlt (evObp ⟨by omega,by omega,hn,hr⟩ (evObt (evBr (fun hb=>evRet ?_) (fun hb=>aK (next hb))))))) (fun hj=>Ev.of rfl (evAsm fun _=>ck (aF ?_)))
  ·rw[i6 1 _ hlt hb hj];rfl
  ·rw[jY 1 _ hj];exact aj0 n0 f0 n2 f2 n4 f4 n6 f6 hs _
 ·exact Ev.of rfl (evAsm fun h=>absurd (h rfl) hn)
theorem adR (hp:yaa n0 f0/\yaa n6 f6):aR (Ev (vQ n0 f0 n2 f2 n4 f4 n6 f6)) (m24 n0 f0 n2 f2 n4 f4 n6 f6) (.tup [vi (J1 n0 f0 n2 f2 n4 f4 n6 f6),vi (PE n0 f0 n2 f2 n4 f4 n6 f6),vi (ef n0 f0 n2 f2 n4 f4 n6 f6)]):=by
 show aR _ _ (Ja (Zj n0 f0 n2 f2 n4 f4 n6 f6))
 unfold Zj
 repeat (first|refine evObi ?_|refine evAsm fun _=>?_)
 refine evBr (fun h=>evRet ?_) (fun h=>aF ?_)
 ·rw[show I5 n0 f0 n2 f2 n4 f4 n6 f6=true from h];rfl
 ·rw[show I5 n0 f0 n2 f2 n4 f4 n6 f6=false from h];exact akG n0 f0 n2 f2 n4 f4 n6 f6 hp.1 hp.2
theorem aoY (hp:yaa n0 (aa aJ f0)/\yaa n6 (aa aH f6)):aR (Ev (vQ n0 f0 n2 f2 n4 f4 n6 f6)) (m24 n0 f0 n2 f2 n4 f4 n6 f6) (.tup [vi (J1 n0 (aa aJ f0) n2 (aa aU f2) n4 (aa aV f4) n6 (aa aH f6)),vi (PE n0 (aa aJ f0) n2 (aa aU f2) n4 (aa aV f4) n6 (aa aH f6)),vi (ef n0 (aa aJ f0) n2 (aa aU f2) n4 (aa aV f4) n6 (aa aH f6))]):=adR n0 f0 n2 f2 n4 f4 n6 f6 hp
def C24:aB:=bF [.agg [.sl aJ,.sl aU,.sl aV,.sl aH]] (fun
 |[.agg [.sl n0 f0,.sl n2 f2,.sl n4 f4,.sl n6 f6]]=>yaa n0 f0/\yaa n6 f6
 |_=>False) fun
 |[.agg [.sl n0 f0,.sl n2 f2,.sl n4 f4,.sl n6 f6]]=>.tup [vi (J1 n0 f0 n2 f2 n4 f4 n6 f6),vi (PE n0 f0 n2 f2 n4 f4 n6 f6),vi (ef n0 f0 n2 f2 n4 f4 n6 f6)]
 |_=>.any
theorem acU:(vP C24).Ok Tryz.prog 64:=bV Do Tryz.func64 (by kernel_rfl) fun ds hp=>iS (alP ..) (aoY _ _ _ _ _ _ _ _ hp)
def m23:RT Empty:=.am n0 (.ii (.asm ((!decide (8<(↑n0:Int)))=true->n2<=9223372036854775807) (.iv (.asm ((!bif decide (8<(↑n0:Int)) then true else decide (12<(↑n2:Int)))=true->n4<=9223372036854775807) (.iv (.asm ((!bif bif decide (8<(↑n0:Int)) then true else decide (12<(↑n2:Int)) then true else decide (8<(↑n4:Int)))=true->n6<=9223372036854775807) (.ii (.br (bif bif bif decide (8<(↑n0:Int)) then true else decide (12<(↑n2:Int)) then true else decide (8<(↑n4:Int)) then true else decide (24<(↑n6:Int))) (.ret (V.tup [vi 0,vi 0,vi 3])) (.obp (yaa n0 f0) (.obt (.br (oD n0 (aa aJ f0)!=0) (.ret (V.tup [vi 1,vi (xu n0 (aa aJ f0)),vi (oD n0 (aa aJ f0))])) (.cb (.br (ox n2 (aa aU f2)!=0) (.ret (V.tup [vi 2,vi (ww n2 (aa aU f2)),vi (ox n2 (aa aU f2))])) (.cb (.br (nZ n4 (aa aV f4)!=0) (.ret (V.tup [vi 3,vi (w5 n4 (aa aV f4)),vi (nZ n4 (aa aV f4))])) (.obp (yaa n6 f6) (.obt (.br (oe n6 (aa aH f6)!=0) (.ret (V.tup [vi 4,vi (xz n6 (aa aH f6)),vi (oe n6 (aa aH f6))])) (.ret (V.tup [vi 0,vi 0,vi 0]))))))))))))))))))))
theorem ajP:cJ cL (aP JJ sJ u0 aq0 [wi n0 f0 n2 f2 n4 f4 n6 f6]) (m23 n0 f0 n2 f2 n4 f4 n6 f6):=⟨by kernel_rfl,by kernel_rfl⟩
def kI:Int:=bif bif bif bif decide (8<(↑n0:Int)) then true else decide (12<(↑n2:Int)) then true else decide (8<(↑n4:Int)) then true else decide (24<(↑n6:Int)) then 0 else bif oD n0 (aa aJ f0)!=0 then 1 else bif ox n2 (aa aU f2)!=0 then 2 else bif nZ n4 (aa aV f4)!=0 then 3 else bif oe n6 (aa aH f6)!=0 then 4 else 0
def kE:Int:=bif bif bif bif decide (8<(↑n0:Int)) then true else decide (12<(↑n2:Int)) then true else decide (8<(↑n4:Int)) then true else decide (24<(↑n6:Int)) then 0 else bif oD n0 (aa aJ f0)!=0 then xu n0 (aa aJ f0) else bif ox n2 (aa aU f2)!=0 then ww n2 (aa aU f2) else bif nZ n4 (aa aV f4)!=0 then w5 n4 (aa aV f4) else bif oe n6 (aa aH f6)!=0 then xz n6 (aa aH f6) else 0
def g8:Int:=bif bif bif bif decide (8<(↑n0:Int)) then true else decide (12<(↑n2:Int)) then true else decide (8<(↑n4:Int)) then true else decide (24<(↑n6:Int)) then 3 else bif oD n0 (aa aJ f0)!=0 then oD n0 (aa aJ f0) else bif ox n2 (aa aU f2)!=0 then ox n2 (aa aU f2) else bif nZ n4 (aa aV f4)!=0 then nZ n4 (aa aV f4) else bif oe n6 (aa aH f6)!=0 then oe n6 (aa aH f6) else 0
def R23:V:=.tup [vi (kI n0 f0 n2 f2 n4 f4 n6 f6),vi (kE n0 f0 n2 f2 n4 f4 n6 f6),vi (g8 n0 f0 n2 f2 n4 f4 n6 f6)]
theorem aqh (hp:yaa n0 f0/\yaa n6 f6):aR cq (m23 n0 f0 n2 f2 n4 f4 n6 f6) (R23 n0 f0 n2 f2 n4 f4 n6 f6):=evAsm (fun a0=>evObi (evObi (evAsm (fun a0=>evObi (evObi (evObi (evObi (evAsm (fun a0=>evObi (evObi (evObi (evObi (evAsm (fun a0=>evObi (evObi (evBr (fun h0=>evRet (by unfold R23 kI kE g8;try rw[h0];rfl)) (fun h0=>evObp (by first|assumption|((first|exact hp.1|exact hp.2))) (evObt (evBr (fun h1=>evRet (by unfold R23 kI kE g8;try rw[h0];try rw[h1];rfl)) (fun h1=>aw (evObt (evBr (fun h2=>evRet (by unfold R23 kI kE g8;try rw[h0];try rw[h1];try rw[h2];rfl)) (fun h2=>aw (evObt (evBr (fun h3=>evRet (by unfold R23 kI kE g8;try rw[h0];try rw[h1];try rw[h2];try rw[h3];rfl)) (fun h3=>evObp (by first|assumption|((first|exact hp.1|exact hp.2))) (evObt (evBr (fun h4=>evRet (by unfold R23 kI kE g8;try rw[h0];try rw[h1];try rw[h2];try rw[h3];try rw[h4];rfl)) (fun h4=>evRet (by unfold R23 kI kE g8;try rw[h0];try rw[h1];try rw[h2];try rw[h3];try rw[h4];rfl))))))))))))))))))))))))))))))
def C23:aB:=bF [.agg [.sl aJ,.sl aU,.sl aV,.sl aH]] (fun
 |[.agg [.sl n0 f0,.sl n2 f2,.sl n4 f4,.sl n6 f6]]=>yaa n0 f0/\yaa n6 f6
 |_=>False) fun
 |[.agg [.sl n0 f0,.sl n2 f2,.sl n4 f4,.sl n6 f6]]=>R23 n0 f0 n2 f2 n4 f4 n6 f6
 |_=>.any
theorem Xw:(vP C23).Ok Tryz.prog 60:=bV Do Tryz.func60 (by kernel_rfl) fun ds hp=>cQ (ajP ..) (aqh _ _ _ _ _ _ _ _ hp)
def Bo:bj:=(64,.con C24)::(60,.con C23)::sJ
theorem D5:aW Tryz.prog eqs its Bo:=.con acU (.con Xw (Do))
inductive WV where
 |L0 (ia0 ia1:Int)
def alC:WV->bz×List O×Option Ex
 |.L0 ia0 ia1=>([(8,vi ia0),(7,vi ia1),(6,vi (kE n0 (aa aJ f0) n2 (aa aU f2) n4 (aa aV f4) n6 (aa aH f6))),(5,vi (kI n0 (aa aJ f0) n2 (aa aU f2) n4 (aa aV f4) n6 (aa aH f6))),(14,vi (g8 n0 (aa aJ f0) n2 (aa aU f2) n4 (aa aV f4) n6 (aa aH f6))),(13,vi (kE n0 (aa aJ f0) n2 (aa aU f2) n4 (aa aV f4) n6 (aa aH f6))),(12,vi (kI n0 (aa aJ f0) n2 (aa aU f2) n4 (aa aV f4) n6 (aa aH f6))),(9,V.tup [vi (kI n0 (aa aJ f0) n2 (aa aU f2) n4 (aa aV f4) n6 (aa aH f6)),vi (kE n0 (aa aJ f0) n2 (aa aU f2) n4 (aa aV f4) n6 (aa aH f6)),vi (g8 n0 (aa aJ f0) n2 (aa aU f2) n4 (aa aV f4) n6 (aa aH f6))]),(11,V.tup [vi (kI n0 (aa aJ f0) n2 (aa aU f2) n4 (aa aV f4) n6 (aa aH f6)),vi (kE n0 (aa aJ f0) n2 (aa aU f2) n4 (aa aV f4) n6 (aa aH f6)),vi (g8 n0 (aa aJ f0) n2 (aa aU f2) n4 (aa aV f4) n6 (aa aH f6))]),(10,wi n0 f0 n2 f2 n4 f4 n6 f6),(4,vi 0),(2,V.pl 0 0),(0,wi n0 f0 n2 f2 n4 f4 n6 f6),(1,V.sl n8 (aa ae f8))],[O.cells [V.sl n0 (aa aJ f0),V.sl n2 (aa aU f2),V.sl n4 (aa aV f4),V.sl n6 (aa aH f6)] 31],none)
def aoZ:WV->JJ
 |.L0 ia0 ia1=>(0,[])
def ajY:T (bO JJ):=aP JJ Bo u0 alO [wi n0 f0 n2 f2 n4 f4 n6 f6,V.sl n8 (aa ae f8)]
def KY (cx:List Cx):Lp JJ:=eR (ej (ajY n0 f0 n2 f2 n4 f4 n6 f6 n8 f8) [])
def aqu:JJ->Lp JJ
 |(0,cx)=>KY n0 f0 n2 f2 n4 f4 n6 f6 n8 f8 cx
 |(_,cx)=>KY n0 f0 n2 f2 n4 f4 n6 f6 n8 f8 cx
def D44:LD JJ WV:=⟨aoZ,aqu n0 f0 n2 f2 n4 f4 n6 f6 n8 f8,alC n0 f0 n2 f2 n4 f4 n6 f6 n8 f8⟩
def IH (n0:Nat) (f0:aN) (n2:Nat) (f2:aN) (n4:Nat) (f4:aN) (n6:Nat) (f6:aN) (n8:Nat) (f8:aN):WV->RT WV
 |.L0 ia0 ia1=>.am n8 (.ii (.br (bif decide (ia0<(↑n8:Int)) then ia1==0 else false) (.ob (decide (0<=ia0/\ia0<(↑n8:Int))) (.ob (decide (0<=wI (ia0+1)/\wI (ia0+1)<(↑n8:Int))) (.cb (.br (bq (ar (f8 ia0.toNat)) 0 (wI (ar (f8 (wI (ia0+1)).toNat)-1))) (.next [some (some 0)] (WV.L0 (wI (ia0+2)) (4)) []) (.next [some (some 0)] (WV.L0 (wI (ia0+2)) (ia1)) []))))) (.ret (vi ia1))))
def m44:RT WV:=dm (n8,f8) (.obp ((yaa n0 f0)/\yaa n6 f6) (.obt (.enter [some (some 0)] (WV.L0 (0) (g8 n0 (aa aJ f0) n2 (aa aU f2) n4 (aa aV f4) n6 (aa aH f6))) [])))
theorem amJ:dD Bo u0 (D44 n0 f0 n2 f2 n4 f4 n6 f6 n8 f8) (ajY n0 f0 n2 f2 n4 f4 n6 f6 n8 f8) (m44 n0 f0 n2 f2 n4 f4 n6 f6 n8 f8) (IH n0 f0 n2 f2 n4 f4 n6 f6 n8 f8):=⟨⟨by kernel_rfl,by kernel_rfl⟩,fun s=>by cases s<;>exact⟨by kernel_rfl,by kernel_rfl⟩⟩
def zB (k:Nat):Bool:=bq (ar (f8 (2*k))) 0 (wI (ar (f8 (2*k+1))-1))
def DN (e:Int):Int:=bif e==0 then(bif jh (n8 / 2) (zB f8) then 4 else 0) else e
def jO:Int:=DN n8 f8 (g8 n0 (aa aJ f0) n2 (aa aU f2) n4 (aa aV f4) n6 (aa aH f6))
theorem aad (i e:Int) (he:(e==0)=false):Ev (IH n0 f0 n2 f2 n4 f4 n6 f6 n8 f8) (.L0 i e) (vi e):=Ev.of rfl (evAsm fun _=>evObi (evObi (ed (by rw[he];cases decide (i<(n8:Int))<;>rfl) (evRet rfl))))
theorem al3 (hm:n8 % 2=0) (hn:n8<=100):∀ k:Nat,k<=n8 / 2->(∀ j,j<k->zB f8 j=false)->Ev (IH n0 f0 n2 f2 n4 f4 n6 f6 n8 f8) (.L0 ((2*k:Nat):Int) 0) (vi (bif jh (n8 / 2) (zB f8) then 4 else 0)):=by
 refine cO fun k hk ih hj=>Ev.of rfl (evAsm fun _=>evObi (evObi (evBr (fun h=>?_) (fun h=>?_))))
 ·have hlt:2*k<n8:=by
   by_cases hh:((2*k:Nat):Int)<(n8:Int)
   ·omega
   ·rw[gx hh]at h;cases h
  have w1:wI (((2*k:Nat):Int)+1)=((2*k+1:Nat):Int):=by rw[wrapI (by omega) (by omega)];omega
  have w2:wI (((2*k:Nat):Int)+2)=((2*(k+1):Nat):Int):=by rw[wrapI (by omega) (by omega)];omega
  refine aE (dqt (by omega)) (aE (dqt (by rw[w1];omega)) (aw (evObt (evBr (fun hb=>aK ?_) (fun hb=>aK ?_)))))
  ·rw[w1]at hb
   simp only [Int.toNat_natCast]at hb
   rw [cn (p:=zB f8) k (by omega) hb,cond_true]
   exact aad n0 f0 n2 f2 n4 f4 n6 f6 n8 f8 _ 4 rfl
  ·rw[w1]at hb
   simp only [Int.toNat_natCast]at hb
   rw [w2]
   refine ih (by omega) (fun j h3=>?_)
   by_cases e:j=k
   ·subst e;exact hb
   ·exact hj j (by omega)
 ·have e:k=n8 / 2:=by
   by_cases hh:((2*k:Nat):Int)<(n8:Int)
   ·rw[dqt hh]at h;cases h
   ·omega
  rw [show jh (n8 / 2) (zB f8)=false from b8 fun j h=>hj j (by omega)]
  exact evRet rfl
theorem akm (hm:n8 % 2=0) (hn:n8<=100) (e:Int):Ev (IH n0 f0 n2 f2 n4 f4 n6 f6 n8 f8) (.L0 0 e) (vi (DN n8 f8 e)):=by
 unfold DN
 cases he:e==0 with
 |false=>exact aad n0 f0 n2 f2 n4 f4 n6 f6 n8 f8 0 e he
 | true =>
   have:e=0:=eq_of_beq he
   subst this
   exact al3 n0 f0 n2 f2 n4 f4 n6 f6 n8 f8 hm hn 0 (by omega) (fun j h=>by omega)
theorem agw (hp:(yaa n0 f0/\yaa n6 f6)/\n8 % 2=0/\n8<=100):aR (Ev (IH n0 f0 n2 f2 n4 f4 n6 f6 n8 f8)) (m44 n0 f0 n2 f2 n4 f4 n6 f6 n8 f8) (vi (jO n0 f0 n2 f2 n4 f4 n6 f6 n8 f8)):=evObp hp.1 (evObt (aF (akm n0 f0 n2 f2 n4 f4 n6 f6 n8 f8 hp.2.1 hp.2.2 _)))
theorem aoC (hp:(yaa n0 (aa aJ f0)/\yaa n6 (aa aH f6))/\n8 % 2=0/\n8<=100):aR (Ev (IH n0 f0 n2 f2 n4 f4 n6 f6 n8 f8)) (m44 n0 f0 n2 f2 n4 f4 n6 f6 n8 f8) (vi (jO n0 (aa aJ f0) n2 (aa aU f2) n4 (aa aV f4) n6 (aa aH f6) n8 (aa ae f8))):=agw n0 f0 n2 f2 n4 f4 n6 f6 n8 f8 hp
def C44:aB:=bF [.agg [.sl aJ,.sl aU,.sl aV,.sl aH],.sl ae] (fun
 |[.agg [.sl n0 f0,.sl n2 f2,.sl n4 f4,.sl n6 f6],.sl n8 f8]=>(yaa n0 f0/\yaa n6 f6)/\n8 % 2=0/\n8<=100
 |_=>False) fun
 |[.agg [.sl n0 f0,.sl n2 f2,.sl n4 f4,.sl n6 f6],.sl n8 f8]=>vi (jO n0 f0 n2 f2 n4 f4 n6 f6 n8 f8)
 |_=>.any
theorem agd:(vP C44).Ok Tryz.prog 81:=bV D5 Tryz.func81 (by kernel_rfl) fun ds hp=>iS (amJ ..) (aoC _ _ _ _ _ _ _ _ _ _ hp)
def m91:RT Empty:=.obp ((yaa n0 f0)/\yaa n6 f6) (.obt (.ret (vi (ef n0 (aa aJ f0) n2 (aa aU f2) n4 (aa aV f4) n6 (aa aH f6)))))
theorem akR:cJ cL (aP JJ Bo u0 aoJ [wi n0 f0 n2 f2 n4 f4 n6 f6]) (m91 n0 f0 n2 f2 n4 f4 n6 f6):=⟨by kernel_rfl,by kernel_rfl⟩
def pW:Int:=ef n0 (aa aJ f0) n2 (aa aU f2) n4 (aa aV f4) n6 (aa aH f6)
def R91:V:=vi (pW n0 f0 n2 f2 n4 f4 n6 f6)
theorem aqR (hp:yaa n0 f0/\yaa n6 f6):aR cq (m91 n0 f0 n2 f2 n4 f4 n6 f6) (R91 n0 f0 n2 f2 n4 f4 n6 f6):=evObp (by first|assumption|(exact hp)) (evObt (evRet (by unfold R91 pW;rfl)))
def C91:aB:=bF [.agg [.sl aJ,.sl aU,.sl aV,.sl aH]] (fun
 |[.agg [.sl n0 f0,.sl n2 f2,.sl n4 f4,.sl n6 f6]]=>yaa n0 f0/\yaa n6 f6
 |_=>False) fun
 |[.agg [.sl n0 f0,.sl n2 f2,.sl n4 f4,.sl n6 f6]]=>R91 n0 f0 n2 f2 n4 f4 n6 f6
 |_=>.any
theorem adD:(vP C91).Ok Tryz.prog 228:=bV D5 Tryz.func228 (by kernel_rfl) fun ds hp=>cQ (akR ..) (aqR _ _ _ _ _ _ _ _ hp)
def B4:bj:=(81,.con C44)::(228,.con C91)::Bo
theorem yR:aW Tryz.prog eqs its B4:=.con agd (.con adD (D5))
def m50:RT Empty:=.obp ((yaa n0 f0)/\yaa n6 f6) (.obt (.iv (.ii (.obi (.br (bif pW n0 (aa aJ f0) n2 (aa aU f2) n4 (aa aV f4) n6 (aa aH f6)==0 then bif decide (x8<0) then true else decide (x9<=x8) else false) (.ret (vi 4)) (.ret (vi (pW n0 (aa aJ f0) n2 (aa aU f2) n4 (aa aV f4) n6 (aa aH f6)))))))))
theorem amP:cJ cL (aP JJ B4 u0 ao7 [wi n0 f0 n2 f2 n4 f4 n6 f6,vi x8,vi x9]) (m50 n0 f0 n2 f2 n4 f4 n6 f6 x8 x9):=⟨by kernel_rfl,by kernel_rfl⟩
def cN:Int:=bif bif pW n0 (aa aJ f0) n2 (aa aU f2) n4 (aa aV f4) n6 (aa aH f6)==0 then bif decide (x8<0) then true else decide (x9<=x8) else false then 4 else pW n0 (aa aJ f0) n2 (aa aU f2) n4 (aa aV f4) n6 (aa aH f6)
def R50:V:=vi (cN n0 f0 n2 f2 n4 f4 n6 f6 x8 x9)
theorem ao9 (hp:yaa n0 f0/\yaa n6 f6):aR cq (m50 n0 f0 n2 f2 n4 f4 n6 f6 x8 x9) (R50 n0 f0 n2 f2 n4 f4 n6 f6 x8 x9):=evObp (by first|assumption|(exact hp)) (evObt (evObi (evObi (evObi (evObi (evObi (evObi (evObi (evBr (fun h0=>evRet (by unfold R50 cN;try rw[h0];rfl)) (fun h0=>evRet (by unfold R50 cN;try rw[h0];rfl)))))))))))
def C50:aB:=bF [.agg [.sl aJ,.sl aU,.sl aV,.sl aH],tI,tI] (fun
 |[.agg [.sl n0 f0,.sl n2 f2,.sl n4 f4,.sl n6 f6],.int _ x8,.int _ x9]=>yaa n0 f0/\yaa n6 f6
 |_=>False) fun
 |[.agg [.sl n0 f0,.sl n2 f2,.sl n4 f4,.sl n6 f6],.int _ x8,.int _ x9]=>R50 n0 f0 n2 f2 n4 f4 n6 f6 x8 x9
 |_=>.any
theorem aiF:(vP C50).Ok Tryz.prog 171:=bV yR Tryz.func171 (by kernel_rfl) fun ds hp=>cQ (amP ..) (ao9 _ _ _ _ _ _ _ _ _ _ hp)
def m82:RT Empty:=.obp (nz 1000) (.obt (.obp (nz 1000) (.obt (.ret (V.tup [vi (pz (min (wI (wI (1000*x0)+wI (wI (x1-x0)*x2))) (wI (wI (1000*x0)+wI (wI (x1-x0)*x3)))) 1000),vi (wI (0-pz (wI (0-max (wI (wI (1000*x0)+wI (wI (x1-x0)*x2))) (wI (wI (1000*x0)+wI (wI (x1-x0)*x3))))) 1000))])))))
theorem ai5:cJ cL (aP JJ B4 u0 ape [vi x0,vi x1,vi x2,vi x3]) (m82 x0 x1 x2 x3):=⟨by kernel_rfl,by kernel_rfl⟩
def F82_0:Int:=pz (min (wI (wI (1000*x0)+wI (wI (x1-x0)*x2))) (wI (wI (1000*x0)+wI (wI (x1-x0)*x3)))) 1000
def F82_1:Int:=wI (0-pz (wI (0-max (wI (wI (1000*x0)+wI (wI (x1-x0)*x2))) (wI (wI (1000*x0)+wI (wI (x1-x0)*x3))))) 1000)
def R82:V:=.tup [vi (F82_0 x0 x1 x2 x3),vi (F82_1 x0 x1 x2 x3)]
theorem aqn:aR cq (m82 x0 x1 x2 x3) (R82 x0 x1 x2 x3):=evObp (by first|assumption|((intro h;cases h))) (evObt (evObp (by first|assumption|((intro h;cases h))) (evObt (evRet (by unfold R82 F82_0 F82_1;rfl)))))
def C82:aB:=bF je (fun _=>True) fun
 |[.int _ x0,.int _ x1,.int _ x2,.int _ x3]=>R82 x0 x1 x2 x3
 |_=>.any
theorem abq:(vP C82).Ok Tryz.prog 172:=bV yR Tryz.func172 (by kernel_rfl) fun ds hp=>cQ (ai5 ..) (aqn _ _ _ _)
def m80:RT Empty:=dm (x4,x5) (.obp (nz 1000) (.obt (.obp (nz 1000) (.obt (.ret (V.tup [vi (qx (min (wI (wI (1000*x0)+wI (wI (x1-x0)*x2))) (wI (wI (1000*x0)+wI (wI (x1-x0)*x3)))) 1000),vi (wI (0-qx (wI (0-max (wI (wI (1000*x0)+wI (wI (x1-x0)*x2))) (wI (wI (1000*x0)+wI (wI (x1-x0)*x3))))) 1000))]))))))
theorem ajl:cJ cL (aP JJ B4 u0 aqQ [vi x0,vi x1,V.pd [vi x2,vi x3,vi x4,vi x5]]) (m80 x0 x1 x2 x3 x4 x5):=⟨by kernel_rfl,by kernel_rfl⟩
def F80_0:Int:=qx (min (wI (wI (1000*x0)+wI (wI (x1-x0)*x2))) (wI (wI (1000*x0)+wI (wI (x1-x0)*x3)))) 1000
def F80_1:Int:=wI (0-qx (wI (0-max (wI (wI (1000*x0)+wI (wI (x1-x0)*x2))) (wI (wI (1000*x0)+wI (wI (x1-x0)*x3))))) 1000)
def R80:V:=dm (x4,x5) (.tup [vi (F80_0 x0 x1 x2 x3),vi (F80_1 x0 x1 x2 x3)])
theorem arl:aR cq (m80 x0 x1 x2 x3 x4 x5) (R80 x0 x1 x2 x3 x4 x5):=evObp (by first|assumption|((intro h;cases h))) (evObt (evObp (by first|assumption|((intro h;cases h))) (evObt (evRet (by unfold R80 F80_0 F80_1;rfl)))))
def C80:aB:=bF [tI,tI,.pd je] (fun _=>True) fun
 |[.int _ x0,.int _ x1,.pd [.int _ x2,.int _ x3,.int _ x4,.int _ x5]]=>R80 x0 x1 x2 x3 x4 x5
 |_=>.any
theorem adw:(vP C80).Ok Tryz.prog 82:=bV yR Tryz.func82 (by kernel_rfl) fun ds hp=>cQ (ajl ..) (arl _ _ _ _ _ _)
end
end Go.Dx
namespace Go.Dx
open Go.IntKind (i64 u64 u8)
open Go.Sx
noncomputable section
theorem yy {i:Int} {m:Nat} {f8:Nat->List V} {k:Nat} (hm:m<=9223372036854775807) (h1:ar (f8 (2*k))=i) (h2:ar (f8 (2*k+1))=(m:Int)) (h:zB f8 k=false):0<=i/\i<m:=by
 unfold zB bq at h
 rw [h1,h2,wrapI (by omega) (by omega)]at h
 cases hb:decide (i<0) with
 |true=>rw[hb]at h;cases h
 | false =>
   rw [hb,cond_false]at h
   have a:=of_decide_eq_false hb
   have b:=of_decide_eq_false h
   omega
theorem zm {n8:Nat} {f8:Nat->List V} {e:Int} (h:DN n8 f8 e=0):e=0/\∀ k,k<n8 / 2->zB f8 k=false:=by
 unfold DN at h
 cases he:e==0 with
 | false =>
   rw [he,cond_false]at h
   subst h;cases he
 | true =>
   rw [he,cond_true]at h
   refine ⟨eq_of_beq he,fun k hk=>?_⟩
   cases ho:zB f8 k with
   |false=>rfl
   |true=>rw[cn k hk ho]at h;cases h
section
variable {n0:Nat} {f0:Nat->List V} {n2:Nat} {f2:Nat->List V} {n4:Nat} {f4:Nat->List V} {n6:Nat} {f6:Nat->List V} {i j:Int} {m l:Nat}
theorem k44_2 (hm:m<=9223372036854775807) (h:jO n0 f0 n2 f2 n4 f4 n6 f6 2 (aa ae (bn [vi i,vi m] 0 1))=0):0<=i/\i<m :=
 yy (k:=0) hm rfl rfl ((zm h).2 0 (by omega))
theorem k44_4 (hm:m<=9223372036854775807) (hl:l<=9223372036854775807) (h:jO n0 f0 n2 f2 n4 f4 n6 f6 4 (aa ae (bn [vi i,vi m,vi j,vi l] 0 1))=0):(0<=i/\i<m)/\(0<=j/\j<l) :=
 ⟨yy (k:=0) hm rfl rfl ((zm h).2 0 (by omega)),yy (k:=1) hl rfl rfl ((zm h).2 1 (by omega))⟩
theorem k50 (h:cN n0 f0 n2 f2 n4 f4 n6 f6 i j=0):0<=i/\i<j:=by
 unfold cN at h
 generalize pW _ _ _ _ _ _ _ _=e at h
 cases he:e==0 with
 |false=>rw[he]at h;simp only[cond_false]at h;subst h;cases he
 | true =>
   rw [he,cond_true]at h
   cases hb:decide (i<0) with
   |true=>rw[hb]at h;cases h
   | false =>
     rw [hb,cond_false]at h
     cases hc:decide (j<=i) with
     |true=>rw[hc]at h;cases h
     |false=>have:=of_decide_eq_false hb;have:=of_decide_eq_false hc;omega
end
end
end Go.Dx
