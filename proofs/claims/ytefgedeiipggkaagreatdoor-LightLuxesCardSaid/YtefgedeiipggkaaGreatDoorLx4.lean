/- Part 4 of a proof. No conditions. -/
import Derived.Test.YtefgedeiipggkaaGreatDoorLx3
import Derived.Laws.StructEq
import Derived.ChangeKeysEq
import Derived.Test.YtefgedeiipggkaaGreatDoorChecked
import Derived.IntWalk
import Derived.WalkKit
import Derived.Ground.NamesProg
import Derived.Shelf.Strings.SlTrimAscii
set_option maxRecDepth 100000
set_option linter.unusedVariables false
set_option linter.unusedSimpArgs false
theorem bw {p:Prop} (h:p:=by kernel_rfl):p:=h
theorem bD {p Pw:Prop} (h:p:=by kernel_rfl) (k:Pw:=by kernel_rfl):p∧Pw:=⟨h,k⟩
namespace Go.Dx
open Go.Sx
inductive cq (J:Type) where|res (v:V)|head (j:J) (e:bS) (h:List Ax) (g:Option Ex)
structure Lp (J:Type) where
 fr:Nat×Nat
 body:AN
 k:Ex->bS->List Ax->Option Ex->Bh (cq J)
section
variable {α β:Type}
def gq:Bh α->(α->Bh β)->Bh β
 |.ret a,f=>f a|.br b x y,f=>.br b (gq x f) (gq y f)|.ob b x,f=>.ob b (gq x f)|.obi c d x,f=>.obi c d (gq x f)|.obp p x,f=>.obp p (gq x f)|.obq a b x,f=>.obq a b (gq x f)|.fail n,_=>.fail n|.loop fr b e h g k,f=>.loop fr b e h g λx e h g=>gq (k x e h g) f
 |.all t,f=>.all λl=>gq (t l) f
 |.und x y,f=>.und (gq x f) (gq y f)|.asm p x,f=>.asm p (gq x f)
theorem Run {LP:fD} {Q2:β->Prop} (f:α->Bh β):∀ t:Bh α,bT LP (gq t f) Q2=bT LP t λa=>bT LP (f a) Q2:=by
 intro t;induction t with
 |ret a=>rfl|br b x y hx hy=>simp[gq,bT,hx,hy]|ob b x hx=>simp[gq,bT,hx]|obi c d x hx=>simp[gq,bT,hx]|obp p x hx=>simp[gq,bT,hx]|obq a b x hx=>simp[gq,bT,hx]|fail n=>rfl|loop fr b e h g k hk=>simp[gq,bT,hk]|all t ht=>simp[gq,bT,ht]|und x y hx hy=>simp[gq,bT,hx,hy]|asm p x hx=>simp[gq,bT,hx]
theorem lJ {LP:fD} (hLP:∀ fr b e h g (P P':Ex->bS->List Ax->Option Ex->Prop),(∀ x e h g,P x e h g->P' x e h g)->LP fr b e h g P->LP fr b e h g P') {Q2 Q':α->Prop} (hQ:∀ a,Q2 a->Q' a):∀ t:Bh α,bT LP t Q2->bT LP t Q':=by
 intro t;induction t with
 |ret a=>exact hQ a|br b x y hx hy=>exact λh=>⟨λe=>hx (h.1 e),λe=>hy (h.2 e)⟩
 |ob b x hx=>exact λh=>⟨h.1,hx h.2⟩
 |obi c d x hx=>exact λh=>⟨h.1,hx h.2⟩
 |obp p x hx=>exact λh=>⟨h.1,hx h.2⟩
 |obq a b x hx=>exact λh=>⟨h.1,hx h.2⟩
 |fail n=>exact id|loop fr b e h g k hk=>exact λhs=>hLP _ _ _ _ _ _ _ (λx e h g=>hk x e h g) hs
 |all t ht=>exact λh l=>ht l (h l)
 |und x y hx hy=>exact λh=>⟨hx h.1,hy h.2⟩
 |asm p x hx=>exact λh hp=>hx (h hp)
theorem iC (w0:World) (Q1:D6):∀ fr b e h g (P P':Ex->bS->List Ax->Option Ex->Prop),(∀ x e h g,P x e h g->P' x e h g)->dN w0 Q1 fr b e h g P->dN w0 Q1 fr b e h g P':=by
 intro fr b e h g P P' hP;cases b with
 |s body=>exact λhl QG nbS ν nV nS sl lh QA M N h3 h4=>hl QG nbS ν nV nS sl lh QA M N h3 λex e' h' ν' sl' lh' nV' nS' g0 g1 g2 g3=>h4 ex e' h' ν' sl' lh' nV' nS' g0 g1 g2 (hP _ _ _ _ g3)
 |i body rd=>exact λhl QG N0 ν nV nS sl S9 lh QA M N h3 h4 h5 h6 h7 h8=>hl QG N0 ν nV nS sl S9 lh QA M N h3 h4 h5 h6 h7 λex e' h' g' ν' sl' lh' nV' nS' g0 g1 g2 g3=>h8 ex e' h' g' ν' sl' lh' nV' nS' g0 g1 g2 (hP _ _ _ _ g3)
end
mutual
def me (ρ:o8):V->V->V
 |.any,_=>.any|.int _ _,.int k a=>.int k a|.bool _,.bool a=>.bool a|.bool _,.kb a=>.bool a|.kb _,.kb a=>.kb a|.str _,.str a=>.str a|.agg ys,.agg xs=>.agg (mG ρ ys xs)|.tup ys,.tup xs=>.tup (mG ρ ys xs)|.fn _ us vs,.fn f xs ys=>.fn f (mG ρ us xs) (mG ρ vs ys)|.sl _ _,.sl n f=>.sl n f|.pd _,.pd cs=>.pd cs
 |.pl k1 _,.pl k o=>match ef ρ k1 with|some (some k')=>cond (Nat.beq k' k) (.pl k1 o) .any|_=>.any
 |.pe k1 _ _,.pe k i j=>match ef ρ k1 with|some (some k')=>cond (Nat.beq k' k) (.pe k1 i j) .any|_=>.any
 |.ss k1 _ _ _,.ss k o n c=>match ef ρ k1 with|some (some k')=>cond (Nat.beq k' k) (.ss k1 o n c) .any|_=>.any
 |.gs k1 _,.gs k n=>match ef ρ k1 with|some (some k')=>cond (Nat.beq k' k) (.gs k1 n) .any|_=>.any
 |.gs k1 _,.ns=>match ef ρ k1 with|some none=>.gs k1 0|_=>.any
 |.ns,.ns=>.ns|.np,.np=>.np|.yl _,.yl l=>.yl l
 |.go k1 _ _,.go k o n=>match ef ρ k1 with|some (some k')=>cond (Nat.beq k' k) (.go k1 o n) .any|_=>.any
 |_,_=>.any
def mG (ρ:o8):List V->List V->List V
 |[],[]=>[]|y::ys,x::xs=>me ρ y x::mG ρ ys xs|[],_::_=>[.any]|_::_,[]=>[]
end
section
variable {ρ:o8}
theorem M1 {k k':Nat} {x y:V} (hb:cond (Nat.beq k' k) x V.any=y) (hy:y≠V.any):k'=k/\x=y:=by
 cases hc:Nat.beq k' k with
 |false=>rw[hc]at hb;exact(hy hb.symm).elim|true=>rw[hc]at hb;exact⟨DT hc,hb⟩
mutual
theorem atS:∀ (t v:V),me ρ t v=t->c9 ρ v t
 |.any,v,_=>by cases v<;>simp[c9]
 |.int k n,v,h=>by cases v<;>simp only[me]at h<;>cases h<;>simp[c9]
 |.bool b,v,h=>by cases v<;>simp only[me]at h<;>cases h<;>simp[c9]
 |.kb b,v,h=>by cases v<;>simp only[me]at h<;>cases h<;>simp[c9]
 |.str b,v,h=>by cases v<;>simp only[me]at h<;>cases h<;>simp[c9]
 |.agg ys,v,h=>by
   cases v<;>simp only[me]at h<;>first|(cases h;done)|skip
   simp only[V.agg.injEq]at h;simp only[c9];exact gT ys _ h
 |.tup ys,v,h=>by
   cases v<;>simp only[me]at h<;>first|(cases h;done)|skip
   simp only[V.tup.injEq]at h;simp only[c9];exact gT ys _ h
 |.fn f us vs,v,h=>by
   cases v<;>simp only[me]at h<;>first|(cases h;done)|skip
   simp only[V.fn.injEq]at h;simp only[c9];exact⟨h.1,gT us _ h.2.1,gT vs _ h.2.2⟩
 |.sl n f,v,h=>by cases v<;>simp only[me]at h<;>cases h<;>simp[c9]
 |.pd cs,v,h=>by cases v<;>simp only[me]at h<;>cases h<;>simp[c9]
 |.pl k1 o1,v,h=>by
   cases v<;>simp only[me]at h<;>first|(cases h;done)|skip
   split at h
   ·rename_i k' hk
    let ⟨rfl,e⟩:=M1 h au
    simp only[V.pl.injEq,Dq]at e;simp only[c9];exact⟨hk,e⟩
   ·cases h
 |.pe k1 i1 j1,v,h=>by
   cases v<;>simp only[me]at h<;>first|(cases h;done)|skip
   split at h
   ·rename_i k' hk
    let ⟨rfl,e⟩:=M1 h au
    simp only[V.pe.injEq,Dq]at e;simp only[c9];exact⟨hk,e⟩
   ·cases h
 |.ss k1 i1 j1 c1,v,h=>by
   cases v<;>simp only[me]at h<;>first|(cases h;done)|skip
   split at h
   ·rename_i k' hk
    let ⟨rfl,e⟩:=M1 h au
    simp only[V.ss.injEq,Dq]at e;simp only[c9];exact⟨hk,e⟩
   ·cases h
 |.gs k1 n1,v,h=>by
   cases v<;>simp only[me]at h<;>first|(cases h;done)|skip
   ·split at h
    ·rename_i k' hk
     let ⟨rfl,e⟩:=M1 h au
     simp only[V.gs.injEq,Dq]at e;simp only[c9];exact⟨hk,e⟩
    ·cases h
   ·split at h
    ·rename_i hk;simp only[V.gs.injEq,Dq]at h;simp only[c9];exact⟨hk,h.symm⟩
    ·cases h
 |.ns,v,h=>by cases v<;>simp only[me]at h<;>cases h<;>simp[c9]
 |.np,v,h=>by cases v<;>simp only[me]at h<;>cases h<;>simp[c9]
 |.yl l,v,h=>by cases v<;>simp only[me]at h<;>cases h<;>simp[c9]
 |.gd b x,v,h=>by cases v<;>simp only[me]at h<;>cases h
 |.go k1 i1 j1,v,h=>by
   cases v<;>simp only[me]at h<;>first|(cases h;done)|skip
   split at h
   ·rename_i k' hk
    let ⟨rfl,e⟩:=M1 h au
    simp only[V.go.injEq,Dq]at e;simp only[c9];exact⟨hk,e⟩
   ·cases h
 |.sq n m f,v,h=>by cases v<;>simp only[me]at h<;>cases h
theorem gT:∀ (ts vs:List V),mG ρ ts vs=ts->fI ρ vs ts
 |[],[],_=>by simp[fI]
 |y::ys,x::xs,h=>by simp[mG,Dh]at h;simp[fI];exact⟨atS y x h.1,gT ys xs h.2⟩
 |[],_::_,h=>by simp[mG]at h
 |_::_,[],h=>by simp[mG]at h
end
mutual
theorem ic1:∀ (v t:V),c9 [] v t->c9 ρ v t
 |.int ..,t,h=>by cases t<;>simp[c9]at h ⊢<;>exact h
 |.bool _,t,h=>by cases t<;>simp[c9]at h ⊢<;>exact h
 |.kb _,t,h=>by cases t<;>simp[c9]at h ⊢<;>exact h
 |.str _,t,h=>by cases t<;>simp[c9]at h ⊢<;>exact h
 |.agg xs,t,h=>by cases t<;>simp[c9]at h ⊢<;>first|exact lg _ _ h|exact h
 |.tup xs,t,h=>by cases t<;>simp[c9]at h ⊢<;>first|exact lg _ _ h|exact h
 |.fn f xs ys,t,h=>by cases t<;>simp[c9]at h ⊢<;>first|exact⟨h.1,lg _ _ h.2.1,lg _ _ h.2.2⟩|exact h
 |.sl ..,t,h=>by cases t<;>simp[c9]at h ⊢<;>exact h
 |.pd ..,t,h=>by cases t<;>simp[c9]at h ⊢<;>exact h
 |.pl ..,t,h=>by cases t<;>simp[c9]at h ⊢<;>first|exact h|(simp[ef,gX]at h)
 |.pe ..,t,h=>by cases t<;>simp[c9]at h ⊢<;>first|exact h|(simp[ef,gX]at h)
 |.ss ..,t,h=>by cases t<;>simp[c9]at h ⊢<;>first|exact h|(simp[ef,gX]at h)
 |.gs ..,t,h=>by cases t<;>simp[c9]at h ⊢<;>first|exact h|(simp[ef,gX]at h)
 |.ns,t,h=>by cases t<;>simp[c9]at h ⊢<;>first|exact h|(simp[ef,gX]at h)
 |.np,t,h=>by cases t<;>simp[c9]at h ⊢<;>exact h
 |.any,t,h=>by cases t<;>simp[c9]at h ⊢<;>exact h
 |.gd ..,t,h=>by cases t<;>simp[c9]at h ⊢<;>exact h
 |.yl _,t,h=>by cases t<;>simp[c9]at h ⊢<;>exact h
 |.go ..,t,h=>by cases t<;>simp[c9]at h ⊢<;>first|exact h|(simp[ef,gX]at h)
 |.sq ..,t,h=>by cases t<;>simp[c9]at h ⊢<;>exact h
theorem lg:∀ (vs ts:List V),fI [] vs ts->fI ρ vs ts
 |[],[],_=>by simp[fI]
 |v::vs,t::ts,h=>by simp[fI]at h ⊢;exact⟨ic1 v t h.1,lg vs ts h.2⟩
 |[],_::_,h=>by simp[fI]at h
 |_::_,[],h=>by simp[fI]at h
end
end
def yj (ts:List Ty) (n:Nat) (f:be):Prop:=∀i,i<n->nX (cg ts) (al ts (f i))=true/\fI [] (f i) (al ts (f i))
structure VF where
 k:Nat
 ts:List Ty
 n:Nat
 f:Nat->List V
 ok:yj ts n f
theorem hr1 {t:Ty} (h:cw t=true) (v:V):(dD t v).one=true:=by cases t<;>first|(simp[cw]at h;done)|(simp[dD];rfl)
theorem C86:∀ {ts:List Ty},ts.all cw=true->∀ vs,(al ts vs).all V.one=true
 |[],_,_=>by simp[al]
 |t::ts,h,vs=>by simp only[EJ,D2]at h;simp only[al,EJ,D2];exact⟨hr1 h.1 _,C86 h.2 _⟩
theorem lf {ts:List Ty} (h:ts.all cw=true) (vs:List V):nX (cg ts) (al ts vs)=true:=Hr (by rw[uW,b6]) (C86 h vs)
theorem hob {t:Ty} (h:cw t=true) (v:V):c9 [] (dD t v) (dD t v):=by cases t<;>first|(simp[cw]at h;done)|(simp[dD,c9];try simp)
theorem hh1:∀ {ts:List Ty},ts.all cw=true->∀ vs,fI [] (al ts vs) (al ts vs)
 |[],_,_=>by simp[al,fI]
 |t::ts,h,vs=>by simp only[EJ,D2]at h;simp only[al,fI];exact⟨hob h.1 _,hh1 h.2 _⟩
theorem aJ {ts:List Ty} (h:ts.all cw=true) (n:Nat) (f:be):yj ts n (D ts f):=λi _=>by simp[D,d9];exact⟨lf h _,hh1 h _⟩
theorem gh {ts:List Ty} {n m:Nat} {f g:be} (M:yj ts n f) (N:yj ts m g):yj ts (n+m) (bb n f g):=λi hi=>by
 unfold bb;by_cases Q7:i<n
 ·have hb:Nat.blt i n=true:=Ey Q7;rw[hb];exact M i Q7
 ·have hb:Nat.blt i n=false:=by
   cases hb:Nat.blt i n with
   |false=>rfl|true=>have:=Dc hb;omega
  rw[hb];exact N _ K
theorem e8 {ts:List Ty} (h:ts.all cw=true) (n:Nat) {ds:List V} (hf:mG [] (al ts ds) ds=al ts ds):yj ts n λ_=>ds:=λi _=>⟨lf h _,gT _ _ hf⟩
theorem oG {ts:List Ty} (h:ts.all cw=true) {n j:Nat} {ds:List V} {f:be} (M:yj ts n f) (hf:mG [] (al ts ds) ds=al ts ds):yj ts n λi=>cond (Nat.beq i j) ds (f i):=λi hi=>by
 show nX _ (al ts (cond (Nat.beq i j) ds (f i)))=true/\fI [] (cond (Nat.beq i j) ds (f i)) (al ts (cond (Nat.beq i j) ds (f i)));cases Nat.beq i j with
 |true=>exact⟨lf h _,gT _ _ hf⟩|false=>exact M i hi
def Gq (ts:List Ty) (f:be):Nat->List (List V)
 |0=>[]|n+1=>mG [] (al ts (f n)) (f n)::Gq ts f n
def BL (ts:List Ty) (f:be):Nat->List (List V)
 |0=>[]|n+1=>al ts (f n)::BL ts f n
theorem Cq {ts:List Ty} (h:ts.all cw=true) {f:be}:∀ {n:Nat},Gq ts f n=BL ts f n->yj ts n f
 |0,_=>λi hi=>by omega
 |n+1,hf=>λi hi=>by
   simp[Gq,BL,Dh]at hf;by_cases e:i=n
   ·subst e;exact⟨lf h _,gT _ _ hf.1⟩
   ·exact Cq h hf.2 i K
def DD (ρ:o8) (e:bS):bS->bS
 |[]=>[]|(s,t)::l=>(s,me ρ t (kp e s))::DD ρ e l
theorem aun {ρ:o8} {e:bS}:∀ {e1:bS},DD ρ e e1=e1->xb ρ e e1
 |[],_=>trivial
 |(s,t)::l,h=>by simp[DD,Dh,Prod.mk.injEq,Dq]at h;exact⟨atS _ _ h.1,aun h.2⟩
def zD:List VF->Nat->Option VF
 |[],_=>none|v::l,k=>cond (Nat.beq k v.k) (some v) (zD l k)
def R9 (ρ:o8) (h:List Ax) (vf:List VF) (k:Nat):Ax->Ax
 |.cells cs ty=>match ef ρ k with
   |some (some j)=>match gX h j with|some (.cells ds ty')=>.cells (mG ρ cs ds) ty'|_=>.dead
   |_=>.dead
 |.gl e n f ty=>match ef ρ k with
   |some none=>.gl e 0 f ty
   |some (some j)=>match gX h j with
     |some (.gl e' m g ty')=>match zD vf k with|some v=>.gl e' m (D v.ts g) ty'|none=>.dead
     |_=>.dead
   |none=>.dead
 |.dead=>.hid|.hid=>.hid
def Dz (ρ:o8) (h:List Ax) (vf:List VF):Nat->List Ax->List Ax
 |_,[]=>[]|k,o::l=>R9 ρ h vf k o::Dz ρ h vf (k+1) l
def re (ρ:o8) (h:List Ax):List VF->List (Nat×Nat×(Nat->List V))
 |[]=>[]
 |v::l=>(match ef ρ v.k with
   |some (some j)=>match gX h j with|some (.gl e m g _)=>(e,m,g)|_=>(0,0,λ_=>[])
   |_=>(0,0,λ_=>[]))::re ρ h l
def q7:List VF->List (Nat×Nat×(Nat->List V))
 |[]=>[]|v::l=>(cg v.ts,v.n,v.f)::q7 l
theorem S72 {ρ:o8} {h:List Ax} {k:Nat} {v:VF}:∀ {vf:List VF},zD vf k=some v->re ρ h vf=q7 vf->v.k=k/\(match ef ρ v.k with
 |some (some j)=>match gX h j with|some (.gl e m g _)=>(e,m,g)|_=>(0,0,λ_=>[])
 |_=>(0,0,λ_=>[]))=(cg v.ts,v.n,v.f)
 |[],M,_=>by cases M
 |x::l,M,N=>by
   simp[re,q7,Dh]at N;simp[zD]at M;cases hb:Nat.beq k x.k with
   |true=>rw[hb]at M;cases M;exact⟨(DT hb).symm,N.1⟩|false=>rw[hb]at M;exact S72 M N.2
theorem jf3 {ρ:o8} {h:List Ax} {vf:List VF} {k:Nat} {o:Ax} (hf:R9 ρ h vf k o=o) (hg:re ρ h vf=q7 vf):FH ρ h k o:=by
 cases o with
 |cells cs ty=>
   simp[R9]at hf;split at hf
   ·rename_i j hj
    split at hf
    ·rename_i ds ty' hn;simp[Ax.cells.injEq]at hf;exact⟨j,ds,hj,by rw[hn,hf.2],gT _ _ hf.1⟩
    ·cases hf
   ·cases hf
 |gl e n f ty=>
   simp[R9]at hf;split at hf
   ·rename_i hj;simp[Ax.gl.injEq,Dq,and_true]at hf;exact .inl ⟨hj,hf.symm⟩
   ·rename_i j hj
    split at hf
    ·rename_i e' m g ty' hn
     split at hf
     ·rename_i v hv
      let ⟨rfl,N⟩:=S72 hv hg
      rw[hj]at N;simp[hn,Prod.mk.injEq]at N;simp[Ax.gl.injEq]at hf
      let ⟨rfl,rfl,rfl,rfl⟩:=hf
      let ⟨h3,h4,h5⟩:=N
      refine .inr ⟨j,m,g,hj,hn,D7 _,λi hi=>?_⟩;have:=v.ok i (by rw[← h4];exact hi);rw[← h5,← h3]at this;exact⟨this.1,lg _ _ this.2⟩
     ·cases hf
    ·cases hf
   ·cases hf
 |dead=>simp only[R9]at hf;cases hf|hid=>trivial
theorem auC {ρ:o8} {h:List Ax} {vf:List VF} (hg:re ρ h vf=q7 vf):∀ {l:List Ax} {k:Nat},Dz ρ h vf k l=l->w6 ρ h k l
 |[],_,_=>trivial
 |o::l,k,hf=>by simp[Dz,Dh]at hf;exact⟨jf3 hf.1 hg,auC hg hf.2⟩
def zX (ρ:o8) (nb:Nat) (M:List Ax):Bool:=Nat.beq (cg ρ) (cg M)&&(GU ρ&&Rm ρ nb)
theorem wU (w0:World) {ρ:o8} {nb:Nat} {e e1:bS} {h M:List Ax} {vf:List VF} (h0:zX ρ nb M=true) (he:DD ρ e e1=e1) (hh:Dz ρ h vf 0 M=M) (hg:re ρ h vf=q7 vf):lN w0 nb e h e1 M:=by unfold zX at h0;simp only[D2]at h0;exact lN.ren w0 ρ h0.1 h0.2.1 h0.2.2 (aun he) (auC hg hh)
def Od (zs:List VF) (v v':V):Prop:=v'=v∨∃k n z,v=.gs k n/\z∈zs/\z.k=k/\n<=z.n/\v'=.sl n (D z.ts z.f)
def YY (zs:List VF):List V->List V->Prop
 |[],[]=>True|a::l,b::m=>Od zs a b/\YY zs l m|_,_=>False
structure FR (zs:List VF) where
 k:Nat
 n:Nat
 f:Nat->List V
 g:Nat->List V
 ok:∀i,i<n->YY zs (f i) (g i)
section
variable {zs:List VF}
def Js:List (FR zs)->Nat->Option (FR zs)
 |[],_=>none|v::l,k=>cond (Nat.beq k v.k) (some v) (Js l k)
def NM (fr:List (FR zs)) (k:Nat) (o:Ax):Ax:=match zD zs k with
 |some _=>.hid
 |none=>match o with
   |.gl e n f ty=>match Js fr k with|some r=>.gl e n r.g ty|none=>.gl e n f ty
   |o=>o
def Et (fr:List (FR zs)):Nat->List Ax->List Ax
 |_,[]=>[]|k,o::l=>NM fr k o::Et fr (k+1) l
def Ve (zs:List VF):Bool:=zs.all λv=>v.ts.all cw
def L8 (h:List Ax):List VF->List (Option (Nat×Nat×(Nat->List V)))
 |[]=>[]
 |v::l=>(match gX h v.k with|some (.gl e m g _)=>some (e,m,g)|_=>none)::L8 h l
def uF:List VF->List (Option (Nat×Nat×(Nat->List V)))
 |[]=>[]|v::l=>some (cg v.ts,v.n,v.f)::uF l
def LM (h:List Ax):List (FR zs)->List (Option (Nat×(Nat->List V)))
 |[]=>[]
 |v::l=>(match gX h v.k with|some (.gl _ m g _)=>some (m,g)|_=>none)::LM h l
def LX:List (FR zs)->List (Option (Nat×(Nat->List V)))
 |[]=>[]|v::l=>some (v.n,v.f)::LX l
theorem arY {h:List Ax} {v:VF}:∀ {l:List VF},L8 h l=uF l->v∈l->∃ ty,h[v.k]? = some (.gl (cg v.ts) v.n v.f ty)
 |[],_,hm=>by cases hm
 |x::l,he,hm=>by
   simp[L8,uF,Dh]at he;rcases List.mem_cons.1 hm with rfl|hm
   ·have M:=he.1
    rw[DG]at M;split at M
    ·rename_i e m g ty hk
     simp[DJ,Prod.mk.injEq]at M
     let ⟨rfl,rfl,rfl⟩:=M
     exact⟨ty,hk⟩
    ·cases M
   ·exact arY he.2 hm
theorem ajb {h:List Ax} {k:Nat} {r:FR zs}:∀ {l:List (FR zs)},LM h l=LX l->Js l k=some r->∃ e ty,h[k]? = some (.gl e r.n r.f ty)
 |[],_,hm=>by cases hm
 |x::l,he,hm=>by
   simp[LM,LX,Dh]at he;simp[Js]at hm;cases hb:Nat.beq k x.k with
   |true=>
     rw[hb]at hm;cases hm;have M:=he.1;rw[DG,← DT hb]at M;split at M
     ·rename_i e m g ty hk
      simp[DJ,Prod.mk.injEq]at M
      let ⟨rfl,rfl⟩:=M
      exact⟨e,ty,hk⟩
     ·cases M
   |false=>rw[hb]at hm;exact ajb he.2 hm
theorem Ai {v:VF}:∀ {l:List VF},v∈l->zD l v.k≠none
 |x::l,hm=>by
   simp[zD];cases hb:Nat.beq v.k x.k with
   |true=>simp
   |false=>
     rcases List.mem_cons.1 hm with rfl|hm
     ·simp at hb
     ·exact Ai hm
theorem R71 (fr:List (FR zs)):∀ (l:List Ax) (b k:Nat),(Et fr b l)[k]? = (l[k]?).map (NM fr (b+k))
 |[],b,k=>by simp[Et]
 |o::l,b,0=>by simp[Et]
 |o::l,b,k+1=>by simp[Et,Eu];rw[R71 fr l (b+1) k,show b+1+k=b+(k+1) by omega]
theorem jf5 {v v':V} (h:Od zs v v') (hv:v.one=true):v'.one=true:=by
 rcases h with rfl|⟨k,n,z,_,_,_,_,rfl⟩
 ·exact hv
 ·rfl
theorem S73:∀ {l m:List V},YY zs l m->l.all V.one=true->cg m=cg l/\m.all V.one=true
 |[],[],_,_=>⟨rfl,rfl⟩
 |a::l,b::m,h,ho=>by
   simp only[EJ,D2]at ho ⊢
   let ⟨M,N⟩:=S73 h.2 ho.2
   exact⟨by simp[cg,M],jf5 h.1 ho.1,N⟩
 |[],_::_,h,_=>h.elim|_::_,[],h,_=>h.elim
theorem auW (w0:World) {nb:Nat} {e:bS} {h:List Ax} {fr:List (FR zs)} (hc:Ve zs=true) (hz:L8 h zs=uF zs) (hf:LM h fr=LX fr):lN w0 nb e h e (Et fr 0 h):=by
 classical
 intro QG ν nV nS sl lh hs hr;have hB:∀v,v∈zs->∃ty,h[v.k]? = some (.gl (cg v.ts) v.n v.f ty):=λv hv=>arY hz hv
 let Eff:Nat->Prop:=λj=>∃v x,v∈zs/\ν v.k=some (some x)/\x.1=j
 let z1:List ar:=lh.mapIdx λj o=>if isCells ν.z[j]? = true∨Eff j then o else .hid
 have z1get:∀j,z1[j]? = (lh[j]?).map λo=>if isCells ν.z[j]? = true∨Eff j then o else .hid:=λj=>by simp[z1,K3]
 have aa:wY ν.z z1:=λj az ty hj=>by rw[z1get,hr.zl j az ty hj];simp only[E2];rw[CV (.inl (by rw[hj];rfl))]
 have ab:wY z1 lh:=λj az ty hj=>by
  rw[z1get]at hj;cases hl:lh[j]? with
  |none=>rw[hl]at hj;cases hj
  |some o=>
    rw[hl]at hj;simp[E2,DJ]at hj;split at hj
    ·rw[hj]
    ·cases hj
 let ν1:Nu:=⟨ν.m,z1⟩
 have hsub:ν.sub ν1:=⟨λ_ _ h=>h,aa⟩;have Y7:∀ {v v':V} {a:ak},Od zs v v'->vr w0 ν.z ν v a->vr w0 z1 ν1 v' a:=by
  intro v v' a hv hx;rcases hv with rfl|⟨k,n,z,rfl,hm,rfl,hn,rfl⟩
  ·exact acP hsub _ _ hx
  ·let ⟨ty,hk⟩:=hB z hm
   have YQ:z.ts.all cw=true:=by unfold Ve at hc;exact List.all_eq_true.1 hc z hm
   simp only[vr]at hx ⊢;rcases hr.blk _ _ hk with ⟨M,N⟩|⟨b,c,az,M,N,h3,h4,h5⟩
   ·rcases hx with ⟨_,g2,rfl⟩|⟨b,c,e,g1,_⟩
    ·subst g2;exact⟨none,0,0,rfl,D7 _,K,trivial,λi hi=>by omega⟩
    ·rw[M]at g1;cases g1
   ·rcases hx with ⟨g1,_⟩|⟨b',c',e',g1,rfl,g3⟩
    ·rw[M]at g1;cases g1
    ·rw [M]at g1
     obtain⟨rfl,rfl,rfl⟩:b=b'/\c=c'/\cg z.ts=e':=by simpa using g1
     have hb:z1[b]? = some (.cells az ty):=by rw[z1get,N];simp only[E2];rw[CV (.inr ⟨z,_,hm,M,rfl⟩)]
     refine⟨some (.l b 0),c,cg z.ts,rfl,g3,K,⟨az,ty,hb,Da _⟩,λi hi=>?_⟩;have Rn:i*cg z.ts+cg z.ts<=az.length:=by rw[h3,← E5];exact EA _ K
     have TN:=z.ok i K;refine⟨_,_,rfl,?_,lL aa _ _ (iH (ν:=nP [] ν) (λk x hx=>?_) _ _ (kn _ _ _ TN.2 (h5 i K).2)),pN _ _ YQ⟩
     ·simp only[jh.add,lds,hb,EB];rw[CV K]
     ·simp only[nP,ef,gX]at hx;cases hx
 have hfrs:∀ {l m:List V} {az:List ak},YY zs l m->bI w0 ν.z ν l az->bI w0 z1 ν1 m az:=by
  intro l;induction l with
  |nil=>intro m az M N;cases m with|nil=>simp[bI]at N ⊢;exact N|cons=>exact M.elim
  |cons a l ih=>
    intro m az M N;cases m with
    |nil=>exact M.elim
    |cons b m=>simp[bI]at N ⊢;obtain⟨x,xs,rfl,g1,g2⟩:=N;exact⟨x,xs,rfl,Y7 M.1 g1,ih M.2 g2⟩
 have hget:∀ k o,(Et fr 0 h)[k]? = some o->o≠.hid->zD zs k=none/\∃ o',h[k]? = some o'/\o=(match o' with
  |.gl e n f ty=>match Js fr k with|some r=>Ax.gl e n r.g ty|none=>.gl e n f ty
  |o=>o):=λk o hk ho=>by
  rw[R71,EB]at hk;cases hg:h[k]? with
  |none=>rw[hg]at hk;cases hk
  |some o'=>
    rw[hg]at hk;simp[E2,DJ,NM]at hk;cases hv:zD zs k with
    |some v=>rw[hv]at hk;exact(ho hk.symm).elim|none=>rw[hv]at hk;exact⟨rfl,o',rfl,hk.symm⟩
 have hlive:∀ k,bk (Et fr 0 h) k->zD zs k=none/\bk h k:=λk hk=>by
  rcases gx hk with ⟨cs,ty,g⟩|⟨e,n,f,ty,g⟩
  ·let ⟨M,o',N,h3⟩:=hget k _ g au
   refine⟨M,?_⟩;cases o' with
   |cells cs' ty'=>exact eK N|gl e n f ty=>exact im N|dead=>cases h3|hid=>cases h3
  ·let ⟨M,o',N,h3⟩:=hget k _ g au
   refine⟨M,?_⟩;cases o' with
   |cells cs' ty'=>exact eK N|gl e n f ty=>exact im N|dead=>cases h3|hid=>cases h3
 refine⟨ν1,nV,nS,DO.of hsub _,hs.mono hsub,⟨λk o hk=>?_,λk k' x x' M N=>hr.inj k k' x x' (hlive k M).2 (hlive k' N).2,λk hk=>hr.dom k ?_,hr.rng,ab,λk x hk hx=>?_⟩⟩
 ·by_cases ho:o=.hid
  ·subst ho;trivial
  ·let ⟨M,o',N,h3⟩:=hget k o hk ho
   have hb:=hr.blk k o' N;cases o' with
   |cells cs ty=>subst h3;exact d7 hsub au (λb az ty g _=>g) hb|dead=>subst h3;exact hb|hid=>subst h3;trivial
   |gl e n f ty=>
     cases pc:Js fr k with
     |none=>rw[pc]at h3;subst h3;exact d7 hsub au (λb az ty g _=>g) hb
     |some r=>
       rw[pc]at h3;subst h3
       let ⟨e',ty',g⟩:=ajb hf pc
       rw[N]at g;simp[DJ,Ax.gl.injEq]at g;obtain⟨_,rfl,rfl,_⟩:=g;rcases hb with ⟨k1,k2⟩|⟨b,c,az,k1,k2,k3,k4,k5⟩
       ·exact .inl ⟨k1,k2⟩
       ·refine .inr ⟨b,c,az,k1,k2,k3,k4,λi hi=>?_⟩;obtain⟨q1,q2⟩:=k5 i hi;unfold nX at q1 ⊢;simp only[D2]at q1 ⊢;obtain⟨p1,p2⟩:=S73 (r.ok i hi) q1.2;exact⟨⟨by rw[p1];exact q1.1,p2⟩,hfrs (r.ok i hi) q2⟩
 ·have hl:(Et fr 0 h).length=h.length:=by
   have gen:∀ (l:List Ax) (b:Nat),(Et fr b l).length=l.length:=λl=>by
    induction l with
    |nil=>intro b;rfl|cons o l ih=>intro b;simp[Et,ih]
   exact gen h 0
  omega
 ·let ⟨M,N⟩:=hlive k hk
  have Sz:ν k=some (some x):=hx;have g1:=hr.zn k x N Sz;show isCells z1[x.1]? = false;rw[z1get];cases hl:lh[x.1]? with
  |none=>rfl
  |some o=>
    simp[E2];rw[C4]
    ·rfl
    ·rintro (g2|⟨v,x',hv,g2,g3⟩)
     ·rw[g1]at g2;cases g2
     ·let ⟨ty,Rv⟩:=hB v hv
      have:=hr.inj v.k k x' x (im Rv) N g2 Sz g3;rw[← this]at M;exact Ai hv M
end
inductive RT (Q1:Type) where|ret (v:V)|next (ρ:o8) (s:Q1) (vf:List VF)|enter (ρ:o8) (s:Q1) (vf:List VF)|nextz (zs:List VF) (fr:List (FR zs)) (ρ:o8) (s:Q1) (vf:List VF)|enterz (zs:List VF) (fr:List (FR zs)) (ρ:o8) (s:Q1) (vf:List VF)|br (b:Bool) (x y:RT Q1)|brt (x:RT Q1)|brf (y:RT Q1)|brx (b:Bool) (x:RT Q1)|bry (b:Bool) (y:RT Q1)|ob (b:Bool) (x:RT Q1)|obt (x:RT Q1)|obv (b:Bool) (h:b=true) (x:RT Q1)|obi (x:RT Q1)|obj (c b:Bool) (x:RT Q1)|obc (x:RT Q1)|obp (p:Prop) (x:RT Q1)|obe (ts:List Ty) (ds:List V) (x:RT Q1)|und (x y:RT Q1)|asm (p:Prop) (x:RT Q1)|all (f:Nat->RT Q1)|fail
structure LD (J Q1:Type) where
 id:Q1->J
 lp:J->Lp J
 inv:Q1->bS×List Ax×Option Ex
inductive FT (J:Type) where|res (v:V)|head (j:J) (g:Option Ex) (ok:Bool) (e:bS) (h:List Ax) (vs:List (Nat×Nat×(Nat->List V)))|loop (fr:Nat×Nat) (b:AN) (k:Ex->bS->List Ax->Option Ex->Bh (cq J)) (g:Option Ex) (ok:Bool) (e:bS) (h:List Ax) (vs:List (Nat×Nat×(Nat->List V)))|headz (c:Bool) (iza21:List (Option (Nat×Nat×(Nat->List V)))) (ybl:List (Option (Nat×(Nat->List V)))) (j:J) (g:Option Ex) (ok:Bool) (e:bS) (h:List Ax) (vs:List (Nat×Nat×(Nat->List V)))|loopz (c:Bool) (iza21:List (Option (Nat×Nat×(Nat->List V)))) (ybl:List (Option (Nat×(Nat->List V)))) (fr:Nat×Nat) (b:AN) (k:Ex->bS->List Ax->Option Ex->Bh (cq J)) (g:Option Ex) (ok:Bool) (e:bS) (h:List Ax) (vs:List (Nat×Nat×(Nat->List V)))|br (b:Bool) (x y:FT J)|brt (b:Bool) (x:FT J)|brf (b:Bool) (y:FT J)|brx (b:Bool) (x:FT J)|bry (b:Bool) (y:FT J)|ob (b:Bool) (x:FT J)|obt (b:Bool) (x:FT J)|obi (x:FT J)|obj (c b:Bool) (x:FT J)|obp (p:Prop) (x:FT J)|obe (a b:List V) (x:FT J)|und (x y:FT J)|asm (p:Prop) (x:FT J)|all (f:Nat->FT J)|fail (n:Nat)
section
variable {J Q1:Type}
def asn (a b:List V) (k:RT Q1->FT J):RT Q1->FT J
 |.obe _ _ x=>.obe a b (k x)|t=>k t
def aqg (a b:List V) (k:RT Q1->Bh (cq J)):RT Q1->Bh (cq J)
 |.obe _ _ x=>.obq a b (k x)|t=>.obq a a (k t)
def fC (Bf:LD J Q1):Bh (cq J)->RT Q1->FT J
 |.ret (.res v),.ret _=>.res v|.ret (.head j e h g),.next ρ s vf=>.head j g (zX ρ (Bf.lp j).fr.2 (Bf.inv s).2.1) (DD ρ e (Bf.inv s).1) (Dz ρ h vf 0 (Bf.inv s).2.1) (re ρ h vf)|.loop fr b e h g k,.enter ρ s vf=>.loop fr b k g (zX ρ fr.2 (Bf.inv s).2.1) (DD ρ e (Bf.inv s).1) (Dz ρ h vf 0 (Bf.inv s).2.1) (re ρ h vf)|.ret (.head j e h g),.nextz zs fz ρ s vf=>.headz (Ve zs) (L8 h zs) (LM h fz) j g (zX ρ (Bf.lp j).fr.2 (Bf.inv s).2.1) (DD ρ e (Bf.inv s).1) (Dz ρ (Et fz 0 h) vf 0 (Bf.inv s).2.1) (re ρ (Et fz 0 h) vf)|.loop fr b e h g k,.enterz zs fz ρ s vf=>.loopz (Ve zs) (L8 h zs) (LM h fz) fr b k g (zX ρ fr.2 (Bf.inv s).2.1) (DD ρ e (Bf.inv s).1) (Dz ρ (Et fz 0 h) vf 0 (Bf.inv s).2.1) (re ρ (Et fz 0 h) vf)|.br b x y,.br _ x' y'=>.br b (fC Bf x x') (fC Bf y y')|.br b x _,.brt x'=>.brt b (fC Bf x x')|.br b _ y,.brf y'=>.brf b (fC Bf y y')|.br b x _,.brx _ x'=>.brx b (fC Bf x x')|.br b _ y,.bry _ y'=>.bry b (fC Bf y y')|.ob b x,.ob _ x'=>.ob b (fC Bf x x')|.ob b x,.obt x'=>.obt b (fC Bf x x')|.ob b x,.obv _ _ x'=>.ob b (fC Bf x x')|.obp p x,.obc x'=>.obp p (fC Bf x x')|.obi _ d x,.obt x'=>.obt d (fC Bf x x')|.obi _ d x,.ob _ x'=>.ob d (fC Bf x x')|.obi _ d x,.obv _ _ x'=>.ob d (fC Bf x x')|.obi _ _ x,.obi x'=>.obi (fC Bf x x')|.obi c d x,.obj _ _ x'=>.obj c d (fC Bf x x')|.obp p x,.obp _ x'=>.obp p (fC Bf x x')|.obq a b x,t=>asn a b (fC Bf x) t|.und x y,.und x' y'=>.und (fC Bf x x') (fC Bf y y')|.asm p x,.asm _ x'=>.asm p (fC Bf x x')|.all f,.all g=>.all λl=>fC Bf (f l) (g l)
 |.fail _,.fail=>.fail 1|_,_=>.fail 0
def cO:Bh (cq J)->RT Q1->Bh (cq J)
 |.br b x y,.br _ x' y'=>.br b (cO x x') (cO y y')|.br b x y,.brt x'=>.br b (cO x x') y|.br b x y,.brf y'=>.br b x (cO y y')|.br b x y,.brx _ x'=>.br b (cO x x') y|.br b x y,.bry _ y'=>.br b x (cO y y')|.ob b x,.ob _ x'=>.ob b (cO x x')|.ob b x,.obt x'=>.ob b (cO x x')|.ob b x,.obv _ _ x'=>.ob b (cO x x')|.obp p x,.obp _ x'=>.obp p (cO x x')|.obp p x,.obc x'=>.obp p (cO x x')|.obi c d x,.obt x'=>.obi c d (cO x x')|.obi c d x,.ob _ x'=>.obi c d (cO x x')|.obi c d x,.obv _ _ x'=>.obi c d (cO x x')|.obi c _ x,.obi x'=>.obi c c (cO x x')|.obi c d x,.obj _ _ x'=>.obi c d (cO x x')|.obq a b x,t=>aqg a b (cO x) t|.und x y,.und x' y'=>.und (cO x x') (cO y y')|.asm p x,.asm _ x'=>.asm p (cO x x')|.all f,.all g=>.all λl=>cO (f l) (g l)
 |t,_=>t
def o7 (Bf:LD J Q1):RT Q1->FT J
 |.ret v=>.res v|.next _ s vf=>.head (Bf.id s) (Bf.inv s).2.2 true (Bf.inv s).1 (Bf.inv s).2.1 (q7 vf)|.enter _ s vf=>.loop (Bf.lp (Bf.id s)).fr (Bf.lp (Bf.id s)).body (Bf.lp (Bf.id s)).k (Bf.inv s).2.2 true (Bf.inv s).1 (Bf.inv s).2.1 (q7 vf)|.nextz zs fz _ s vf=>.headz true (uF zs) (LX fz) (Bf.id s) (Bf.inv s).2.2 true (Bf.inv s).1 (Bf.inv s).2.1 (q7 vf)|.enterz zs fz _ s vf=>.loopz true (uF zs) (LX fz) (Bf.lp (Bf.id s)).fr (Bf.lp (Bf.id s)).body (Bf.lp (Bf.id s)).k (Bf.inv s).2.2 true (Bf.inv s).1 (Bf.inv s).2.1 (q7 vf)|.br b x y=>.br b (o7 Bf x) (o7 Bf y)|.brt x=>.brt true (o7 Bf x)|.brf y=>.brf false (o7 Bf y)|.brx b x=>.brx b (o7 Bf x)|.bry b y=>.bry b (o7 Bf y)|.ob b x=>.ob b (o7 Bf x)|.obt x=>.obt true (o7 Bf x)|.obv b _ x=>.ob b (o7 Bf x)|.obi x=>.obi (o7 Bf x)|.obj c b x=>.obj c b (o7 Bf x)|.obc x=>.obp True (o7 Bf x)|.obp p x=>.obp p (o7 Bf x)|.obe ts ds x=>.obe (ma ts ds []) (mb ts ds []) (o7 Bf x)|.und x y=>.und (o7 Bf x) (o7 Bf y)|.asm p x=>.asm p (o7 Bf x)|.all f=>.all λl=>o7 Bf (f l)
 |.fail=>.fail 1
def aT (Nx:Q1->V->Prop):RT Q1->V->Prop
 |.ret v,r=>dq v=dq r|.next _ s _,r=>Nx s r|.enter _ s _,r=>Nx s r|.nextz _ _ _ s _,r=>Nx s r|.enterz _ _ _ s _,r=>Nx s r|.br b x y,r=>(b=true->aT Nx x r)/\(b=false->aT Nx y r)|.brt x,r=>aT Nx x r|.brf y,r=>aT Nx y r|.brx b x,r=>b=true/\aT Nx x r|.bry b y,r=>b=false/\aT Nx y r|.ob b x,r=>b=true/\aT Nx x r|.obt x,r=>aT Nx x r|.obv _ _ x,r=>aT Nx x r|.obi x,r=>aT Nx x r|.obj c b x,r=>(c=true->b=true)/\aT Nx x r|.obc x,r=>aT Nx x r|.obp p x,r=>p/\aT Nx x r|.obe ts ds x,r=>ma ts ds []=mb ts ds []/\aT Nx x r|.und x y,r=>aT Nx x r/\aT Nx y r|.asm p x,r=>p->aT Nx x r|.all f,r=>∀l,aT Nx (f l) r|.fail,_=>False
def uf (step:Q1->RT Q1):Nat->Q1->V->Prop
 |0,_,_=>False|n+1,s,r=>aT (uf step n) (step s) r
def Ev (step:Q1->RT Q1) (s:Q1) (r:V):Prop:=∃n,uf step n s r
theorem yJ {Nx bb1:Q1->V->Prop} {r:V} (h:∀ s,Nx s r->bb1 s r):∀ t:RT Q1,aT Nx t r->aT bb1 t r:=by
 intro t;induction t with
 |ret v=>exact id|next ρ s vf=>exact h s|enter ρ s vf=>exact h s|nextz zs fz ρ s vf=>exact h s|enterz zs fz ρ s vf=>exact h s|br b x y hx hy=>exact λk=>⟨λe=>hx (k.1 e),λe=>hy (k.2 e)⟩
 |brt x hx=>exact hx|brf y hy=>exact hy|brx b x hx=>exact λk=>⟨k.1,hx k.2⟩
 |bry b y hy=>exact λk=>⟨k.1,hy k.2⟩
 |ob b x hx=>exact λk=>⟨k.1,hx k.2⟩
 |obt x hx=>exact hx|obv b h x hx=>exact hx|obi x hx=>exact hx|obj c b x hx=>exact λk=>⟨k.1,hx k.2⟩
 |obc x hx=>exact hx|obp p x hx=>exact λk=>⟨k.1,hx k.2⟩
 |obe a b x hx=>exact λk=>⟨k.1,hx k.2⟩
 |und x y hx hy=>exact λk=>⟨hx k.1,hy k.2⟩
 |asm p x hx=>exact λk hp=>hx (k hp)
 |all f hf=>exact λk l=>hf l (k l)
 |fail=>exact id
theorem R84 {step:Q1->RT Q1} {r:V}:∀ {n:Nat} {s:Q1},uf step n s r->uf step (n+1) s r
 |0,s,h=>h.elim|n+1,s,h=>yJ (λs hs=>R84 hs) _ h
theorem xZ {step:Q1->RT Q1} {r:V} {n m:Nat} {s:Q1} (h:uf step n s r) (hm:n<=m):uf step m s r:=by
 induction hm with
 |refl=>exact h|step _ ih=>exact R84 ih
section
variable {Nx:Q1->V->Prop} {r:V}
theorem B5 {v:V} (h:dq v=dq r):aT Nx (.ret v) r:=h
theorem C2 {b:Bool} {x y:RT Q1} (M:b=true->aT Nx x r) (N:b=false->aT Nx y r):aT Nx (.br b x y) r:=⟨M,N⟩
theorem ed {x:RT Q1} (h:aT Nx x r):aT Nx (.brt x) r:=h
theorem gW {x:RT Q1} (h:aT Nx x r):aT Nx (.brf x) r:=h
theorem arW {b:Bool} {x:RT Q1} (M:b=true) (h:aT Nx x r):aT Nx (.brx b x) r:=⟨M,h⟩
theorem aci {b:Bool} {x:RT Q1} (M:b=false) (h:aT Nx x r):aT Nx (.bry b x) r:=⟨M,h⟩
theorem fy12 {b:Bool} (h:b=false):(!b)=true:=by rw[h];rfl
theorem fy11 {b:Bool} (h:b=true):(!b)=false:=by rw[h];rfl
theorem wa {b:Bool} (h:(!b)=false):b=true:=by cases b;cases h;rfl
theorem LS {b:Bool} (h:(!b)=true):b=false:=by cases b;rfl;cases h
theorem aF {b:Bool} {x:RT Q1} (M:b=true) (N:aT Nx x r):aT Nx (.ob b x) r:=⟨M,N⟩
theorem ac {x:RT Q1} (h:aT Nx x r):aT Nx (.obt x) r:=h
theorem aps {b:Bool} {hb:b=true} {x:RT Q1} (h:aT Nx x r):aT Nx (.obv b hb x) r:=h
theorem B1 {x:RT Q1} (h:aT Nx x r):aT Nx (.obi x) r:=h
theorem DY {c b:Bool} {x:RT Q1} (M:c=true->b=true) (N:aT Nx x r):aT Nx (.obj c b x) r:=⟨M,N⟩
theorem ao {x:RT Q1} (h:aT Nx x r):aT Nx (.obc x) r:=h
theorem aI {p:Prop} {x:RT Q1} (M:p) (N:aT Nx x r):aT Nx (.obp p x) r:=⟨M,N⟩
theorem acC {ts:List Ty} {ds:List V} {x:RT Q1} (M:ma ts ds []=mb ts ds []) (N:aT Nx x r):aT Nx (.obe ts ds x) r:=⟨M,N⟩
theorem aqE {x y:RT Q1} (M:aT Nx x r) (N:aT Nx y r):aT Nx (.und x y) r:=⟨M,N⟩
theorem D3 {p:Prop} {x:RT Q1} (h:p->aT Nx x r):aT Nx (.asm p x) r:=h
theorem bC {p:Prop} {x:RT Q1} (h:p->aT Nx x r):aT Nx (.asm (true=true->p) x) r:=λk=>h (k rfl)
theorem Dt {f:Nat->RT Q1} (h:∀l,aT Nx (f l) r):aT Nx (.all f) r:=h
theorem aH {ρ:o8} {s:Q1} {vf:List VF} (h:Nx s r):aT Nx (.enter ρ s vf) r:=h
theorem aL {ρ:o8} {s:Q1} {vf:List VF} (h:Nx s r):aT Nx (.next ρ s vf) r:=h
end
def fJ:RT Q1->Bool
 |.br _ x y=>fJ x&&fJ y|.brt x=>fJ x|.brf y=>fJ y|.brx _ x=>fJ x|.bry _ y=>fJ y|.ob _ x=>fJ x|.obt x=>fJ x|.obv _ _ x=>fJ x|.obi x=>fJ x|.obj _ _ x=>fJ x|.obc x=>fJ x|.obp _ x=>fJ x|.obe _ _ x=>fJ x|.und x y=>fJ x&&fJ y|.asm _ x=>fJ x|.all _=>false|_=>true
theorem afZ {step:Q1->RT Q1} {r:V}:∀ t:RT Q1,fJ t=true->aT (Ev step) t r->∃ n,aT (uf step n) t r:=by
 intro t;induction t with
 |ret v=>exact λ_ h=>⟨0,h⟩
 |next ρ s vf=>exact λ_ ⟨n,h⟩=>⟨n,h⟩
 |enter ρ s vf=>exact λ_ ⟨n,h⟩=>⟨n,h⟩
 |nextz zs fz ρ s vf=>exact λ_ ⟨n,h⟩=>⟨n,h⟩
 |enterz zs fz ρ s vf=>exact λ_ ⟨n,h⟩=>⟨n,h⟩
 |br b x y hx hy=>
   intro h0 h;simp[fJ,D2]at h0;cases b with
   |true=>let ⟨n,hn⟩:=hx h0.1 (h.1 rfl);exact⟨n,λ_=>hn,λe=>by cases e⟩
   |false=>let ⟨n,hn⟩:=hy h0.2 (h.2 rfl);exact⟨n,(λe=>by cases e),λ_=>hn⟩
 |brt x hx=>exact λh0 h=>hx h0 h
 |brf y hy=>exact λh0 h=>hy h0 h
 |brx b x hx=>exact λh0 h=>let ⟨n,hn⟩:=hx h0 h.2;⟨n,h.1,hn⟩
 |bry b y hy=>exact λh0 h=>let ⟨n,hn⟩:=hy h0 h.2;⟨n,h.1,hn⟩
 |ob b x hx=>exact λh0 h=>let ⟨n,hn⟩:=hx h0 h.2;⟨n,h.1,hn⟩
 |obt x hx=>exact λh0 h=>hx h0 h
 |obv b h x hx=>exact λh0 h=>hx h0 h
 |obi x hx=>exact λh0 h=>hx h0 h
 |obj c b x hx=>exact λh0 h=>let ⟨n,hn⟩:=hx h0 h.2;⟨n,h.1,hn⟩
 |obc x hx=>exact λh0 h=>hx h0 h
 |obp p x hx=>exact λh0 h=>let ⟨n,hn⟩:=hx h0 h.2;⟨n,h.1,hn⟩
 |obe a b x hx=>exact λh0 h=>let ⟨n,hn⟩:=hx h0 h.2;⟨n,h.1,hn⟩
 |und x y hx hy=>
   intro h0 h;simp[fJ,D2]at h0
   let ⟨n,hn⟩:=hx h0.1 h.1
   let ⟨m,hm⟩:=hy h0.2 h.2
   exact⟨max n m,yJ (λs hs=>xZ hs (Nat.le_max_left _ _)) _ hn,yJ (λs hs=>xZ hs (Nat.le_max_right _ _)) _ hm⟩
 |asm p x hx=>
   intro h0 h;by_cases hp:p
   ·let ⟨n,hn⟩:=hx h0 (h hp);exact⟨n,λ_=>hn⟩
   ·exact⟨0,λk=>(hp k).elim⟩
 |all f hf=>intro h0;cases h0|fail=>exact λ_ h=>h.elim
theorem Ev.of {step:Q1->RT Q1} {s:Q1} {r:V} (h0:fJ (step s)=true) (h:aT (Ev step) (step s) r):Ev step s r :=
 let ⟨n,hn⟩:=afZ _ h0 h;⟨n+1,hn⟩
theorem CJ {w0:World} {LP:fD} {Bf:LD J Q1} {Q2:cq J->Prop} {Nx:Q1->V->Prop} {r:V} (hres:∀ v,dq v=dq r->Q2 (.res v))
 (hhead:∀s e h,Nx s r->lN w0 (Bf.lp (Bf.id s)).fr.2 e h (Bf.inv s).1 (Bf.inv s).2.1->Q2 (.head (Bf.id s) e h (Bf.inv s).2.2))
 (hloop:∀s e h,Nx s r->lN w0 (Bf.lp (Bf.id s)).fr.2 e h (Bf.inv s).1 (Bf.inv s).2.1->LP (Bf.lp (Bf.id s)).fr (Bf.lp (Bf.id s)).body e h (Bf.inv s).2.2 λx e h g=>bT LP ((Bf.lp (Bf.id s)).k x e h g) Q2) :
 ∀(t:Bh (cq J)) (rt:RT Q1),fC Bf t rt=o7 Bf rt->cO t rt=t->aT Nx rt r->bT LP t Q2:=by
 intro t;induction t with
 |ret a=>
   intro rt hf _ hr;cases a with
   |res v=>cases rt<;>simp only[fC,o7]at hf<;>cases hf;exact hres _ hr
   |head j e h g=>
     cases rt<;>simp only[fC,o7]at hf<;>first|(cases hf;done)|skip
     ·simp only[FT.head.injEq]at hf;obtain⟨rfl,rfl,M,N,h3,h4⟩:=hf;exact hhead _ e h hr (wU w0 M N h3 h4)
     ·simp only[FT.headz.injEq]at hf;obtain⟨hc,hz,Y7,rfl,rfl,M,N,h3,h4⟩:=hf;exact hhead _ e h hr ((auW w0 hc hz Y7).trans (wU w0 M N h3 h4))
 |br b x y hx hy=>
   intro rt hf hs hr;cases rt<;>simp only[fC,o7]at hf<;>first|(cases hf;done)|skip
   ·simp only[FT.br.injEq]at hf;simp only[cO,Bh.br.injEq,Dq]at hs;obtain⟨rfl,M,N⟩:=hf;exact⟨λe=>hx _ M hs.1 (hr.1 e),λe=>hy _ N hs.2 (hr.2 e)⟩
   ·simp only[FT.brt.injEq]at hf;simp only[cO,Bh.br.injEq,Dq]at hs;obtain⟨rfl,M⟩:=hf;exact⟨λe=>hx _ M hs.1 hr,λe=>by cases e⟩
   ·simp only[FT.brf.injEq]at hf;simp only[cO,Bh.br.injEq,Dq]at hs;obtain⟨rfl,M⟩:=hf;exact⟨(λe=>by cases e),λe=>hy _ M hs hr⟩
   ·simp only[FT.brx.injEq]at hf;simp only[cO,Bh.br.injEq,Dq]at hs;obtain⟨rfl,M⟩:=hf;exact⟨λe=>hx _ M hs.1 hr.2,λe=>by rw[hr.1]at e;cases e⟩
   ·simp only[FT.bry.injEq]at hf;simp only[cO,Bh.br.injEq,Dq]at hs;obtain⟨rfl,M⟩:=hf;exact⟨(λe=>by rw[hr.1]at e;cases e),λe=>hy _ M hs hr.2⟩
 |ob b x hx=>
   intro rt hf hs hr;cases rt<;>simp only[fC,o7]at hf<;>first|(cases hf;done)|skip
   ·simp only[FT.ob.injEq]at hf;simp only[cO,Bh.ob.injEq,Dq]at hs;obtain⟨rfl,M⟩:=hf;exact⟨hr.1,hx _ M hs hr.2⟩
   ·simp only[FT.obt.injEq]at hf;simp only[cO,Bh.ob.injEq,Dq]at hs;obtain⟨rfl,M⟩:=hf;exact⟨rfl,hx _ M hs hr⟩
   ·rename_i b' Qx x';simp only[FT.ob.injEq]at hf;simp only[cO,Bh.ob.injEq,Dq]at hs;obtain⟨rfl,M⟩:=hf;exact⟨Qx,hx _ M hs hr⟩
 |obp p x hx=>
   intro rt hf hs hr;cases rt<;>simp only[fC,o7]at hf<;>first|(cases hf;done)|skip
   ·simp only[FT.obp.injEq]at hf;simp only[cO,Bh.obp.injEq,Dq]at hs;obtain⟨rfl,M⟩:=hf;exact⟨trivial,hx _ M hs hr⟩
   ·simp only[FT.obp.injEq]at hf;simp only[cO,Bh.obp.injEq,Dq]at hs;obtain⟨rfl,M⟩:=hf;exact⟨hr.1,hx _ M hs hr.2⟩
 |obi c d x hx=>
   intro rt hf hs hr;cases rt<;>simp only[fC,o7]at hf<;>first|(cases hf;done)|skip
   ·simp only[FT.ob.injEq]at hf;simp only[cO,Bh.obi.injEq,Dq]at hs;obtain⟨rfl,M⟩:=hf;exact⟨λ_=>hr.1,hx _ M hs hr.2⟩
   ·simp only[FT.obt.injEq]at hf;simp only[cO,Bh.obi.injEq,Dq]at hs;obtain⟨rfl,M⟩:=hf;exact⟨λ_=>rfl,hx _ M hs hr⟩
   ·rename_i b' Qx x';simp only[FT.ob.injEq]at hf;simp only[cO,Bh.obi.injEq,Dq]at hs;obtain⟨rfl,M⟩:=hf;exact⟨λ_=>Qx,hx _ M hs hr⟩
   ·simp only[FT.obi.injEq]at hf;simp only[cO,Bh.obi.injEq,Dq]at hs;obtain⟨h0,M⟩:=hs;subst h0;exact⟨id,hx _ hf M hr⟩
   ·simp only[FT.obj.injEq]at hf;simp only[cO,Bh.obi.injEq,Dq]at hs;obtain⟨rfl,rfl,M⟩:=hf;exact⟨hr.1,hx _ M hs hr.2⟩
 |obq a b x hx=>
   intro rt hf hs hr;have gen:asn a b (fC Bf x) rt=fC Bf x rt->aqg a b (cO x) rt=.obq a a (cO x rt)->bT LP (.obq a b x) Q2:=λe1 e2=>by have S0:Bh.obq a a (cO x rt)=Bh.obq a b x:=e2.symm.trans hs;simp only[Bh.obq.injEq,Dq]at S0;exact⟨S0.1,hx _ (e1.symm.trans hf) S0.2 hr⟩
   cases rt<;>first|exact gen rfl rfl|skip
   rename_i ts ds x';have Zv:FT.obe a b (fC Bf x x')=FT.obe (ma ts ds []) (mb ts ds []) (o7 Bf x'):=hf;have S0:Bh.obq a b (cO x x')=Bh.obq a b x:=hs;simp only[FT.obe.injEq]at Zv;simp only[Bh.obq.injEq,Dq]at S0;obtain⟨rfl,rfl,M⟩:=Zv;exact⟨hr.1,hx _ M S0 hr.2⟩
 |fail n=>intro rt hf hs hr;cases rt<;>simp only[fC,o7]at hf<;>first|(cases hf;done)|exact hr.elim
 |loop fr b e h g k hk=>
   intro rt hf hs hr;cases rt<;>simp only[fC,o7]at hf<;>first|(cases hf;done)|skip
   ·simp only[FT.loop.injEq]at hf;obtain⟨rfl,rfl,rfl,rfl,M,N,h3,h4⟩:=hf;exact hloop _ e h hr (wU w0 M N h3 h4)
   ·simp only[FT.loopz.injEq]at hf;obtain⟨hc,hz,Y7,rfl,rfl,rfl,rfl,M,N,h3,h4⟩:=hf;exact hloop _ e h hr ((auW w0 hc hz Y7).trans (wU w0 M N h3 h4))
 |all f io16=>
   intro rt hf hs hr;cases rt<;>simp only[fC,o7]at hf<;>first|(cases hf;done)|skip
   simp only[FT.all.injEq]at hf;simp only[cO,Bh.all.injEq]at hs;exact λl=>io16 l _ (congrFun hf l) (congrFun hs l) (hr l)
 |und x y hx hy=>
   intro rt hf hs hr;cases rt<;>simp only[fC,o7]at hf<;>first|(cases hf;done)|skip
   simp only[FT.und.injEq]at hf;simp only[cO,Bh.und.injEq]at hs;exact⟨hx _ hf.1 hs.1 hr.1,hy _ hf.2 hs.2 hr.2⟩
 |asm p x hx=>
   intro rt hf hs hr;cases rt<;>simp only[fC,o7]at hf<;>first|(cases hf;done)|skip
   simp only[FT.asm.injEq]at hf;simp only[cO,Bh.asm.injEq,Dq]at hs;obtain⟨rfl,M⟩:=hf;exact λhp=>hx _ M hs (hr hp)
def Lm (ct:bm) (un:l8) (j:J) (l:Lp J) (e:bS) (h:List Ax) (g:Option Ex):Bh (cq J) :=
 match l.body with
 |.s body=>gq (vj (oR ct l.fr.1) (ou ct) un l.fr 0 body e h λx e h=>.ret (x,e,h)) λr=>match r.1 with|.normal=>.ret (.head j r.2.1 r.2.2 none)|x=>l.k x r.2.1 r.2.2 none
 |.i body rd=>gq (oF (oR ct l.fr.1) (ou ct) un l.fr rd (Jo (oR ct l.fr.1) (ou ct) un l.fr.1 0 rd) 0 body e h g λx e h g=>.ret (x,e,h,g)) λr=>match r.1 with|.normal=>.ret (.head j r.2.1 r.2.2.1 r.2.2.2)|x=>l.k x r.2.1 r.2.2.1 r.2.2.2
def Ll (ct:bm) (un:l8) (Bf:LD J Q1) (s:Q1):Bh (cq J):=Lm ct un (Bf.id s) (Bf.lp (Bf.id s)) (Bf.inv s).1 (Bf.inv s).2.1 (Bf.inv s).2.2
def QN (w0:World) (Bf:LD J Q1) (step:Q1->RT Q1) (r:V) (n:Nat):cq J->Prop
 |.res v=>dq v=dq r|.head j e h g=>∃s,Bf.id s=j/\(Bf.inv s).2.2=g/\lN w0 (Bf.lp (Bf.id s)).fr.2 e h (Bf.inv s).1 (Bf.inv s).2.1/\uf step n s r
theorem w5 {w0:World} {Bf:LD J Q1} {step:Q1->RT Q1} {r:V} {n m:Nat} (hm:n<=m):∀ a,QN w0 Bf step r n a->QN w0 Bf step r m a
 |.res v,h=>h|.head j e h g,⟨s,M,N,h3,h4⟩=>⟨s,M,N,h3,xZ h4 hm⟩
theorem ahQ {w0:World} {Q1:D6} {fr:Nat×Nat} {body:hG} {e:bS} {h:List Ax} {g:Option Ex} {P:Ex->bS->List Ax->Option Ex->Prop} (hl:dN w0 Q1 (fr.1,fr.2) (.s body) e h none P):dN w0 Q1 fr (.s body) e h g P:=hl
theorem anG {ct:bm} {un:l8} {w0:World} (hd:qT ct=true) {Bf:LD J Q1} {step:Q1->RT Q1} {r:V} (hs:∀ s,fC Bf (Ll ct un Bf s) (step s)=o7 Bf (step s)) (hq:∀ s,cO (Ll ct un Bf s) (step s)=Ll ct un Bf s) :
 ∀(n:Nat) (s:Q1) (e:bS) (h:List Ax),uf step n s r->lN w0 (Bf.lp (Bf.id s)).fr.2 e h (Bf.inv s).1 (Bf.inv s).2.1 ->
 dN w0 (SV ct) (Bf.lp (Bf.id s)).fr (Bf.lp (Bf.id s)).body e h (Bf.inv s).2.2 λx e h g=>bT (dN w0 (SV ct)) ((Bf.lp (Bf.id s)).k x e h g) (QN w0 Bf step r n):=by
 intro n;induction n using Nat.strongRecOn with
 |ind n ih=>
   intro s e h hn hsub;have key:∀ (p:Nat) (s':Q1),p<=n->uf step p s' r->∃ m,p=m+1/\bT (dN w0 (SV ct)) (Ll ct un Bf s') (QN w0 Bf step r m):=by
    intro p s' hp he
    match p,hp,he with
    |0,_,he=>exact he.elim
    |m+1,hp,he=>exact⟨m,rfl,CJ (w0:=w0) (Nx:=uf step m) (λv hv=>hv) (λs e h M N=>⟨s,rfl,rfl,N,M⟩) (λs e h M N=>ih m K s e h M N) _ _ (hs s') (hq s') he⟩
   generalize hj:Bf.id s=j at *
   match hb:(Bf.lp j).body with
   |.s body=>
     refine ahQ (aoE (un:=un) hd 0 {p:Nat×Q1 // p.1<=n/\uf step p.1 p.2 r/\Bf.id p.2=j} (λp=>((Bf.inv p.1.2).1,(Bf.inv p.1.2).2.1)) (λp=>p.1.1) ⟨⟨(n,s),D7 _,hn,hj⟩,hsub⟩ ?_);rintro⟨⟨p,s'⟩,hp,he,Sm⟩
     let ⟨m,sk,hk⟩:=key p s' hp he
     simp only at Sm hp sk;unfold Ll Lm at hk;rw[Sm,hb]at hk;simp[Run]at hk;refine lJ (iC _ _) (λa ha=>?_) _ hk
     let ⟨x,e',h'⟩:=a
     cases x with
     |normal=>
       let ⟨s2,g1,g2,g3,g4⟩:=ha
       rw[g1]at g3;exact⟨⟨(m,s2),K,g4,g1⟩,g3,by simp only;omega⟩
     |exit i=>exact lJ (iC _ _) (w5 K) _ ha|ret=>exact lJ (iC _ _) (w5 K) _ ha
   |.i body rd=>
     refine aig (un:=un) hd 0 0 {p:Nat×Q1 // p.1<=n/\uf step p.1 p.2 r/\Bf.id p.2=j} (λp=>Bf.inv p.1.2) (λp=>p.1.1) ⟨⟨(n,s),D7 _,hn,hj⟩,rfl,hsub⟩ ?_;rintro⟨⟨p,s'⟩,hp,he,Sm⟩
     let ⟨m,sk,hk⟩:=key p s' hp he
     simp only at Sm hp sk;unfold Ll Lm at hk;rw[Sm,hb]at hk;simp[Run]at hk;refine lJ (iC _ _) (λa ha=>?_) _ hk
     let ⟨x,e',h',g'⟩:=a
     cases x with
     |normal=>
       let ⟨s2,g1,g2,g3,g4⟩:=ha
       rw[g1]at g3;exact⟨⟨(m,s2),K,g4,g1⟩,g2.symm,g3,by simp only;omega⟩
     |exit i=>exact lJ (iC _ _) (w5 K) _ ha|ret=>exact lJ (iC _ _) (w5 K) _ ha
def aQ (J:Type) (ct:bm) (un:l8) (sf:aK) (ds:List V):Bh (cq J):=o0 (oR ct LV) (ou ct) un LV sf ds [] λv _=>.ret (.res v)
def rD (r:V):cq J->Prop
 |.res v=>dq v=dq r|.head ..=>True
theorem aeJ {w0:World} {Bf:LD J Q1} {step:Q1->RT Q1} {r:V} {n:Nat}:∀ a,QN w0 Bf step r n a->rD r a
 |.res v,h=>h|.head ..,_=>trivial
theorem ajA {ct:bm} {un:l8} {w0:World} (hd:qT ct=true) {t:Bh (cq J)} (Bf:LD J Q1) (step:Q1->RT Q1) (m:RT Q1) {r:V} (M:fC Bf t m=o7 Bf m) (N:cO t m=t)
 (hs:∀s,fC Bf (Ll ct un Bf s) (step s)=o7 Bf (step s)) (hq:∀s,cO (Ll ct un Bf s) (step s)=Ll ct un Bf s) (hr:aT (Ev step) m r):bT (dN w0 (SV ct)) t (rD r) :=
 CJ (w0:=w0) (Nx:=Ev step) (λv hv=>hv) (λ_ _ _ _ _=>trivial) (λs e h ⟨n,hn⟩ hsub=>iC _ _ _ _ _ _ _ _ _ (λx e h g hk=>lJ (iC _ _) aeJ _ hk) (anG hd hs hq n s e h hn hsub)) _ _ M N hr
theorem CR {ts:List Ty} (h:ts.all cw=true) (n:Nat) (f:be):dw n (λi=>nX (cg ts) (D ts f i))=true:=fO λi _=>lf h _
def eX:Bh (cq J)->Lp J
 |.loop fr b _ _ _ k=>⟨fr,b,k⟩|_=>⟨(0,0),.s .skip,λ_ _ _ _=>.fail 0⟩
def cZ:LD J Empty:=⟨λs=>(Empty.elim s),λ_=>⟨(0,0),.s .skip,λ_ _ _ _=>.fail 0⟩,λs=>(Empty.elim s)⟩
def cM:Empty->V->Prop:=λs=>Empty.elim s
theorem iy8 {ct:bm} {w0:World} (hd:qT ct=true) {t:Bh (cq J)} (m:RT Empty) {r:V} (M:fC cZ t m=o7 cZ m) (N:cO t m=t) (hr:aT cM m r):bT (dN w0 (SV ct)) t (rD r) :=
 CJ (w0:=w0) (Nx:=cM) (λv hv=>hv) (λs=>(Empty.elim s)) (λs=>(Empty.elim s)) _ _ M N hr
def cY (Bf:LD J Q1) (t:Bh (cq J)) (m:RT Q1):Prop:=fC Bf t m=o7 Bf m/\cO t m=t
def dZ (ct:bm) (un:l8) (Bf:LD J Q1) (t:Bh (cq J)) (m:RT Q1) (st:Q1->RT Q1):Prop:=cY Bf t m/\∀s,cY Bf (Ll ct un Bf s) (st s)
def J3 (ct:bm) (t:Bh (cq J)) (r:V):Prop:=qT ct=true->∀w0,bT (dN w0 (SV ct)) t (rD r)
theorem da {ct:bm} {t:Bh (cq J)} {m:RT Empty} {r:V} (h:cY cZ t m) (hr:aT cM m r):J3 ct t r:=λhd _=>iy8 hd m h.1 h.2 hr
theorem kr {ct:bm} {un:l8} {Bf:LD J Q1} {t:Bh (cq J)} {m:RT Q1} {st:Q1->RT Q1} {r:V} (h:dZ ct un Bf t m st) (hr:aT (Ev st) m r):J3 ct t r:=λhd _=>ajA hd Bf st m h.1.1 h.1.2 (λs=>(h.2 s).1) (λs=>(h.2 s).2) hr
inductive Cx where|i (n:Int)|n (n:Nat)|b (b:Bool)|s (s:ByteArray)|f (f:be)
def dv:List Cx->Nat->Int
 |.i n::_,0=>n|_::l,k+1=>dv l k|_,_=>0
def fU:List Cx->Nat->Nat
 |.n n::_,0=>n|_::l,k+1=>fU l k|_,_=>0
def lT:List Cx->Nat->Nat->List V
 |.f n::_,0=>n|_::l,k+1=>lT l k|_,_=>λ_=>[]
abbrev JJ:=Nat×List Cx
def SN (J:Type) (e:Nat) (ty:TypeId) (ct:bm) (un:l8) (sf:aK) (ds:List V):Bh (cq J):=o0 (oR ct LV) (ou ct) un LV sf ds [] λv h=>.ob (LN h v) (.ret (.res (Mc e ty h v)))
theorem GJ {P:Program} {Bs:List TypeId} {C3:List iU} {ct:bm} {f:FuncId} {fn:Func} {sf:aK} {un:l8} {ts:List Ty} {pre:List V->Prop} {r:List V->V} (hT:aZ P Bs C3 ct) (hE:∀ t∈Bs,dM P t) (hI:mE P Bs C3) (hf:P.funcs[f]? = some fn)
 (hn : (fn.name == "runtime.NumGoroutine") = false) (hc : eS P Bs C3 fn = some sf) (hd : gm sf.ntmps sf.body = true) (ho : gO ts = true)
 (h:∀w0 ds,pre (al ts ds)->bT (dN w0 (SV ct)) (aQ J ct un sf (al ts ds)) (rD (r (al ts ds)))):(vP (bP ts pre r)).Ok P f :=
 mkE (α:=cq J) (K0:=λv=>.ret (.res v)) (Q0:=rD) (λ_ _ _ h=>h) hT hE hI hf hn hc hd ho h
theorem nn1 {P:Program} {Bs:List TypeId} {C3:List iU} {ct:bm} {f:FuncId} {fn:Func} {sf:aK} {un:l8} {e:Nat} {ty:TypeId} {ts:List Ty} {pre:List V->Prop} {r:List V->V} (hT:aZ P Bs C3 ct) (hE:∀ t∈Bs,dM P t) (hI:mE P Bs C3) (hf:P.funcs[f]? = some fn)
 (hn : (fn.name == "runtime.NumGoroutine") = false) (hc : eS P Bs C3 fn = some sf) (hd : gm sf.ntmps sf.body = true) (ho : gO ts = true)
 (h:∀w0 ds,pre (al ts ds)->bT (dN w0 (SV ct)) (SN J e ty ct un sf (al ts ds)) (rD (r (al ts ds)))):(vL e ty (bP ts pre r)).Ok P f :=
 i11 (α:=cq J) (K0:=λv h=>.ob (LN h v) (.ret (.res (Mc e ty h v)))) (Q0:=rD) (λ_ _ _ _ h=>h) hT hE hI hf hn hc hd ho h
end
end Go.Dx
namespace Go.Sx
section
variable {P:Program} {m:aN}
theorem hfc {t:TypeId} {k:IntKind} (ht:P.underlying t=some (.int k)) {us:Array Value} {i:Nat} {v:Value} (hv:us[i]? = some v) (w:World):(part t us i).run P w=.ok v w:=by
 unfold part;have hi:(isAgg t).run P w=.ok false w:=by unfold isAgg;rw[af (aO ht w)];rfl
 rw[af hi];simp only[Ee,EC,hv];rfl
end
end Go.Sx
namespace Go.Sx
def vl (P:Program) (Pw:TypeId->Bool):List Field->Nat->Bool
 |[],_=>true
 |f :: fs, i => decide (f.name ≠ "_") && Nat.beq f.offset i && Pw f.type && vl P Pw fs (i + P.cellsOf f.type)
def D8 (P:Program):List Field->Nat
 |[]=>0|f::fs=>P.cellsOf f.type+D8 P fs
def nM (P:Program):Nat->TypeId->Bool
 |0,_=>false
 |d+1,t=>match P.underlying t with|some (.int _)=>Nat.beq (P.cellsOf t) 1|some (.array n e)=>Nat.beq (P.cellsOf t) (n*P.cellsOf e)&&nM P d e|some (.struct fs)=>Nat.beq (P.cellsOf t) (D8 P fs.toList)&&!P.stoodInHeld t&&vl P (nM P d) fs.toList 0|_=>false
section
variable {P:Program} {m:aN}
theorem pJ:∀ {xs ys:List ak} {b:Bool},ck xs ys=some b->ys.length=xs.length
 |[],[],_,_=>rfl|[],_::_,_,h=>by simp[ck]at h
 |x::xs,[],_,h=>by cases x<;>simp[ck]at h
 |x::xs,y::ys,_,h=>by
   cases x<;>try (simp[ck]at h;done)
   cases y<;>try (simp[ck]at h;done)
   simp only[ck]at h;split at h
   ·simp only[DZ]at h;obtain⟨b',hb,_⟩:=h;simp[pJ hb]
   ·cases h
theorem m8:∀ (c:Nat) {xs ys:List ak} {b:Bool},ck xs ys=some b->∃ b1 b2,ck (xs.take c) (ys.take c)=some b1/\ck (xs.drop c) (ys.drop c)=some b2/\b=(b1&&b2)
 |0,xs,ys,b,h=>⟨true,b,by simp[ck],by simpa using h,au⟩|c+1,[],[],b,h=>⟨true,b,by simp[ck],by simpa using h,au⟩|c+1,[],_::_,b,h=>by simp[ck]at h
 |c+1,x::xs,[],b,h=>by cases x<;>simp[ck]at h
 |c+1,x::xs,y::ys,b,h=>by
   cases x<;>try (simp[ck]at h;done)
   cases y<;>try (simp[ck]at h;done)
   rename_i k a k' a';simp only[ck]at h;split at h
   ·rename_i hk;simp only[DZ]at h;obtain⟨b',hb,rfl⟩:=h;obtain⟨b1,b2,M,N,rfl⟩:=m8 c hb;exact⟨(a==a')&&b1,b2,by simp[ck,hk,M],by simpa using N,by rw[Bool.and_assoc]⟩
   ·cases h
def Nv (P:Program) (m:aN) (dd:Nat) (t:TypeId):Prop:=∀ (us vs:Array Value) (off:Nat) (xs ys:List ak) (b:Bool) (w:World),xs.length=P.cellsOf t->aC m xs ((us.toList.drop off).take (P.cellsOf t))->aC m ys ((vs.toList.drop off).take (P.cellsOf t))->ck xs ys=some b ->
 ∃a c,(part t us off).run P w=.ok a w/\(part t vs off).run P w=.ok c w/\(Op.equalIn dd t a c).run P w=.ok b w
theorem hez {dd:Nat} {us vs:Array Value}:∀ (fs:List Field) (i:Nat) (xs ys:List ak) (b:Bool) (w:World),(∀ f∈fs,Nv P m dd f.type)->vl P (λ_=>true) fs i=true->xs.length=D8 P fs->aC m xs ((us.toList.drop i).take (D8 P fs))->aC m ys ((vs.toList.drop i).take (D8 P fs))->ck xs ys=some b ->
 (Op.eqFields dd us vs fs).run P w=.ok b w
 |[],i,xs,ys,b,w,_,_,hl,_,_,hb=>by
   cases xs with
   |cons _ _=>simp[D8]at hl
   |nil=>cases ys with|nil=>simp[ck]at hb;subst hb;rfl|cons _ _=>simp[ck]at hb
 |f::fs,i,xs,ys,b,w,hq,hf,hl,hx,hy,hb=>by
   simp only[vl,D2,E0]at hf;obtain⟨⟨⟨M,N⟩,_⟩,h4⟩:=hf;have ho:=DT N;simp only[D8]at hl hx hy;obtain⟨b1,b2,e1,e2,rfl⟩:=m8 (P.cellsOf f.type) hb;have R:=fK (P.cellsOf f.type) hx;have W:=gz (P.cellsOf f.type) hx;have y1:=fK (P.cellsOf f.type) hy;have y2:=gz (P.cellsOf f.type) hy;rw[HJ,Ig K]at R y1;rw[JU,H1,Nat.add_sub_cancel_left]at W y2;obtain⟨a,c,r1,r2,r3⟩:=hq f au us vs i _ _ b1 w (by rw[Kw];omega) R y1 e1;simp only[Op.eqFields];rw[CV M,ho,af r1,af r2,af r3];cases b1 with
   |false=>rfl|true=>exact hez fs (i+P.cellsOf f.type) _ _ b2 w (λg hg=>hq g (by simp[hg])) h4 (by rw[JP];omega) W y2 e2
theorem hf4 {dd:Nat} {e:TypeId} {us vs:Array Value} (hq:Nv P m dd e):∀ (n i:Nat) (xs ys:List ak) (b:Bool) (w:World),xs.length=n*P.cellsOf e->aC m xs ((us.toList.drop (i*P.cellsOf e)).take (n*P.cellsOf e))->aC m ys ((vs.toList.drop (i*P.cellsOf e)).take (n*P.cellsOf e))->ck xs ys=some b ->
 (Op.eqItems dd e (P.cellsOf e) us vs (List.range' i n)).run P w=.ok b w
 |0,i,xs,ys,b,w,hl,_,_,hb=>by
   cases xs with
   |cons _ _=>simp at hl
   |nil=>cases ys with|nil=>simp[ck]at hb;subst hb;rfl|cons _ _=>simp[ck]at hb
 |n+1,i,xs,ys,b,w,hl,hx,hy,hb=>by
   have hn:(n+1)*P.cellsOf e=P.cellsOf e+n*P.cellsOf e:=by rw[FZ,Nat.one_mul,Ja]
   have hi:i*P.cellsOf e+P.cellsOf e=(i+1)*P.cellsOf e:=by rw[FZ,Nat.one_mul]
   rw[hn]at hl hx hy;obtain⟨b1,b2,e1,e2,rfl⟩:=m8 (P.cellsOf e) hb;have R:=fK (P.cellsOf e) hx;have W:=gz (P.cellsOf e) hx;have y1:=fK (P.cellsOf e) hy;have y2:=gz (P.cellsOf e) hy;rw[HJ,Ig K]at R y1;rw[JU,H1,Nat.add_sub_cancel_left,hi]at W y2;obtain⟨a,c,r1,r2,r3⟩:=hq us vs _ _ _ b1 w (by rw[Kw];omega) R y1 e1;rw[Ii];simp only[Op.eqItems];rw[af r1,af r2,af r3];cases b1 with
   |false=>rfl|true=>exact hf4 hq n (i+1) _ _ b2 w (by rw[JP];omega) W y2 e2
theorem AZ {Pw:TypeId->Bool}:∀ {fs:List Field} {i:Nat},vl P Pw fs i=true->(∀ f∈fs,Pw f.type=true)/\vl P (λ_=>true) fs i=true
 |[],_,_=>⟨au,rfl⟩
 |f::fs,i,h=>by
   simp only[vl,D2]at h ⊢;have k:=AZ h.2;exact⟨λg hg=>by
    rcases List.mem_cons.1 hg with rfl|hg
    ·exact h.1.2
    ·exact k.1 g hg,⟨⟨h.1.1,trivial⟩,k.2⟩⟩
theorem hlx:∀ (d dd:Nat) (t:TypeId),nM P d t=true->(∀ n e,P.underlying t=some (.array n e)->True)->d<=dd->∀ (us vs:Array Value) (xs ys:List ak) (b:Bool) (w:World),(match P.underlying t with|some (.array _ _)|some (.struct _)=>true|_=>false)=true->xs.length=P.cellsOf t->aC m xs (us.toList.take (P.cellsOf t))->aC m ys (vs.toList.take (P.cellsOf t))->ck xs ys=some b ->
 (Op.equalIn dd t (.agg us) (.agg vs)).run P w=.ok b w:=by
 intro d;induction d with
 |zero=>intro dd t h;cases h
 |succ d ih=>
   intro dd t h _ hd us vs xs ys b w hw hl hx hy hb;obtain⟨dd,rfl⟩:∃ Pw,dd=Pw+1:=⟨dd-1,K⟩;have pt:∀ e,nM P d e=true->Nv P m dd e:=by
    intro e he us vs off xs ys b w hl hx hy hb;cases hu:P.underlying e with
    |none=>cases d<;>simp[nM,hu]at he
    |some k=>
      obtain⟨ie,ip15⟩:=info_of_underlying hu;have wide:(match P.underlying e with|some (.array _ _)|some (.struct _)=>true|_=>false)=true->∃ a c,(part e us off).run P w=.ok a w/\(part e vs off).run P w=.ok c w/\(Op.equalIn dd e a c).run P w=.ok b w:=by
       intro hw;have pa:∀zs:Array Value,(part e zs off).run P w=.ok (.agg (zs.extract off (off+P.cellsOf e))) w:=by intro zs;rw[hu]at hw;cases k<;>first|(cases hw;done)|simp[part,isAgg,aO hu,Go.run_sizeOf w ip15]
       have ex:∀zs:Array Value,(zs.extract off (off+P.cellsOf e)).toList.take (P.cellsOf e)=(zs.toList.drop off).take (P.cellsOf e):=by intro zs;rw[Array.toList_extract];simp[List.extract,HJ]
       exact⟨_,_,pa us,pa vs,ih dd e he (λ_ _ _=>trivial) K _ _ xs ys b w hw hl (by rw[ex];exact hx) (by rw[ex];exact hy) hb⟩
      cases k with
      |array n e'=>exact wide (by rw[hu])|struct fs=>exact wide (by rw[hu])
      |int Pw=>
        obtain⟨d,rfl⟩:∃r,d=r+1:=by cases d with|zero=>cases he|succ r=>exact⟨r,rfl⟩
        have hc:P.cellsOf e=1:=by simp only[nM,hu]at he;exact DT he
        rw[hc]at hl hx hy;obtain⟨dd',rfl⟩:∃r,dd=r+1:=⟨dd-1,K⟩;have Ro:=(pJ hb).trans hl;obtain⟨x,rfl⟩:=List.length_eq_one_iff.1 hl;obtain⟨y,rfl⟩:=List.length_eq_one_iff.1 Ro;cases x<;>try (simp[ck]at hb;done)
        cases y<;>try (simp[ck]at hb;done)
        rename_i k a k' a';simp only[ck]at hb;split at hb
        ·rename_i hk;subst hk;simp only[E2,DJ,K6]at hb;subst hb;simp only[aC,C5]at hx hy;obtain⟨u,us',M,N,h3⟩:=hx;obtain⟨v,vs',g1,g2,g3⟩:=hy;subst N;subst g2;have ybn:us[off]? = some (.int k a):=getElem?_of_chunk (c:=1) (by rw[M,h3]);have ybo:vs[off]? = some (.int k a'):=getElem?_of_chunk (c:=1) (by rw[g1,g3]);exact⟨_,_,hfc hu ybn w,hfc hu ybo w,run_equalIn_int w dd' e k Pw a a' hu⟩
        ·cases hb
      |_=>cases d<;>simp[nM,hu]at he
   cases hu:P.underlying t with
   |none=>simp[hu]at hw
   |some k=>
     cases k with
     |array n e=>
       obtain⟨hc,he⟩:P.cellsOf t=n*P.cellsOf e/\nM P d e=true:=by simp only[nM,hu,D2]at h;exact⟨DT h.1,h.2⟩
       obtain⟨ie,hi⟩:∃ i,P.info? e=some i:=by
        cases hue:P.underlying e with
        |none=>cases d<;>simp[nM,hue]at he|some k=>exact info_of_underlying hue
       rw[run_equalIn_array w _ us vs hu hi,Ky];rw[hc]at hl hx hy;exact hf4 (pt e he) n 0 xs ys b w hl (by simpa using hx) (by simpa using hy) hb
     |struct fs=>
       obtain⟨⟨hc,hs⟩,hf⟩:(P.cellsOf t=D8 P fs.toList/\P.stoodInHeld t=false)/\vl P (nM P d) fs.toList 0=true:=by simp only[nM,hu,D2,G6]at h;exact⟨⟨DT h.1.1,h.1.2⟩,h.2⟩
       have XA:P.fieldsOf t=fs:=by unfold Program.fieldsOf;rw[hu]
       rw[run_equalIn_struct w _ t us vs (by rw[hu,XA]) hs,XA];rw[hc]at hl hx hy;have k:=AZ hf;exact hez _ 0 xs ys b w (λf hf=>pt _ (k.1 f hf)) k.2 hl (by simpa using hx) (by simpa using hy) hb
     |_=>simp[hu]at hw
theorem j4 {t:TypeId} (d:Nat) (h:(nM P d t&&decide (d<=10000)&&(match P.underlying t with|some (.array _ _)|some (.struct _)=>true|_=>false)&&!P.eqGuardType P.depth t&&decide ((P.info? t).map (·.size)=some (P.cellsOf t)))=true):dM P t:=by simp only[D2,E0,G6]at h;obtain⟨⟨⟨⟨M,N⟩,h3⟩,h4⟩,h5⟩:=h;refine⟨h4,λn hn xs ys us vs m b w hl hx hy hb=>?_⟩;rw[h5]at hn;cases hn;have nza15:=c7 hx;have izb18:=pJ hb;have nza18:=c7 hy;unfold Op.equal;exact hlx d _ t M (λ_ _ _=>trivial) N us vs xs ys b w h3 hl (by rw[IZ K];exact hx) (by rw[IZ K];exact hy) hb
end
end Go.Sx
namespace Go.Dx
abbrev av (l:List V):Int:=iv (aA l)
abbrev aP (l:List V):Int:=iv (aA (I l))
abbrev bV (l:List V):Int:=iv (aA (I (I l)))
abbrev bf (l:List V):Int:=iv (aA (I (I (I l))))
abbrev cu (l:List V):Int:=iv (aA (I (I (I (I l)))))
abbrev bE (l:List V):Int:=iv (aA (I (I (I (I (I l))))))
theorem BX {p:Prop} [inst:Decidable p] (h:p):decide p=true:=JQ h
theorem eQ {p:Prop} [inst:Decidable p] (h:¬p):decide p=false:=decide_eq_false h
theorem mn {a b:Int} (h:0<=a) (g:0<=b):0<=a*b:=Int.mul_nonneg h g
theorem Iq {a b c:Int} (h:a<=b) (g:0<=c):c*a<=c*b:=Int.mul_le_mul_of_nonneg_left h g
def iR:Nat->Nat->o8->o8
 |_,0,l=>l|k,n+1,l=>some (some k)::iR (k+1) n l
def oV (ct:bm) (un:l8) (j:JJ) (l:Lp JJ) (s:bS×List Ax×Option Sx.Ex):Bh (cq JJ):=Lm ct un j l s.1 s.2.1 s.2.2
abbrev A (n:Int):V:=.int .i64 n
abbrev tI:Ty:=.int .i64
abbrev E (x:Int):Int:=IntKind.i64.wrap x
abbrev aM:List Ty:=[Ty.int IntKind.i64,Ty.int IntKind.i64]
abbrev gV:List Ty:=[Ty.int IntKind.i64,Ty.int IntKind.i64,Ty.int IntKind.i64,Ty.int IntKind.i64]
abbrev L:List Ty:=[Ty.int IntKind.i64]
abbrev bd:List Ty:=[Ty.str,Ty.int IntKind.i64,Ty.sl [Ty.int IntKind.i64,Ty.int IntKind.i64],Ty.int IntKind.i64]
abbrev bu:List Ty:=[Ty.int IntKind.i64,Ty.int IntKind.i64,Ty.int IntKind.i64,Ty.int IntKind.i64,Ty.sl [Ty.int IntKind.i64,Ty.int IntKind.i64,Ty.int IntKind.i64,Ty.int IntKind.i64]]
abbrev aV:List Ty:=[Ty.str,Ty.int IntKind.i64,Ty.int IntKind.i64,Ty.int IntKind.i64,Ty.int IntKind.i64,Ty.int IntKind.i64]
abbrev bq:List Ty:=[Ty.int IntKind.i64,Ty.int IntKind.i64,Ty.int IntKind.i64,Ty.int IntKind.i64,Ty.int IntKind.i64]
abbrev ap:List Ty:=[Ty.str,Ty.sl [Ty.int IntKind.i64],Ty.sl [Ty.int IntKind.i64],Ty.sl [Ty.sl [Ty.int IntKind.i64]],Ty.int IntKind.i64,Ty.int IntKind.i64]
abbrev B4:List Ty:=[Ty.str,Ty.int IntKind.i64,Ty.int IntKind.i64,Ty.int IntKind.i64,Ty.int IntKind.i64,Ty.int IntKind.i64,Ty.int IntKind.i64,Ty.int IntKind.i64,Ty.int IntKind.i64,Ty.int IntKind.i64,Ty.int IntKind.i64,Ty.int IntKind.i64,Ty.int IntKind.i64,Ty.int IntKind.i64]
abbrev cI:List Ty:=[Ty.int IntKind.i64,Ty.int IntKind.i64,Ty.int IntKind.i64]
abbrev Ca (H:Nat) (G:be) (T:Nat) (O:be) (n4:Nat) (f4:be) (n6:Nat) (f6:be):V:=.agg [.sl H (D bd G),.sl T (D bq O),.sl n4 (D bu f4),.sl n6 (D aV f6)]
end Go.Dx
namespace Go.Dx
open Go.IntKind (i64 u64 u8)
open Go.Sx Go.Proofs
def Bs:List TypeId:=[39,61,45,233,149]
noncomputable section
noncomputable def itF (n:FuncId) (f:Func):iU:=⟨n,((sG Tryz.prog Bs f).getD (0,.skip)).1,((sG Tryz.prog Bs f).getD (0,.skip)).2⟩
def C3:List iU:=[itF 54 Tryz.f54,itF 182 Tryz.f182]
noncomputable def bQ (f:Func):aK:=(eS Tryz.prog Bs C3 f).getD ⟨0,[],.skip⟩
def aiz:aK:=bQ Tryz.f3
def hbl:aK:=bQ Tryz.f5
def ak5:aK:=bQ Tryz.f6
def ajx:aK:=bQ Tryz.f7
def akS:aK:=bQ Tryz.f8
def hb2:aK:=bQ Tryz.f10
def f26:aK:=bQ Tryz.f11
def axz:aK:=bQ Tryz.f12
def azD:aK:=bQ Tryz.f13
def hch:aK:=bQ Tryz.f14
def aga:aK:=bQ Tryz.f15
def ahu:aK:=bQ Tryz.f16
def aiG:aK:=bQ Tryz.f17
def ajK:aK:=bQ Tryz.f18
def agn:aK:=bQ Tryz.f19
def aiy:aK:=bQ Tryz.f20
def ai8:aK:=bQ Tryz.f23
def axN:aK:=bQ Tryz.f24
def hcl:aK:=bQ Tryz.f25
def fm5:aK:=bQ Tryz.f26
def A3:aK:=bQ Tryz.f27
def fa2:aK:=bQ Tryz.f28
def afP:aK:=bQ Tryz.f29
def dwL:aK:=bQ Tryz.f30
def aiF:aK:=bQ Tryz.f31
def axI:aK:=bQ Tryz.f32
def BN:aK:=bQ Tryz.f33
def afv:aK:=bQ Tryz.f34
def aj9:aK:=bQ Tryz.f35
def aiL:aK:=bQ Tryz.f36
def afm:aK:=bQ Tryz.f37
def ajL:aK:=bQ Tryz.f38
def amI:aK:=bQ Tryz.f39
def agc:aK:=bQ Tryz.f40
def aj8:aK:=bQ Tryz.f41
def afe:aK:=bQ Tryz.f42
def ak8:aK:=bQ Tryz.f43
def fb2:aK:=bQ Tryz.f44
def ajR:aK:=bQ Tryz.f45
def CN:aK:=bQ Tryz.f46
def amk:aK:=bQ Tryz.f47
def al6:aK:=bQ Tryz.f49
def ayi:aK:=bQ Tryz.f50
def aim:aK:=bQ Tryz.f51
def ZA:aK:=bQ Tryz.f52
def eqB:aK:=bQ Tryz.f53
def BP:aK:=bQ Tryz.f55
def CO:aK:=bQ Tryz.f56
def hag:aK:=bQ Tryz.f57
def Ul:aK:=bQ Tryz.f58
def aiT:aK:=bQ Tryz.f59
def alp:aK:=bQ Tryz.f60
def akF:aK:=bQ Tryz.f61
def axq:aK:=bQ Tryz.f62
def ale:aK:=bQ Tryz.f63
def awm:aK:=bQ Tryz.f64
def alH:aK:=bQ Tryz.f65
def xH:aK:=bQ Tryz.f66
def hb1:aK:=bQ Tryz.f67
def GA:aK:=bQ Tryz.f68
def ah5:aK:=bQ Tryz.f69
def afR:aK:=bQ Tryz.f70
def axt:aK:=bQ Tryz.f71
def axk:aK:=bQ Tryz.f72
def fx7:aK:=bQ Tryz.f73
def agw:aK:=bQ Tryz.f75
def akO:aK:=bQ Tryz.f76
def aj7:aK:=bQ Tryz.f77
def akw:aK:=bQ Tryz.f78
def akk:aK:=bQ Tryz.f79
def ain:aK:=bQ Tryz.f80
def aib:aK:=bQ Tryz.f81
def aja:aK:=bQ Tryz.f82
def ame:aK:=bQ Tryz.f83
def axy:aK:=bQ Tryz.f84
def avv:aK:=bQ Tryz.f85
def avi:aK:=bQ Tryz.f86
def au9:aK:=bQ Tryz.f87
def avs:aK:=bQ Tryz.f88
def azj:aK:=bQ Tryz.f89
def aw0:aK:=bQ Tryz.f90
def avo:aK:=bQ Tryz.f91
def IS:aK:=bQ Tryz.f92
def yaX:aK:=bQ Tryz.f93
def fh8:aK:=bQ Tryz.f94
def hc2:aK:=bQ Tryz.f95
def afA:aK:=bQ Tryz.f96
def agj:aK:=bQ Tryz.f97
def aq7:aK:=bQ Tryz.f98
def asl:aK:=bQ Tryz.f99
def ay3:aK:=bQ Tryz.f100
def auS:aK:=bQ Tryz.f101
def awF:aK:=bQ Tryz.f102
def ayT:aK:=bQ Tryz.f103
def ayc:aK:=bQ Tryz.f104
def avw:aK:=bQ Tryz.f105
def alf:aK:=bQ Tryz.f106
def axp:aK:=bQ Tryz.f107
def agK:aK:=bQ Tryz.f108
def aik:aK:=bQ Tryz.f109
def alq:aK:=bQ Tryz.f110
def aid:aK:=bQ Tryz.f111
def aju:aK:=bQ Tryz.f112
def afi:aK:=bQ Tryz.f113
def agl:aK:=bQ Tryz.f114
def alr:aK:=bQ Tryz.f115
def ahN:aK:=bQ Tryz.f116
def avJ:aK:=bQ Tryz.f117
def axb:aK:=bQ Tryz.f118
def awz:aK:=bQ Tryz.f119
def axH:aK:=bQ Tryz.f120
def ayS:aK:=bQ Tryz.f121
def fs1:aK:=bQ Tryz.f122
def ahE:aK:=bQ Tryz.f123
def iS:aK:=bQ Tryz.f124
def qb:aK:=bQ Tryz.f125
def yaQ:aK:=bQ Tryz.f126
def azE:aK:=bQ Tryz.f127
def aiA:aK:=bQ Tryz.f129
def alG:aK:=bQ Tryz.f130
def als:aK:=bQ Tryz.f132
def ail:aK:=bQ Tryz.f133
def aeP:aK:=bQ Tryz.f134
def aiP:aK:=bQ Tryz.f135
def ajG:aK:=bQ Tryz.f136
def ako:aK:=bQ Tryz.f137
def alv:aK:=bQ Tryz.f138
def aqM:aK:=bQ Tryz.f139
def asd:aK:=bQ Tryz.f140
def arP:aK:=bQ Tryz.f141
def anR:aK:=bQ Tryz.f142
def awv:aK:=bQ Tryz.f143
def ay8:aK:=bQ Tryz.f144
def aqI:aK:=bQ Tryz.f145
def apr:aK:=bQ Tryz.f146
def aqW:aK:=bQ Tryz.f147
def arm:aK:=bQ Tryz.f148
def aud:aK:=bQ Tryz.f149
def ap1:aK:=bQ Tryz.f150
def ao6:aK:=bQ Tryz.f151
def hbv:aK:=bQ Tryz.f152
def atw:aK:=bQ Tryz.f153
def aoe:aK:=bQ Tryz.f154
def atj:aK:=bQ Tryz.f155
def aqZ:aK:=bQ Tryz.f156
def an3:aK:=bQ Tryz.f157
def av1:aK:=bQ Tryz.f158
def agO:aK:=bQ Tryz.f159
def aiU:aK:=bQ Tryz.f160
def axE:aK:=bQ Tryz.f161
def axB:aK:=bQ Tryz.f162
def aw6:aK:=bQ Tryz.f163
def ayC:aK:=bQ Tryz.f164
def axQ:aK:=bQ Tryz.f165
def agL:aK:=bQ Tryz.f166
def ajg:aK:=bQ Tryz.f167
def af2:aK:=bQ Tryz.f168
def aiV:aK:=bQ Tryz.f169
def ahe:aK:=bQ Tryz.f170
def avk:aK:=bQ Tryz.f171
def apG:aK:=bQ Tryz.f172
def atz:aK:=bQ Tryz.f173
def apY:aK:=bQ Tryz.f174
def aoA:aK:=bQ Tryz.f175
def aqh:aK:=bQ Tryz.f176
def axc:aK:=bQ Tryz.f177
def r5:aK:=bQ Tryz.f178
def ow:aK:=bQ Tryz.f179
def aks:aK:=bQ Tryz.f180
def akN:aK:=bQ Tryz.f181
def amG:aK:=bQ Tryz.f183
def aiH:aK:=bQ Tryz.f184
def aft:aK:=bQ Tryz.f185
def afH:aK:=bQ Tryz.f186
def acA:aK:=bQ Tryz.f187
def ast:aK:=bQ Tryz.f189
def aoO:aK:=bQ Tryz.f190
def aot:aK:=bQ Tryz.f191
def aoy:aK:=bQ Tryz.f192
def ayD:aK:=bQ Tryz.f193
def axM:aK:=bQ Tryz.f194
def aod:aK:=bQ Tryz.f195
def aoS:aK:=bQ Tryz.f196
def aqO:aK:=bQ Tryz.f197
def atZ:aK:=bQ Tryz.f198
def aqi:aK:=bQ Tryz.f199
def ap3:aK:=bQ Tryz.f200
def ao8:aK:=bQ Tryz.f201
def asj:aK:=bQ Tryz.f202
def ajM:aK:=bQ Tryz.f203
def akb:aK:=bQ Tryz.f204
def amg:aK:=bQ Tryz.f205
def aqs:aK:=bQ Tryz.f206
def amw:aK:=bQ Tryz.f207
def aez:aK:=bQ Tryz.f208
def axl:aK:=bQ Tryz.f209
def avg:aK:=bQ Tryz.f210
def aq4:aK:=bQ Tryz.f211
def auU:aK:=bQ Tryz.f212
def aua:aK:=bQ Tryz.f213
def ank:aK:=bQ Tryz.f214
def aoG:aK:=bQ Tryz.f215
def f13:aK:=bQ Tryz.f216
def anr:aK:=bQ Tryz.f224
def aoL:aK:=bQ Tryz.f225
def aaT:aK:=bQ Tryz.f226
def ba2:aK:=bQ Tryz.f227
def ev2:aK:=bQ Tryz.f228
def arJ:aK:=bQ Tryz.f233
def aqn:aK:=bQ Tryz.f242
def Sy:aK:=bQ Tryz.f243
end
theorem hE:∀ t∈Bs,dM Tryz.prog t:=by
 intro t ht;simp only[Bs,ET,I4,or_false]at ht;rcases ht with rfl|rfl|rfl|rfl|rfl
 ·exact j4 3 bw
 ·exact j4 3 bw
 ·exact j4 3 bw
 ·exact j4 3 bw
 ·exact j4 3 bw
theorem hI:mE Tryz.prog Bs C3:=by
 intro it ht;simp only[C3,ET,I4,or_false]at ht;rcases ht with rfl|rfl
 ·exact⟨_,Tryz.func54,by kernel_rfl,by kernel_rfl⟩
 ·exact⟨_,Tryz.func182,by kernel_rfl,by kernel_rfl⟩
def u0:l8:=λ_=>0
noncomputable def Jg (fn : Func) (sf : aK) (ts : List Ty) : Bool × Option aK × Bool × Bool := (fn.name == "runtime.NumGoroutine", eS Tryz.prog Bs C3 fn, gm sf.ntmps sf.body, gO ts)
abbrev dm {α:Sort _} {β:Sort _} (_:α) (b:β):β:=b
abbrev RT.am {Q1:Type} (n:Nat) (x:RT Q1):RT Q1:=.asm (true=true->n<=9223372036854775807) x
abbrev RT.cb {Q1:Type} (x:RT Q1):RT Q1:=.obc (.obt x)
abbrev RT.ii {Q1:Type} (x:RT Q1):RT Q1:=.obi (.obi x)
abbrev RT.iv {Q1:Type} (x:RT Q1):RT Q1:=.ii (.ii x)
abbrev nz (x:Int):Prop:=x=0->False
abbrev dI (x:Int) (n:Nat):Bool:=decide (0<=x/\x<(n:Int))
theorem iq {f : FuncId} {fn : Func} {sf : aK} {un : l8} {ct : bm} (hf : Tryz.prog.funcs[f]? = some fn) (hk : (fn.name == "runtime.NumGoroutine", eS Tryz.prog Bs C3 fn, gm sf.ntmps sf.body) = (false, some sf, true)) (hl : aZ Tryz.prog Bs C3 ct) : aZ Tryz.prog Bs C3 ((f, .inl sf un) :: ct) := .inl hf (congrArg Prod.fst hk) (congrArg (fun x => x.2.1) hk) (congrArg (fun x => x.2.2) hk) hl
theorem ft {fn : Func} {sf : aK} {ts : List Ty} (h : Jg fn sf ts = (false, some sf, true, true)) : (fn.name == "runtime.NumGoroutine") = false /\ eS Tryz.prog Bs C3 fn = some sf /\ gm sf.ntmps sf.body = true /\ gO ts = true := by
 have M:=congrArg Prod.fst h
 have N:=congrArg (λx=>x.2.1) h
 have h3:=congrArg (λx=>x.2.2.1) h
 have h4:=congrArg (λx=>x.2.2.2) h
 exact⟨M,N,h3,h4⟩
section
variable {ct:bm} {f:FuncId} {fn:Func} {sf:aK} {un:l8} {ts:List Ty} {pre:List V->Prop} {r:List V->V}
theorem PE (hT:aZ Tryz.prog Bs C3 ct) (hf:Tryz.prog.funcs[f]? = some fn) (hk:Jg fn sf ts=(false,some sf,true,true)) (h:∀ ds,pre (al ts ds)->J3 ct (aQ JJ ct un sf (al ts ds)) (r (al ts ds))):(vP (bP ts pre r)).Ok Tryz.prog f :=
 GJ (J:=JJ) (un:=un) hT hE hI hf (ft hk).1 (ft hk).2.1 (ft hk).2.2.1 (ft hk).2.2.2 λw0 ds hp=>h ds hp hT.dst w0
abbrev b9 (C:aE) (k:FuncId):Prop:=(vP C).Ok Tryz.prog k
theorem aU (hT:aZ Tryz.prog Bs C3 ct) (h:∀ds,pre (al ts ds) → J3 ct (aQ JJ ct un sf (al ts ds)) (r (al ts ds))) (hk:(Tryz.prog.funcs[f]?).map (λfn=>Jg fn sf ts)=some (false,some sf,true,true):=by kernel_rfl):(vP (bP ts pre r)).Ok Tryz.prog f:=by obtain⟨fn,hf,hk⟩:=Option.map_eq_some_iff.1 hk;exact PE hT hf hk h
theorem ayH {e:Nat} {ty:TypeId} (hT:aZ Tryz.prog Bs C3 ct) (hf:Tryz.prog.funcs[f]? = some fn) (hk:Jg fn sf ts=(false,some sf,true,true)) (h:∀ ds,pre (al ts ds)->J3 ct (SN JJ e ty ct un sf (al ts ds)) (r (al ts ds))):(vL e ty (bP ts pre r)).Ok Tryz.prog f :=
 nn1 (J:=JJ) (un:=un) hT hE hI hf (ft hk).1 (ft hk).2.1 (ft hk).2.2.1 (ft hk).2.2.2 λw0 ds hp=>h ds hp hT.dst w0
end
variable (S:Int) (s0:ByteArray) (R W U Q x5 x6 Z Y:Int) (b8:Bool) (x9 Ps Pr:Int)
noncomputable section
def rH:bm:=[]
theorem mL:aZ Tryz.prog Bs C3 rH:=.nil
def m84:RT Empty:=.ret (V.agg [A (E (S-W)),A (E (R-U))])
theorem anJ:cY cZ (aQ JJ rH u0 ayD [V.agg [A S,A R],V.agg [A W,A U]]) (m84 S R W U):=bD
def bN:Int:=E (S-W)
def bM:Int:=E (R-U)
def MS:V:=.agg [A (bN S W),A (bM R U)]
theorem auY:aT cM (m84 S R W U) (MS S R W U):=B5 (by unfold MS bN bM;rfl)
def C84:aE:=bP [.agg aM,.agg aM] (λ_=>True) λ|[.agg [.int _ S,.int _ R],.agg [.int _ W,.int _ U]]=>MS S R W U|_=>.any
theorem aw9:b9 C84 193:=aU mL λ_ hp=>da (anJ ..) (auY _ _ _ _)
def m85:RT Empty:=.ret (A (E (E (S*W)+E (R*U))))
theorem ap6:cY cZ (aQ JJ rH u0 axM [V.agg [A S,A R],V.agg [A W,A U]]) (m85 S R W U):=bD
def jn:Int:=E (E (S*W)+E (R*U))
def MV:V:=A (jn S R W U)
theorem ayt:aT cM (m85 S R W U) (MV S R W U):=B5 (by unfold MV jn;rfl)
def C85:aE:=bP [.agg aM,.agg aM] (λ_=>True) λ|[.agg [.int _ S,.int _ R],.agg [.int _ W,.int _ U]]=>MV S R W U|_=>.any
theorem avN:b9 C85 194:=aU mL λ_ hp=>da (ap6 ..) (ayt _ _ _ _)
def arL:RT Empty:=.ret (A (E (E (S*U)-E (R*W))))
theorem alu:cY cZ (aQ JJ rH u0 aod [V.agg [A S,A R],V.agg [A W,A U]]) (arL S R W U):=bD
def eu:Int:=E (E (S*U)-E (R*W))
def OA:V:=A (eu S R W U)
theorem atn:aT cM (arL S R W U) (OA S R W U):=B5 (by unfold OA eu;rfl)
def as7:aE:=bP [.agg aM,.agg aM] (λ_=>True) λ|[.agg [.int _ S,.int _ R],.agg [.int _ W,.int _ U]]=>OA S R W U|_=>.any
theorem asU:b9 as7 195:=aU mL λ_ hp=>da (alu ..) (atn _ _ _ _)
def aqf:RT Empty:=.ret (V.agg [A (E (W*S)),A (E (W*R))])
theorem agU:cY cZ (aQ JJ rH u0 atw [V.agg [A S,A R],A W]) (aqf S R W):=bD
def xG:Int:=E (W*S)
def y7:Int:=E (W*R)
def OL:V:=.agg [A (xG S W),A (y7 R W)]
theorem arc:aT cM (aqf S R W) (OL S R W):=B5 (by unfold OL xG y7;rfl)
def asy:aE:=bP [.agg aM,tI] (λ_=>True) λ|[.agg [.int _ S,.int _ R],.int _ W]=>OL S R W|_=>.any
theorem an0:b9 asy 153:=aU mL λ_ hp=>da (agU ..) (arc _ _ _)
def m86:RT Empty:=.obi (.obi (.obi (.ret (V.bool (bif decide (S<R) then true else decide (W<S))))))
theorem aqt:cY cZ (aQ JJ rH u0 ay8 [A S,A R,A W]) (m86 S R W):=bD
def bW:Bool:=bif decide (S<R) then true else decide (W<S)
def MY:V:=.bool (bW S R W)
theorem avR:aT cM (m86 S R W) (MY S R W):=B1 (B1 (B1 (B5 (by unfold MY bW;rfl))))
def M2:aE:=bP cI (λ_=>True) λ|[.int _ S,.int _ R,.int _ W]=>MY S R W|_=>.any
theorem asE:b9 M2 144:=aU mL λ_ hp=>da (aqt ..) (avR _ _ _)
def m71:RT Empty:=.obi (.obi (.obi (.ret (V.bool (bif decide (R<=S) then decide (S<=W) else false)))))
theorem anp:cY cZ (aQ JJ rH u0 aw6 [A S,A R,A W]) (m71 S R W):=bD
def dC:Bool:=bif decide (R<=S) then decide (S<=W) else false
def MO:V:=.bool (dC S R W)
theorem avG:aT cM (m71 S R W) (MO S R W):=B1 (B1 (B1 (B5 (by unfold MO dC;rfl))))
def C71:aE:=bP cI (λ_=>True) λ|[.int _ S,.int _ R,.int _ W]=>MO S R W|_=>.any
theorem ayP:b9 C71 163:=aU mL λ_ hp=>da (anp ..) (avG _ _ _)
def m93:RT Empty:=.ret (V.agg [A (E (S-W)),A (E (R-U))])
theorem asK:cY cZ (aQ JJ rH u0 axl [V.agg [A S,A R],V.agg [A W,A U]]) (m93 S R W U):=bD
def bG:Int:=E (S-W)
def bH:Int:=E (R-U)
def Mm:V:=.agg [A (bG S W),A (bH R U)]
theorem ayh:aT cM (m93 S R W U) (Mm S R W U):=B5 (by unfold Mm bG bH;rfl)
def C93:aE:=bP [.agg aM,.agg aM] (λ_=>True) λ|[.agg [.int _ S,.int _ R],.agg [.int _ W,.int _ U]]=>Mm S R W U|_=>.any
theorem axs:b9 C93 209:=aU mL λ_ hp=>da (asK ..) (ayh _ _ _ _)
def m92:RT Empty:=.ret (A (E (E (S*W)+E (R*U))))
theorem aqa:cY cZ (aQ JJ rH u0 avg [V.agg [A S,A R],V.agg [A W,A U]]) (m92 S R W U):=bD
def jl:Int:=E (E (S*W)+E (R*U))
def Mi:V:=A (jl S R W U)
theorem awp:aT cM (m92 S R W U) (Mi S R W U):=B5 (by unfold Mi jl;rfl)
def C92:aE:=bP [.agg aM,.agg aM] (λ_=>True) λ|[.agg [.int _ S,.int _ R],.agg [.int _ W,.int _ U]]=>Mi S R W U|_=>.any
theorem ayI:b9 C92 210:=aU mL λ_ hp=>da (aqa ..) (awp _ _ _ _)
def m79:RT Empty:=.ret (A (E (E (S*U)-E (R*W))))
theorem anW:cY cZ (aQ JJ rH u0 auU [V.agg [A S,A R],V.agg [A W,A U]]) (m79 S R W U):=bD
def fy:Int:=E (E (S*U)-E (R*W))
def MR:V:=A (fy S R W U)
theorem avc:aT cM (m79 S R W U) (MR S R W U):=B5 (by unfold MR fy;rfl)
def C79:aE:=bP [.agg aM,.agg aM] (λ_=>True) λ|[.agg [.int _ S,.int _ R],.agg [.int _ W,.int _ U]]=>MR S R W U|_=>.any
theorem aw4:b9 C79 212:=aU mL λ_ hp=>da (anW ..) (avc _ _ _ _)
def aqm:RT Empty:=.ret (A (max S (E (0-S))))
theorem ali:cY cZ (aQ JJ rH u0 aq4 [A S]) (aqm S):=bD
def lP:Int:=max S (E (0-S))
def NG:V:=A (lP S)
theorem aoN:aT cM (aqm S) (NG S):=B5 (by unfold NG lP;rfl)
def ap8:aE:=bP L (λ_=>True) λ|[.int _ S]=>NG S|_=>.any
theorem as2:b9 ap8 211:=aU mL λ_ hp=>da (ali ..) (aoN _)
def atX:RT Empty:=.ret (A (max (-1) (min 1 S)))
theorem ajH:cY cZ (aQ JJ rH u0 aoG [A S]) (atX S):=bD
def fA:Int:=max (-1) (min 1 S)
def O9:V:=A (fA S)
theorem arG:aT cM (atX S) (O9 S):=B5 (by unfold O9 fA;rfl)
def ap9:aE:=bP L (λ_=>True) λ|[.int _ S]=>O9 S|_=>.any
theorem anc:b9 ap9 215:=aU mL λ_ hp=>da (ajH ..) (arG _)
def aug:RT Empty:=.obt (.obt (.obt (.obt (.obt (.ret (V.tup [V.int u64 (u64.wrap (u64.wrap (u64.wrap (S.fdiv (2 ^ 32)*R.fdiv (2 ^ 32))+(u64.wrap (u64.wrap (S.fdiv (2 ^ 32)*bits BinOp.and u64 R 4294967295)+(u64.wrap (bits BinOp.and u64 S 4294967295*bits BinOp.and u64 R 4294967295)).fdiv (2 ^ 32))).fdiv (2 ^ 32))+(u64.wrap (bits BinOp.and u64 (u64.wrap (u64.wrap (S.fdiv (2 ^ 32)*bits BinOp.and u64 R 4294967295)+(u64.wrap (bits BinOp.and u64 S 4294967295*bits BinOp.and u64 R 4294967295)).fdiv (2 ^ 32))) 4294967295+u64.wrap (bits BinOp.and u64 S 4294967295*R.fdiv (2 ^ 32)))).fdiv (2 ^ 32))),V.int u64 (u64.wrap (S*R))]))))))
theorem ajp:cY cZ (aQ JJ rH u0 anr [V.int u64 S,V.int u64 R]) (aug S R):=bD
def uS:Int:=u64.wrap (u64.wrap (u64.wrap (S.fdiv (2 ^ 32)*R.fdiv (2 ^ 32))+(u64.wrap (u64.wrap (S.fdiv (2 ^ 32)*bits BinOp.and u64 R 4294967295)+(u64.wrap (bits BinOp.and u64 S 4294967295*bits BinOp.and u64 R 4294967295)).fdiv (2 ^ 32))).fdiv (2 ^ 32))+(u64.wrap (bits BinOp.and u64 (u64.wrap (u64.wrap (S.fdiv (2 ^ 32)*bits BinOp.and u64 R 4294967295)+(u64.wrap (bits BinOp.and u64 S 4294967295*bits BinOp.and u64 R 4294967295)).fdiv (2 ^ 32))) 4294967295+u64.wrap (bits BinOp.and u64 S 4294967295*R.fdiv (2 ^ 32)))).fdiv (2 ^ 32))
def u9:Int:=u64.wrap (S*R)
def N9:V:=.tup [.int u64 (uS S R),.int u64 (u9 S R)]
theorem asa:aT cM (aug S R) (N9 S R):=ac (ac (ac (ac (ac (B5 (by unfold N9 uS u9;rfl))))))
def anM:aE:=bP [.int .u64,.int .u64] (λ_=>True) λ|[.int _ S,.int _ R]=>N9 S R|_=>.any
theorem anK:b9 anM 224:=aU mL λ_ hp=>da (ajp ..) (asa _ _)
def aqq:RT Empty:=.ret (V.bool (S !=S))
theorem aev:cY cZ (aQ JJ rH u0 Sy [A S]) (aqq S):=bD
def dvX:Bool:=S !=S
def O7:V:=.bool (dvX S)
theorem atQ:aT cM (aqq S) (O7 S):=B5 (by unfold O7 dvX;rfl)
def asA:aE:=bP L (λ_=>True) λ|[.int _ S]=>O7 S|_=>.any
theorem aqS:b9 asA 243:=aU mL λ_ hp=>da (aev ..) (atQ _)
def tM:bm:=(193,.con C84)::(194,.con C85)::(195,.con as7)::(153,.con asy)::(144,.con M2)::(163,.con C71)::(209,.con C93)::(210,.con C92)::(212,.con C79)::(211,.con ap8)::(215,.con ap9)::(224,.con anM)::(243,.con asA)::rH
theorem nk:aZ Tryz.prog Bs C3 tM:=.con aw9 (.con avN (.con asU (.con an0 (.con asE (.con ayP (.con axs (.con ayI (.con aw4 (.con as2 (.con anc (.con anK (.con aqS (mL)))))))))))))
def asH:RT Empty:=.obc (.obt (.ret (V.agg [V.int u64 (uS (u64.wrap S) (u64.wrap R)),V.int u64 (u9 (u64.wrap S) (u64.wrap R))])))
theorem ahr:cY cZ (aQ JJ tM u0 aoS [A S,A R]) (asH S R):=bD
def nZ:Int:=uS (u64.wrap S) (u64.wrap R)
def oQ:Int:=u9 (u64.wrap S) (u64.wrap R)
def NA:V:=.agg [.int u64 (nZ S R),.int u64 (oQ S R)]
theorem atY:aT cM (asH S R) (NA S R):=ao (ac (B5 (by unfold NA nZ oQ;rfl)))
def aub:aE:=bP aM (λ_=>True) λ|[.int _ S,.int _ R]=>NA S R|_=>.any
theorem aqF:b9 aub 196:=aU nk λ_ hp=>da (ahr ..) (atY _ _)
def apL:RT Empty:=.obi (.obi (.obi (.obi (.obi (.obi (.obi (.obi (.obi (.obi (.obi (.obi (.obi (.obi (.obi (.obi (.obi (.ret (V.bool (bif bif S==W&&(R==U&&true) then true else decide (S<W) then true else bif S==W then decide (R<U) else false)))))))))))))))))))
theorem ai7:cY cZ (aQ JJ tM u0 aqO [V.agg [V.int u64 S,V.int u64 R],V.agg [V.int u64 W,V.int u64 U]]) (apL S R W U):=bD
def uP:Bool:=bif bif S==W&&(R==U&&true) then true else decide (S<W) then true else bif S==W then decide (R<U) else false
def N7:V:=.bool (uP S R W U)
theorem aqJ:aT cM (apL S R W U) (N7 S R W U):=B1 (B1 (B1 (B1 (B1 (B1 (B1 (B1 (B1 (B1 (B1 (B1 (B1 (B1 (B1 (B1 (B1 (B5 (by unfold N7 uP;rfl))))))))))))))))))
def am9:aE:=bP [.agg [.int .u64,.int .u64],.agg [.int .u64,.int .u64]] (λ_=>True) λ|[.agg [.int _ S,.int _ R],.agg [.int _ W,.int _ U]]=>N7 S R W U|_=>.any
theorem asp:b9 am9 197:=aU nk λ_ hp=>da (ai7 ..) (aqJ _ _ _ _)
def arn:RT Empty:=.obi (.obi (.obi (.obi (.obi (.obi (.obi (.obi (.obi (.obi (.obi (.obi (.ret (V.bool (bif decide (W<S) then true else bif S==W then decide (U<R) else false))))))))))))))
theorem ake:cY cZ (aQ JJ tM u0 aua [V.agg [V.int u64 S,V.int u64 R],V.agg [V.int u64 W,V.int u64 U]]) (arn S R W U):=bD
def uZ:Bool:=bif decide (W<S) then true else bif S==W then decide (U<R) else false
def N6:V:=.bool (uZ S R W U)
theorem aoh:aT cM (arn S R W U) (N6 S R W U):=B1 (B1 (B1 (B1 (B1 (B1 (B1 (B1 (B1 (B1 (B1 (B1 (B5 (by unfold N6 uZ;rfl)))))))))))))
def atA:aE:=bP [.agg [.int .u64,.int .u64],.agg [.int .u64,.int .u64]] (λ_=>True) λ|[.agg [.int _ S,.int _ R],.agg [.int _ W,.int _ U]]=>N6 S R W U|_=>.any
theorem arZ:b9 atA 213:=aU nk λ_ hp=>da (ake ..) (aoh _ _ _ _)
def atx:RT Empty:=.obt (.obt (.obt (.obt (.obt (.obt (.obt (.obt (.obt (.obt (.obt (.obt (.obt (.ret (V.agg [V.int u64 (u64.wrap (u64.wrap (u64.wrap (u64.wrap ((u64.wrap S).tdiv 4294967296)*u64.wrap ((u64.wrap R).tdiv 4294967296))+u64.wrap ((u64.wrap (u64.wrap (u64.wrap ((u64.wrap S).tdiv 4294967296)*(u64.wrap R).tmod 4294967296)+u64.wrap ((u64.wrap ((u64.wrap S).tmod 4294967296*(u64.wrap R).tmod 4294967296)).tdiv 4294967296))).tdiv 4294967296))+u64.wrap ((u64.wrap (u64.wrap ((u64.wrap S).tmod 4294967296*u64.wrap ((u64.wrap R).tdiv 4294967296))+(u64.wrap (u64.wrap (u64.wrap ((u64.wrap S).tdiv 4294967296)*(u64.wrap R).tmod 4294967296)+u64.wrap ((u64.wrap ((u64.wrap S).tmod 4294967296*(u64.wrap R).tmod 4294967296)).tdiv 4294967296))).tmod 4294967296)).tdiv 4294967296))),V.int u64 (u64.wrap (u64.wrap (u64.wrap (u64.wrap ((u64.wrap S).tmod 4294967296*u64.wrap ((u64.wrap R).tdiv 4294967296))+(u64.wrap (u64.wrap (u64.wrap ((u64.wrap S).tdiv 4294967296)*(u64.wrap R).tmod 4294967296)+u64.wrap ((u64.wrap ((u64.wrap S).tmod 4294967296*(u64.wrap R).tmod 4294967296)).tdiv 4294967296))).tmod 4294967296)*4294967296)+(u64.wrap ((u64.wrap S).tmod 4294967296*(u64.wrap R).tmod 4294967296)).tmod 4294967296))]))))))))))))))
theorem ahI:cY cZ (aQ JJ tM u0 ank [A S,A R]) (atx S R):=bD
def mT:Int:=u64.wrap (u64.wrap (u64.wrap (u64.wrap ((u64.wrap S).tdiv 4294967296)*u64.wrap ((u64.wrap R).tdiv 4294967296))+u64.wrap ((u64.wrap (u64.wrap (u64.wrap ((u64.wrap S).tdiv 4294967296)*(u64.wrap R).tmod 4294967296)+u64.wrap ((u64.wrap ((u64.wrap S).tmod 4294967296*(u64.wrap R).tmod 4294967296)).tdiv 4294967296))).tdiv 4294967296))+u64.wrap ((u64.wrap (u64.wrap ((u64.wrap S).tmod 4294967296*u64.wrap ((u64.wrap R).tdiv 4294967296))+(u64.wrap (u64.wrap (u64.wrap ((u64.wrap S).tdiv 4294967296)*(u64.wrap R).tmod 4294967296)+u64.wrap ((u64.wrap ((u64.wrap S).tmod 4294967296*(u64.wrap R).tmod 4294967296)).tdiv 4294967296))).tmod 4294967296)).tdiv 4294967296))
def mY:Int:=u64.wrap (u64.wrap (u64.wrap (u64.wrap ((u64.wrap S).tmod 4294967296*u64.wrap ((u64.wrap R).tdiv 4294967296))+(u64.wrap (u64.wrap (u64.wrap ((u64.wrap S).tdiv 4294967296)*(u64.wrap R).tmod 4294967296)+u64.wrap ((u64.wrap ((u64.wrap S).tmod 4294967296*(u64.wrap R).tmod 4294967296)).tdiv 4294967296))).tmod 4294967296)*4294967296)+(u64.wrap ((u64.wrap S).tmod 4294967296*(u64.wrap R).tmod 4294967296)).tmod 4294967296)
def NI:V:=.agg [.int u64 (mT S R),.int u64 (mY S R)]
theorem aph:aT cM (atx S R) (NI S R):=ac (ac (ac (ac (ac (ac (ac (ac (ac (ac (ac (ac (ac (B5 (by unfold NI mT mY;rfl))))))))))))))
def asJ:aE:=bP aM (λ_=>True) λ|[.int _ S,.int _ R]=>NI S R|_=>.any
theorem ar6:b9 asJ 214:=aU nk λ_ hp=>da (ahI ..) (aph _ _)
def m78:RT Empty:=.obc (.obt (.obc (.obt (.obc (.obt (.ret (A (eu (bN W S) (bM U R) (bN Q S) (bM x5 R)))))))))
theorem aqy:cY cZ (aQ JJ tM u0 av1 [V.agg [A S,A R,A W,A U],V.agg [A Q,A x5]]) (m78 S R W U Q x5):=bD
def kM:Int:=eu (bN W S) (bM U R) (bN Q S) (bM x5 R)
def MP:V:=A (kM S R W U Q x5)
theorem awn:aT cM (m78 S R W U Q x5) (MP S R W U Q x5):=ao (ac (ao (ac (ao (ac (B5 (by unfold MP kM;rfl)))))))
def C78:aE:=bP [.agg gV,.agg aM] (λ_=>True) λ|[.agg [.int _ S,.int _ R,.int _ W,.int _ U],.agg [.int _ Q,.int _ x5]]=>MP S R W U Q x5|_=>.any
theorem avS:b9 C78 158:=aU nk λ_ hp=>da (aqy ..) (awn _ _ _ _ _ _)
def m54:RT Empty:=.ret (V.agg [A S,A R,A W,A R,A W,A U,A S,A U])
theorem aue:cY cZ (aQ JJ tM u0 auS [V.agg [A S,A R,A W,A U]]) (m54 S R W U):=bD
def MD:V:=.agg [A S,A R,A W,A R,A W,A U,A S,A U]
theorem awK:aT cM (m54 S R W U) (MD S R W U):=B5 (by unfold MD ; rfl)
def C54:aE:=bP [.agg gV] (λ_=>True) λ|[.agg [.int _ S,.int _ R,.int _ W,.int _ U]]=>MD S R W U|_=>.any
theorem awq:b9 C54 101:=aU nk λ_ hp=>da (aue ..) (awK _ _ _ _)
def m59:RT Empty:=.ret (V.agg [A S,A R,A W,A R,A W,A U,A S,A U])
theorem apy:cY cZ (aQ JJ tM u0 awz [V.agg [A S,A R,A W,A U]]) (m59 S R W U):=bD
def MN:V:=.agg [A S,A R,A W,A R,A W,A U,A S,A U]
theorem ayU:aT cM (m59 S R W U) (MN S R W U):=B5 (by unfold MN ; rfl)
def C59:aE:=bP [.agg gV] (λ_=>True) λ|[.agg [.int _ S,.int _ R,.int _ W,.int _ U]]=>MN S R W U|_=>.any
theorem ax1:b9 C59 119:=aU nk λ_ hp=>da (apy ..) (ayU _ _ _ _)
def m48:RT Empty:=dm (s0,Q,x5) (.obc (.obt (.ret (V.agg [A R,A W,A U,A (max 0 (E (U-Ps))),A (E (U-x9)),A (xG x6 U),A (y7 Z U),A (E (Y*U)),V.bool (decide (U<x9))]))))
theorem aqH:cY cZ (aQ JJ tM u0 ay3 [V.agg [V.str s0,A R,A W,A U,A Q,A x5],V.agg [A x6,A Z,A Y,A x9,A Ps]]) (m48 s0 R W U Q x5 x6 Z Y x9 Ps):=bD
def nU:Int:=max 0 (E (U-Ps))
def ny:Int:=E (U-x9)
def nN:Int:=xG x6 U
def nm:Int:=y7 Z U
def nd:Int:=E (Y*U)
def ls:Bool:=decide (U<x9)
def M6:V:=dm (s0,Q,x5) (.agg [A R,A W,A U,A (nU U Ps),A (ny U x9),A (nN U x6),A (nm U Z),A (nd U Y),.bool (ls U x9)])
theorem ax5:aT cM (m48 s0 R W U Q x5 x6 Z Y x9 Ps) (M6 s0 R W U Q x5 x6 Z Y x9 Ps):=ao (ac (B5 (by unfold M6 nU ny nN nm nd ls;rfl)))
def C48:aE:=bP [.agg aV,.agg bq] (λ_=>True) λ|[.agg [.str s0,.int _ R,.int _ W,.int _ U,.int _ Q,.int _ x5],.agg [.int _ x6,.int _ Z,.int _ Y,.int _ x9,.int _ Ps]]=>M6 s0 R W U Q x5 x6 Z Y x9 Ps|_=>.any
theorem ayV:b9 C48 100:=aU nk λ_ hp=>da (aqH ..) (ax5 _ _ _ _ _ _ _ _ _ _ _)
def an1:RT Empty:=dm (U,Q,x5,x6,Z,b8) (.obc (.obt (.ret (V.agg [A (E (E (W*S)+E (Pr*bN x9 S))),A (E (E (W*R)+E (Pr*bM Ps R)))]))))
theorem aiC:cY cZ (aQ JJ tM u0 atj [V.agg [A S,A R,A W,A U,A Q,A x5,A x6,A Z,V.bool b8],V.agg [A x9,A Ps],A Pr]) (an1 S R W U Q x5 x6 Z b8 x9 Ps Pr):=bD
def ci:Int:=E (E (W*S)+E (Pr*bN x9 S))
def cj:Int:=E (E (W*R)+E (Pr*bM Ps R))
def OF:V:=dm (U,Q,x5,x6,Z,b8) (.agg [A (ci S W x9 Pr),A (cj R W Ps Pr)])
theorem aqo:aT cM (an1 S R W U Q x5 x6 Z b8 x9 Ps Pr) (OF S R W U Q x5 x6 Z b8 x9 Ps Pr):=ao (ac (B5 (by unfold OF ci cj;rfl)))
def aqN:aE:=bP [.agg [tI,tI,tI,tI,tI,tI,tI,tI,.bool],.agg aM,tI] (λ_=>True) λ|[.agg [.int _ S,.int _ R,.int _ W,.int _ U,.int _ Q,.int _ x5,.int _ x6,.int _ Z,.bool b8],.agg [.int _ x9,.int _ Ps],.int _ Pr]=>OF S R W U Q x5 x6 Z b8 x9 Ps Pr|_=>.any
theorem ar5:b9 aqN 155:=aU nk λ_ hp=>da (aiC ..) (aqo _ _ _ _ _ _ _ _ _ _ _ _)
def ao3:RT Empty:=dm (s0,R,W,Q,x5,x6,Z,Y) (.ret (V.tup [A (E (U-min Ps U)),A (E (U-x9)),V.bool (decide (x9<=U))]))
theorem amh:cY cZ (aQ JJ tM u0 apG [V.agg [V.str s0,A R,A W,A U,A Q,A x5],V.agg [A x6,A Z,A Y,A x9,A Ps]]) (ao3 s0 R W U Q x5 x6 Z Y x9 Ps):=bD
def cD:Int:=E (U-min Ps U)
def cH:Int:=E (U-x9)
def fL:Bool:=decide (x9<=U)
def NY:V:=dm (s0,R,W,Q,x5,x6,Z,Y) (.tup [A (cD U Ps),A (cH U x9),.bool (fL U x9)])
theorem apS:aT cM (ao3 s0 R W U Q x5 x6 Z Y x9 Ps) (NY s0 R W U Q x5 x6 Z Y x9 Ps):=B5 (by unfold NY cD cH fL;rfl)
def am7:aE:=bP [.agg aV,.agg bq] (λ_=>True) λ|[.agg [.str s0,.int _ R,.int _ W,.int _ U,.int _ Q,.int _ x5],.agg [.int _ x6,.int _ Z,.int _ Y,.int _ x9,.int _ Ps]]=>NY s0 R W U Q x5 x6 Z Y x9 Ps|_=>.any
theorem aor:b9 am7 172:=aU nk λ_ hp=>da (amh ..) (apS _ _ _ _ _ _ _ _ _ _ _)
def atE:RT Empty:=dm (s0,R,W,Q,x5,x9,Ps) (.ret (V.tup [V.agg [A (E (U*x6)),A (E (U*Z))],A (E (U*Y))]))
theorem aeg:cY cZ (aQ JJ tM u0 atz [V.agg [V.str s0,A R,A W,A U,A Q,A x5],V.agg [A x6,A Z,A Y,A x9,A Ps]]) (atE s0 R W U Q x5 x6 Z Y x9 Ps):=bD
def cE:Int:=E (U*x6)
def cG:Int:=E (U*Z)
def dc:Int:=E (U*Y)
def Nt:V:=dm (s0,R,W,Q,x5,x9,Ps) (.tup [.agg [A (cE U x6),A (cG U Z)],A (dc U Y)])
theorem anZ:aT cM (atE s0 R W U Q x5 x6 Z Y x9 Ps) (Nt s0 R W U Q x5 x6 Z Y x9 Ps):=B5 (by unfold Nt cE cG dc;rfl)
def atu:aE:=bP [.agg aV,.agg bq] (λ_=>True) λ|[.agg [.str s0,.int _ R,.int _ W,.int _ U,.int _ Q,.int _ x5],.agg [.int _ x6,.int _ Z,.int _ Y,.int _ x9,.int _ Ps]]=>Nt s0 R W U Q x5 x6 Z Y x9 Ps|_=>.any
theorem aqB:b9 atu 173:=aU nk λ_ hp=>da (aeg ..) (anZ _ _ _ _ _ _ _ _ _ _ _)
def arv:RT Empty:=dm (s0,Q,x5) (.ret (V.agg [A (E (E (U*R)+E (Y*E (x6-R)))),A (E (E (U*W)+E (Y*E (Z-W))))]))
theorem aiS:cY cZ (aQ JJ tM u0 aoA [V.agg [V.str s0,A R,A W,A U,A Q,A x5],V.agg [A x6,A Z],A Y]) (arv s0 R W U Q x5 x6 Z Y):=bD
def eE:Int:=E (E (U*R)+E (Y*E (x6-R)))
def er:Int:=E (E (U*W)+E (Y*E (Z-W)))
def NJ:V:=dm (s0,Q,x5) (.agg [A (eE R U x6 Y),A (er W U Z Y)])
theorem ass:aT cM (arv s0 R W U Q x5 x6 Z Y) (NJ s0 R W U Q x5 x6 Z Y):=B5 (by unfold NJ eE er;rfl)
def aoc:aE:=bP [.agg aV,.agg aM,tI] (λ_=>True) λ|[.agg [.str s0,.int _ R,.int _ W,.int _ U,.int _ Q,.int _ x5],.agg [.int _ x6,.int _ Z],.int _ Y]=>NJ s0 R W U Q x5 x6 Z Y|_=>.any
theorem am6:b9 aoc 175:=aU nk λ_ hp=>da (aiS ..) (ass _ _ _ _ _ _ _ _ _)
end
end Go.Dx
namespace Go.Dx
open Go.IntKind (i64 u64 u8)
open Go.Sx
theorem dB {n:Nat} {P:Nat->Prop} (h:∀ i,i<=n->(i<n->P (i+1))->P i):∀ i,i<=n->P i:=by
 have key:∀ k i,i+k=n->P i:=by
  intro k;induction k with
  |zero=>intro i e;exact h i K λh=>by omega
  |succ k ih=>intro i e;exact h i K λ_=>ih (i+1) K
 exact λi hi=>key (n-i) i K
theorem C8 {x:Int} (M:-9223372036854775808<=x) (N:x<=9223372036854775807):E x=x:=IntWalk.i64_in _ K
theorem kE {i n:Nat} (h:i<n) (hn:n<=9223372036854775807):E ((i:Int)+1)=((i+1:Nat):Int):=by rw[C8 K K];omega
theorem uG {n:Nat} {p:Nat->Bool}:dw n p=true↔∀i,i<n->p i=true:=⟨dA,fO⟩
theorem gn {n:Nat} {p:Nat->Bool} (i:Nat) (hi:i<n) (h:p i=false):dw n p=false:=by
 cases hb:dw n p with
 |false=>rfl|true=>rw[dA hb i hi]at h;cases h
def Ho (p:Nat->Bool):Nat->Nat->Int
 |0,_=>-1|k+1,i=>bif p i then(i:Int) else Ho p k (i+1)
def zG (n:Nat) (p:Nat->Bool):Int:=Ho p n 0
theorem A0 {p:Nat->Bool}:∀ (k i:Nat),(∀ j,i<=j->j<i+k->p j=false)->Ho p k i=-1
 |0,_,_=>rfl|k+1,i,h=>by simp only[Ho,h i (D7 _) K,cond_false];exact A0 k (i+1) λj M N=>h j K K
theorem hlW {p:Nat->Bool} {j:Nat} (hj:p j=true):∀ (k i:Nat),i<=j->j<i+k->(∀ l,i<=l->l<j->p l=false)->Ho p k i=j
 |0,i,M,N,_=>by omega
 |k+1,i,M,N,h=>by
   by_cases e:i=j
   ·subst e;simp only[Ho,hj,cond_true]
   ·simp only[Ho,h i (D7 _) K,cond_false];exact hlW hj k (i+1) K K λl h3 h4=>h l K h4
section
variable {n:Nat} {p:Nat->Bool}
include n p
theorem xj (h:∀j,j<n->p j=false):zG n p=-1:=A0 n 0 λj _ N=>h j K
theorem yz {j:Nat} (hj:p j=true) (M:j<n) (h:∀l,l<j->p l=false):zG n p=j:=hlW hj n 0 K K λl _ h4=>h l h4
theorem fd1:(zG n p=-1/\∀ j,j<n->p j=false)∨∃ j,j<n/\zG n p=(j:Int)/\p j=true/\∀ l,l<j->p l=false:=by
 by_cases h:∀j,j<n->p j=false
 ·exact .inl ⟨xj h,h⟩
 ·right
  have:∃j,j<n/\p j=true:=by simp only[Classical.not_forall]at h;obtain⟨j,hj,hp⟩:=h;exact⟨j,hj,by simpa using hp⟩
  have key:∀ m,(∃ j,j<m/\j<n/\p j=true)->∃ j,j<n/\p j=true/\∀ l,l<j->p l=false:=by
   intro m;induction m with
   |zero=>rintro⟨j,hj,_⟩;omega
   |succ m ih=>
     rintro⟨j,hj,hn,hp⟩;by_cases hm:∃j,j<m/\j<n/\p j=true
     ·exact ih hm
     ·refine⟨j,hn,hp,λl hl=>?_⟩
      cases hb:p l with
      |false=>rfl|true=>exact(hm ⟨l,K,K,hb⟩).elim
  obtain⟨j,hj,hp⟩:=this;obtain⟨j,M,N,h3⟩:=key n ⟨j,hj,hj,hp⟩;exact⟨j,M,yz N M h3,N,h3⟩
end
def gS (n:Nat) (p:Nat->Bool):Bool:=!dw n λi=>!p i
theorem mA {n:Nat} {p:Nat->Bool}:decide (0<=zG n p)=gS n p:=by
 rcases fd1 (n:=n) (p:=p) with ⟨M,N⟩|⟨j,M,N,h3,_⟩
 ·rw[M];unfold gS;rw[fO λi hi=>by rw[N i hi];rfl];rfl
 ·rw[N];unfold gS;rw[gn j M (by rw[h3];rfl)];simp
section
variable {Q1:Type} {step:Q1->RT Q1} {r:V}
theorem Ev.st {s:Q1} (h0:fJ (step s)=true) (h:aT (Ev step) (step s) r):Ev step s r:=Ev.of h0 h
end
section
variable {Q1:Type} {step:Q1->RT Q1}
theorem pQ {Qu : Int -> Q1} {n:Nat} {p:Nat->Bool} (hn:n<=9223372036854775807)
 (R0:∀i:Nat,step (Qu i)=.br (decide ((i:Int)<(n:Int))) (.ob (decide (0<=(i:Int)/\(i:Int)<(n:Int))) (.obc (.obt (.br (p i) (.ret (.int .i64 i)) (.next [] (Qu (E ((i:Int)+1))) []))))) (.ret (.int .i64 (-1)))) :
 Ev step (Qu 0) (.int .i64 (zG n p)):=by
 have key:=dB (n:=n) (P:=λi=>(∀ j,j<i->p j=false)->Ev step (Qu i) (.int .i64 (zG n p))) λi hi ih hj=>by
  refine Ev.of (by rw[R0];rfl) ?_;rw[R0];refine C2 (λh=>?_) (λh=>?_)
  ·have Q7:i<n:=by simpa using h
   refine aF (by simpa using Q7) (ao (ac (C2 (λhb=>B5 ?_) (λhb=>aL ?_))))
   ·rw[yz hb Q7 hj]
   ·rw [kE Q7 hn]
    exact ih Q7 λj M=>by
     by_cases e:j=i
     ·subst e;exact hb
     ·exact hj j K
  ·have : i = n := by have:¬ i<n:=by simpa using h
                      omega
   subst this;refine B5 ?_;rw[xj hj]
 exact key 0 (Da _) λj hj=>by omega
end
theorem ku {n:Nat} (hn:n<=9223372036854775807) (p:Nat->Bool) {P:Int->Prop} (hstep:∀ i:Nat,i<n->(∀ j,j<i->p j=false)->(p i=false->P (E ((i:Int)+1)))->P i) (hend:(∀ j,j<n->p j=false)->P n):P 0:=by
 have key:=dB (n:=n) (P:=λi=>(∀ j,j<i->p j=false)->P i) λi hi ih hj=>by
  by_cases Q7:i<n
  ·refine hstep i Q7 hj λhp=>?_
   rw[kE Q7 hn];exact ih Q7 λj M=>by
    by_cases e:j=i
    ·subst e;exact hp
    ·exact hj j K
  ·have:i=n:=by omega
   subst this;exact hend hj
 exact key 0 (Da _) λj hj=>by omega
theorem EL {n:Nat} (hn:n<=9223372036854775807) {P:Int->Prop} (hstep:∀ i:Nat,i<n->P (E ((i:Int)+1))->P i) (hend:P n):P 0 :=
 ku hn (λ_=>false) (λi hi _ h=>hstep i hi (h rfl)) λ_=>hend
section
variable {Q1:Type} {Nx:Q1->V->Prop} {r:V} {x y:RT Q1} {i n:Nat}
theorem dt (h:i<n) (hx:aT Nx x r):aT Nx (.br (decide ((i:Int)<(n:Int))) x y) r:=⟨λ_=>hx,λk=>by have:=Dp k;omega⟩
theorem dl (hy:aT Nx y r):aT Nx (.br (decide ((n:Int)<(n:Int))) x y) r:=⟨(λk=>by have:=DU k;omega),λ_=>hy⟩
theorem cX (h:i<n) (hx:aT Nx x r):aT Nx (.ob (decide (0<=(i:Int)/\(i:Int)<(n:Int))) x) r:=⟨JQ K,hx⟩
theorem qz {c:Bool} (h:i<n) (hx:aT Nx x r):aT Nx (.obj c (decide (0<=(i:Int)/\(i:Int)<(n:Int))) x) r:=⟨λ_=>JQ K,hx⟩
theorem cP {b:Bool} (h:b=true) (hx:aT Nx x r):aT Nx (.br b x y) r:=⟨λ_=>hx,λk=>by rw[h]at k;cases k⟩
theorem cW {b:Bool} (h:b=false) (hy:aT Nx y r):aT Nx (.br b x y) r:=⟨(λk=>by rw[h]at k;cases k),λ_=>hy⟩
end
end Go.Dx
namespace Go.Dx
open Go.IntKind (i64 u64 u8)
section
variable {n:Nat} {p:Nat->Bool}
include n p
theorem cV (i:Nat) (hi:i<n) (h:p i=true):gS n p=true:=by unfold gS;rw[gn i hi (by rw[h];rfl)];rfl
theorem c8 (h:∀i,i<n->p i=false):gS n p=false:=by unfold gS;rw[fO λi hi=>by rw[h i hi];rfl];rfl
theorem BM:gS n p=true↔∃ i,i<n/\p i=true:=by
 constructor
 ·intro h
  apply Classical.byContradiction;intro hn;rw[c8 λi hi=>by
   cases hp:p i with
   |false=>rfl|true=>exact(hn ⟨i,hi,hp⟩).elim]at h
  cases h
 ·rintro⟨i,hi,h⟩;exact cV i hi h
end
end Go.Dx
namespace Go.Dx
open Go.IntKind (i64 u64 u8)
open Go.Sx
def gp (n:Nat) (c:Nat->Int):Int:=bif zG n (λi=>c i !=0)==-1 then 0 else zG n λi=>c i !=0
def d8 (n:Nat) (c:Nat->Int):Int:=bif zG n (λi=>c i !=0)==-1 then 0 else c (zG n λi=>c i !=0).toNat
theorem iz {n:Nat} {c:Nat->Int} (h:∀j,j<n->(c j !=0)=false):gp n c=0/\d8 n c=0:=by unfold gp d8;rw[xj h];exact⟨rfl,rfl⟩
theorem du {n:Nat} {c:Nat->Int} {i:Nat} (hi:i<n) (hc:(c i != 0)=true) (h:∀ j,j<i->(c j != 0)=false):gp n c=i/\d8 n c=c i:=by
 unfold gp d8;rw[yz hc hi h];have:((i:Int)==-1)=false:=by rw[L9];omega
 rw[this];exact⟨rfl,rfl⟩
section
variable {Q1:Type} {step:Q1->RT Q1}
theorem sJ {Qu:Int->Q1} {n:Nat} {c:Nat->Int} {Q2:Nat->Prop} {ρ:o8} (QW:Nat->RT Q1->RT Q1) (hW:∀ i x r,Q2 i->aT (Ev step) x r->aT (Ev step) (QW i x) r) (hWn:∀ i x,fJ (QW i x)=fJ x) (hn:n<=9223372036854775807) (hQ:∀ i,i<n->Q2 i)
 (R0:∀i:Nat,step (Qu i)=.br (decide ((i:Int)<(n:Int))) (.ob (decide (0<=(i:Int)/\(i:Int)<(n:Int))) (.ob (decide (0<=(i:Int)/\(i:Int)<=(n:Int))) (QW i (.br (c i !=0) (.ret (.tup [.int .i64 i,.int .i64 (c i)])) (.next ρ (Qu (E ((i:Int)+1))) []))))) (.ret (.tup [.int .i64 0,.int .i64 0]))) :
 Ev step (Qu 0) (.tup [.int .i64 (gp n c),.int .i64 (d8 n c)]) :=
 ku hn (λi=>c i != 0) (P:=λi=>Ev step (Qu i) (.tup [.int .i64 (gp n c),.int .i64 (d8 n c)])) (λi Q7 hj next=>Ev.of (by rw[R0];simp only[fJ,hWn,JW]) (by
  rw[R0];refine dt Q7 (cX Q7 (aF (JQ K) (hW i _ _ (hQ i Q7) (C2 (λhb=>B5 ?_) (λhb=>aL (next hb))))));rw[(du Q7 hb hj).1,(du Q7 hb hj).2])) (λhj=>Ev.of (by rw[R0];simp only[fJ,hWn,JW]) (by
  rw[R0];refine dl (B5 ?_);rw[(iz hj).1,(iz hj).2]))
end
def aD (n:Nat) (f:be):Prop:=∀i,i<n->(sv (aA (f i))).size<=9223372036854775807
end Go.Dx
namespace Go.Dx
open Go.IntKind (i64 u64 u8)
theorem ng {b:Bool} (h:(!!b)=true):(!b)=false:=by cases b<;>first|rfl|cases h
theorem PG {b:Bool} (h:(!!b)=false):(!b)=true:=by cases b<;>first|rfl|cases h
end Go.Dx
namespace Go.Dx
open Go.IntKind (i64 u64 u8)
open Go.Sx Go.Proofs
variable (H:Nat) (G:be) (S:Int) (s0:ByteArray) (R:Int) (T:Nat) (O:be) (W:Int) (s2:ByteArray) (U:Int) (n4:Nat) (f4:be) (Q x5:Int) (s5:ByteArray) (n6:Nat) (f6:be) (x6:Int) (s6:ByteArray) (n7:Nat) (f7:be) (Z Y x9 Ps Pr:Int)
noncomputable section
def LB:bm:=(196,.con aub)::(197,.con am9)::(213,.con atA)::(214,.con asJ)::(158,.con C78)::(101,.con C54)::(119,.con C59)::(100,.con C48)::(155,.con aqN)::(172,.con am7)::(173,.con atu)::(175,.con aoc)::tM
theorem C6:aZ Tryz.prog Bs C3 LB:=.con aqF (.con asp (.con arZ (.con ar6 (.con avS (.con awq (.con ax1 (.con ayV (.con ar5 (.con aor (.con aqB (.con am6 (nk))))))))))))
def ase:RT Empty:=.cb (.cb (.cb (.cb (.br (decide (jn (bN Q S) (bM x5 R) (bN W S) (bM U R)<=0)) (.cb (.ret (V.bool (decide (jn (bN Q S) (bM x5 R) (bN Q S) (bM x5 R)<=E (x6*x6)))))) (.br (decide (jn (bN W S) (bM U R) (bN W S) (bM U R)<=jn (bN Q S) (bM x5 R) (bN W S) (bM U R))) (.cb (.cb (.ret (V.bool (decide (jn (bN Q W) (bM x5 U) (bN Q W) (bM x5 U)<=E (x6*x6))))))) (.cb (.cb (.cb (.cb (.ret (V.bool (uP (nZ (max (eu (bN W S) (bM U R) (bN Q S) (bM x5 R)) (E (0-eu (bN W S) (bM U R) (bN Q S) (bM x5 R)))) (max (eu (bN W S) (bM U R) (bN Q S) (bM x5 R)) (E (0-eu (bN W S) (bM U R) (bN Q S) (bM x5 R))))) (oQ (max (eu (bN W S) (bM U R) (bN Q S) (bM x5 R)) (E (0-eu (bN W S) (bM U R) (bN Q S) (bM x5 R)))) (max (eu (bN W S) (bM U R) (bN Q S) (bM x5 R)) (E (0-eu (bN W S) (bM U R) (bN Q S) (bM x5 R))))) (nZ (E (x6*x6)) (jn (bN W S) (bM U R) (bN W S) (bM U R))) (oQ (E (x6*x6)) (jn (bN W S) (bM U R) (bN W S) (bM U R)))))))))))))))
theorem agR:cY cZ (aQ JJ LB u0 aqZ [V.agg [A S,A R,A W,A U],V.agg [A Q,A x5],A x6]) (ase S R W U Q x5 x6):=bD
def kt:Bool:=bif decide (jn (bN Q S) (bM x5 R) (bN W S) (bM U R)<=0) then decide (jn (bN Q S) (bM x5 R) (bN Q S) (bM x5 R)<=E (x6*x6)) else bif decide (jn (bN W S) (bM U R) (bN W S) (bM U R)<=jn (bN Q S) (bM x5 R) (bN W S) (bM U R)) then decide (jn (bN Q W) (bM x5 U) (bN Q W) (bM x5 U)<=E (x6*x6)) else uP (nZ (max (eu (bN W S) (bM U R) (bN Q S) (bM x5 R)) (E (0-eu (bN W S) (bM U R) (bN Q S) (bM x5 R)))) (max (eu (bN W S) (bM U R) (bN Q S) (bM x5 R)) (E (0-eu (bN W S) (bM U R) (bN Q S) (bM x5 R))))) (oQ (max (eu (bN W S) (bM U R) (bN Q S) (bM x5 R)) (E (0-eu (bN W S) (bM U R) (bN Q S) (bM x5 R)))) (max (eu (bN W S) (bM U R) (bN Q S) (bM x5 R)) (E (0-eu (bN W S) (bM U R) (bN Q S) (bM x5 R))))) (nZ (E (x6*x6)) (jn (bN W S) (bM U R) (bN W S) (bM U R))) (oQ (E (x6*x6)) (jn (bN W S) (bM U R) (bN W S) (bM U R)))
def MX:V:=.bool (kt S R W U Q x5 x6)
theorem asW:aT cM (ase S R W U Q x5 x6) (MX S R W U Q x5 x6):=ao (ac (ao (ac (ao (ac (ao (ac (C2 (λh0=>ao (ac (B5 (by unfold MX kt;try rw[h0];rfl)))) (λh0=>C2 (λM=>ao (ac (ao (ac (B5 (by unfold MX kt;try rw[h0];try rw[M];rfl)))))) (λM=>ao (ac (ao (ac (ao (ac (ao (ac (B5 (by unfold MX kt;try rw[h0];try rw[M];rfl)))))))))))))))))))
def arp:aE:=bP [.agg gV,.agg aM,tI] (λ_=>True) λ|[.agg [.int _ S,.int _ R,.int _ W,.int _ U],.agg [.int _ Q,.int _ x5],.int _ x6]=>MX S R W U Q x5 x6|_=>.any
theorem am8:b9 arp 156:=aU C6 λ_ hp=>da (agR ..) (asW _ _ _ _ _ _ _)
def arQ:RT Empty:=.cb (.cb (.cb (.br (decide (jl (bG S W) (bH R U) (bG Q W) (bH x5 U)<=0)) (.cb (.ret (V.bool (decide (jl (bG S W) (bH R U) (bG S W) (bH R U)<=E (x6*x6)))))) (.cb (.cb (.br (decide (jl (bG Q W) (bH x5 U) (bG Q W) (bH x5 U)<=jl (bG S W) (bH R U) (bG Q W) (bH x5 U))) (.cb (.cb (.ret (V.bool (decide (jl (bG S Q) (bH R x5) (bG S Q) (bH R x5)<=E (x6*x6))))))) (.cb (.cb (.cb (.cb (.cb (.cb (.ret (V.bool !uZ (mT (lP (fy (bG Q W) (bH x5 U) (bG S W) (bH R U))) (lP (fy (bG Q W) (bH x5 U) (bG S W) (bH R U)))) (mY (lP (fy (bG Q W) (bH x5 U) (bG S W) (bH R U))) (lP (fy (bG Q W) (bH x5 U) (bG S W) (bH R U)))) (mT (E (x6*x6)) (jl (bG Q W) (bH x5 U) (bG Q W) (bH x5 U))) (mY (E (x6*x6)) (jl (bG Q W) (bH x5 U) (bG Q W) (bH x5 U)))))))))))))))))
theorem akD:cY cZ (aQ JJ LB u0 apY [V.agg [A S,A R],V.agg [A W,A U],V.agg [A Q,A x5],A x6]) (arQ S R W U Q x5 x6):=bD
def lG:Bool:=bif decide (jl (bG S W) (bH R U) (bG Q W) (bH x5 U)<=0) then decide (jl (bG S W) (bH R U) (bG S W) (bH R U)<=E (x6*x6)) else bif decide (jl (bG Q W) (bH x5 U) (bG Q W) (bH x5 U)<=jl (bG S W) (bH R U) (bG Q W) (bH x5 U)) then decide (jl (bG S Q) (bH R x5) (bG S Q) (bH R x5)<=E (x6*x6)) else !uZ (mT (lP (fy (bG Q W) (bH x5 U) (bG S W) (bH R U))) (lP (fy (bG Q W) (bH x5 U) (bG S W) (bH R U)))) (mY (lP (fy (bG Q W) (bH x5 U) (bG S W) (bH R U))) (lP (fy (bG Q W) (bH x5 U) (bG S W) (bH R U)))) (mT (E (x6*x6)) (jl (bG Q W) (bH x5 U) (bG Q W) (bH x5 U))) (mY (E (x6*x6)) (jl (bG Q W) (bH x5 U) (bG Q W) (bH x5 U)))
def Q9:V:=.bool (lG S R W U Q x5 x6)
theorem asL:aT cM (arQ S R W U Q x5 x6) (Q9 S R W U Q x5 x6):=ao (ac (ao (ac (ao (ac (C2 (λh0=>ao (ac (B5 (by unfold Q9 lG;try rw[h0];rfl)))) (λh0=>ao (ac (ao (ac (C2 (λM=>ao (ac (ao (ac (B5 (by unfold Q9 lG;try rw[h0];try rw[M];rfl)))))) (λM=>ao (ac (ao (ac (ao (ac (ao (ac (ao (ac (ao (ac (B5 (by unfold Q9 lG;try rw[h0];try rw[M];rfl)))))))))))))))))))))))))
def arH:aE:=bP [.agg aM,.agg aM,.agg aM,tI] (λ_=>True) λ|[.agg [.int _ S,.int _ R],.agg [.int _ W,.int _ U],.agg [.int _ Q,.int _ x5],.int _ x6]=>Q9 S R W U Q x5 x6|_=>.any
theorem aqR:b9 arH 174:=aU C6 λ_ hp=>da (akD ..) (asL _ _ _ _ _ _ _)
def aq5:RT Empty:=.cb (.cb (.cb (.cb (.cb (.cb (.cb (.cb (.cb (.cb (.cb (.cb (.cb (.cb (.cb (.iv (.iv (.iv (.iv (.iv (.ii (.ret (V.bool (bif !fy (bG Q W) (bH x5 U) (bG x6 W) (bH Z U)==0 then bif bif bif decide (0<=fA (fy (bG Q W) (bH x5 U) (bG S W) (bH R U))) then decide (0<=fA (fy (bG x6 Q) (bH Z x5) (bG S Q) (bH R x5))) else false then decide (0<=fA (fy (bG W x6) (bH U Z) (bG S x6) (bH R Z))) else false then true else bif bif decide (fA (fy (bG Q W) (bH x5 U) (bG S W) (bH R U))<=0) then decide (fA (fy (bG x6 Q) (bH Z x5) (bG S Q) (bH R x5))<=0) else false then decide (fA (fy (bG W x6) (bH U Z) (bG S x6) (bH R Z))<=0) else false else false)))))))))))))))))))))))
theorem ag5:cY cZ (aQ JJ LB u0 aqh [V.agg [A S,A R],V.agg [A W,A U],V.agg [A Q,A x5],V.agg [A x6,A Z]]) (aq5 S R W U Q x5 x6 Z):=bD
def pT:Bool:=bif !fy (bG Q W) (bH x5 U) (bG x6 W) (bH Z U)==0 then bif bif bif decide (0<=fA (fy (bG Q W) (bH x5 U) (bG S W) (bH R U))) then decide (0<=fA (fy (bG x6 Q) (bH Z x5) (bG S Q) (bH R x5))) else false then decide (0<=fA (fy (bG W x6) (bH U Z) (bG S x6) (bH R Z))) else false then true else bif bif decide (fA (fy (bG Q W) (bH x5 U) (bG S W) (bH R U))<=0) then decide (fA (fy (bG x6 Q) (bH Z x5) (bG S Q) (bH R x5))<=0) else false then decide (fA (fy (bG W x6) (bH U Z) (bG S x6) (bH R Z))<=0) else false else false
def N3:V:=.bool (pT S R W U Q x5 x6 Z)
theorem apN:aT cM (aq5 S R W U Q x5 x6 Z) (N3 S R W U Q x5 x6 Z):=ao (ac (ao (ac (ao (ac (ao (ac (ao (ac (ao (ac (ao (ac (ao (ac (ao (ac (ao (ac (ao (ac (ao (ac (ao (ac (ao (ac (ao (ac (B1 (B1 (B1 (B1 (B1 (B1 (B1 (B1 (B1 (B1 (B1 (B1 (B1 (B1 (B1 (B1 (B1 (B1 (B1 (B1 (B1 (B1 (B5 (by unfold N3 pT;rfl)))))))))))))))))))))))))))))))))))))))))))))))))))))
def atG:aE:=bP [.agg aM,.agg aM,.agg aM,.agg aM] (λ_=>True) λ|[.agg [.int _ S,.int _ R],.agg [.int _ W,.int _ U],.agg [.int _ Q,.int _ x5],.agg [.int _ x6,.int _ Z]]=>N3 S R W U Q x5 x6 Z|_=>.any
theorem anb:b9 atG 176:=aU C6 λ_ hp=>da (ag5 ..) (apN _ _ _ _ _ _ _ _)
def asX:RT Empty:=.cb (.ret (V.bool (bW S (-100000) 100000)))
theorem agQ:cY cZ (aQ JJ LB u0 acA [A S]) (asX S):=bD
def Cw:Bool:=bW S (-100000) 100000
def OK:V:=.bool (Cw S)
theorem anL:aT cM (asX S) (OK S):=ao (ac (B5 (by unfold OK Cw;rfl)))
def aqP:aE:=bP L (λ_=>True) λ|[.int _ S]=>OK S|_=>.any
theorem aoa:b9 aqP 187:=aU C6 λ_ hp=>da (agQ ..) (anL _)
def Bt:bm:=(156,.con arp)::(174,.con arH)::(176,.con atG)::(187,.con aqP)::LB
theorem Ay:aZ Tryz.prog Bs C3 Bt:=.con am8 (.con aqR (.con anb (.con aoa (C6))))
def auc:RT Empty:=dm (R,T,O,Q,x6,n7,f7,x9) (.ret (V.bool (s0.toList==s5.toList)))
theorem alJ:cY cZ (aQ JJ Bt u0 aqM [V.agg [V.str s0,A R,V.sl T (D aM O),A Q],V.pd [V.str s5,A x6,V.sl n7 (D aM f7),A x9]]) (auc s0 R T O Q s5 x6 n7 f7 x9):=bD
def BF:Bool:=s0.toList==s5.toList
def NK:V:=dm (R,T,O,Q,x6,n7,f7,x9) (.bool (BF s0 s5))
theorem aoi:aT cM (auc s0 R T O Q s5 x6 n7 f7 x9) (NK s0 R T O Q s5 x6 n7 f7 x9):=B5 (by unfold NK BF;rfl)
def aqU:aE:=bP [.agg bd,.pd bd] (λ_=>True) λ|[.agg [.str s0,.int _ R,.sl T O,.int _ Q],.pd [.str s5,.int _ x6,.sl n7 f7,.int _ x9]]=>NK s0 R T O Q s5 x6 n7 f7 x9|_=>.any
theorem ic12:b9 aqU 139:=aU Ay λ_ hp=>da (alJ ..) (aoi _ _ _ _ _ _ _ _ _ _)
def apO:RT Empty:=.cb (.ii (.obi (.br (!bW R 1 1000) (.ob (!bW R 1 1000) (.ob (!bW R 1 1000) (.cb (.obi (.br (!bW S 0 (E (R-1))) (.ob (!bW S 0 (E (R-1))) (.cb (.ii (.obi (.br (!bW U 1 1000) (.ob (!bW U 1 1000) (.ob (!bW U 1 1000) (.cb (.ret (V.bool (bW W 0 (E (U-1)))))))) (.ret (V.kb true))))))) (.ret (V.kb true))))))) (.ret (V.kb true)))))
theorem ai1:cY cZ (aQ JJ Bt u0 arm [V.agg [A S,A R,A W,A U]]) (apO S R W U):=bD
def mR:Bool:=bif !bW R 1 1000 then bif !bW S 0 (E (R-1)) then bif !bW U 1 1000 then bW W 0 (E (U-1)) else true else true else true
def Mn:V:=.bool (mR S R W U)
theorem ar0:aT cM (apO S R W U) (Mn S R W U):=ao (ac (B1 (B1 (B1 (C2 (λh0=>aF (by first|assumption|(fail)) (aF (by first|assumption|(fail)) (ao (ac (B1 (C2 (λM=>aF (by first|assumption|(fail)) (ao (ac (B1 (B1 (B1 (C2 (λN=>aF (by first|assumption|(fail)) (aF (by first|assumption|(fail)) (ao (ac (B5 (by unfold Mn mR;try rw[h0];try rw[M];try rw[N];rfl)))))) (λN=>B5 (by unfold Mn mR;try rw[h0];try rw[M];try rw[N];rfl))))))))) (λM=>B5 (by unfold Mn mR;try rw[h0];try rw[M];rfl)))))))) (λh0=>B5 (by unfold Mn mR;try rw[h0];rfl)))))))
def aro:aE:=bP [.agg gV] (λ_=>True) λ|[.agg [.int _ S,.int _ R,.int _ W,.int _ U]]=>Mn S R W U|_=>.any
theorem aqw:b9 aro 148:=aU Ay λ_ hp=>da (ai1 ..) (ar0 _ _ _ _)
def ano:RT Empty:=dm (R,W,U,Q,x5,Z,Y,x9,Ps,Pr) (.ret (V.bool (s0.toList==s6.toList)))
theorem aia:cY cZ (aQ JJ Bt u0 ap1 [V.agg [V.str s0,A R,A W,A U,A Q,A x5],V.pd [V.str s6,A Z,A Y,A x9,A Ps,A Pr]]) (ano s0 R W U Q x5 s6 Z Y x9 Ps Pr):=bD
def CS:Bool:=s0.toList==s6.toList
def O8:V:=dm (R,W,U,Q,x5,Z,Y,x9,Ps,Pr) (.bool (CS s0 s6))
theorem asc:aT cM (ano s0 R W U Q x5 s6 Z Y x9 Ps Pr) (O8 s0 R W U Q x5 s6 Z Y x9 Ps Pr):=B5 (by unfold O8 CS;rfl)
def apc:aE:=bP [.agg aV,.pd aV] (λ_=>True) λ|[.agg [.str s0,.int _ R,.int _ W,.int _ U,.int _ Q,.int _ x5],.pd [.str s6,.int _ Z,.int _ Y,.int _ x9,.int _ Ps,.int _ Pr]]=>O8 s0 R W U Q x5 s6 Z Y x9 Ps Pr|_=>.any
theorem atk:b9 apc 150:=aU Ay λ_ hp=>da (aia ..) (asc _ _ _ _ _ _ _ _ _ _ _ _)
inductive HV where|L0 (_:Int)
def arj:HV->bS×List Ax×Option Ex
 |.L0 Pt=>([(3,A Pt),(2,V.kb false),(0,V.sl H (D L G))],[],none)
def axx:HV->JJ
 |.L0 _=>(0,[])
def ate:Bh (cq JJ):=aQ JJ Bt u0 axB [V.sl H (D L G)]
def fp7 (cx:List Cx):Lp JJ:=eX (eJ (ate H G) [])
def awW:JJ->Lp JJ
 |(0,cx)=>fp7 H G cx|(_,cx)=>fp7 H G cx
def D51:LD JJ HV:=⟨axx,awW H G,arj H G⟩
def Zk:HV->RT HV
 |.L0 Pt=>.am H (.br (decide (Pt<(H:Int))) (.ob (decide (0<=Pt/\Pt<(H:Int))) (.cb (.br (!dC (av (G Pt.toNat)) (-100000) 100000) (.ret (V.kb false)) (.next [] (HV.L0 (E (Pt+1))) [])))) (.ret (V.kb true)))
def Ov:RT HV:=dm (H,G) (.enter [] (HV.L0 0) [])
theorem asb:dZ Bt u0 (D51 H G) (ate H G) (Ov H G) (Zk H G):=⟨bD,λs=>by cases s<;>exact bD⟩
def wh:Bool:=dw H λi=>dC (av (G i)) (-100000) 100000
theorem akE:aT (Ev (Zk H G)) (Ov H G) (.bool (wh H G)):=by
 refine aH ?_;have key:=dB (n:=H) (P:=λi=>(∀ j,j<i->dC (av (G j)) (-100000) 100000=true)->Ev (Zk H G) (.L0 i) (.bool (wh H G))) λi hi ih hj=>by
  refine Ev.of rfl (bC λhn=>C2 (λh=>?_) (λh=>B5 ?_))
  ·have Q7:i<H:=by simpa using h
   refine aF (by simpa using Q7) (ao (ac (C2 (λhb=>B5 ?_) (λhb=>aL ?_))))
   ·simp only[dq];unfold wh;rw[gn i Q7 (by simpa using hb)]
   ·rw[kE Q7 hn];exact ih Q7 λj M=>by
     by_cases e:j=i
     ·subst e;simpa using hb
     ·exact hj j K
  ·have:i=H:=by
    have:¬i<H:=by simpa using h
    omega
   subst this;simp only[dq];unfold wh;rw[fO hj]
 exact key 0 (Da _) λj hj=>by omega
theorem awx:aT (Ev (Zk H G)) (Ov H G) (.bool (wh H (D L G))):=akE H G
def C51:aE:=bP [.sl L] (λ_=>True) λ|[.sl H G]=>.bool (wh H G)|_=>.any
theorem awE:b9 C51 162:=aU Ay λ_ hp=>kr (asb ..) (awx _ _)
inductive Fb where|L0 (_:Int)
def alW:Fb->bS×List Ax×Option Ex
 |.L0 Pt=>([(8,A Pt),(7,A (H:Int)),(6,V.sl H (D L G)),(4,A 0),(0,V.sl H (D L G)),(1,V.fn 187 [] [])],[],none)
def anH:Fb->JJ
 |.L0 _=>(0,[])
def acd:Bh (cq JJ):=aQ JJ Bt u0 IS [V.sl H (D L G),V.fn 187 [] []]
def yaI (cx:List Cx):Lp JJ:=eX (eJ (acd H G) [])
def atq:JJ->Lp JJ
 |(0,cx)=>yaI H G cx|(_,cx)=>yaI H G cx
def awl:LD JJ Fb:=⟨anH,atq H G,alW H G⟩
def Qd:Fb->RT Fb
 |.L0 Pt=>.br (decide (Pt<(H:Int))) (.ob (decide (0<=Pt/\Pt<(H:Int))) (.cb (.br (Cw (av (G Pt.toNat))) (.ret (A Pt)) (.next [] (Fb.L0 (E (Pt+1))) [])))) (.ret (A (-1)))
def NZ:RT Fb:=dm G (.am H (.enter [] (Fb.L0 0) []))
theorem agB:dZ Bt u0 (awl H G) (acd H G) (NZ H G) (Qd H G):=⟨bD,λs=>by cases s<;>exact bD⟩
def Lq:Int  :=zG H λii=>Cw (av (G ii))
theorem ns3:aT (Ev (Qd H G)) (NZ H G) (A (Lq H G)):=bC λhn=>aH (pQ hn λi=>rfl)
theorem atI:aT (Ev (Qd H G)) (NZ H G) (A (Lq H (D L G))):=ns3 H G
def atc:aE:=bP [.sl L,.fn 187 [] []] (λ_=>True) λ|[.sl H G,.fn _ [] []]=>A (Lq H G)|_=>.any
theorem apa:b9 atc 92:=aU Ay λ_ hp=>kr (agB ..) (atI _ _)
def Be:bm:=(139,.con aqU)::(148,.con aro)::(150,.con apc)::(162,.con C51)::(92,.con atc)::Bt
theorem EP:aZ Tryz.prog Bs C3 Be:=.con ic12 (.con aqw (.con atk (.con awE (.con apa (Ay)))))
def m99:RT Empty:=.cb (.ret (V.bool (decide (0<=Lq H (D L G)))))
theorem an4:cY cZ (aQ JJ Be u0 ZA [V.sl H (D L G),V.fn 187 [] []]) (m99 H G):=bD
def Kb:Bool:=decide (0<=Lq H (D L G))
def Mo:V:=.bool (Kb H G)
theorem ayg:aT cM (m99 H G) (Mo H G):=ao (ac (B5 (by unfold Mo Kb;rfl)))
def C99:aE:=bP [.sl L,.fn 187 [] []] (λ_=>True) λ|[.sl H G,.fn _ [] []]=>Mo H G|_=>.any
theorem axL:b9 C99 52:=aU EP λ_ hp=>da (an4 ..) (ayg _ _)
inductive E6 where|L0 (_:Int)
def alj:E6->bS×List Ax×Option Ex
 |.L0 Pt=>([(8,A Pt),(7,A (H:Int)),(6,V.sl H (D bd G)),(4,A 0),(0,V.sl H (D bd G)),(1,V.fn 139 [] [V.pd [V.str s2,A U,V.sl n4 (D aM f4),A x6]])],[],none)
def apC:E6->JJ
 |.L0 _=>(0,[])
def ab2:Bh (cq JJ):=aQ JJ Be u0 ast [V.sl H (D bd G),V.fn 139 [] [V.pd [V.str s2,A U,V.sl n4 (D aM f4),A x6]]]
def auv (cx:List Cx):Lp JJ:=eX (eJ (ab2 H G s2 U n4 f4 x6) [])
def ani:JJ->Lp JJ
 |(0,cx)=>auv H G s2 U n4 f4 x6 cx|(_,cx)=>auv H G s2 U n4 f4 x6 cx
def ayW:LD JJ E6:=⟨apC,ani H G s2 U n4 f4 x6,alj H G s2 U n4 f4 x6⟩
def NX (H:Nat) (G:be) (s2:ByteArray) (U:Int) (n4:Nat) (f4:be) (x6:Int):E6->RT E6
 |.L0 Pt=>.br (decide (Pt<(H:Int))) (.ob (decide (0<=Pt/\Pt<(H:Int))) (.cb (.br (BF (sv (aA (G Pt.toNat))) s2) (.ret (A Pt)) (.next [] (E6.L0 (E (Pt+1))) [])))) (.ret (A (-1)))
def Nr:RT E6:=dm (G,s2,U,n4,f4,x6) (.am H (.enter [] (E6.L0 0) []))
theorem agD:dZ Be u0 (ayW H G s2 U n4 f4 x6) (ab2 H G s2 U n4 f4 x6) (Nr H G s2 U n4 f4 x6) (NX H G s2 U n4 f4 x6):=⟨bD,λs=>by cases s<;>exact bD⟩
def LY:Int  :=zG H λii=>BF (sv (aA (G ii))) s2
theorem nn3:aT (Ev (NX H G s2 U n4 f4 x6)) (Nr H G s2 U n4 f4 x6) (A (LY H G s2)):=bC λhn=>aH (pQ hn λi=>rfl)
theorem aqe:aT (Ev (NX H G s2 U n4 f4 x6)) (Nr H G s2 U n4 f4 x6) (A (LY H (D bd G) s2)):=nn3 H G s2 U n4 f4 x6
def arx:aE:=bP [.sl bd,.fn 139 [] [.pd bd]] (λ_=>True) λ|[.sl H G,.fn _ [] [.pd [.str s2,.int _ U,.sl n4 f4,.int _ x6]]]=>A (LY H G s2)|_=>.any
theorem anv:b9 arx 189:=aU EP λ_ hp=>kr (agD ..) (aqe _ _ _ _ _ _ _)
inductive E7 where|L0 (_:Int)
def ai4:E7->bS×List Ax×Option Ex
 |.L0 Pt=>([(8,A Pt),(7,A (H:Int)),(6,V.sl H (D gV G)),(4,A 0),(0,V.sl H (D gV G)),(1,V.fn 148 [] [])],[],none)
def apF:E7->JJ
 |.L0 _=>(0,[])
def ab4:Bh (cq JJ):=aQ JJ Be u0 aot [V.sl H (D gV G),V.fn 148 [] []]
def auE (cx:List Cx):Lp JJ:=eX (eJ (ab4 H G) [])
def aov:JJ->Lp JJ
 |(0,cx)=>auE H G cx|(_,cx)=>auE H G cx
def awy:LD JJ E7:=⟨apF,aov H G,ai4 H G⟩
def R7:E7->RT E7
 |.L0 Pt=>.br (decide (Pt<(H:Int))) (.ob (decide (0<=Pt/\Pt<(H:Int))) (.cb (.br (mR (av (G Pt.toNat)) (aP (G Pt.toNat)) (bV (G Pt.toNat)) (bf (G Pt.toNat))) (.ret (A Pt)) (.next [] (E7.L0 (E (Pt+1))) [])))) (.ret (A (-1)))
def OJ:RT E7:=dm G (.am H (.enter [] (E7.L0 0) []))
theorem aek:dZ Be u0 (awy H G) (ab4 H G) (OJ H G) (R7 H G):=⟨bD,λs=>by cases s<;>exact bD⟩
def Ml:Int  :=zG H λii=>mR (av (G ii)) (aP (G ii)) (bV (G ii)) (bf (G ii))
theorem if5:aT (Ev (R7 H G)) (OJ H G) (A (Ml H G)):=bC λhn=>aH (pQ hn λi=>rfl)
theorem atD:aT (Ev (R7 H G)) (OJ H G) (A (Ml H (D gV G))):=if5 H G
def an2:aE:=bP [.sl gV,.fn 148 [] []] (λ_=>True) λ|[.sl H G,.fn _ [] []]=>A (Ml H G)|_=>.any
theorem art:b9 an2 191:=aU EP λ_ hp=>kr (aek ..) (atD _ _)
inductive Dn where|L0 (_:Int)
def afn:Dn->bS×List Ax×Option Ex
 |.L0 Pt=>([(8,A Pt),(7,A (H:Int)),(6,V.sl H (D aV G)),(4,A 0),(0,V.sl H (D aV G)),(1,V.fn 150 [] [V.pd [V.str s2,A U,A Q,A x5,A x6,A Z]])],[],none)
def arf:Dn->JJ
 |.L0 _=>(0,[])
def adU:Bh (cq JJ):=aQ JJ Be u0 aoy [V.sl H (D aV G),V.fn 150 [] [V.pd [V.str s2,A U,A Q,A x5,A x6,A Z]]]
def al0 (cx:List Cx):Lp JJ:=eX (eJ (adU H G s2 U Q x5 x6 Z) [])
def aqr:JJ->Lp JJ
 |(0,cx)=>al0 H G s2 U Q x5 x6 Z cx|(_,cx)=>al0 H G s2 U Q x5 x6 Z cx
def azl:LD JJ Dn:=⟨arf,aqr H G s2 U Q x5 x6 Z,afn H G s2 U Q x5 x6 Z⟩
def O1 (H:Nat) (G:be) (s2:ByteArray) (U Q x5 x6 Z:Int):Dn->RT Dn
 |.L0 Pt=>.br (decide (Pt<(H:Int))) (.ob (decide (0<=Pt/\Pt<(H:Int))) (.cb (.br (CS (sv (aA (G Pt.toNat))) s2) (.ret (A Pt)) (.next [] (Dn.L0 (E (Pt+1))) [])))) (.ret (A (-1)))
def OD:RT Dn:=dm (G,s2,U,Q,x5,x6,Z) (.am H (.enter [] (Dn.L0 0) []))
theorem aho:dZ Be u0 (azl H G s2 U Q x5 x6 Z) (adU H G s2 U Q x5 x6 Z) (OD H G s2 U Q x5 x6 Z) (O1 H G s2 U Q x5 x6 Z):=⟨bD,λs=>by cases s<;>exact bD⟩
def LC:Int  :=zG H λii=>CS (sv (aA (G ii))) s2
theorem plL:aT (Ev (O1 H G s2 U Q x5 x6 Z)) (OD H G s2 U Q x5 x6 Z) (A (LC H G s2)):=bC λhn=>aH (pQ hn λi=>rfl)
theorem anl:aT (Ev (O1 H G s2 U Q x5 x6 Z)) (OD H G s2 U Q x5 x6 Z) (A (LC H (D aV G) s2)):=plL H G s2 U Q x5 x6 Z
def ati:aE:=bP [.sl aV,.fn 150 [] [.pd aV]] (λ_=>True) λ|[.sl H G,.fn _ [] [.pd [.str s2,.int _ U,.int _ Q,.int _ x5,.int _ x6,.int _ Z]]]=>A (LC H G s2)|_=>.any
theorem aoC:b9 ati 192:=aU EP λ_ hp=>kr (aho ..) (anl _ _ _ _ _ _ _ _)
def LF:bm:=(52,.con C99)::(189,.con arx)::(191,.con an2)::(192,.con ati)::Be
theorem Es:aZ Tryz.prog Bs C3 LF:=.con axL (.con anv (.con art (.con aoC (EP))))
def m45:RT Empty:=.cb (.ret (V.bool (Kb H (D L G))))
theorem ape:cY cZ (aQ JJ LF u0 arP [V.sl H (D L G)]) (m45 H G):=bD
def ky:Bool:=Kb H (D L G)
def M5:V:=.bool (ky H G)
theorem avq:aT cM (m45 H G) (M5 H G):=ao (ac (B5 (by unfold M5 ky;rfl)))
def C45:aE:=bP [.sl L] (λ_=>True) λ|[.sl H G]=>M5 H G|_=>.any
theorem auT:b9 C45 141:=aU Es λ_ hp=>da (ape ..) (avq _ _)
def m90:RT Empty:=dm (U,n4,f4,x6) (.cb (.ret (V.bool (decide (0<=LY H (D bd G) s2)))))
theorem arl:cY cZ (aQ JJ LF u0 awv [V.sl H (D bd G),V.fn 139 [] [V.pd [V.str s2,A U,V.sl n4 (D aM f4),A x6]]]) (m90 H G s2 U n4 f4 x6):=bD
def vk:Bool:=decide (0<=LY H (D bd G) s2)
def MZ:V:=dm (U,n4,f4,x6) (.bool (vk H G s2))
theorem aw7:aT cM (m90 H G s2 U n4 f4 x6) (MZ H G s2 U n4 f4 x6):=ao (ac (B5 (by unfold MZ vk;rfl)))
def C90:aE:=bP [.sl bd,.fn 139 [] [.pd bd]] (λ_=>True) λ|[.sl H G,.fn _ [] [.pd [.str s2,.int _ U,.sl n4 f4,.int _ x6]]]=>MZ H G s2 U n4 f4 x6|_=>.any
theorem axu:b9 C90 143:=aU Es λ_ hp=>da (arl ..) (aw7 _ _ _ _ _ _ _)
def ash:RT Empty:=.cb (.ret (V.bool (decide (0<=Ml H (D gV G)))))
theorem ajv:cY cZ (aQ JJ LF u0 aud [V.sl H (D gV G),V.fn 148 [] []]) (ash H G):=bD
def ug:Bool:=decide (0<=Ml H (D gV G))
def Nz:V:=.bool (ug H G)
theorem ar7:aT cM (ash H G) (Nz H G):=ao (ac (B5 (by unfold Nz ug;rfl)))
def as4:aE:=bP [.sl gV,.fn 148 [] []] (λ_=>True) λ|[.sl H G,.fn _ [] []]=>Nz H G|_=>.any
theorem atv:b9 as4 149:=aU Es λ_ hp=>da (ajv ..) (ar7 _ _)
def aul:RT Empty:=dm (U,Q,x5,x6,Z) (.cb (.ret (V.bool (decide (0<=LC H (D aV G) s2)))))
theorem ahL:cY cZ (aQ JJ LF u0 ao6 [V.sl H (D aV G),V.fn 150 [] [V.pd [V.str s2,A U,A Q,A x5,A x6,A Z]]]) (aul H G s2 U Q x5 x6 Z):=bD
def uk:Bool:=decide (0<=LC H (D aV G) s2)
def OC:V:=dm (U,Q,x5,x6,Z) (.bool (uk H G s2))
theorem arz:aT cM (aul H G s2 U Q x5 x6 Z) (OC H G s2 U Q x5 x6 Z):=ao (ac (B5 (by unfold OC uk;rfl)))
def aoq:aE:=bP [.sl aV,.fn 150 [] [.pd aV]] (λ_=>True) λ|[.sl H G,.fn _ [] [.pd [.str s2,.int _ U,.int _ Q,.int _ x5,.int _ x6,.int _ Z]]]=>OC H G s2 U Q x5 x6 Z|_=>.any
theorem apd:b9 aoq 151:=aU Es λ_ hp=>da (ahL ..) (arz _ _ _ _ _ _ _ _)
def xJ:bm:=(141,.con C45)::(143,.con C90)::(149,.con as4)::(151,.con aoq)::LF
theorem vd:aZ Tryz.prog Bs C3 xJ:=.con auT (.con axu (.con atv (.con apd (Es))))
def aop:RT Empty:=.obt (.obt (.cb (.ret (V.bool (ky 2 (D L (b5 [A S,A R] 0 1)))))))
theorem alg:cY cZ (aQ JJ xJ u0 asd [V.agg [A S,A R]]) (aop S R):=bD
def uD:Bool:=ky 2 (D L (b5 [A S,A R] 0 1))
def NR:V:=.bool (uD S R)
theorem apP:aT cM (aop S R) (NR S R):=ac (ac (ao (ac (B5 (by unfold NR uD;rfl)))))
def auh:aE:=bP [.agg aM] (λ_=>True) λ|[.agg [.int _ S,.int _ R]]=>NR S R|_=>.any
theorem apl:b9 auh 140:=aU vd λ_ hp=>da (alg ..) (apP _ _)
def m65:RT Empty:=dm (H,G) (.cb (.obi (.br (!ky 2 (D L (b5 [A W,A U] 0 1))) (.ob (!ky 2 (D L (b5 [A W,A U] 0 1))) (.cb (.ii (.obi (.br (!bW Q 1 20000) (.ob (!bW Q 1 20000) (.ob (!bW Q 1 20000) (.cb (.obi (.br (!bW x5 0 (E (x6-1))) (.ob (!bW x5 0 (E (x6-1))) (.cb (.br (bW x6 1 1000) (.ret (A 7)) (.ret (A 0))))) (.ret (A 7))))))) (.ret (A 7))))))) (.ret (A 7)))))
theorem an7:cY cZ (aQ JJ xJ u0 au9 [V.sl H (D bq G),V.agg [A W,A U,A Q,A x5,A x6]]) (m65 H G W U Q x5 x6):=bD
def pR:Int:=bif !ky 2 (D L (b5 [A W,A U] 0 1)) then bif !bW Q 1 20000 then bif !bW x5 0 (E (x6-1)) then bif bW x6 1 1000 then 7 else 0 else 7 else 7 else 7
def IP:V:=dm (H,G) (A (pR W U Q x5 x6))
theorem avI:aT cM (m65 H G W U Q x5 x6) (IP H G W U Q x5 x6):=ao (ac (B1 (C2 (λh0=>aF (by first|assumption|(fail)) (ao (ac (B1 (B1 (B1 (C2 (λM=>aF (by first|assumption|(fail)) (aF (by first|assumption|(fail)) (ao (ac (B1 (C2 (λN=>aF (by first|assumption|(fail)) (ao (ac (C2 (λh3=>B5 (by unfold IP pR;try rw[h0];try rw[M];try rw[N];try rw[h3];rfl)) (λh3=>B5 (by unfold IP pR;try rw[h0];try rw[M];try rw[N];try rw[h3];rfl)))))) (λN=>B5 (by unfold IP pR;try rw[h0];try rw[M];try rw[N];rfl)))))))) (λM=>B5 (by unfold IP pR;try rw[h0];try rw[M];rfl))))))))) (λh0=>B5 (by unfold IP pR;try rw[h0];rfl)))))
def C65:aE:=bP [.sl bq,.agg bq] (λ_=>True) λ|[.sl H G,.agg [.int _ W,.int _ U,.int _ Q,.int _ x5,.int _ x6]]=>IP H G W U Q x5 x6|_=>.any
theorem awB:b9 C65 87:=aU vd λ_ hp=>da (an7 ..) (avI _ _ _ _ _ _ _)
def m67:RT Empty:=dm (H,G) (.obt (.obt (.obt (.obt (.cb (.br (ky 4 (D L (b5 [A W,A U,A Q,A x5] 0 1))) (.ret (A 7)) (.br (W==Q&&(U==x5&&true)) (.ret (A 2)) (.am n6 (.br (decide (6<(n6:Int))) (.ret (A 3)) (.cb (.br (ug n6 (D gV f6)) (.ret (A 7)) (.ret (A 0)))))))))))))
theorem ats:cY cZ (aQ JJ xJ u0 azj [V.sl H (D bu G),V.agg [A W,A U,A Q,A x5,V.sl n6 (D gV f6)]]) (m67 H G W U Q x5 n6 f6):=bD
def pW:Int:=bif ky 4 (D L (b5 [A W,A U,A Q,A x5] 0 1)) then 7 else bif W==Q&&(U==x5&&true) then 2 else bif decide (6<(n6:Int)) then 3 else bif ug n6 (D gV f6) then 7 else 0
def IU:V:=dm (H,G) (A (pW W U Q x5 n6 f6))
theorem auZ:aT cM (m67 H G W U Q x5 n6 f6) (IU H G W U Q x5 n6 f6):=ac (ac (ac (ac (ao (ac (C2 (λh0=>B5 (by unfold IU pW;try rw[h0];rfl)) (λh0=>C2 (λM=>B5 (by unfold IU pW;try rw[h0];try rw[M];rfl)) (λM=>D3 (λa2=>C2 (λN=>B5 (by unfold IU pW;try rw[h0];try rw[M];try rw[N];rfl)) (λN=>ao (ac (C2 (λh3=>B5 (by unfold IU pW;try rw[h0];try rw[M];try rw[N];try rw[h3];rfl)) (λh3=>B5 (by unfold IU pW;try rw[h0];try rw[M];try rw[N];try rw[h3];rfl))))))))))))))
def C67:aE:=bP [.sl bu,.agg bu] (λ_=>True) λ|[.sl H G,.agg [.int _ W,.int _ U,.int _ Q,.int _ x5,.sl n6 f6]]=>IU H G W U Q x5 n6 f6|_=>.any
theorem ayl:b9 C67 89:=aU vd λ_ hp=>da (ats ..) (auZ _ _ _ _ _ _ _ _)
def m53:RT Empty:=.cb (.iv (.iv (.ii (.ret (V.bool (bif bif ky 4 (D L (b5 [A S,A R,A W,A U] 0 1)) then true else decide (W<S) then true else decide (U<R)))))))
theorem anB:cY cZ (aQ JJ xJ u0 asl [V.agg [A S,A R,A W,A U]]) (m53 S R W U):=bD
def yH:Bool:=bif bif ky 4 (D L (b5 [A S,A R,A W,A U] 0 1)) then true else decide (W<S) then true else decide (U<R)
def M9:V:=.bool (yH S R W U)
theorem aw3:aT cM (m53 S R W U) (M9 S R W U):=ao (ac (B1 (B1 (B1 (B1 (B1 (B1 (B1 (B1 (B1 (B1 (B5 (by unfold M9 yH;rfl)))))))))))))
def C53:aE:=bP [.agg gV] (λ_=>True) λ|[.agg [.int _ S,.int _ R,.int _ W,.int _ U]]=>M9 S R W U|_=>.any
theorem avY:b9 C53 99:=aU vd λ_ hp=>da (anB ..) (aw3 _ _ _ _)
def m58:RT Empty:=.cb (.iv (.iv (.ii (.ret (V.bool (bif bif wh 4 (D L (b5 [A S,A R,A W,A U] 0 1)) then decide (S<=W) else false then decide (R<=U) else false))))))
theorem aoU:cY cZ (aQ JJ xJ u0 axb [V.agg [A S,A R,A W,A U]]) (m58 S R W U):=bD
def H8:Bool:=bif bif wh 4 (D L (b5 [A S,A R,A W,A U] 0 1)) then decide (S<=W) else false then decide (R<=U) else false
def MM:V:=.bool (H8 S R W U)
theorem awf:aT cM (m58 S R W U) (MM S R W U):=ao (ac (B1 (B1 (B1 (B1 (B1 (B1 (B1 (B1 (B1 (B1 (B5 (by unfold MM H8;rfl)))))))))))))
def C58:aE:=bP [.agg gV] (λ_=>True) λ|[.agg [.int _ S,.int _ R,.int _ W,.int _ U]]=>MM S R W U|_=>.any
theorem ayE:b9 C58 118:=aU vd λ_ hp=>da (aoU ..) (awf _ _ _ _)
inductive Dr where|L0 (_:Int)
def alD:Dr->bS×List Ax×Option Ex
 |.L0 Pt=>([(3,A Pt),(2,V.kb false),(0,V.str s0)],[],none)
def aou:Dr->JJ
 |.L0 _=>(0,[])
def ad8:Bh (cq JJ):=aQ JJ xJ u0 aqs [V.str s0]
def amE (cx:List Cx):Lp JJ:=eX (eJ (ad8 s0) [])
def aon:JJ->Lp JJ
 |(0,cx)=>amE s0 cx|(_,cx)=>amE s0 cx
def avf:LD JJ Dr:=⟨aou,aon s0,alD s0⟩
def QD:Dr->RT Dr
 |.L0 Pt=>.br (decide (Pt<(↑s0.size:Int))) (.ob (decide (0<=Pt/\Pt<(↑s0.size:Int))) (.ii (.obj (decide (97<=(↑(s0.data.1.getD Pt.toNat 0).toNat:Int))) (decide (0<=Pt/\Pt<(↑s0.size:Int))) (.iv (.ii (.obj ((!bif decide (97<=(↑(s0.data.1.getD Pt.toNat 0).toNat:Int)) then decide ((↑(s0.data.1.getD Pt.toNat 0).toNat:Int)<=122) else false)&&!Pt==0) (decide (0<=Pt/\Pt<(↑s0.size:Int))) (.iv (.obj ((!bif decide (97<=(↑(s0.data.1.getD Pt.toNat 0).toNat:Int)) then decide ((↑(s0.data.1.getD Pt.toNat 0).toNat:Int)<=122) else false)&&!Pt==0&&decide (48<=(↑(s0.data.1.getD Pt.toNat 0).toNat:Int))) (decide (0<=Pt/\Pt<(↑s0.size:Int))) (.iv (.ii (.obi (.obj ((!bif decide (97<=(↑(s0.data.1.getD Pt.toNat 0).toNat:Int)) then decide ((↑(s0.data.1.getD Pt.toNat 0).toNat:Int)<=122) else false)&&!Pt==0&&!bif decide (48<=(↑(s0.data.1.getD Pt.toNat 0).toNat:Int)) then decide ((↑(s0.data.1.getD Pt.toNat 0).toNat:Int)<=57) else false) (decide (0<=Pt/\Pt<(↑s0.size:Int))) (.iv (.ii (.br (bif !bif decide (97<=(↑(s0.data.1.getD Pt.toNat 0).toNat:Int)) then decide ((↑(s0.data.1.getD Pt.toNat 0).toNat:Int)<=122) else false then bif Pt==0 then true else bif !bif decide (48<=(↑(s0.data.1.getD Pt.toNat 0).toNat:Int)) then decide ((↑(s0.data.1.getD Pt.toNat 0).toNat:Int)<=57) else false then(↑(s0.data.1.getD Pt.toNat 0).toNat:Int)!=45 else false else false) (.ret (V.kb false)) (.next [] (Dr.L0 (E (Pt+1))) [])))))))))))))))) (.ii (.obi (.ret (V.bool (bif decide (0<(↑s0.size:Int)) then decide ((↑s0.size:Int)<=24) else false)))))
def anC:RT Dr:=dm s0 (.enter [] (Dr.L0 0) [])
theorem ag6:dZ xJ u0 (avf s0) (ad8 s0) (anC s0) (QD s0):=⟨bD,λs=>by cases s<;>exact bD⟩
def FE (i:Nat):Bool:=bif !bif decide (97<=((s0.data.toList.getD i 0).toNat:Int)) then decide (((s0.data.toList.getD i 0).toNat:Int)<=122) else false then bif(i:Int)==0 then true else bif !bif decide (48<=((s0.data.toList.getD i 0).toNat:Int)) then decide (((s0.data.toList.getD i 0).toNat:Int)<=57) else false then((s0.data.toList.getD i 0).toNat:Int)!=45 else false else false
def nQ:Bool:=dw s0.size (λi=>!FE s0 i)&&bif decide (0<(s0.size:Int)) then decide ((s0.size:Int)<=24) else false
theorem evObj {n:Nat} (p:Nat->Bool) {P:Int->Prop} (hstep:∀i:Nat,i<n->(∀j,j<i->p j=false)->(p i=false->P (E ((i:Int)+1)))->P i) (hend:(∀j,j<n->p j=false)->P n) (hn:n<=9223372036854775807):P 0:=ku hn p hstep hend
theorem aq3 (hp:s0.size<=9223372036854775807):aT (Ev (QD s0)) (anC s0) (.bool (nQ s0)):=aH (ku hp (FE s0) (P:=λi=>Ev (QD s0) (.L0 i) (.bool (nQ s0))) (λi Q7 hj next=>Ev.of rfl (dt Q7 (cX Q7 (by
 repeat (first|refine B1 ?_|refine qz Q7 ?_)
 refine C2 (λhb=>B5 ?_) (λhb=>aL (next hb));simp only[dq];unfold nQ;rw[gn i Q7 (by show(!FE s0 i)=false;rw[show FE s0 i=true from hb];rfl)];rfl))))
 (λhj=>Ev.of rfl (dl (by
 repeat refine B1 ?_
 refine B5 ?_;simp only[dq];unfold nQ;rw[fO λi hi=>by rw[hj i hi];rfl];rfl))))
def asv:aE:=bP [.str] (λ
 |[.str s0]=>s0.size<=9223372036854775807|_=>False) λ
 |[.str s0]=>.bool (nQ s0)|_=>.any
theorem at9:b9 asv 206:=aU vd λ_ hp=>kr (ag6 ..) (aq3 _ hp)
inductive Hp where|L0 (_:Int)
def asF:Hp->bS×List Ax×Option Ex
 |.L0 Pt=>([(3,A Pt),(28,V.kb false),(27,A (n4:Int)),(26,V.sl n4 (D gV f4)),(25,V.pl 0 4),(24,V.kb false),(23,V.agg [A W,A U]),(22,V.pl 0 2),(21,V.agg [A S,A R]),(20,V.pl 0 0),(19,V.kb false),(18,V.bool (wh 4 (D L (b5 [A S,A R,A W,A U] 0 1)))),(17,V.ss 1 0 4 4),(16,A U),(15,V.pl 0 3),(14,V.pl 0 2),(13,A W),(12,V.pl 0 2),(11,V.pl 0 2),(10,A R),(9,V.pl 0 1),(8,V.pl 0 0),(7,A S),(6,V.pl 0 0),(5,V.pl 0 0),(2,A 0),(1,V.pl 0 0),(0,V.agg [A S,A R,A W,A U,V.sl n4 (D gV f4)])],[Ax.cells [A S,A R,A W,A U,V.sl n4 (D gV f4)] 138,Ax.cells [A S,A R,A W,A U] 3],none)
def ay6:Hp->JJ
 |.L0 _=>(0,[])
def anY:Bh (cq JJ):=aQ JJ xJ u0 ayC [V.agg [A S,A R,A W,A U,V.sl n4 (D gV f4)]]
def fe1 (cx:List Cx):Lp JJ:=eX (eJ (anY S R W U n4 f4) [false,false,false])
def awH:JJ->Lp JJ
 |(0,cx)=>fe1 S R W U n4 f4 cx|(_,cx)=>fe1 S R W U n4 f4 cx
def D72:LD JJ Hp:=⟨ay6,awH S R W U n4 f4,asF S R W U n4 f4⟩
abbrev Dv:=[some (some 0),some (some 1)]
def ZB (S R W U:Int) (n4:Nat) (f4:be):Hp->RT Hp
 |.L0 Pt=>.am n4 (.br (decide (Pt<(n4:Int))) (.ob (decide (0<=Pt/\Pt<(n4:Int))) (.iv (.iv (.iv (.iv (.ii (.obi (.br (bif bif bif bif bif decide (av (f4 Pt.toNat)<0) then true else decide (aP (f4 Pt.toNat)<=av (f4 Pt.toNat)) then true else decide (1000<aP (f4 Pt.toNat)) then true else decide (bV (f4 Pt.toNat)<0) then true else decide (bf (f4 Pt.toNat)<=bV (f4 Pt.toNat)) then true else decide (1000<bf (f4 Pt.toNat))) (.ret (A 7)) (.next Dv (Hp.L0 (E (Pt+1))) []))))))))) (.ret (A 0)))
def P9:RT Hp:=dm f4 (.obt (.obt (.obt (.obt (.cb (.br (!wh 4 (D L (b5 [A S,A R,A W,A U] 0 1))) (.ret (A 7)) (.br (S==W&&(R==U&&true)) (.ret (A 2)) (.am n4 (.br (decide (6<(n4:Int))) (.ret (A 3)) (.enter Dv (Hp.L0 0) []))))))))))
theorem aql:dZ xJ u0 (D72 S R W U n4 f4) (anY S R W U n4 f4) (P9 S R W U n4 f4) (ZB S R W U n4 f4):=⟨bD,λs=>by cases s<;>exact bD⟩
def NW (l:List V):Bool:=bif bif bif bif bif decide (av l<0) then true else decide (aP l<=av l) then true else decide (1000<aP l) then true else decide (bV l<0) then true else decide (bf l<=bV l) then true else decide (1000<bf l)
def HT (S R W U:Int) (n4:Nat) (f4:be):Int:=bif !wh 4 (D L (b5 [A S,A R,A W,A U] 0 ((1+1+1+1-0) / 4))) then 7 else bif S==W&&(R==U&&true) then 2 else bif decide (6<(n4:Int)) then 3 else bif gS n4 (λi=>NW (f4 i)) then 7 else 0
theorem agv:aT (Ev (ZB S R W U n4 f4)) (P9 S R W U n4 f4) (A (HT S R W U n4 f4)):=by
 unfold HT
 repeat (first|refine ac ?_|refine ao ?_)
 refine C2 (λh0=>B5 (by rw[h0];rfl)) (λh0=>?_);rw[h0,cond_false];refine C2 (λM=>B5 (by rw[M];rfl)) (λM=>?_);rw[M,cond_false];refine bC λhn=>?_;refine C2 (λN=>B5 (by rw[N];rfl)) (λN=>?_);rw[N,cond_false];refine aH (ku hn (λi=>NW (f4 i)) (P:=λi=>Ev (ZB S R W U n4 f4) (.L0 i) (A (bif gS n4 (λi=>NW (f4 i)) then 7 else 0))) (λi Q7 hj next=>Ev.of rfl (bC λ_=>dt Q7 (cX Q7 (by
  repeat (first|refine B1 ?_|refine qz Q7 ?_)
  refine C2 (λhb=>B5 ?_) (λhb=>aL (next hb));rw[cV i Q7 (show NW (f4 i)=true from hb)];rfl))))
  (λhj=>Ev.of rfl (bC λ_=>dl (B5 ?_))))
 rw[c8 hj];rfl
theorem ayR:aT (Ev (ZB S R W U n4 f4)) (P9 S R W U n4 f4) (A (HT S R W U n4 (D gV f4))):=agv S R W U n4 f4
def C72:aE:=bP [.agg bu] (λ_=>True) λ|[.agg [.int _ S,.int _ R,.int _ W,.int _ U,.sl n4 f4]]=>A (HT S R W U n4 f4)|_=>.any
theorem ays:b9 C72 164:=aU vd λ_ hp=>kr (aql ..) (ayR _ _ _ _ _ _)
def E1:bm:=(140,.con auh)::(87,.con C65)::(89,.con C67)::(99,.con C53)::(118,.con C58)::(206,.con asv)::(164,.con C72)::xJ
theorem KN:aZ Tryz.prog Bs C3 E1:=.con apl (.con awB (.con ayl (.con avY (.con ayE (.con at9 (.con ays (vd)))))))
inductive Du where|L0 (_:Int)
def amP:Du->bS×List Ax×Option Ex
 |.L0 Pt=>([(8,A Pt),(7,A (H:Int)),(6,V.sl H (D aM G)),(4,A 0),(0,V.sl H (D aM G)),(1,V.fn 140 [] [])],[],none)
def aoF:Du->JJ
 |.L0 _=>(0,[])
def acz:Bh (cq JJ):=aQ JJ E1 u0 aoO [V.sl H (D aM G),V.fn 140 [] []]
def aqV (cx:List Cx):Lp JJ:=eX (eJ (acz H G) [])
def asf:JJ->Lp JJ
 |(0,cx)=>aqV H G cx|(_,cx)=>aqV H G cx
def awO:LD JJ Du:=⟨aoF,asf H G,amP H G⟩
def SG:Du->RT Du
 |.L0 Pt=>.br (decide (Pt<(H:Int))) (.ob (decide (0<=Pt/\Pt<(H:Int))) (.cb (.br (uD (av (G Pt.toNat)) (aP (G Pt.toNat))) (.ret (A Pt)) (.next [] (Du.L0 (E (Pt+1))) [])))) (.ret (A (-1)))
def OB:RT Du:=dm G (.am H (.enter [] (Du.L0 0) []))
theorem af8:dZ E1 u0 (awO H G) (acz H G) (OB H G) (SG H G):=⟨bD,λs=>by cases s<;>exact bD⟩
def Lh:Int  :=zG H λii=>uD (av (G ii)) (aP (G ii))
theorem nn0:aT (Ev (SG H G)) (OB H G) (A (Lh H G)):=bC λhn=>aH (pQ hn λi=>rfl)
theorem aoY:aT (Ev (SG H G)) (OB H G) (A (Lh H (D aM G))):=nn0 H G
def as5:aE:=bP [.sl aM,.fn 140 [] []] (λ_=>True) λ|[.sl H G,.fn _ [] []]=>A (Lh H G)|_=>.any
theorem as8:b9 as5 190:=aU KN λ_ hp=>kr (af8 ..) (aoY _ _)
inductive HY where|L0 (_:Int)
def ap7:HY->bS×List Ax×Option Ex
 |.L0 Pt=>([(11,A Pt),(10,A (H:Int)),(9,V.sl H (D bq G)),(5,A 0),(4,A 0),(0,V.sl H (D bq G)),(1,V.fn 87 [] [])],[],none)
def awA:HY->JJ
 |.L0 _=>(0,[])
def aq0:Bh (cq JJ):=aQ JJ E1 u0 avi [V.sl H (D bq G),V.fn 87 [] []]
def h11 (cx:List Cx):Lp JJ:=eX (eJ (aq0 H G) [])
def av0:JJ->Lp JJ
 |(0,cx)=>h11 H G cx|(_,cx)=>h11 H G cx
def D64:LD JJ HY:=⟨awA,av0 H G,ap7 H G⟩
abbrev Dj:=[A 0,A 0]
def NQ:HY->RT HY
 |.L0 Pt=>.br (decide (Pt<(H:Int))) (.ob (decide (0<=Pt/\Pt<(H:Int))) (.ob (decide (0<=Pt/\Pt<=(H:Int))) (.cb (.br (pR (av (G Pt.toNat)) (aP (G Pt.toNat)) (bV (G Pt.toNat)) (bf (G Pt.toNat)) (cu (G Pt.toNat))!=0) (.ret (V.tup [A Pt,A (pR (av (G Pt.toNat)) (aP (G Pt.toNat)) (bV (G Pt.toNat)) (bf (G Pt.toNat)) (cu (G Pt.toNat)))])) (.next [] (HY.L0 (E (Pt+1))) []))))) (.ret (V.tup Dj))
def P4:RT HY:=dm G (.am H (.enter [] (HY.L0 0) []))
theorem ao2:dZ E1 u0 (D64 H G) (aq0 H G) (P4 H G) (NQ H G):=⟨bD,λs=>by cases s<;>exact bD⟩
def OU (ii:Nat):Int:=dm H ((pR (av (G ii)) (aP (G ii)) (bV (G ii)) (bf (G ii)) (cu (G ii))))
def zV:Int:=gp H (OU H G)
def rl:Int:=d8 H (OU H G)
theorem aeO:aT (Ev (NQ H G)) (P4 H G) (.tup [A (zV H G),A (rl H G)]):=bC λhn=>aH (sJ (Q2:=λ_=>True) (λ_ x=>.obc (.obt x)) (λi x r h hx=>ao (ac hx)) (λ_ _=>rfl) hn (λ_ _=>trivial) λi=>rfl)
theorem axU:aT (Ev (NQ H G)) (P4 H G) (.tup [A (zV H (D bq G)),A (rl H (D bq G))]):=aeO H G
def C64:aE:=bP [.sl bq,.fn 87 [] []] (λ_=>True) λ|[.sl H G,.fn _ [] []]=>.tup [A (zV H G),A (rl H G)]|_=>.any
theorem avy:b9 C64 86:=aU KN λ_ hp=>kr (ao2 ..) (axU _ _)
inductive Hk where|L0 (_:Int)
def aqb:Hk->bS×List Ax×Option Ex
 |.L0 Pt=>([(11,A Pt),(10,A (H:Int)),(9,V.sl H (D bu G)),(5,A 0),(4,A 0),(0,V.sl H (D bu G)),(1,V.fn 89 [] [])],[],none)
def aw5:Hk->JJ
 |.L0 _=>(0,[])
def arC:Bh (cq JJ):=aQ JJ E1 u0 avs [V.sl H (D bu G),V.fn 89 [] []]
def fa1 (cx:List Cx):Lp JJ:=eX (eJ (arC H G) [])
def axY:JJ->Lp JJ
 |(0,cx)=>fa1 H G cx|(_,cx)=>fa1 H G cx
def D66:LD JJ Hk:=⟨aw5,axY H G,aqb H G⟩
def O6:Hk->RT Hk
 |.L0 Pt=>.br (decide (Pt<(H:Int))) (.ob (decide (0<=Pt/\Pt<(H:Int))) (.ob (decide (0<=Pt/\Pt<=(H:Int))) (.cb (.br ((pW (av (G Pt.toNat)) (aP (G Pt.toNat)) (bV (G Pt.toNat)) (bf (G Pt.toNat)) (aB (aA (I (I (I (I (G Pt.toNat))))))) λi=>al gV (bL (aA (I (I (I (I (G Pt.toNat)))))) i))!=0) (.ret (V.tup [A Pt,A (pW (av (G Pt.toNat)) (aP (G Pt.toNat)) (bV (G Pt.toNat)) (bf (G Pt.toNat)) (aB (aA (I (I (I (I (G Pt.toNat))))))) λi=>al gV (bL (aA (I (I (I (I (G Pt.toNat)))))) i))])) (.next [] (Hk.L0 (E (Pt+1))) []))))) (.ret (V.tup Dj))
def P5:RT Hk:=dm G (.am H (.enter [] (Hk.L0 0) []))
theorem apu:dZ E1 u0 (D66 H G) (arC H G) (P5 H G) (O6 H G):=⟨bD,λs=>by cases s<;>exact bD⟩
def OV (ii:Nat):Int:=dm H ((pW (av (G ii)) (aP (G ii)) (bV (G ii)) (bf (G ii)) (aB (aA (I (I (I (I (G ii))))))) λi=>al gV (bL (aA (I (I (I (I (G ii)))))) i)))
def Aw:Int:=gp H (OV H G)
def qY:Int:=d8 H (OV H G)
theorem ahA:aT (Ev (O6 H G)) (P5 H G) (.tup [A (Aw H G),A (qY H G)]):=bC λhn=>aH (sJ (Q2:=λ_=>True) (λ_ x=>.obc (.obt x)) (λi x r h hx=>ao (ac hx)) (λ_ _=>rfl) hn (λ_ _=>trivial) λi=>rfl)
theorem awd:aT (Ev (O6 H G)) (P5 H G) (.tup [A (Aw H (D bu G)),A (qY H (D bu G))]):=ahA H G
def C66:aE:=bP [.sl bu,.fn 89 [] []] (λ_=>True) λ|[.sl H G,.fn _ [] []]=>.tup [A (Aw H G),A (qY H G)]|_=>.any
theorem awN:b9 C66 88:=aU KN λ_ hp=>kr (apu ..) (awd _ _)
end
end Go.Dx
namespace Go.Proofs
open Go.Shelf
def Tryz.lays160_ren:Go.Shelf.Ren:=⟨λ|160=>188|232=>218|231=>217|227=>219|234=>221|233=>220|236=>223|235=>222|228=>229|271=>232|151=>231|197=>230|120=>246|152=>245|260=>244|137=>252|119=>253|224=>254|225=>255|217=>257|266=>258|n=>n,λ|9=>9|4=>4|3=>3|5=>5|117=>255|116=>254|0=>0|124=>258|21=>21|105=>265|46=>263|119=>285|139=>288|138=>287|n=>n,λ|3=>0|4=>1|n=>n⟩
theorem Tryz.lays160:Go.Proofs.Lays.n160 Tryz.prog Tryz.lays160_ren:={
 mixed:=by kernel_rfl
 f119:=Tryz.func253.trans (congrArg some bw)
 f120:=Tryz.func246.trans (congrArg some bw)
 f137:=Tryz.func252.trans (congrArg some bw)
 f151:=Tryz.func231.trans (congrArg some bw)
 f152:=Tryz.func245.trans (congrArg some bw)
 f160:=Tryz.func188.trans (congrArg some bw)
 f197:=Tryz.func230.trans (congrArg some bw)
 f217:=Tryz.func257.trans (congrArg some bw)
 f224:=Tryz.func254.trans (congrArg some bw)
 f225:=Tryz.func255.trans (congrArg some bw)
 f227:=Tryz.func219.trans (congrArg some bw)
 f228:=Tryz.func229.trans (congrArg some bw)
 f231:=Tryz.func217.trans (congrArg some bw)
 f232:=Tryz.func218.trans (congrArg some bw)
 f233:=Tryz.func220.trans (congrArg some bw)
 f234:=Tryz.func221.trans (congrArg some bw)
 f235:=Tryz.func222.trans (congrArg some bw)
 f236:=Tryz.func223.trans (congrArg some bw)
 f260:=Tryz.func244.trans (congrArg some bw)
 f266:=Tryz.func258.trans (congrArg some bw)
 f271:=Tryz.func232.trans (congrArg some bw)
 t0:=Tryz.underlying0
 a0:=Tryz.isAgg0
 z0:=Tryz.sizeOf0
 v0:=Tryz.zeroValue0
 t3:=Tryz.underlying3
 a3:=Tryz.isAgg3
 z3:=Tryz.sizeOf3
 v3:=Tryz.zeroValue3
 t4:=Tryz.underlying4
 a4:=Tryz.isAgg4
 z4:=Tryz.sizeOf4
 v4:=Tryz.zeroValue4
 t5:=Tryz.underlying5
 a5:=Tryz.isAgg5
 z5:=Tryz.sizeOf5
 v5:=Tryz.zeroValue5
 t9:=Tryz.underlying9
 a9:=Tryz.isAgg9
 z9:=Tryz.sizeOf9
 v9:=Tryz.zeroValue9
 t21:=Tryz.underlying21
 a21:=Tryz.isAgg21
 z21:=Tryz.sizeOf21
 v21:=Tryz.zeroValue21
 t46:=Tryz.underlying263
 a46:=Tryz.isAgg263
 z46:=Tryz.sizeOf263
 v46:=Tryz.zeroValue263
 t105:=Tryz.underlying265
 a105:=Tryz.isAgg265
 z105:=Tryz.sizeOf265
 v105:=Tryz.zeroValue265
 t116:=Tryz.underlying254
 a116:=Tryz.isAgg254
 z116:=Tryz.sizeOf254
 t117:=Tryz.underlying255
 a117:=Tryz.isAgg255
 z117:=Tryz.sizeOf255
 v117:=Tryz.zeroValue255
 t119:=Tryz.underlying285
 a119:=Tryz.isAgg285
 z119:=Tryz.sizeOf285
 t124:=Tryz.underlying258
 a124:=Tryz.isAgg258
 z124:=Tryz.sizeOf258
 v124:=Tryz.zeroValue258
 t138:=Tryz.underlying287
 a138:=Tryz.isAgg287
 z138:=Tryz.sizeOf287
 v138:=Tryz.zeroValue287
 t139:=Tryz.underlying288
 a139:=Tryz.isAgg288
 z139:=Tryz.sizeOf288
 v139:=Tryz.zeroValue288
 g3:=by kernel_rfl
 g4:=by kernel_rfl }
end Go.Proofs
namespace Go.Dx
open Go.IntKind (i64 u64 u8)
open Go.Sx Go.Proofs Go.Shelf Go.RowKit
noncomputable section
def W3:ByteArray:=⟨#[97,98,99,100,101,102,103,104,105,106,107,108,109,110,111,112,113,114,115,116,117,118,119,120,121,122,48,49,50,51,52,53,54,55,56,57,45]⟩
def zS (s c:ByteArray):ByteArray:=⟨(Lib.trimS s.data.toList c.data.toList).toArray⟩
def Ny:aE:=bP [.str,.str] (λ
 |[.str s,.str c]=>s.size<=9223372036854775807/\c=W3|_=>False) λ
 |[.str s,.str c]=>.str (zS s c)|_=>.any
theorem hno (s:ByteArray) (w:World) (hs:s.size<=9223372036854775807):Calls Tryz.prog 188 #[.string s,.string W3] w λe w'=>e=.returned (.string (zS s W3))/\Below w.heap.size w w' :=
 Any.strings_Trim_laid Tryz.lays160 bw s W3 w hs aR (ascii_of_all aR)
theorem bh.below {B:dP} {m:aN} {lh:List ar} {w w':World} (h:bh B m lh w) (hb:Below w.heap.size w w'):bh B m lh w':=by obtain⟨M,N,h3,h4,h5⟩:=hb;have RI:B.w0.heap.size<=w'.heap.size:=Eg h.size h4;refine⟨M.trans h.os,N.trans h.tape,h3.trans h.output,RI,λb hb=>(h5 b (Fj hb h.size)).trans (h.old b hb),Eg h.fsize h4,λb hb ho=>(h5 b (Fj hb h.fsize)).trans (h.kept b hb ho),λk cs ty hk=>?_,h.inj,h.dom,h.dead,λk b hk=>Fj (h.rng k b hk) h4⟩;obtain⟨b,vs,g1,g2,g3,g4⟩:=h.loc k cs ty hk;exact⟨b,vs,g1,g2,(h5 b (h.rng k b g1)).trans g3,g4⟩
theorem aqu:(vP Ny).Ok Tryz.prog 188:=by refine⟨λB m lh w args vs At hrel hargs S4=>?_,λ_ _ _ _ _ hk ⟨ds,d,p,r,M,N,h3,h4,h5⟩=>⟨ds,d,p,r,M,N,h3,h4,hk _ _ h5⟩,λ_ _ _ _ ⟨_,_,_,_,_,_,_,_,h⟩=>h⟩;obtain⟨ds,d,p,r,M,N,⟨Sq,h3⟩,h4,h5⟩:=S4;simp only[Ny,bP,DJ,Prod.mk.injEq]at N;obtain⟨rfl,rfl,rfl⟩:=N;have Sk:=(kv [.str,.str] ds [] [] rfl Sq).1;simp only[bO,dF]at Sk;obtain⟨e1,e2,e3,e4,e5⟩:=Sk;rw[e5]at e3;rw[e3,e2,e4]at e1;generalize sv (aA ds)=s at e1;generalize sv (aA (I ds))=c at e1;subst e1;simp only[lR,SL]at h3 h4 h5;obtain⟨hs,rfl⟩:=h3;simp only[bI,vr]at M;obtain⟨_,_,rfl,rfl,_,_,rfl,rfl,rfl⟩:=M;simp only[aC,C5]at hargs;obtain⟨_,_,rfl,rfl,_,_,rfl,rfl,rfl⟩:=hargs;refine⟨⟨_,Tryz.func188,by kernel_rfl,by kernel_rfl⟩,(hno s w hs).mono λe w' ⟨he,hb⟩=>?_⟩;exact⟨_,_,m,lh,he,by simp only[dq,C5],jx.refl _ _,bh.below hrel hb,h5⟩
theorem apR (s:ByteArray) (h:(!s.toList==(⟨#[]⟩:ByteArray).toList)=true):(0:Int)<(s.size:Int):=by
 have e:(⟨#[]⟩:ByteArray).toList=[]:=by decide +kernel
 by_cases hz:s.size=0
 ·have:s=⟨#[]⟩:=by
   cases s with|mk d=>
   have:d=#[]:=Array.eq_empty_of_size_eq_zero hz;rw[this]
  rw[this,e]at h;cases h
 ·omega
end
end Go.Dx
namespace Go.Dx
open Go.IntKind (i64 u64 u8)
open Go.Sx Go.Proofs
variable (H:Nat) (G:be) (s0:ByteArray) (T:Nat) (O:be) (s2:ByteArray) (U:Int) (n4:Nat) (f4:be) (Q x5:Int) (n6:Nat) (f6:be) (x6 Z Y:Int)
noncomputable section
def K9:bm:=(190,.con as5)::(86,.con C64)::(88,.con C66)::(188,.con Ny)::E1
theorem KZ:aZ Tryz.prog Bs C3 K9:=.con as8 (.con avy (.con awN (.con aqu (KN))))
def anq:RT Empty:=.cb (.ret (V.bool (decide (0<=Lh H (D aM G)))))
theorem ajk:cY cZ (aQ JJ K9 u0 aqI [V.sl H (D aM G),V.fn 140 [] []]) (anq H G):=bD
def lY:Bool:=decide (0<=Lh H (D aM G))
def NU:V:=.bool (lY H G)
theorem asQ:aT cM (anq H G) (NU H G):=ao (ac (B5 (by unfold NU lY;rfl)))
def aoM:aE:=bP [.sl aM,.fn 140 [] []] (λ_=>True) λ|[.sl H G,.fn _ [] []]=>NU H G|_=>.any
theorem apf:b9 aoM 145:=aU KZ λ_ hp=>da (ajk ..) (asQ _ _)
def an9:RT Empty:=.obp (s0.size<=(9223372036854775807:Nat)/\ByteArray.mk (Array.mk [(97:UInt8),(98:UInt8),(99:UInt8),(100:UInt8),(101:UInt8),(102:UInt8),(103:UInt8),(104:UInt8),(105:UInt8),(106:UInt8),(107:UInt8),(108:UInt8),(109:UInt8),(110:UInt8),(111:UInt8),(112:UInt8),(113:UInt8),(114:UInt8),(115:UInt8),(116:UInt8),(117:UInt8),(118:UInt8),(119:UInt8),(120:UInt8),(121:UInt8),(122:UInt8),(48:UInt8),(49:UInt8),(50:UInt8),(51:UInt8),(52:UInt8),(53:UInt8),(54:UInt8),(55:UInt8),(56:UInt8),(57:UInt8),(45:UInt8)])=ByteArray.mk (Array.mk [(97:UInt8),(98:UInt8),(99:UInt8),(100:UInt8),(101:UInt8),(102:UInt8),(103:UInt8),(104:UInt8),(105:UInt8),(106:UInt8),(107:UInt8),(108:UInt8),(109:UInt8),(110:UInt8),(111:UInt8),(112:UInt8),(113:UInt8),(114:UInt8),(115:UInt8),(116:UInt8),(117:UInt8),(118:UInt8),(119:UInt8),(120:UInt8),(121:UInt8),(122:UInt8),(48:UInt8),(49:UInt8),(50:UInt8),(51:UInt8),(52:UInt8),(53:UInt8),(54:UInt8),(55:UInt8),(56:UInt8),(57:UInt8),(45:UInt8)])) (.obt (.iv (.ii (.obj (bif bif !s0.toList==(ByteArray.mk (Array.mk [])).toList then decide ((↑s0.size:Int)<=24) else false then(zS s0 (ByteArray.mk (Array.mk [97,98,99,100,101,102,103,104,105,106,107,108,109,110,111,112,113,114,115,116,117,118,119,120,121,122,48,49,50,51,52,53,54,55,56,57,45]))).toList==(ByteArray.mk (Array.mk [])).toList else false) (decide ((0:Int)<=0/\0<(↑s0.size:Int))) (.ii (.obi (.obj (bif bif bif !s0.toList==(ByteArray.mk (Array.mk [])).toList then decide ((↑s0.size:Int)<=24) else false then(zS s0 (ByteArray.mk (Array.mk [97,98,99,100,101,102,103,104,105,106,107,108,109,110,111,112,113,114,115,116,117,118,119,120,121,122,48,49,50,51,52,53,54,55,56,57,45]))).toList==(ByteArray.mk (Array.mk [])).toList else false then decide (97<=(↑(s0.data.1.getD 0 0).toNat:Int)) else false) (decide ((0:Int)<=0/\0<(↑s0.size:Int))) (.ii (.ret (V.bool (bif bif bif bif !s0.toList==(ByteArray.mk (Array.mk [])).toList then decide ((↑s0.size:Int)<=24) else false then(zS s0 (ByteArray.mk (Array.mk [97,98,99,100,101,102,103,104,105,106,107,108,109,110,111,112,113,114,115,116,117,118,119,120,121,122,48,49,50,51,52,53,54,55,56,57,45]))).toList==(ByteArray.mk (Array.mk [])).toList else false then decide (97<=(↑(s0.data.1.getD 0 0).toNat:Int)) else false then decide ((↑(s0.data.1.getD 0 0).toNat:Int)<=122) else false)))))))))))
theorem aln:cY cZ (aQ JJ K9 u0 anR [V.str s0]) (an9 s0):=bD
def pf:Bool:=bif bif bif bif !s0.toList==(ByteArray.mk (Array.mk [])).toList then decide ((↑s0.size:Int)<=24) else false then(zS s0 (ByteArray.mk (Array.mk [97,98,99,100,101,102,103,104,105,106,107,108,109,110,111,112,113,114,115,116,117,118,119,120,121,122,48,49,50,51,52,53,54,55,56,57,45]))).toList==(ByteArray.mk (Array.mk [])).toList else false then decide (97<=(↑(s0.data.1.getD 0 0).toNat:Int)) else false then decide ((↑(s0.data.1.getD 0 0).toNat:Int)<=122) else false
def OE:V:=.bool (pf s0)
theorem ar1 (hp:s0.size<=9223372036854775807):aT cM (an9 s0) (OE s0):=aI (by first|assumption|(exact⟨hp,rfl⟩)) (ac (B1 (B1 (B1 (B1 (B1 (B1 (DY (by first|assumption|(intro h;refine BX ⟨Int.le_refl 0,apR s0 ?_⟩;cases hb:(!s0.toList==(⟨#[]⟩:ByteArray).toList) with|true=>rfl|false=>(rw[hb]at h;simp at h))) (B1 (B1 (B1 (DY (by first|assumption|(intro h;refine BX ⟨Int.le_refl 0,apR s0 ?_⟩;cases hb:(!s0.toList==(⟨#[]⟩:ByteArray).toList) with|true=>rfl|false=>(rw[hb]at h;simp at h))) (B1 (B1 (B5 (by unfold OE pf;rfl))))))))))))))))
def arM:aE:=bP [.str] (λ
 |[.str s0]=>s0.size<=9223372036854775807|_=>False) λ
 |[.str s0]=>OE s0|_=>.any
theorem asY:b9 arM 142:=aU KZ λ_ hp=>da (aln ..) (ar1 _ hp)
inductive Hv where|L0 (_:Int)
def apV:Hv->bS×List Ax×Option Ex
 |.L0 Pt=>([(6,A Pt),(15,V.kb false),(14,V.bool (nQ (sv (aA (f6 Y.toNat))))),(13,V.str (sv (aA (f6 Y.toNat)))),(12,V.pl 0 0),(5,V.pl 0 0),(11,V.agg [V.str (sv (aA (f6 Y.toNat))),A (aP (f6 Y.toNat)),A (bV (f6 Y.toNat)),A (bf (f6 Y.toNat)),A (cu (f6 Y.toNat)),A (bE (f6 Y.toNat))]),(10,V.pd [V.str (sv (aA (f6 Y.toNat))),A (aP (f6 Y.toNat)),A (bV (f6 Y.toNat)),A (bf (f6 Y.toNat)),A (cu (f6 Y.toNat)),A (bE (f6 Y.toNat))]),(9,A Y),(8,V.sl n6 (D aV f6)),(7,V.pl 1 3),(4,A 0),(2,V.pl 1 0),(0,Ca H G T O n4 f4 n6 f6),(1,A Y)],[Ax.cells [V.str (sv (aA (f6 Y.toNat))),A (aP (f6 Y.toNat)),A (bV (f6 Y.toNat)),A (bf (f6 Y.toNat)),A (cu (f6 Y.toNat)),A (bE (f6 Y.toNat))] 52,Ax.cells [V.sl H (D bd G),V.sl T (D bq O),V.sl n4 (D bu f4),V.sl n6 (D aV f6)] 31],none)
def ax3:Hv->JJ
 |.L0 _=>(0,[])
def aow:Bh (cq JJ):=aQ JJ K9 u0 axQ [Ca H G T O n4 f4 n6 f6,A Y]
def fw6 (cx:List Cx):Lp JJ:=eX (eJ (aow H G T O n4 f4 n6 f6 Y) [false])
def axR:JJ->Lp JJ
 |(0,cx)=>fw6 H G T O n4 f4 n6 f6 Y cx|(_,cx)=>fw6 H G T O n4 f4 n6 f6 Y cx
def D73:LD JJ Hv:=⟨ax3,axR H G T O n4 f4 n6 f6 Y,apV H G T O n4 f4 n6 f6 Y⟩
def Wi (H:Nat) (G:be) (T:Nat) (O:be) (n4:Nat) (f4:be) (n6:Nat) (f6:be) (Y:Int):Hv->RT Hv
 |.L0 Pt=>.br (decide (Pt<Y)) (.ob (decide (0<=Pt/\Pt<(n6:Int))) (.br ((sv (aA (f6 Pt.toNat))).toList==(sv (aA (f6 Y.toNat))).toList) (.ret (A 5)) (.next Dv (Hv.L0 (E (Pt+1))) []))) (.cb (.obi (.br (!!wh 2 (D L (b5 [A (aP (f6 Y.toNat)),A (bV (f6 Y.toNat))] 0 1))) (.ob (!!wh 2 (D L (b5 [A (aP (f6 Y.toNat)),A (bV (f6 Y.toNat))] 0 1))) (.cb (.obi (.br (!!dC (bf (f6 Y.toNat)) 1 200) (.ob (!!dC (bf (f6 Y.toNat)) 1 200) (.cb (.obi (.br (!!dC (cu (f6 Y.toNat)) (-1000) 1000) (.ob (!!dC (cu (f6 Y.toNat)) (-1000) 1000) (.cb (.br (!dC (bE (f6 Y.toNat)) (-1000) 1000) (.ret (A 7)) (.ii (.obi (.br (bif cu (f6 Y.toNat)==0 then bE (f6 Y.toNat)==0 else false) (.ret (A 2)) (.ret (A 0)))))))) (.ret (A 7)))))) (.ret (A 7)))))) (.ret (A 7)))))
abbrev J4:=[some (some 1),some (some 0)]
def PD:RT Hv:=dm (H,G,T,O,n4,f4) (.ob (decide (0<=Y/\Y<(n6:Int))) (.obp ((sv (aA (f6 Y.toNat))).size<=(9223372036854775807:Nat)) (.obt (.br (!nQ (sv (aA (f6 Y.toNat)))) (.ret (A 6)) (.enter J4 (Hv.L0 0) [])))))
theorem anS:dZ K9 u0 (D73 H G T O n4 f4 n6 f6 Y) (aow H G T O n4 f4 n6 f6 Y) (PD H G T O n4 f4 n6 f6 Y) (Wi H G T O n4 f4 n6 f6 Y):=⟨bD,λs=>by cases s<;>exact bD⟩
def Me (x y h dx dy:Int):Int:=bif bif bif bif !wh 2 (D L (b5 [A x,A y] 0 ((1+1-0) / 2))) then true else !dC h 1 200 then true else !dC dx (-1000) 1000 then true else !dC dy (-1000) 1000 then 7 else bif bif dx==0 then dy==0 else false then 2 else 0
def RF:Int:=dm n6 (bif !nQ (sv (aA (f6 Y.toNat))) then 6 else bif gS Y.toNat (λk=>(sv (aA (f6 k))).toList==(sv (aA (f6 Y.toNat))).toList) then 5 else Me (aP (f6 Y.toNat)) (bV (f6 Y.toNat)) (bf (f6 Y.toNat)) (cu (f6 Y.toNat)) (bE (f6 Y.toNat)))
theorem akq (hp:0<=Y/\Y<n6/\n6<=9223372036854775807/\aD n6 f6):aT (Ev (Wi H G T O n4 f4 n6 f6 Y)) (PD H G T O n4 f4 n6 f6 Y) (A (RF n6 f6 Y)):=by
 obtain⟨h0,M,N,h3⟩:=hp;obtain⟨k,rfl⟩:∃k:Nat,Y=(k:Int):=⟨Y.toNat,K⟩;have hk:k<n6:=by omega
 refine cX hk (aI (h3 k hk) (ac ?_));unfold RF;simp only[De];refine C2 (λh=>B5 (by rw[show(!nQ (sv (aA (f6 k))))=true from h];rfl)) (λh=>?_);rw[show(!nQ (sv (aA (f6 k))))=false from h,cond_false]
 refine aH (ku (n:=k) K (λi=>(sv (aA (f6 i))).toList==(sv (aA (f6 k))).toList) (P:=λi=>Ev (Wi H G T O n4 f4 n6 f6 (k:Int)) (.L0 i) _) (λi Q7 hj next=>Ev.of rfl (dt Q7 (cX K (C2 (λhb=>B5 ?_) (λhb=>aL (next hb))))))
  (λhj=>Ev.of rfl (dl ?_)))
 ·rw[cV i Q7 hb];rfl
 ·rw [c8 hj,cond_false]
  unfold Me;refine ao (ac (B1 (C2 (λh=>aF h (ao (ac (B1 (C2 (λh'=>aF h' (ao (ac (B1 (C2 (λh''=>aF h'' (ao (ac (C2 (λh3=>B5 ?_) (λh3=>?_))))) (λh''=>B5 ?_)))))) (λh'=>B5 ?_)))))) (λh=>B5 ?_))))
  all_goals try simp only[De]at *
  ·rw[ng h,ng h',ng h'',h3];rfl
  ·rw[ng h,ng h',ng h'',h3]
   repeat refine B1 ?_
   refine C2 (λh4=>B5 ?_) (λh4=>B5 ?_)<;>(simp only[cond_false];rw[h4];rfl)
  ·rw[ng h,ng h',PG h''];rfl
  ·rw[ng h,PG h'];rfl
  ·rw[PG h];rfl
theorem ay2 (hp:0<=Y/\Y<n6/\n6<=9223372036854775807/\aD n6 (D aV f6)):aT (Ev (Wi H G T O n4 f4 n6 f6 Y)) (PD H G T O n4 f4 n6 f6 Y) (A (RF n6 (D aV f6) Y)):=akq H G T O n4 f4 n6 f6 Y hp
def C73:aE:=bP [.agg [.sl bd,.sl bq,.sl bu,.sl aV],tI] (λ
 |[.agg [.sl H G,.sl T O,.sl n4 f4,.sl n6 f6],.int _ Y]=>0<=Y/\Y<n6/\n6<=9223372036854775807/\aD n6 f6|_=>False) λ
 |[.agg [.sl H G,.sl T O,.sl n4 f4,.sl n6 f6],.int _ Y]=>A (RF n6 f6 Y)|_=>.any
theorem awk:b9 C73 165:=aU KZ λ_ hp=>kr (anS ..) (ay2 _ _ _ _ _ _ _ _ _ hp)
def to:bm:=(147,.inl aqW u0)::(146,.inl apr u0)::(145,.con aoM)::(142,.con arM)::(165,.con C73)::K9
theorem Gw:aZ Tryz.prog Bs C3 to:=iq Tryz.func147 bw (iq Tryz.func146 bw (.con apf (.con asY (.con awk (KZ)))))
inductive uc where|L0 (_:Int) (_:be)|L1 (_:Int) (_:be)|L2 (_:Int) (_:be)|L3 (_:Int) (_:be)|L4 (_:Int) (_ _:Nat) (_ _ _:Int) (_:Nat) (_ _ _ _:Int) (_:be)|L5 (_:Int) (_ _:Nat) (_ _ _:Int) (_:Nat) (_ _ _ _:Int) (_:be)|L6 (_:Int) (_ _:Nat) (_ _ _:Int) (_:Nat) (_ _ _ _:Int) (_:be)|L7 (_:Int) (_ _:Nat) (_ _ _:Int) (_:Nat) (_ _ _ _:Int) (_:be)
def El (H:Nat) (G:be) (s2:ByteArray) (U:Int) (n4:Nat) (f4:be) (x6:Int):uc->bS×List Ax×Option Ex
 |.L0 Pt SJ=>([(3,A Pt),(8,V.kb false),(7,A (n4:Int)),(6,V.gs 2 n4),(2,V.ns),(0,V.gs 2 n4)],[Ax.cells [V.str s2,A U,V.sl n4 (D aM f4),A x6] 91,Ax.hid,Ax.gl 2 n4 (D aM SJ) 45],none)|.L1 QV Ta=>([(3,A QV),(8,V.kb false),(7,A (n4:Int)),(6,V.gs 2 n4),(2,V.ns),(0,V.gs 2 n4)],[Ax.cells [V.str s2,A U,V.sl n4 (D aM f4),A x6] 91,Ax.hid,Ax.gl 2 n4 (D aM Ta) 45],none)|.L2 QX Ss=>([(3,A QX),(8,V.kb false),(7,A (n4:Int)),(6,V.gs 2 n4),(2,V.ns),(0,V.gs 2 n4)],[Ax.cells [V.str s2,A U,V.sl n4 (D aM f4),A x6] 91,Ax.hid,Ax.gl 2 n4 (D aM Ss) 45],none)|.L3 RA hZ=>([(3,A RA),(8,V.kb false),(7,A (n4:Int)),(6,V.gs 2 n4),(2,V.ns),(0,V.gs 2 n4)],[Ax.cells [V.str s2,A U,V.sl n4 (D aM f4),A x6] 91,Ax.hid,Ax.gl 2 n4 (D aM hZ) 45],none)|.L4 RE SB SU U8 Vq VL VZ VM VN a₂ TR Tz=>([(5,A RE),(4,V.go 2 SB SU),(28,V.go 2 SB SU),(27,A U8),(26,V.gs 2 n4),(25,V.kb true),(24,V.agg [A Vq,A VL]),(23,V.pe 2 VZ 0),(22,A VM),(21,A U8),(20,V.gs 2 n4),(19,V.agg [A VN,A a₂]),(18,V.pe 2 SB 0),(17,A U8),(16,V.gs 2 n4),(13,V.kb true),(12,A (n4:Int)),(11,V.gs 2 n4),(10,A U8),(3,A TR),(8,V.kb false),(7,A (n4:Int)),(6,V.gs 2 n4),(2,V.ns),(0,V.gs 2 n4)],[Ax.cells [V.str s2,A U,V.sl n4 (D aM f4),A x6] 91,Ax.hid,Ax.gl 2 n4 (D aM Tz) 45],none)|.L5 R1 S7 S8 Tg TE XK XV Ud Uj XM T4 Tc=>([(5,A R1),(4,V.go 2 S7 S8),(28,V.go 2 S7 S8),(27,A Tg),(26,V.gs 2 n4),(25,V.kb true),(24,V.agg [A TE,A XK]),(23,V.pe 2 XV 0),(22,A Ud),(21,A Tg),(20,V.gs 2 n4),(19,V.agg [A Uj,A XM]),(18,V.pe 2 S7 0),(17,A Tg),(16,V.gs 2 n4),(13,V.kb true),(12,A (n4:Int)),(11,V.gs 2 n4),(10,A Tg),(3,A T4),(8,V.kb false),(7,A (n4:Int)),(6,V.gs 2 n4),(2,V.ns),(0,V.gs 2 n4)],[Ax.cells [V.str s2,A U,V.sl n4 (D aM f4),A x6] 91,Ax.hid,Ax.gl 2 n4 (D aM Tc) 45],none)|.L6 vS ZM f2 XN vX vg z6 vi vm vn vV h₀=>([(5,A vS),(4,V.go 2 ZM f2),(28,V.go 2 ZM f2),(27,A XN),(26,V.gs 2 n4),(25,V.kb true),(24,V.agg [A vX,A vg]),(23,V.pe 2 z6 0),(22,A vi),(21,A XN),(20,V.gs 2 n4),(19,V.agg [A vm,A vn]),(18,V.pe 2 ZM 0),(17,A XN),(16,V.gs 2 n4),(13,V.kb true),(12,A (n4:Int)),(11,V.gs 2 n4),(10,A XN),(3,A vV),(8,V.kb false),(7,A (n4:Int)),(6,V.gs 2 n4),(2,V.ns),(0,V.gs 2 n4)],[Ax.cells [V.str s2,A U,V.sl n4 (D aM f4),A x6] 91,Ax.hid,Ax.gl 2 n4 (D aM h₀) 45],none)|.L7 V7 ZN RR Tu Uk w3 z7 Vs wI wT vu i6=>([(5,A V7),(4,V.go 2 ZN RR),(28,V.go 2 ZN RR),(27,A Tu),(26,V.gs 2 n4),(25,V.kb true),(24,V.agg [A Uk,A w3]),(23,V.pe 2 z7 0),(22,A Vs),(21,A Tu),(20,V.gs 2 n4),(19,V.agg [A wI,A wT]),(18,V.pe 2 ZN 0),(17,A Tu),(16,V.gs 2 n4),(13,V.kb true),(12,A (n4:Int)),(11,V.gs 2 n4),(10,A Tu),(3,A vu),(8,V.kb false),(7,A (n4:Int)),(6,V.gs 2 n4),(2,V.ns),(0,V.gs 2 n4)],[Ax.cells [V.str s2,A U,V.sl n4 (D aM f4),A x6] 91,Ax.hid,Ax.gl 2 n4 (D aM i6) 45],none)
def avx:uc->JJ
 |.L0 ..=>(0,[])|.L1 ..=>(1,[])|.L2 ..=>(2,[])|.L3 ..=>(3,[])|.L4 ..=>(4,[])|.L5 ..=>(5,[])|.L6 ..=>(6,[])|.L7 ..=>(7,[])
def OR:Bh (cq JJ):=aQ JJ to u0 avv [V.sl H (D bd G),V.agg [V.str s2,A U,V.sl n4 (D aM f4),A x6]]
def Hb (cx:List Cx):Lp JJ:=eX (eJ (OR H G s2 U n4 f4 x6) [false,false,false,false,false,true,false,true,true,false,true,false])
def dCv (cx:List Cx):Lp JJ:=eX (eJ (OR H G s2 U n4 f4 x6) [false,false,false,false,false,true,false,true,true,false,false,false])
def azC (cx:List Cx):Lp JJ:=eX (eJ (OR H G s2 U n4 f4 x6) [false,false,false,false,false,true,false,true,false,false,false])
def azt (cx:List Cx):Lp JJ:=eX (eJ (OR H G s2 U n4 f4 x6) [false,false,false,false,false,true,false,false,false,false])
abbrev HA:=[true,true]
def afV (cx:List Cx):Lp JJ:=eX (eJ (oV to u0 (0,[]) (Hb H G s2 U n4 f4 x6 []) (El H G s2 U n4 f4 x6 (.L0 (0:Int) (λ_=>[])))) HA)
def amz (cx:List Cx):Lp JJ:=eX (eJ (oV to u0 (1,[]) (dCv H G s2 U n4 f4 x6 []) (El H G s2 U n4 f4 x6 (.L1 (0:Int) (λ_=>[])))) HA)
def ak4 (cx:List Cx):Lp JJ:=eX (eJ (oV to u0 (2,[]) (azC H G s2 U n4 f4 x6 []) (El H G s2 U n4 f4 x6 (.L2 (0:Int) (λ_=>[])))) HA)
def amy (cx:List Cx):Lp JJ:=eX (eJ (oV to u0 (3,[]) (azt H G s2 U n4 f4 x6 []) (El H G s2 U n4 f4 x6 (.L3 (0:Int) (λ_=>[])))) HA)
def aze:JJ->Lp JJ
 |(0,cx)=>Hb H G s2 U n4 f4 x6 cx|(1,cx)=>dCv H G s2 U n4 f4 x6 cx|(2,cx)=>azC H G s2 U n4 f4 x6 cx|(3,cx)=>azt H G s2 U n4 f4 x6 cx|(4,cx)=>afV H G s2 U n4 f4 x6 cx|(5,cx)=>amz H G s2 U n4 f4 x6 cx|(6,cx)=>ak4 H G s2 U n4 f4 x6 cx|(7,cx)=>amy H G s2 U n4 f4 x6 cx|(_,cx)=>Hb H G s2 U n4 f4 x6 cx
def D63:LD JJ uc:=⟨avx,aze H G s2 U n4 f4 x6,El H G s2 U n4 f4 x6⟩
def MG (mk:Int->Nat->Nat->Int->Int->Int->Nat->Int->Int->Int->Int->(Nat->List V)->uc) (R1:Int) (S7:Nat) (S8:Nat) (Tg:Int) (TE:Int) (XK:Int) (XV:Nat) (Ud:Int) (Uj:Int) (XM:Int) (T4:Int) (Tc:be):RT uc:=.br (decide (R1<(↑S8:Int))) (.ob (decide (0<=R1/\R1<(↑S8:Int)/\S7+S8<=n4)) (.ob (decide (S7+R1.toNat<n4)) (.ob (decide (0<=E (R1-1)/\E (R1-1)<(↑S8:Int)/\S7+S8<=n4)) (.ob (decide (S7+(E (R1-1)).toNat<n4)) (.br (!(av (Tc (S7+R1.toNat))==av (Tc (S7+(E (R1-1)).toNat))&&(aP (Tc (S7+R1.toNat))==aP (Tc (S7+(E (R1-1)).toNat))&&true))) (.ob (decide (0<=R1/\R1<(↑S8:Int)/\S7+S8<=n4)) (.ob (decide (S7+R1.toNat<n4)) (.ob (decide (0<=T4/\T4<(n4:Int)/\n4<=n4)) (.ob (decide (T4.toNat<n4)) (.next (iR 0 3 []) (mk (E (R1+1)) S7 S8 Tg TE XK XV Ud Uj XM (E (T4+1)) (λi'=>bif i'.beq T4.toNat then [A (av (Tc (S7+R1.toNat))),A (aP (Tc (S7+R1.toNat)))] else D aM Tc i')) [⟨2,aM,n4,λi'=>bif i'.beq T4.toNat then [A (av (Tc (S7+R1.toNat))),A (aP (Tc (S7+R1.toNat)))] else D aM Tc i',oG rfl (aJ rfl _ _) rfl⟩]))))) (.next (iR 0 3 []) (mk (E (R1+1)) S7 S8 Tg TE XK XV Ud Uj XM T4 (D aM Tc)) [⟨2,aM,n4,D aM Tc,aJ rfl _ _⟩])))))) (.ob (decide (0<=T4/\T4<=(n4:Int))) (.ob (decide (0<n4-T4.toNat/\T4.toNat+(n4-T4.toNat)<=n4)) (.ob (decide (0<=T4/\T4<=(n4:Int))) (.br (decide ((↑T4.toNat:Int)<(n4:Int))) (.ret (A 2)) (.ii (.asm ((U==3)=true->n4<=9223372036854775807) (.ii (.br (bif U==3 then decide (2<(n4:Int)) else false) (.ret (A 2)) (.ret (A 0))))))))))
def Ni (mk:Int->(Nat->List V)->uc) (mk2:Int->Nat->Nat->Int->Int->Int->Nat->Int->Int->Int->Int->(Nat->List V)->uc) (QV:Int) (Ta:be):RT uc:=.br (decide (QV<(n4:Int))) (.ob (decide (0<=QV/\QV<(n4:Int)/\n4<=n4)) (.ob (decide (QV.toNat<n4)) (.ob (decide (0<=E (QV-1)/\E (QV-1)<(n4:Int)/\n4<=n4)) (.ob (decide ((E (QV-1)).toNat<n4)) (.br (av (Ta QV.toNat)==av (Ta (E (QV-1)).toNat)&&(aP (Ta QV.toNat)==aP (Ta (E (QV-1)).toNat)&&true)) (.ob (decide (0<=QV/\QV<=(n4:Int))) (.enter (iR 0 3 []) (mk2 1 (QV.toNat) (n4-QV.toNat) QV (av (Ta (E (QV-1)).toNat)) (aP (Ta (E (QV-1)).toNat)) ((E (QV-1)).toNat) (E (QV-1)) (av (Ta QV.toNat)) (aP (Ta QV.toNat)) QV (D aM Ta)) [⟨2,aM,n4,D aM Ta,aJ rfl _ _⟩])) (.next (iR 0 3 []) (mk (E (QV+1)) (D aM Ta)) [⟨2,aM,n4,D aM Ta,aJ rfl _ _⟩])))))) (.br (decide ((n4:Int)<(n4:Int))) (.ret (A 2)) (.ii (.asm ((U==3)=true->n4<=9223372036854775807) (.ii (.br (bif U==3 then decide (2<(n4:Int)) else false) (.ret (A 2)) (.ret (A 0)))))))
def rK (H:Nat) (G:be) (s2:ByteArray) (U:Int) (n4:Nat) (f4:be) (x6:Int):uc->RT uc
 |.L0 Pt SJ=>.br (decide (Pt<(n4:Int))) (.ob (decide (0<=Pt/\Pt<(n4:Int)/\n4<=n4)) (.ob (decide (Pt.toNat<n4)) (.ob (decide (0<=E (Pt-1)/\E (Pt-1)<(n4:Int)/\n4<=n4)) (.ob (decide ((E (Pt-1)).toNat<n4)) (.br (av (SJ Pt.toNat)==av (SJ (E (Pt-1)).toNat)&&(aP (SJ Pt.toNat)==aP (SJ (E (Pt-1)).toNat)&&true)) (.ob (decide (0<=Pt/\Pt<=(n4:Int))) (.enter (iR 0 3 []) (uc.L4 1 (Pt.toNat) (n4-Pt.toNat) Pt (av (SJ (E (Pt-1)).toNat)) (aP (SJ (E (Pt-1)).toNat)) ((E (Pt-1)).toNat) (E (Pt-1)) (av (SJ Pt.toNat)) (aP (SJ Pt.toNat)) Pt (D aM SJ)) [⟨2,aM,n4,D aM SJ,aJ rfl _ _⟩])) (.next (iR 0 3 []) (uc.L0 (E (Pt+1)) (D aM SJ)) [⟨2,aM,n4,D aM SJ,aJ rfl _ _⟩])))))) (.am n4 (.br (decide ((n4:Int)<(n4:Int))) (.ret (A 2)) (.ii (.asm ((U==3)=true->n4<=9223372036854775807) (.ii (.br (bif U==3 then decide (2<(n4:Int)) else false) (.ret (A 2)) (.ret (A 0))))))))|.L1 QV Ta=>Ni U n4 uc.L1 uc.L5 QV Ta|.L2 QX Ss=>Ni U n4 uc.L2 uc.L6 QX Ss|.L3 RA hZ=>Ni U n4 uc.L3 uc.L7 RA hZ|.L4 RE SB SU U8 Vq VL VZ VM VN a₂ TR Tz=>.br (decide (RE<(↑SU:Int))) (.ob (decide (0<=RE/\RE<(↑SU:Int)/\SB+SU<=n4)) (.ob (decide (SB+RE.toNat<n4)) (.ob (decide (0<=E (RE-1)/\E (RE-1)<(↑SU:Int)/\SB+SU<=n4)) (.ob (decide (SB+(E (RE-1)).toNat<n4)) (.br (!(av (Tz (SB+RE.toNat))==av (Tz (SB+(E (RE-1)).toNat))&&(aP (Tz (SB+RE.toNat))==aP (Tz (SB+(E (RE-1)).toNat))&&true))) (.ob (decide (0<=RE/\RE<(↑SU:Int)/\SB+SU<=n4)) (.ob (decide (SB+RE.toNat<n4)) (.ob (decide (0<=TR/\TR<(n4:Int)/\n4<=n4)) (.ob (decide (TR.toNat<n4)) (.next (iR 0 3 []) (uc.L4 (E (RE+1)) SB SU U8 Vq VL VZ VM VN a₂ (E (TR+1)) (λi'=>bif i'.beq TR.toNat then [A (av (Tz (SB+RE.toNat))),A (aP (Tz (SB+RE.toNat)))] else D aM Tz i')) [⟨2,aM,n4,λi'=>bif i'.beq TR.toNat then [A (av (Tz (SB+RE.toNat))),A (aP (Tz (SB+RE.toNat)))] else D aM Tz i',oG rfl (aJ rfl _ _) rfl⟩]))))) (.next (iR 0 3 []) (uc.L4 (E (RE+1)) SB SU U8 Vq VL VZ VM VN a₂ TR (D aM Tz)) [⟨2,aM,n4,D aM Tz,aJ rfl _ _⟩])))))) (.ob (decide (0<=TR/\TR<=(n4:Int))) (.ob (decide (0<n4-TR.toNat/\TR.toNat+(n4-TR.toNat)<=n4)) (.ob (decide (0<=TR/\TR<=(n4:Int))) (.am n4 (.br (decide ((↑TR.toNat:Int)<(n4:Int))) (.ret (A 2)) (.ii (.asm ((U==3)=true->n4<=9223372036854775807) (.ii (.br (bif U==3 then decide (2<(n4:Int)) else false) (.ret (A 2)) (.ret (A 0)))))))))))|.L5 R1 S7 S8 Tg TE XK XV Ud Uj XM T4 Tc=>MG U n4 uc.L5 R1 S7 S8 Tg TE XK XV Ud Uj XM T4 Tc|.L6 vS ZM f2 XN vX vg z6 vi vm vn vV h₀=>MG U n4 uc.L6 vS ZM f2 XN vX vg z6 vi vm vn vV h₀|.L7 V7 ZN RR Tu Uk w3 z7 Vs wI wT vu i6=>MG U n4 uc.L7 V7 ZN RR Tu Uk w3 z7 Vs wI wT vu i6
def Oz:RT uc:=.obp (s2.size<=(9223372036854775807:Nat)) (.obt (.br (!pf s2) (.ret (A 6)) (.cb (.br (vk H (D bd G) s2) (.ret (A 5)) (.cb (.br (bW U 0 3) (.ret (A 2)) (.am n4 (.br (decide ((n4:Int)<2)) (.ret (A 4)) (.am n4 (.br (decide (8<(n4:Int))) (.ret (A 3)) (.cb (.obi (.br (!lY n4 (D aM f4)) (.ob (!lY n4 (D aM f4)) (.cb (.br (bW x6 100 30000) (.ret (A 7)) (.und (.und (.und (.asm (n4=0) (.und (.brt (.am n4 (.br (decide (0<(n4:Int))) (.ret (A 2)) (.ii (.asm ((U==3)=true->n4<=9223372036854775807) (.ii (.br (bif U==3 then decide (2<(n4:Int)) else false) (.ret (A 2)) (.ret (A 0))))))))) (.am n4 (.brt (.br (decide (0<(n4:Int))) (.ret (A 2)) (.ii (.asm ((U==3)=true->n4<=9223372036854775807) (.ii (.br (bif U==3 then decide (2<(n4:Int)) else false) (.ret (A 2)) (.ret (A 0))))))))))) (.obv (dw n4 λi=>nX 2 (D aM f4 i)) (CR rfl _ _) (.ob (decide (n4*16<=140737488355328)&&!Nat.beq 16 0) (.und (.br (decide ((n4:Int)<2)) (.am n4 (.br (decide ((n4:Int)<(n4:Int))) (.ret (A 2)) (.ii (.asm ((U==3)=true->n4<=9223372036854775807) (.ii (.br (bif U==3 then decide (2<(n4:Int)) else false) (.ret (A 2)) (.ret (A 0)))))))) (.enter (iR 0 3 []) (uc.L0 1 (D aM f4)) [⟨2,aM,n4,D aM f4,aJ rfl _ _⟩])) (.am n4 (.br (decide ((n4:Int)<2)) (.br (decide ((n4:Int)<(n4:Int))) (.ret (A 2)) (.ii (.asm ((U==3)=true->n4<=9223372036854775807) (.ii (.br (bif U==3 then decide (2<(n4:Int)) else false) (.ret (A 2)) (.ret (A 0))))))) (.enter (iR 0 3 []) (uc.L1 1 (D aM f4)) [⟨2,aM,n4,D aM f4,aJ rfl _ _⟩]))))))) (.am n4 (.und (.asm (n4=0) (.brt (.br (decide (0<(n4:Int))) (.ret (A 2)) (.ii (.asm ((U==3)=true->n4<=9223372036854775807) (.ii (.br (bif U==3 then decide (2<(n4:Int)) else false) (.ret (A 2)) (.ret (A 0))))))))) (.obv (dw n4 λi=>nX 2 (D aM f4 i)) (CR rfl _ _) (.ob (decide (n4*16<=140737488355328)&&!Nat.beq 16 0) (.br (decide ((n4:Int)<2)) (.br (decide ((n4:Int)<(n4:Int))) (.ret (A 2)) (.ii (.asm ((U==3)=true->n4<=9223372036854775807) (.ii (.br (bif U==3 then decide (2<(n4:Int)) else false) (.ret (A 2)) (.ret (A 0))))))) (.enter (iR 0 3 []) (uc.L2 1 (D aM f4)) [⟨2,aM,n4,D aM f4,aJ rfl _ _⟩]))))))) (.am n4 (.und (.asm (n4=0) (.brt (.br (decide (0<(n4:Int))) (.ret (A 2)) (.ii (.asm ((U==3)=true->n4<=9223372036854775807) (.ii (.br (bif U==3 then decide (2<(n4:Int)) else false) (.ret (A 2)) (.ret (A 0))))))))) (.obv (dw n4 λi=>nX 2 (D aM f4 i)) (CR rfl _ _) (.ob (decide (n4*16<=140737488355328)&&!Nat.beq 16 0) (.br (decide ((n4:Int)<2)) (.br (decide ((n4:Int)<(n4:Int))) (.ret (A 2)) (.ii (.asm ((U==3)=true->n4<=9223372036854775807) (.ii (.br (bif U==3 then decide (2<(n4:Int)) else false) (.ret (A 2)) (.ret (A 0))))))) (.enter (iR 0 3 []) (uc.L3 1 (D aM f4)) [⟨2,aM,n4,D aM f4,aJ rfl _ _⟩])))))))))) (.ret (A 7)))))))))))))))
theorem aoK:dZ to u0 (D63 H G s2 U n4 f4 x6) (OR H G s2 U n4 f4 x6) (Oz H G s2 U n4 f4 x6) (rK H G s2 U n4 f4 x6):=⟨bD,λs=>by cases s<;>exact bD⟩
def uO (f:be) (i j:Nat):Bool:=av (f i)==av (f j)&&(aP (f i)==aP (f j)&&true)
def qR (n:Nat) (f:be):Bool:=gS n λi=>decide (0<i)&&uO f i (i-1)
def iP (U:Int) (n4:Nat):Int:=bif bif U==3 then decide (2<(n4:Int)) else false then 2 else 0
def HQ (H:Nat) (G:be) (s2:ByteArray) (U:Int) (n4:Nat) (f4:be) (x6:Int):Int:=bif !pf s2 then 6 else bif vk H G s2 then 5 else bif bW U 0 3 then 2 else bif decide ((n4:Int)<2) then 4 else bif decide (8<(n4:Int)) then 3 else bif !!lY n4 f4 then 7 else bif bW x6 100 30000 then 7 else bif qR n4 f4 then 2 else iP U n4
theorem hl' {Q1:Type} {Nx:Q1->V->Prop} {U:Int} {n4:Nat} {Pw:Prop}:aT Nx (.obi (.obi (.asm Pw (.obi (.obi (.br (bif U==3 then decide (2<(n4:Int)) else false) (.ret (A 2)) (.ret (A 0)))))))) (A (iP U n4)):=by refine B1 (B1 (D3 λ_=>B1 (B1 (C2 (λh=>B5 ?_) (λh=>B5 ?_)))))<;>(unfold iP;rw[h];rfl)
theorem asq (h8:n4<=8) (k0:Nat) (hk:1<=k0) (Rv:k0<n4) (t1 t2 t3:Int) (t4:Nat) (t5 t6 t7:Int):(∀ k2:Nat,k2<=n4-k0->1<=k2->∀ (k:Nat) (f:be),k+1<=k0+k2->Ev (rK H G s2 U n4 f4 x6) (.L4 k2 k0 (n4-k0) t1 t2 t3 t4 t5 t6 t7 k f) (A 2))/\(∀ k2:Nat,k2<=n4-k0->1<=k2->∀ (k:Nat) (f:be),k+1<=k0+k2->Ev (rK H G s2 U n4 f4 x6) (.L5 k2 k0 (n4-k0) t1 t2 t3 t4 t5 t6 t7 k f) (A 2))/\(∀ k2:Nat,k2<=n4-k0->1<=k2->∀ (k:Nat) (f:be),k+1<=k0+k2->Ev (rK H G s2 U n4 f4 x6) (.L6 k2 k0 (n4-k0) t1 t2 t3 t4 t5 t6 t7 k f) (A 2))/\(∀ k2:Nat,k2<=n4-k0->1<=k2->∀ (k:Nat) (f:be),k+1<=k0+k2->Ev (rK H G s2 U n4 f4 x6) (.L7 k2 k0 (n4-k0) t1 t2 t3 t4 t5 t6 t7 k f) (A 2)):=by
 refine⟨?_,?_,?_,?_⟩
 all_goals
  refine dB λk2 We ih M k f izb11=>Ev.of rfl ?_;have w1:E ((k2:Int)-1)=((k2-1:Nat):Int):=by rw[C8 K K];omega
  have w2:E ((k2:Int)+1)=((k2+1:Nat):Int):=by rw[C8 K K];omega
  have pl57:E ((k:Int)+1)=((k+1:Nat):Int):=by rw[C8 K K];omega
  refine C2 (λh=>?_) (λh=>?_)
  ·have Q7:k2<n4-k0:=by have:=DU h;omega
   refine aF (BX K) (aF (BX K) (aF (BX (by rw[w1];omega)) (aF (BX (by rw[w1];omega)) (C2 (λ_=>?_) (λ_=>?_)))))
   ·refine aF (BX K) (aF (BX K) (aF (BX K) (aF (BX K) (aL ?_))));rw[w2,pl57];exact ih Q7 K (k+1) _ K
   ·refine aL ?_;rw[w2];exact ih Q7 K k _ K
  ·have TM:¬ k2<n4-k0:=by have:=Dp h;omega
   refine aF (BX K) (aF (BX K) (aF (BX K) ?_))
   try refine D3 λ_=>?_
   exact cP (BX K) (B5 rfl)
theorem apI (h8:n4<=8) (N:2<=n4):(∀ i:Nat,i<=n4->1<=i->(∀ j,j<i->(decide (0<j)&&uO f4 j (j-1))=false)->∀ f:be,(∀ i j,uO f i j=uO f4 i j)->Ev (rK H G s2 U n4 f4 x6) (.L0 i f) (A (bif qR n4 f4 then 2 else iP U n4)))/\(∀ i:Nat,i<=n4->1<=i->(∀ j,j<i->(decide (0<j)&&uO f4 j (j-1))=false)->∀ f:be,(∀ i j,uO f i j=uO f4 i j)->Ev (rK H G s2 U n4 f4 x6) (.L1 i f) (A (bif qR n4 f4 then 2 else iP U n4)))/\(∀ i:Nat,i<=n4->1<=i->(∀ j,j<i->(decide (0<j)&&uO f4 j (j-1))=false)->∀ f:be,(∀ i j,uO f i j=uO f4 i j)->Ev (rK H G s2 U n4 f4 x6) (.L2 i f) (A (bif qR n4 f4 then 2 else iP U n4)))/\(∀ i:Nat,i<=n4->1<=i->(∀ j,j<i->(decide (0<j)&&uO f4 j (j-1))=false)->∀ f:be,(∀ i j,uO f i j=uO f4 i j)->Ev (rK H G s2 U n4 f4 x6) (.L3 i f) (A (bif qR n4 f4 then 2 else iP U n4))):=by
 refine⟨?_,?_,?_,?_⟩
 all_goals
  refine dB λi hi ih M hj f hf=>Ev.of rfl ?_;have w1:E ((i:Int)-1)=((i-1:Nat):Int):=by rw[C8 K K];omega
  have w2:E ((i:Int)+1)=((i+1:Nat):Int):=by rw[C8 K K];omega
  refine C2 (λh=>?_) (λh=>?_)
  ·have Q7:i<n4:=by have:=DU h;omega
   refine aF (BX K) (aF (BX K) (aF (BX (by rw[w1];omega)) (aF (BX (by rw[w1];omega)) (C2 (λhb=>?_) (λhb=>?_)))))
   ·have Qx:uO f4 i (i-1)=true:=by
     rw[← hf];rw[w1]at hb;simpa only[De,uO] using hb
    rw[show qR n4 f4=true from cV i Q7 (by rw[Qx];simp;omega),cond_true];refine aF (BX K) (aH ?_);have Pw:=asq H G s2 U n4 f4 x6 h8 i M Q7;simp only[De]
    first|exact(Pw _ _ _ _ _ _ _).1 1 K K i _ K|exact(Pw _ _ _ _ _ _ _).2.1 1 K K i _ K|exact(Pw _ _ _ _ _ _ _).2.2.1 1 K K i _ K|exact(Pw _ _ _ _ _ _ _).2.2.2 1 K K i _ K
   ·have Qx:uO f4 i (i-1)=false:=by
     rw[← hf];rw[w1]at hb;simpa only[De,uO] using hb
    refine aL ?_;rw[w2];refine ih Q7 K (λj h3=>?_) _ (λa b=>hf a b);by_cases e:j=i
    ·subst e;rw[Qx,Bool.and_false]
    ·exact hj j K
  ·have:i=n4:=by have:=Dp h;omega
   subst this;rw[show qR i f4=false from c8 hj,cond_false]
   try refine D3 λ_=>?_
   exact dl hl'
theorem Je (h8:n4<=8) (N:2<=n4) (f:be) (hf:∀ i j,uO f i j=uO f4 i j):(Ev (rK H G s2 U n4 f4 x6) (.L0 1 f) (A (bif qR n4 f4 then 2 else iP U n4)))/\(Ev (rK H G s2 U n4 f4 x6) (.L1 1 f) (A (bif qR n4 f4 then 2 else iP U n4)))/\(Ev (rK H G s2 U n4 f4 x6) (.L2 1 f) (A (bif qR n4 f4 then 2 else iP U n4)))/\(Ev (rK H G s2 U n4 f4 x6) (.L3 1 f) (A (bif qR n4 f4 then 2 else iP U n4))):=by
 have Pw:=apI H G s2 U n4 f4 x6 h8 N;have h0:∀ j,j<1->(decide (0<j)&&uO f4 j (j-1))=false:=λj hj=>by
  have:j=0:=by omega
  subst this;rfl
 exact⟨Pw.1 1 K (D7 _) h0 f hf,Pw.2.1 1 K (D7 _) h0 f hf,Pw.2.2.1 1 K (D7 _) h0 f hf,Pw.2.2.2 1 K (D7 _) h0 f hf⟩
theorem ahX (hp:s2.size<=9223372036854775807):aT (Ev (rK H G s2 U n4 f4 x6)) (Oz H G s2 U n4 f4 x6) (A (HQ H G s2 U n4 f4 x6)):=by
 unfold HQ;refine aI hp (ac ?_);refine C2 (λh=>B5 (by rw[h];rfl)) (λh=>?_);rw[h,cond_false];refine ao (ac (C2 (λh=>B5 (by rw[show vk H G s2=true from h];rfl)) (λh=>?_)));rw[show vk H G s2=false from h,cond_false];refine ao (ac (C2 (λh=>B5 (by rw[h];rfl)) (λh=>?_)));rw[h,cond_false];refine bC λhn=>C2 (λh=>B5 (by rw[h];rfl)) (λN=>?_);rw[N,cond_false];refine bC λhn=>C2 (λh=>B5 (by rw[h];rfl)) (λh8=>?_);rw[h8,cond_false];have N:2<=n4:=by have:=Dp N;omega
 have h8:n4<=8:=by have:=Dp h8;omega
 have e2:decide ((n4:Int)<2)=false:=eQ K;refine ao (ac (B1 (C2 (λh=>?_) (λh=>B5 (by rw[show(!!lY n4 f4)=true from by rw[show(!lY n4 f4)=false from h];rfl];rfl)))));rw[show(!!lY n4 f4)=false from by rw[show(!lY n4 f4)=true from h];rfl,cond_false];refine aF h (ao (ac (C2 (λh=>B5 (by rw[h];rfl)) (λh=>?_))));rw[h,cond_false];have h16:(decide (n4*16<=140737488355328)&&!Nat.beq 16 0)=true:=by rw[BX (show n4*16<=140737488355328 by omega)];rfl
 have Rw:n4=0->False:=by omega
 have hi:∀i j,uO (D aM f4) i j=uO f4 i j:=λ_ _=>rfl
 repeat' (first
  |exact D3 (λh0=>(Rw h0).elim)|exact aH (Je _ _ _ _ _ _ _ h8 N _ hi).1|exact aH (Je _ _ _ _ _ _ _ h8 N _ hi).2.1|exact aH (Je _ _ _ _ _ _ _ h8 N _ hi).2.2.1|exact aH (Je _ _ _ _ _ _ _ h8 N _ hi).2.2.2|refine aqE ?_ ?_
  |refine D3 (λ_=>?_)|refine aps ?_
  |refine aF h16 ?_
  |refine cW e2 ?_
  |refine cW rfl ?_
  |refine cP rfl ?_)
theorem ayd (hp:s2.size<=9223372036854775807):aT (Ev (rK H G s2 U n4 f4 x6)) (Oz H G s2 U n4 f4 x6) (A (HQ H (D bd G) s2 U n4 (D aM f4) x6)):=ahX H G s2 U n4 f4 x6 hp
def C63:aE:=bP [.sl bd,.agg bd] (λ
 |[.sl H G,.agg [.str s2,.int _ U,.sl n4 f4,.int _ x6]]=>s2.size<=9223372036854775807|_=>False) λ
 |[.sl H G,.agg [.str s2,.int _ U,.sl n4 f4,.int _ x6]]=>A (HQ H G s2 U n4 f4 x6)|_=>.any
theorem axj:b9 C63 85:=aU Gw λ_ hp=>kr (aoK ..) (ayd _ _ _ _ _ _ _ hp)
def m69:RT Empty:=.obp (s2.size<=(9223372036854775807:Nat)) (.obt (.br (!pf s2) (.ret (A 6)) (.cb (.br (uk H (D aV G) s2) (.ret (A 5)) (.cb (.obi (.br (!ky 2 (D L (b5 [A U,A Q] 0 1))) (.ob (!ky 2 (D L (b5 [A U,A Q] 0 1))) (.cb (.obi (.br (!bW x5 1 200) (.ob (!bW x5 1 200) (.cb (.obi (.br (!bW x6 (-1000) 1000) (.ob (!bW x6 (-1000) 1000) (.cb (.br (bW Z (-1000) 1000) (.ret (A 7)) (.ii (.obi (.br (bif x6==0 then Z==0 else false) (.ret (A 2)) (.ret (A 0)))))))) (.ret (A 7)))))) (.ret (A 7)))))) (.ret (A 7)))))))))
theorem apk:cY cZ (aQ JJ to u0 avo [V.sl H (D aV G),V.agg [V.str s2,A U,A Q,A x5,A x6,A Z]]) (m69 H G s2 U Q x5 x6 Z):=bD
def nf:Int:=bif !pf s2 then 6 else bif uk H (D aV G) s2 then 5 else bif !ky 2 (D L (b5 [A U,A Q] 0 1)) then bif !bW x5 1 200 then bif !bW x6 (-1000) 1000 then bif bW Z (-1000) 1000 then 7 else bif bif x6==0 then Z==0 else false then 2 else 0 else 7 else 7 else 7
def Uf:V:=A (nf H G s2 U Q x5 x6 Z)
theorem avX (hp:s2.size<=9223372036854775807):aT cM (m69 H G s2 U Q x5 x6 Z) (Uf H G s2 U Q x5 x6 Z):=aI (by first|assumption|(exact hp)) (ac (C2 (λh0=>B5 (by unfold Uf nf;try rw[h0];rfl)) (λh0=>ao (ac (C2 (λM=>B5 (by unfold Uf nf;try rw[h0];try rw[M];rfl)) (λM=>ao (ac (B1 (C2 (λN=>aF (by first|assumption|(fail)) (ao (ac (B1 (C2 (λh3=>aF (by first|assumption|(fail)) (ao (ac (B1 (C2 (λh4=>aF (by first|assumption|(fail)) (ao (ac (C2 (λh5=>B5 (by unfold Uf nf;try rw[h0];try rw[M];try rw[N];try rw[h3];try rw[h4];try rw[h5];rfl)) (λh5=>B1 (B1 (B1 (C2 (λh6=>B5 (by unfold Uf nf;try rw[h0];try rw[M];try rw[N];try rw[h3];try rw[h4];try rw[h5];try rw[h6];rfl)) (λh6=>B5 (by unfold Uf nf;try rw[h0];try rw[M];try rw[N];try rw[h3];try rw[h4];try rw[h5];try rw[h6];rfl)))))))))) (λh4=>B5 (by unfold Uf nf;try rw[h0];try rw[M];try rw[N];try rw[h3];try rw[h4];rfl))))))) (λh3=>B5 (by unfold Uf nf;try rw[h0];try rw[M];try rw[N];try rw[h3];rfl))))))) (λN=>B5 (by unfold Uf nf;try rw[h0];try rw[M];try rw[N];rfl)))))))))))
def C69:aE:=bP [.sl aV,.agg aV] (λ
 |[.sl H G,.agg [.str s2,.int _ U,.int _ Q,.int _ x5,.int _ x6,.int _ Z]]=>s2.size<=9223372036854775807|_=>False) λ
 |[.sl H G,.agg [.str s2,.int _ U,.int _ Q,.int _ x5,.int _ x6,.int _ Z]]=>Uf H G s2 U Q x5 x6 Z|_=>.any
theorem axZ:b9 C69 91:=aU Gw λ_ hp=>da (apk ..) (avX _ _ _ _ _ _ _ _ hp)
def qX:bm:=(85,.con C63)::(91,.con C69)::to
theorem BY:aZ Tryz.prog Bs C3 qX:=.con axj (.con axZ (Gw))
inductive Mw where|L0 (_:Int)|L1 (_ _:Int)|L2 (_ _ _:Int)
def SQ:Mw->bS×List Ax×Option Ex
 |.L0 Pt=>([(6,A Pt),(17,V.kb false),(16,V.bool (nQ (sv (aA (G Y.toNat))))),(15,V.str (sv (aA (G Y.toNat)))),(14,V.pl 0 0),(5,V.pl 0 0),(13,V.agg [V.str (sv (aA (G Y.toNat))),A (aP (G Y.toNat)),V.sl (aB (aA (I (I (G Y.toNat))))) λi=>al aM (bL (aA (I (I (G Y.toNat)))) i),A (bf (G Y.toNat))]),(12,V.pd [V.str (sv (aA (G Y.toNat))),A (aP (G Y.toNat)),V.sl (aB (aA (I (I (G Y.toNat))))) λi=>al aM (bL (aA (I (I (G Y.toNat)))) i),A (bf (G Y.toNat))]),(11,A Y),(10,V.sl H (D bd G)),(9,V.pl 1 0),(4,A 0),(2,V.pl 1 0),(0,Ca H G T O n4 f4 n6 f6),(1,A Y)],[Ax.cells [V.str (sv (aA (G Y.toNat))),A (aP (G Y.toNat)),V.sl (aB (aA (I (I (G Y.toNat))))) λi=>al aM (bL (aA (I (I (G Y.toNat)))) i),A (bf (G Y.toNat))] 91,Ax.cells [V.sl H (D bd G),V.sl T (D bq O),V.sl n4 (D bu f4),V.sl n6 (D aV f6)] 31],none)|.L1 QV Qz=>([(7,A QV),(43,V.kb false),(42,A (↑(aB (aA (I (I (G Y.toNat))))):Int)),(41,V.sl (aB (aA (I (I (G Y.toNat))))) λi=>al aM (bL (aA (I (I (G Y.toNat)))) i)),(40,V.pl 0 2),(39,V.kb false),(38,A (↑(aB (aA (I (I (G Y.toNat))))):Int)),(37,V.sl (aB (aA (I (I (G Y.toNat))))) λi=>al aM (bL (aA (I (I (G Y.toNat)))) i)),(36,V.pl 0 2),(35,V.kb false),(34,V.bool (dC (aP (G Y.toNat)) 0 3)),(33,A (aP (G Y.toNat))),(32,V.pl 0 1),(20,V.kb false),(19,A Y),(18,A Qz),(6,A Qz),(17,V.kb false),(16,V.bool (nQ (sv (aA (G Y.toNat))))),(15,V.str (sv (aA (G Y.toNat)))),(14,V.pl 0 0),(5,V.pl 0 0),(13,V.agg [V.str (sv (aA (G Y.toNat))),A (aP (G Y.toNat)),V.sl (aB (aA (I (I (G Y.toNat))))) λi=>al aM (bL (aA (I (I (G Y.toNat)))) i),A (bf (G Y.toNat))]),(12,V.pd [V.str (sv (aA (G Y.toNat))),A (aP (G Y.toNat)),V.sl (aB (aA (I (I (G Y.toNat))))) λi=>al aM (bL (aA (I (I (G Y.toNat)))) i),A (bf (G Y.toNat))]),(11,A Y),(10,V.sl H (D bd G)),(9,V.pl 1 0),(4,A 0),(2,V.pl 1 0),(0,Ca H G T O n4 f4 n6 f6),(1,A Y)],[Ax.cells [V.str (sv (aA (G Y.toNat))),A (aP (G Y.toNat)),V.sl (aB (aA (I (I (G Y.toNat))))) λi=>al aM (bL (aA (I (I (G Y.toNat)))) i),A (bf (G Y.toNat))] 91,Ax.cells [V.sl H (D bd G),V.sl T (D bq O),V.sl n4 (D bu f4),V.sl n6 (D aV f6)] 31],none)|.L2 QX RX Rk=>([(8,A QX),(69,V.kb false),(68,V.bool (dC (bf (G Y.toNat)) 100 30000)),(67,A (bf (G Y.toNat))),(66,V.pl 0 3),(48,V.kb false),(47,A (↑(aB (aA (I (I (G Y.toNat))))):Int)),(46,V.sl (aB (aA (I (I (G Y.toNat))))) λi=>al aM (bL (aA (I (I (G Y.toNat)))) i)),(45,V.pl 0 2),(44,A RX),(7,A RX),(43,V.kb false),(42,A (↑(aB (aA (I (I (G Y.toNat))))):Int)),(41,V.sl (aB (aA (I (I (G Y.toNat))))) λi=>al aM (bL (aA (I (I (G Y.toNat)))) i)),(40,V.pl 0 2),(39,V.kb false),(38,A (↑(aB (aA (I (I (G Y.toNat))))):Int)),(37,V.sl (aB (aA (I (I (G Y.toNat))))) λi=>al aM (bL (aA (I (I (G Y.toNat)))) i)),(36,V.pl 0 2),(35,V.kb false),(34,V.bool (dC (aP (G Y.toNat)) 0 3)),(33,A (aP (G Y.toNat))),(32,V.pl 0 1),(20,V.kb false),(19,A Y),(18,A Rk),(6,A Rk),(17,V.kb false),(16,V.bool (nQ (sv (aA (G Y.toNat))))),(15,V.str (sv (aA (G Y.toNat)))),(14,V.pl 0 0),(5,V.pl 0 0),(13,V.agg [V.str (sv (aA (G Y.toNat))),A (aP (G Y.toNat)),V.sl (aB (aA (I (I (G Y.toNat))))) λi=>al aM (bL (aA (I (I (G Y.toNat)))) i),A (bf (G Y.toNat))]),(12,V.pd [V.str (sv (aA (G Y.toNat))),A (aP (G Y.toNat)),V.sl (aB (aA (I (I (G Y.toNat))))) λi=>al aM (bL (aA (I (I (G Y.toNat)))) i),A (bf (G Y.toNat))]),(11,A Y),(10,V.sl H (D bd G)),(9,V.pl 1 0),(4,A 0),(2,V.pl 1 0),(0,Ca H G T O n4 f4 n6 f6),(1,A Y)],[Ax.cells [V.str (sv (aA (G Y.toNat))),A (aP (G Y.toNat)),V.sl (aB (aA (I (I (G Y.toNat))))) λi=>al aM (bL (aA (I (I (G Y.toNat)))) i),A (bf (G Y.toNat))] 91,Ax.cells [V.sl H (D bd G),V.sl T (D bq O),V.sl n4 (D bu f4),V.sl n6 (D aV f6)] 31],none)
def axF:Mw->JJ
 |.L0 _=>(0,[])|.L1 ..=>(1,[])|.L2 ..=>(2,[])
def anz:Bh (cq JJ):=aQ JJ qX u0 axE [Ca H G T O n4 f4 n6 f6,A Y]
def FD (cx:List Cx):Lp JJ:=eX (eJ (anz H G T O n4 f4 n6 f6 Y) [false])
def azc (cx:List Cx):Lp JJ:=eX (eJ (oV qX u0 (0,[]) (FD H G T O n4 f4 n6 f6 Y []) (SQ H G T O n4 f4 n6 f6 Y (.L0 (0:Int)))) [false,false,false,false])
abbrev J6:=[false,false]
def af9 (cx:List Cx):Lp JJ:=eX (eJ (oV qX u0 (1,[]) (azc H G T O n4 f4 n6 f6 Y []) (SQ H G T O n4 f4 n6 f6 Y (.L1 (0:Int) (0:Int)))) J6)
def ayf:JJ->Lp JJ
 |(0,cx)=>FD H G T O n4 f4 n6 f6 Y cx|(1,cx)=>azc H G T O n4 f4 n6 f6 Y cx|(2,cx)=>af9 H G T O n4 f4 n6 f6 Y cx|(_,cx)=>FD H G T O n4 f4 n6 f6 Y cx
def D70:LD JJ Mw:=⟨axF,ayf H G T O n4 f4 n6 f6 Y,SQ H G T O n4 f4 n6 f6 Y⟩
def LG (H:Nat) (G:be) (T:Nat) (O:be) (n4:Nat) (f4:be) (n6:Nat) (f6:be) (Y:Int):Mw->RT Mw
 |.L0 Pt=>.br (decide (Pt<Y)) (.ob (decide (0<=Pt/\Pt<(H:Int))) (.br ((sv (aA (G Pt.toNat))).toList==(sv (aA (G Y.toNat))).toList) (.ret (A 5)) (.next Dv (Mw.L0 (E (Pt+1))) []))) (.cb (.br (!dC (aP (G Y.toNat)) 0 3) (.ret (A 2)) (.asm (true=true->aB (aA (I (I (G Y.toNat))))<=9223372036854775807) (.br (decide ((↑(aB (aA (I (I (G Y.toNat))))):Int)<2)) (.ret (A 4)) (.asm (true=true->aB (aA (I (I (G Y.toNat))))<=9223372036854775807) (.br (decide (8<(↑(aB (aA (I (I (G Y.toNat))))):Int))) (.ret (A 3)) (.enter Dv (Mw.L1 0 Pt) [])))))))|.L1 QV Qz=>.asm (true=true->aB (aA (I (I (G Y.toNat))))<=9223372036854775807) (.br (decide (QV<(↑(aB (aA (I (I (G Y.toNat))))):Int))) (.ob (decide (0<=QV/\QV<(↑(aB (aA (I (I (G Y.toNat))))):Int))) (.obt (.ob (decide (0<=QV/\QV<(↑(aB (aA (I (I (G Y.toNat))))):Int))) (.obt (.cb (.br (!wh 2 (D L (b5 [A (av (bL (aA (I (I (G Y.toNat)))) QV.toNat)),A (aP (bL (aA (I (I (G Y.toNat)))) QV.toNat))] 0 1))) (.ret (A 7)) (.next Dv (Mw.L1 (E (QV+1)) Qz) []))))))) (.cb (.br (!dC (bf (G Y.toNat)) 100 30000) (.ret (A 7)) (.enter Dv (Mw.L2 1 QV Qz) []))))|.L2 QX RX Rk=>.asm (true=true->aB (aA (I (I (G Y.toNat))))<=9223372036854775807) (.br (decide (QX<(↑(aB (aA (I (I (G Y.toNat))))):Int))) (.ob (decide (0<=QX/\QX<(↑(aB (aA (I (I (G Y.toNat))))):Int))) (.ob (decide (0<=E (QX-1)/\E (QX-1)<(↑(aB (aA (I (I (G Y.toNat))))):Int))) (.br (av (bL (aA (I (I (G Y.toNat)))) QX.toNat)==av (bL (aA (I (I (G Y.toNat)))) (E (QX-1)).toNat)&&(aP (bL (aA (I (I (G Y.toNat)))) QX.toNat)==aP (bL (aA (I (I (G Y.toNat)))) (E (QX-1)).toNat)&&true)) (.ret (A 2)) (.next Dv (Mw.L2 (E (QX+1)) RX Rk) [])))) (.ii (.asm ((aP (G Y.toNat)==3)=true->aB (aA (I (I (G Y.toNat))))<=9223372036854775807) (.ii (.br (bif aP (G Y.toNat)==3 then decide (2<(↑(aB (aA (I (I (G Y.toNat))))):Int)) else false) (.ret (A 2)) (.ret (A 0)))))))
def P8:RT Mw:=dm (T,O,n4,f4,n6,f6) (.ob (decide (0<=Y/\Y<(H:Int))) (.obp ((sv (aA (G Y.toNat))).size<=(9223372036854775807:Nat)) (.obt (.br (!nQ (sv (aA (G Y.toNat)))) (.ret (A 6)) (.enter J4 (Mw.L0 0) [])))))
theorem ark:dZ qX u0 (D70 H G T O n4 f4 n6 f6 Y) (anz H G T O n4 f4 n6 f6 Y) (P8 H G T O n4 f4 n6 f6 Y) (LG H G T O n4 f4 n6 f6 Y):=⟨bD,λs=>by cases s<;>exact bD⟩
def nY (x y:Int):Bool:=wh 2 (D L (b5 [A x,A y] 0 ((1+1-0) / 2)))
def Qy (k:Int) (n:Nat) (f:be) (h:Int):Int:=bif !dC k 0 3 then 2 else bif decide ((n:Int)<2) then 4 else bif decide (8<(n:Int)) then 3 else bif gS n (λi=>!nY (av (f i)) (aP (f i))) then 7 else bif !dC h 100 30000 then 7 else bif qR n f then 2 else iP k n
def HS:Int:=dm H (bif !nQ (sv (aA (G Y.toNat))) then 6 else bif gS Y.toNat (λk=>(sv (aA (G k))).toList==(sv (aA (G Y.toNat))).toList) then 5 else Qy (aP (G Y.toNat)) (aB (aA (I (I (G Y.toNat))))) (bL (aA (I (I (G Y.toNat))))) (bf (G Y.toNat)))
section
variable (k:Nat) (h8:(aB (aA (I (I (G k)))))<=8) (N:2<=(aB (aA (I (I (G k)))))) (i1:Int)
include k h8 N i1
theorem asi (i2:Int):∀ i:Nat,i<=(aB (aA (I (I (G k)))))->1<=i->(∀ j,j<i->(decide (0<j)&&uO (bL (aA (I (I (G k))))) j (j-1))=false)->Ev (LG H G T O n4 f4 n6 f6 (k:Int)) (.L2 i i1 i2) (A (bif qR (aB (aA (I (I (G k))))) (bL (aA (I (I (G k))))) then 2 else iP (aP (G k)) (aB (aA (I (I (G k))))))):=by
 refine dB λi hi ih M hj=>Ev.of rfl ?_;have w1:E ((i:Int)-1)=((i-1:Nat):Int):=by rw[C8 K K];omega
 have w2:E ((i:Int)+1)=((i+1:Nat):Int):=by rw[C8 K K];omega
 refine D3 λ_=>C2 (λh=>?_) (λh=>?_)
 ·have Q7:i<(aB (aA (I (I (G k))))):=by have:(i:Int)<((aB (aA (I (I (G k))))):Int):=DU h;omega
  refine aF (BX (show 0<=(i:Int)/\(i:Int)<((aB (aA (I (I (G k))))):Int) by omega)) (aF (BX (show 0<=E ((i:Int)-1)/\E ((i:Int)-1)<((aB (aA (I (I (G k))))):Int) by rw[w1];omega)) (C2 (λhb=>?_) (λhb=>?_)))
  ·have Qx:uO (bL (aA (I (I (G k))))) i (i-1)=true:=by
    rw[w1]at hb;simpa only[De,uO] using hb
   rw[show qR (aB (aA (I (I (G k))))) (bL (aA (I (I (G k)))))=true from cV i Q7 (by rw[Qx];simp;omega),cond_true];exact B5 rfl
  ·have Qx:uO (bL (aA (I (I (G k))))) i (i-1)=false:=by
    rw[w1]at hb;simpa only[De,uO] using hb
   refine aL ?_;rw[w2];refine ih Q7 K (λj h3=>?_);by_cases e:j=i
   ·subst e;rw[Qx,Bool.and_false]
   ·exact hj j K
 ·have e:i=(aB (aA (I (I (G k))))):=by have:¬ (i:Int)<((aB (aA (I (I (G k))))):Int):=Dp h;omega
  rw[show qR (aB (aA (I (I (G k))))) (bL (aA (I (I (G k)))))=false from c8 λj h=>hj j K,cond_false];exact hl'
theorem aoz:∀ i:Nat,i<=(aB (aA (I (I (G k)))))->(∀ j,j<i->(!nY (av ((bL (aA (I (I (G k))))) j)) (aP ((bL (aA (I (I (G k))))) j)))=false)->Ev (LG H G T O n4 f4 n6 f6 (k:Int)) (.L1 i i1) (A (bif gS (aB (aA (I (I (G k))))) (λi=>!nY (av ((bL (aA (I (I (G k))))) i)) (aP ((bL (aA (I (I (G k))))) i))) then 7 else bif !dC (bf (G k)) 100 30000 then 7 else bif qR (aB (aA (I (I (G k))))) (bL (aA (I (I (G k))))) then 2 else iP (aP (G k)) (aB (aA (I (I (G k))))))):=by
 refine dB λi hi ih hj=>Ev.of rfl ?_;have w2:E ((i:Int)+1)=((i+1:Nat):Int):=by rw[C8 K K];omega
 refine D3 λ_=>C2 (λh=>?_) (λh=>?_)
 ·have Q7:i<(aB (aA (I (I (G k))))):=by have:(i:Int)<((aB (aA (I (I (G k))))):Int):=DU h;omega
  refine aF (BX (show 0<=(i:Int)/\(i:Int)<((aB (aA (I (I (G k))))):Int) by omega)) (ac (aF (BX (show 0<=(i:Int)/\(i:Int)<((aB (aA (I (I (G k))))):Int) by omega)) (ac (ao (ac (C2 (λhb=>B5 ?_) (λhb=>aL ?_)))))))
  ·rw[cV (p:=λi=>!nY (av ((bL (aA (I (I (G k))))) i)) (aP ((bL (aA (I (I (G k))))) i))) i Q7 hb];rfl
  ·rw[w2]
   refine ih Q7 (λj h3=>?_);by_cases e:j=i
   ·subst e;exact hb
   ·exact hj j K
 ·have e:i=(aB (aA (I (I (G k))))):=by have:¬ (i:Int)<((aB (aA (I (I (G k))))):Int):=Dp h;omega
  rw[show gS (aB (aA (I (I (G k))))) (λi=>!nY (av ((bL (aA (I (I (G k))))) i)) (aP ((bL (aA (I (I (G k))))) i)))=false from c8 λj h=>hj j K,cond_false];refine ao (ac (C2 (λh=>B5 (by rw[show(!dC (bf (G k)) 100 30000)=true from h];rfl)) (λh=>?_)));rw[show(!dC (bf (G k)) 100 30000)=false from h,cond_false];refine aH (asi H G T O n4 f4 n6 f6 k h8 N _ _ 1 K K (λj h=>?_));have:j=0:=by omega
  subst this;rfl
end
theorem aj3 (hp:0<=Y/\Y<H/\H<=9223372036854775807/\aD H G):aT (Ev (LG H G T O n4 f4 n6 f6 Y)) (P8 H G T O n4 f4 n6 f6 Y) (A (HS H G Y)):=by
 obtain⟨h0,M,N,h3⟩:=hp;obtain⟨k,rfl⟩:∃k:Nat,Y=(k:Int):=⟨Y.toNat,K⟩;have hk:k<H:=by omega
 refine cX hk (aI (h3 k hk) (ac ?_));unfold HS;simp only[De];refine C2 (λh=>B5 (by rw[show(!nQ (sv (aA (G k))))=true from h];rfl)) (λh=>?_);rw[show(!nQ (sv (aA (G k))))=false from h,cond_false]
 refine aH (ku (n:=k) K (λi=>(sv (aA (G i))).toList==(sv (aA (G k))).toList) (P:=λi=>Ev (LG H G T O n4 f4 n6 f6 (k:Int)) (.L0 i) _) (λi Q7 hj next=>Ev.of rfl (dt Q7 (cX K (C2 (λhb=>B5 ?_) (λhb=>aL (next hb))))))
  (λhj=>Ev.of rfl (dl ?_)))
 ·rw[cV i Q7 hb];rfl
 ·rw[c8 hj,cond_false]
  unfold Qy;refine ao (ac (C2 (λh=>B5 (by rw[show(!dC (aP (G k)) 0 3)=true from h];rfl)) (λh=>?_)));rw[show(!dC (aP (G k)) 0 3)=false from h,cond_false];refine bC λhn=>C2 (λh=>B5 (by rw[show decide (((aB (aA (I (I (G k))))):Int)<2)=true from h];rfl)) (λN=>?_);rw[show decide (((aB (aA (I (I (G k))))):Int)<2)=false from N,cond_false];refine bC λhn=>C2 (λh=>B5 (by rw[show decide (8<((aB (aA (I (I (G k))))):Int))=true from h];rfl)) (λh8=>?_);rw[show decide (8<((aB (aA (I (I (G k))))):Int))=false from h8,cond_false];have N:2<=(aB (aA (I (I (G k))))):=by have:¬(((aB (aA (I (I (G k))))):Int)<2):=Dp N;omega
  have h8:(aB (aA (I (I (G k)))))<=8:=by have:¬(8<((aB (aA (I (I (G k))))):Int)):=Dp h8;omega
  exact aH (aoz H G T O n4 f4 n6 f6 k h8 N _ 0 K (λj h=>by omega))
theorem ayN (hp:0<=Y/\Y<H/\H<=9223372036854775807/\aD H (D bd G)):aT (Ev (LG H G T O n4 f4 n6 f6 Y)) (P8 H G T O n4 f4 n6 f6 Y) (A (HS H (D bd G) Y)):=aj3 H G T O n4 f4 n6 f6 Y hp
def C70:aE:=bP [.agg [.sl bd,.sl bq,.sl bu,.sl aV],tI] (λ
 |[.agg [.sl H G,.sl T O,.sl n4 f4,.sl n6 f6],.int _ Y]=>0<=Y/\Y<H/\H<=9223372036854775807/\aD H G|_=>False) λ
 |[.agg [.sl H G,.sl T O,.sl n4 f4,.sl n6 f6],.int _ Y]=>A (HS H G Y)|_=>.any
theorem av2:b9 C70 161:=aU BY λ_ hp=>kr (ark ..) (ayN _ _ _ _ _ _ _ _ _ hp)
inductive HW where|L0 (_:Int)
def ic16:HW->bS×List Ax×Option Ex
 |.L0 Pt=>([(11,A Pt),(10,A (H:Int)),(9,V.sl H (D bd G)),(5,A 0),(4,A 0),(0,V.sl H (D bd G)),(1,V.fn 85 [] [])],[],none)
def avT:HW->JJ
 |.L0 _=>(0,[])
def aqG:Bh (cq JJ):=aQ JJ qX u0 axy [V.sl H (D bd G),V.fn 85 [] []]
def fnQ (cx:List Cx):Lp JJ:=eX (eJ (aqG H G) [])
def ayF:JJ->Lp JJ
 |(0,cx)=>fnQ H G cx|(_,cx)=>fnQ H G cx
def D62:LD JJ HW:=⟨avT,ayF H G,ic16 H G⟩
def Na:HW->RT HW
 |.L0 Pt=>.br (decide (Pt<(H:Int))) (.ob (decide (0<=Pt/\Pt<(H:Int))) (.ob (decide (0<=Pt/\Pt<=(H:Int))) (.obp ((sv (aA (G Pt.toNat))).size<=(9223372036854775807:Nat)) (.obt (.br (HQ (Pt.toNat-0) (λi=>D bd G (0+i)) (sv (aA (G Pt.toNat))) (aP (G Pt.toNat)) (aB (aA (I (I (G Pt.toNat))))) (λi=>al aM (bL (aA (I (I (G Pt.toNat)))) i)) (bf (G Pt.toNat))!=0) (.ret (V.tup [A Pt,A (HQ (Pt.toNat-0) (λi=>D bd G (0+i)) (sv (aA (G Pt.toNat))) (aP (G Pt.toNat)) (aB (aA (I (I (G Pt.toNat))))) (λi=>al aM (bL (aA (I (I (G Pt.toNat)))) i)) (bf (G Pt.toNat)))])) (.next [] (HW.L0 (E (Pt+1))) [])))))) (.ret (V.tup Dj))
def Ox:RT HW:=dm G (.am H (.enter [] (HW.L0 0) []))
theorem aui:dZ qX u0 (D62 H G) (aqG H G) (Ox H G) (Na H G):=⟨bD,λs=>by cases s<;>exact bD⟩
def LJ (ii:Nat):Int:=dm H ((HQ (ii-0) (λi=>D bd G (0+i)) (sv (aA (G ii))) (aP (G ii)) (aB (aA (I (I (G ii))))) (λi=>al aM (bL (aA (I (I (G ii)))) i)) (bf (G ii))))
def AP:Int:=gp H (LJ H G)
def rq:Int:=d8 H (LJ H G)
theorem aix (hp:aD H G):aT (Ev (Na H G)) (Ox H G) (.tup [A (AP H G),A (rq H G)]):=bC λhn=>aH (sJ (Q2:=λi=>(sv (aA (G i))).size<=9223372036854775807) (λi x=>.obp ((sv (aA (G i))).size<=9223372036854775807) (.obt x)) (λi x r h hx=>aI h (ac hx)) (λ_ _=>rfl) hn hp λi=>rfl)
theorem azi (hp:aD H (D bd G)):aT (Ev (Na H G)) (Ox H G) (.tup [A (AP H (D bd G)),A (rq H (D bd G))]):=aix H G hp
def C62:aE:=bP [.sl bd,.fn 85 [] []] (λ
 |[.sl H G,.fn _ [] []]=>aD H G|_=>False) λ
 |[.sl H G,.fn _ [] []]=>.tup [A (AP H G),A (rq H G)]|_=>.any
theorem azg:b9 C62 84:=aU BY λ_ hp=>kr (aui ..) (azi _ _ hp)
inductive Hm where|L0 (_:Int)
def aqA:Hm->bS×List Ax×Option Ex
 |.L0 Pt=>([(11,A Pt),(10,A (H:Int)),(9,V.sl H (D aV G)),(5,A 0),(4,A 0),(0,V.sl H (D aV G)),(1,V.fn 91 [] [])],[],none)
def ayJ:Hm->JJ
 |.L0 _=>(0,[])
def anN:Bh (cq JJ):=aQ JJ qX u0 aw0 [V.sl H (D aV G),V.fn 91 [] []]
def hbm (cx:List Cx):Lp JJ:=eX (eJ (anN H G) [])
def avl:JJ->Lp JJ
 |(0,cx)=>hbm H G cx|(_,cx)=>hbm H G cx
def D68:LD JJ Hm:=⟨ayJ,avl H G,aqA H G⟩
def N5:Hm->RT Hm
 |.L0 Pt=>.br (decide (Pt<(H:Int))) (.ob (decide (0<=Pt/\Pt<(H:Int))) (.ob (decide (0<=Pt/\Pt<=(H:Int))) (.obp ((sv (aA (G Pt.toNat))).size<=(9223372036854775807:Nat)) (.obt (.br (nf (Pt.toNat-0) (λi=>D aV G (0+i)) (sv (aA (G Pt.toNat))) (aP (G Pt.toNat)) (bV (G Pt.toNat)) (bf (G Pt.toNat)) (cu (G Pt.toNat)) (bE (G Pt.toNat))!=0) (.ret (V.tup [A Pt,A (nf (Pt.toNat-0) (λi=>D aV G (0+i)) (sv (aA (G Pt.toNat))) (aP (G Pt.toNat)) (bV (G Pt.toNat)) (bf (G Pt.toNat)) (cu (G Pt.toNat)) (bE (G Pt.toNat)))])) (.next [] (Hm.L0 (E (Pt+1))) [])))))) (.ret (V.tup Dj))
def P6:RT Hm:=dm G (.am H (.enter [] (Hm.L0 0) []))
theorem atl:dZ qX u0 (D68 H G) (anN H G) (P6 H G) (N5 H G):=⟨bD,λs=>by cases s<;>exact bD⟩
def LL (ii:Nat):Int:=dm H ((nf (ii-0) (λi=>D aV G (0+i)) (sv (aA (G ii))) (aP (G ii)) (bV (G ii)) (bf (G ii)) (cu (G ii)) (bE (G ii))))
def AT:Int:=gp H (LL H G)
def q6:Int:=d8 H (LL H G)
theorem alV (hp:aD H G):aT (Ev (N5 H G)) (P6 H G) (.tup [A (AT H G),A (q6 H G)]):=bC λhn=>aH (sJ (Q2:=λi=>(sv (aA (G i))).size<=9223372036854775807) (λi x=>.obp ((sv (aA (G i))).size<=9223372036854775807) (.obt x)) (λi x r h hx=>aI h (ac hx)) (λ_ _=>rfl) hn hp λi=>rfl)
theorem awh (hp:aD H (D aV G)):aT (Ev (N5 H G)) (P6 H G) (.tup [A (AT H (D aV G)),A (q6 H (D aV G))]):=alV H G hp
def C68:aE:=bP [.sl aV,.fn 91 [] []] (λ
 |[.sl H G,.fn _ [] []]=>aD H G|_=>False) λ
 |[.sl H G,.fn _ [] []]=>.tup [A (AT H G),A (q6 H G)]|_=>.any
theorem axV:b9 C68 90:=aU BY λ_ hp=>kr (atl ..) (awh _ _ hp)
def v7:bm:=(161,.con C70)::(84,.con C62)::(90,.con C68)::qX
theorem GC:aZ Tryz.prog Bs C3 v7:=.con av2 (.con azg (.con axV (BY)))
inductive J2 where|L0 (_:Int)|L1 (_ _:Int)|L2 (_ _ _:Int)|L3 (_ _ _ _:Int)
def Ip:J2->bS×List Ax×Option Ex
 |.L0 Pt=>([(5,A Pt),(34,V.kb false),(29,V.bool (bif bif decide (8<(H:Int)) then true else decide (12<(T:Int)) then true else decide (8<(n4:Int)))),(28,V.bool (bif bif decide (8<(H:Int)) then true else decide (12<(T:Int)) then true else decide (8<(n4:Int)))),(23,V.bool (bif decide (8<(H:Int)) then true else decide (12<(T:Int)))),(22,V.bool (bif decide (8<(H:Int)) then true else decide (12<(T:Int)))),(17,V.bool (decide (8<(H:Int)))),(16,V.bool (decide (8<(H:Int)))),(15,A (H:Int)),(14,V.sl H (D bd G)),(13,V.pl 0 0),(4,A 0),(3,A 0),(2,A 0),(1,V.pl 0 0),(0,Ca H G T O n4 f4 n6 f6)],[Ax.cells [V.sl H (D bd G),V.sl T (D bq O),V.sl n4 (D bu f4),V.sl n6 (D aV f6)] 31],none)|.L1 QV Qz=>([(7,A QV),(39,V.kb false),(38,A (H:Int)),(37,V.sl H (D bd G)),(36,V.pl 0 0),(35,A Qz),(5,A Qz),(34,V.kb false),(29,V.bool (bif bif decide (8<(H:Int)) then true else decide (12<(T:Int)) then true else decide (8<(n4:Int)))),(28,V.bool (bif bif decide (8<(H:Int)) then true else decide (12<(T:Int)) then true else decide (8<(n4:Int)))),(23,V.bool (bif decide (8<(H:Int)) then true else decide (12<(T:Int)))),(22,V.bool (bif decide (8<(H:Int)) then true else decide (12<(T:Int)))),(17,V.bool (decide (8<(H:Int)))),(16,V.bool (decide (8<(H:Int)))),(15,A (H:Int)),(14,V.sl H (D bd G)),(13,V.pl 0 0),(4,A 0),(3,A 0),(2,A 0),(1,V.pl 0 0),(0,Ca H G T O n4 f4 n6 f6)],[Ax.cells [V.sl H (D bd G),V.sl T (D bq O),V.sl n4 (D bu f4),V.sl n6 (D aV f6)] 31],none)|.L2 QX RX Rk=>([(9,A QX),(53,V.kb false),(52,A (T:Int)),(51,V.sl T (D bq O)),(50,V.pl 0 1),(49,A RX),(7,A RX),(39,V.kb false),(38,A (H:Int)),(37,V.sl H (D bd G)),(36,V.pl 0 0),(35,A Rk),(5,A Rk),(34,V.kb false),(29,V.bool (bif bif decide (8<(H:Int)) then true else decide (12<(T:Int)) then true else decide (8<(n4:Int)))),(28,V.bool (bif bif decide (8<(H:Int)) then true else decide (12<(T:Int)) then true else decide (8<(n4:Int)))),(23,V.bool (bif decide (8<(H:Int)) then true else decide (12<(T:Int)))),(22,V.bool (bif decide (8<(H:Int)) then true else decide (12<(T:Int)))),(17,V.bool (decide (8<(H:Int)))),(16,V.bool (decide (8<(H:Int)))),(15,A (H:Int)),(14,V.sl H (D bd G)),(13,V.pl 0 0),(4,A 0),(3,A 0),(2,A 0),(1,V.pl 0 0),(0,Ca H G T O n4 f4 n6 f6)],[Ax.cells [V.sl H (D bd G),V.sl T (D bq O),V.sl n4 (D bu f4),V.sl n6 (D aV f6)] 31],none)|.L3 RA TD VK Uc=>([(11,A RA),(96,V.kb false),(95,A (n4:Int)),(94,V.sl n4 (D bu f4)),(93,V.pl 0 2),(92,A TD),(9,A TD),(53,V.kb false),(52,A (T:Int)),(51,V.sl T (D bq O)),(50,V.pl 0 1),(49,A VK),(7,A VK),(39,V.kb false),(38,A (H:Int)),(37,V.sl H (D bd G)),(36,V.pl 0 0),(35,A Uc),(5,A Uc),(34,V.kb false),(29,V.bool (bif bif decide (8<(H:Int)) then true else decide (12<(T:Int)) then true else decide (8<(n4:Int)))),(28,V.bool (bif bif decide (8<(H:Int)) then true else decide (12<(T:Int)) then true else decide (8<(n4:Int)))),(23,V.bool (bif decide (8<(H:Int)) then true else decide (12<(T:Int)))),(22,V.bool (bif decide (8<(H:Int)) then true else decide (12<(T:Int)))),(17,V.bool (decide (8<(H:Int)))),(16,V.bool (decide (8<(H:Int)))),(15,A (H:Int)),(14,V.sl H (D bd G)),(13,V.pl 0 0),(4,A 0),(3,A 0),(2,A 0),(1,V.pl 0 0),(0,Ca H G T O n4 f4 n6 f6)],[Ax.cells [V.sl H (D bd G),V.sl T (D bq O),V.sl n4 (D bu f4),V.sl n6 (D aV f6)] 31],none)
def awb:J2->JJ
 |.L0 _=>(0,[])|.L1 ..=>(1,[])|.L2 ..=>(2,[])|.L3 ..=>(3,[])
def aoX:Bh (cq JJ):=aQ JJ v7 u0 axp [Ca H G T O n4 f4 n6 f6]
def F3 (cx:List Cx):Lp JJ:=eX (eJ (aoX H G T O n4 f4 n6 f6) [false])
def hal (cx:List Cx):Lp JJ:=eX (eJ (oV v7 u0 (0,[]) (F3 H G T O n4 f4 n6 f6 []) (Ip H G T O n4 f4 n6 f6 (.L0 (0:Int)))) [false])
def eqs (cx:List Cx):Lp JJ:=eX (eJ (oV v7 u0 (1,[]) (hal H G T O n4 f4 n6 f6 []) (Ip H G T O n4 f4 n6 f6 (.L1 (0:Int) (0:Int)))) [false])
def ajY (cx:List Cx):Lp JJ:=eX (eJ (oV v7 u0 (2,[]) (eqs H G T O n4 f4 n6 f6 []) (Ip H G T O n4 f4 n6 f6 (.L2 (0:Int) (0:Int) (0:Int)))) [false])
def avu:JJ->Lp JJ
 |(0,cx)=>F3 H G T O n4 f4 n6 f6 cx|(1,cx)=>hal H G T O n4 f4 n6 f6 cx|(2,cx)=>eqs H G T O n4 f4 n6 f6 cx|(3,cx)=>ajY H G T O n4 f4 n6 f6 cx|(_,cx)=>F3 H G T O n4 f4 n6 f6 cx
def D24:LD JJ J2:=⟨awb,avu H G T O n4 f4 n6 f6,Ip H G T O n4 f4 n6 f6⟩
abbrev DX:=[some (some 0)]
abbrev H9:=[A 0,A 0,A 0]
def zo:J2->RT J2
 |.L0 Pt=>.am H (.br (decide (Pt<(H:Int))) (.obp ((0:Int)<=Pt/\Pt<(H:Int)/\H<=(9223372036854775807:Nat)/\aD H G) (.obt (.br (HS H (D bd G) Pt !=0) (.ret (V.tup [A 1,A Pt,A (HS H (D bd G) Pt)])) (.next DX (J2.L0 (E (Pt+1))) [])))) (.enter DX (J2.L1 0 Pt) []))|.L1 QV Qz=>.am T (.br (decide (QV<(T:Int))) (.ob (decide (0<=QV/\QV<(T:Int))) (.cb (.obi (.br (!!wh 2 (D L (b5 [A (av (O QV.toNat)),A (aP (O QV.toNat))] 0 1))) (.ob (!!wh 2 (D L (b5 [A (av (O QV.toNat)),A (aP (O QV.toNat))] 0 1))) (.cb (.iv (.iv (.ii (.obi (.br (bif bif bif !dC (bV (O QV.toNat)) 1 20000 then true else decide (bf (O QV.toNat)<0) then true else decide (cu (O QV.toNat)<=bf (O QV.toNat)) then true else decide (1000<cu (O QV.toNat))) (.ret (V.tup [A 2,A QV,A 7])) (.next DX (J2.L1 (E (QV+1)) Qz) [])))))))) (.ret (V.tup [A 2,A QV,A 7])))))) (.enter DX (J2.L2 0 QV Qz) []))|.L2 QX RX Rk=>.am n4 (.br (decide (QX<(n4:Int))) (.ob (decide (0<=QX/\QX<(n4:Int))) (.cb (.br ((HT (av (f4 QX.toNat)) (aP (f4 QX.toNat)) (bV (f4 QX.toNat)) (bf (f4 QX.toNat)) (aB (aA (I (I (I (I (f4 QX.toNat))))))) λi=>al gV (bL (aA (I (I (I (I (f4 QX.toNat)))))) i))!=0) (.ret (V.tup [A 3,A QX,A (HT (av (f4 QX.toNat)) (aP (f4 QX.toNat)) (bV (f4 QX.toNat)) (bf (f4 QX.toNat)) (aB (aA (I (I (I (I (f4 QX.toNat))))))) λi=>al gV (bL (aA (I (I (I (I (f4 QX.toNat)))))) i))])) (.next DX (J2.L2 (E (QX+1)) RX Rk) [])))) (.enter DX (J2.L3 0 QX RX Rk) []))|.L3 RA TD VK Uc=>.am n6 (.br (decide (RA<(n6:Int))) (.obp ((0:Int)<=RA/\RA<(n6:Int)/\n6<=(9223372036854775807:Nat)/\aD n6 f6) (.obt (.br (RF n6 (D aV f6) RA !=0) (.ret (V.tup [A 4,A RA,A (RF n6 (D aV f6) RA)])) (.next DX (J2.L3 (E (RA+1)) TD VK Uc) [])))) (.ret (V.tup H9)))
def Ot:RT J2:=dm (G,O,f4,f6) (.am H (.ii (.asm ((!decide (8<(H:Int)))=true->T<=9223372036854775807) (.iv (.asm ((!bif decide (8<(H:Int)) then true else decide (12<(T:Int)))=true->n4<=9223372036854775807) (.iv (.asm ((!bif bif decide (8<(H:Int)) then true else decide (12<(T:Int)) then true else decide (8<(n4:Int)))=true->n6<=9223372036854775807) (.ii (.br (bif bif bif decide (8<(H:Int)) then true else decide (12<(T:Int)) then true else decide (8<(n4:Int)) then true else decide (24<(n6:Int))) (.ret (V.tup [A 0,A 0,A 3])) (.enter DX (J2.L0 0) []))))))))))
theorem aq8:dZ v7 u0 (D24 H G T O n4 f4 n6 f6) (aoX H G T O n4 f4 n6 f6) (Ot H G T O n4 f4 n6 f6) (zo H G T O n4 f4 n6 f6):=⟨bD,λs=>by cases s<;>exact bD⟩
def Ms (t:Int×Int×Int):V:=.tup [A t.1,A t.2.1,A t.2.2]
def xm (x y a z w:Int):Int:=bif !!nY x y then(bif(bif bif bif !dC a 1 20000 then true else decide (z<0) then true else decide (w<=z) then true else decide (1000<w)) then 7 else 0) else 7
def Am (n:Nat) (c:Nat->Int) (k:Int) (z:Int×Int×Int):Int×Int×Int:=bif d8 n c !=0 then(k,gp n c,d8 n c) else z
def cR (i:Nat):Int:=HS H (D bd G) (i:Int)
def cT (i:Nat):Int:=xm (av (O i)) (aP (O i)) (bV (O i)) (bf (O i)) (cu (O i))
def cF (i:Nat):Int:=HT (av (f4 i)) (aP (f4 i)) (bV (f4 i)) (bf (f4 i)) (aB (aA (I (I (I (I (f4 i))))))) λj=>al gV (bL (aA (I (I (I (I (f4 i)))))) j)
def cC (i:Nat):Int:=RF n6 (D aV f6) (i:Int)
def z3:Int×Int×Int:=Am n6 (cC n6 f6) 4 (0,0,0)
def z2:Int×Int×Int:=Am n4 (cF f4) 3 (z3 n6 f6)
def z1:Int×Int×Int:=Am T (cT O) 2 (z2 n4 f4 n6 f6)
def Mp (H:Nat) (G:be) (T:Nat) (O:be) (n4:Nat) (f4:be) (n6:Nat) (f6:be):Bool:=bif bif bif decide (8<(H:Int)) then true else decide (12<(T:Int)) then true else decide (8<(n4:Int)) then true else decide (24<(n6:Int))
def HO:Int×Int×Int:=bif Mp H G T O n4 f4 n6 f6 then(0,0,3) else Am H (cR H G) 1 (z1 T O n4 f4 n6 f6)
def Nl:Int:=(HO H G T O n4 f4 n6 f6).1
def Sg:Int:=(HO H G T O n4 f4 n6 f6).2.1
def gN:Int:=(HO H G T O n4 f4 n6 f6).2.2
theorem kV {n:Nat} {c:Nat->Int} {i:Nat} (k:Int) (z:Int×Int×Int) (hi:i<n) (hc:(c i !=0)=true) (h:∀j,j<i->(c j !=0)=false):Am n c k z=(k,(i:Int),c i):=by unfold Am;obtain⟨e1,e2⟩:=du hi hc h;rw[e1,e2,hc];rfl
theorem mr {n:Nat} {c:Nat->Int} (k:Int) (z:Int×Int×Int) (h:∀j,j<n->(c j !=0)=false):Am n c k z=z:=by unfold Am;obtain⟨e1,e2⟩:=iz h;rw[e1,e2];rfl
section
variable (hs:aD n6 f6) (i1:Int)
include hs i1
theorem apZ (i2 i3:Int):Ev (zo H G T O n4 f4 n6 f6) (.L3 0 i1 i2 i3) (Ms (z3 n6 f6)):=by
 by_cases hn:n6<=9223372036854775807
 ·refine ku (n:=n6) hn (λi=>cC n6 f6 i != 0) (P:=λi=>Ev (zo H G T O n4 f4 n6 f6) (.L3 i i1 i2 i3) _) (λi Q7 hj next=>Ev.of rfl (D3 λ_=>dt Q7 (aI ⟨K,K,hn,hs⟩ (ac (C2 (λhb=>B5 ?_) (λhb=>aL (next hb))))))) (λhj=>Ev.of rfl (D3 λ_=>dl (B5 ?_)))
  ·unfold z3;rw[kV 4 _ Q7 hb hj];rfl
  ·unfold z3;rw[mr 4 _ hj];rfl
 ·exact Ev.of rfl (D3 λh=>absurd (h rfl) hn)
theorem asC (i2:Int):Ev (zo H G T O n4 f4 n6 f6) (.L2 0 i1 i2) (Ms (z2 n4 f4 n6 f6)):=by
 by_cases hn:n4<=9223372036854775807
 ·refine ku (n:=n4) hn (λi=>cF f4 i != 0) (P:=λi=>Ev (zo H G T O n4 f4 n6 f6) (.L2 i i1 i2) _) (λi Q7 hj next=>Ev.of rfl (D3 λ_=>dt Q7 (cX Q7 (ao (ac (C2 (λhb=>B5 ?_) (λhb=>aL (next hb)))))))) (λhj=>Ev.of rfl (D3 λ_=>dl (aH ?_)))
  ·unfold z2;rw[kV 3 _ Q7 hb hj];rfl
  ·unfold z2;rw[mr 3 _ hj];exact apZ H G T O n4 f4 n6 f6 hs _ _ _
 ·exact Ev.of rfl (D3 λh=>absurd (h rfl) hn)
theorem aoo:Ev (zo H G T O n4 f4 n6 f6) (.L1 0 i1) (Ms (z1 T O n4 f4 n6 f6)):=by
 by_cases hn:T<=9223372036854775807
 ·refine ku (n:=T) hn (λi=>cT O i != 0) (P:=λi=>Ev (zo H G T O n4 f4 n6 f6) (.L1 i i1) _) (λi Q7 hj next=>Ev.of rfl (D3 λ_=>dt Q7 (cX Q7 (ao (ac (B1 (C2 (λh=>aF h (ao (ac ?_))) (λh=>B5 ?_)))))))) (λhj=>Ev.of rfl (D3 λ_=>dl (aH ?_)))
  ·repeat refine B1 ?_
   refine C2 (λhb=>B5 ?_) (λhb=>aL (next ?_))
   ·have e:cT O i=7:=by
     unfold cT xm;rw[show(!!nY (av (O i)) (aP (O i)))=true from h];exact(congrArg (λc=>bif c then(7:Int) else 0) hb).trans rfl
    unfold z1;rw[kV 2 _ Q7 (by rw[e];rfl) hj,e];rfl
   ·have e:cT O i=0:=by
     unfold cT xm;rw[show(!!nY (av (O i)) (aP (O i)))=true from h];exact(congrArg (λc=>bif c then(7:Int) else 0) hb).trans rfl
    rw[e];rfl
  ·have e:cT O i=7:=by
    unfold cT xm;rw[show(!!nY (av (O i)) (aP (O i)))=false from h];rfl
   unfold z1;rw[kV 2 _ Q7 (by rw[e];rfl) hj,e];rfl
  ·unfold z1;rw[mr 2 _ hj];exact asC H G T O n4 f4 n6 f6 hs _ _
 ·exact Ev.of rfl (D3 λh=>absurd (h rfl) hn)
end
theorem apq (hr:aD H G) (hs:aD n6 f6):Ev (zo H G T O n4 f4 n6 f6) (.L0 0) (Ms (Am H (cR H G) 1 (z1 T O n4 f4 n6 f6))):=by
 by_cases hn:H<=9223372036854775807
 ·refine ku (n:=H) hn (λi=>cR H G i != 0) (P:=λi=>Ev (zo H G T O n4 f4 n6 f6) (.L0 i) _) (λi Q7 hj next=>Ev.of rfl (D3 λ_=>dt Q7 (aI ⟨K,K,hn,hr⟩ (ac (C2 (λhb=>B5 ?_) (λhb=>aL (next hb))))))) (λhj=>Ev.of rfl (D3 λ_=>dl (aH ?_)))
  ·rw[kV 1 _ Q7 hb hj];rfl
  ·rw[mr 1 _ hj];exact aoo H G T O n4 f4 n6 f6 hs _
 ·exact Ev.of rfl (D3 λh=>absurd (h rfl) hn)
theorem aha (hp:aD H G/\aD n6 f6):aT (Ev (zo H G T O n4 f4 n6 f6)) (Ot H G T O n4 f4 n6 f6) (.tup [A (Nl H G T O n4 f4 n6 f6),A (Sg H G T O n4 f4 n6 f6),A (gN H G T O n4 f4 n6 f6)]):=by
 show aT _ _ (Ms (HO H G T O n4 f4 n6 f6));unfold HO
 repeat (first|refine B1 ?_|refine D3 λ_=>?_)
 refine C2 (λh=>B5 ?_) (λh=>aH ?_)
 ·rw[show Mp H G T O n4 f4 n6 f6=true from h];rfl
 ·rw[show Mp H G T O n4 f4 n6 f6=false from h];exact apq H G T O n4 f4 n6 f6 hp.1 hp.2
theorem avz (hp:aD H (D bd G)/\aD n6 (D aV f6)):aT (Ev (zo H G T O n4 f4 n6 f6)) (Ot H G T O n4 f4 n6 f6) (.tup [A (Nl H (D bd G) T (D bq O) n4 (D bu f4) n6 (D aV f6)),A (Sg H (D bd G) T (D bq O) n4 (D bu f4) n6 (D aV f6)),A (gN H (D bd G) T (D bq O) n4 (D bu f4) n6 (D aV f6))]):=aha H G T O n4 f4 n6 f6 hp
def C24:aE:=bP [.agg [.sl bd,.sl bq,.sl bu,.sl aV]] (λ
 |[.agg [.sl H G,.sl T O,.sl n4 f4,.sl n6 f6]]=>aD H G/\aD n6 f6|_=>False) λ
 |[.agg [.sl H G,.sl T O,.sl n4 f4,.sl n6 f6]]=>.tup [A (Nl H G T O n4 f4 n6 f6),A (Sg H G T O n4 f4 n6 f6),A (gN H G T O n4 f4 n6 f6)]|_=>.any
theorem avO:b9 C24 107:=aU GC λ_ hp=>kr (aq8 ..) (avz _ _ _ _ _ _ _ _ hp)
def m23:RT Empty:=.am H (.ii (.asm ((!decide (8<(H:Int)))=true->T<=9223372036854775807) (.iv (.asm ((!bif decide (8<(H:Int)) then true else decide (12<(T:Int)))=true->n4<=9223372036854775807) (.iv (.asm ((!bif bif decide (8<(H:Int)) then true else decide (12<(T:Int)) then true else decide (8<(n4:Int)))=true->n6<=9223372036854775807) (.ii (.br (bif bif bif decide (8<(H:Int)) then true else decide (12<(T:Int)) then true else decide (8<(n4:Int)) then true else decide (24<(n6:Int))) (.ret (V.tup [A 0,A 0,A 3])) (.obp (aD H G) (.obt (.br (rq H (D bd G)!=0) (.ret (V.tup [A 1,A (AP H (D bd G)),A (rq H (D bd G))])) (.cb (.br (rl T (D bq O)!=0) (.ret (V.tup [A 2,A (zV T (D bq O)),A (rl T (D bq O))])) (.cb (.br (qY n4 (D bu f4)!=0) (.ret (V.tup [A 3,A (Aw n4 (D bu f4)),A (qY n4 (D bu f4))])) (.obp (aD n6 f6) (.obt (.br (q6 n6 (D aV f6)!=0) (.ret (V.tup [A 4,A (AT n6 (D aV f6)),A (q6 n6 (D aV f6))])) (.ret (V.tup H9))))))))))))))))))))
theorem an8:cY cZ (aQ JJ v7 u0 ayi [Ca H G T O n4 f4 n6 f6]) (m23 H G T O n4 f4 n6 f6):=bD
def nD:Int:=bif bif bif bif decide (8<(H:Int)) then true else decide (12<(T:Int)) then true else decide (8<(n4:Int)) then true else decide (24<(n6:Int)) then 0 else bif rq H (D bd G)!=0 then 1 else bif rl T (D bq O)!=0 then 2 else bif qY n4 (D bu f4)!=0 then 3 else bif q6 n6 (D aV f6)!=0 then 4 else 0
def nt:Int:=bif bif bif bif decide (8<(H:Int)) then true else decide (12<(T:Int)) then true else decide (8<(n4:Int)) then true else decide (24<(n6:Int)) then 0 else bif rq H (D bd G)!=0 then AP H (D bd G) else bif rl T (D bq O)!=0 then zV T (D bq O) else bif qY n4 (D bu f4)!=0 then Aw n4 (D bu f4) else bif q6 n6 (D aV f6)!=0 then AT n6 (D aV f6) else 0
def jX:Int:=bif bif bif bif decide (8<(H:Int)) then true else decide (12<(T:Int)) then true else decide (8<(n4:Int)) then true else decide (24<(n6:Int)) then 3 else bif rq H (D bd G)!=0 then rq H (D bd G) else bif rl T (D bq O)!=0 then rl T (D bq O) else bif qY n4 (D bu f4)!=0 then qY n4 (D bu f4) else bif q6 n6 (D aV f6)!=0 then q6 n6 (D aV f6) else 0
def HU:V:=.tup [A (nD H G T O n4 f4 n6 f6),A (nt H G T O n4 f4 n6 f6),A (jX H G T O n4 f4 n6 f6)]
theorem axm (hp:aD H G/\aD n6 f6):aT cM (m23 H G T O n4 f4 n6 f6) (HU H G T O n4 f4 n6 f6):=D3 (λa0=>B1 (B1 (D3 (λa0=>B1 (B1 (B1 (B1 (D3 (λa0=>B1 (B1 (B1 (B1 (D3 (λa0=>B1 (B1 (C2 (λh0=>B5 (by unfold HU nD nt jX;try rw[h0];rfl)) (λh0=>aI (by first|assumption|((first|exact hp.1|exact hp.2))) (ac (C2 (λM=>B5 (by unfold HU nD nt jX;try rw[h0];try rw[M];rfl)) (λM=>ao (ac (C2 (λN=>B5 (by unfold HU nD nt jX;try rw[h0];try rw[M];try rw[N];rfl)) (λN=>ao (ac (C2 (λh3=>B5 (by unfold HU nD nt jX;try rw[h0];try rw[M];try rw[N];try rw[h3];rfl)) (λh3=>aI (by first|assumption|((first|exact hp.1|exact hp.2))) (ac (C2 (λh4=>B5 (by unfold HU nD nt jX;try rw[h0];try rw[M];try rw[N];try rw[h3];try rw[h4];rfl)) (λh4=>B5 (by unfold HU nD nt jX;try rw[h0];try rw[M];try rw[N];try rw[h3];try rw[h4];rfl))))))))))))))))))))))))))))))
def C23:aE:=bP [.agg [.sl bd,.sl bq,.sl bu,.sl aV]] (λ
 |[.agg [.sl H G,.sl T O,.sl n4 f4,.sl n6 f6]]=>aD H G/\aD n6 f6|_=>False) λ
 |[.agg [.sl H G,.sl T O,.sl n4 f4,.sl n6 f6]]=>HU H G T O n4 f4 n6 f6|_=>.any
theorem atW:b9 C23 50:=aU GC λ_ hp=>da (an8 ..) (axm _ _ _ _ _ _ _ _ hp)
end
end Go.Dx
