/- Part 4 of a proof. No conditions. -/
import Derived.Test.YtefgedeiipggkaaGreatDoorLb3
import Derived.Laws.StructEq
import Derived.ChangeKeysEq
import Derived.Test.YtefgedeiipggkaaGreatDoorChecked
import Derived.IntWalk
import Derived.WalkKit
import Derived.Ground.NamesProg
import Derived.Shelf.Strings.SlTrimAscii
set_option maxRecDepth 100000
set_option linter.unusedVariables false
set_option linter.unusedSimpArgs false
theorem bD {p:Prop} (h:p:=by kernel_rfl):p:=h
theorem bF {p PX:Prop} (h:p:=by kernel_rfl) (k:PX:=by kernel_rfl):p∧PX:=⟨h,k⟩
namespace Go.Dx
open Go.Sx
inductive cr (J:Type) where|res (v:V)|head (j:J) (e:bT) (h:List AD) (g:Option Ex)
structure Lp (J:Type) where
 fr:Nat×Nat
 body:AY
 k:Ex->bT->List AD->Option Ex->AN (cr J)
section
variable {α β:Type}
def gw:AN α->(α->AN β)->AN β
 |.ret a,f=>f a|.br b x y,f=>.br b (gw x f) (gw y f)|.ob b x,f=>.ob b (gw x f)|.obi c d x,f=>.obi c d (gw x f)|.obp p x,f=>.obp p (gw x f)|.obq a b x,f=>.obq a b (gw x f)|.fail n,_=>.fail n|.loop fr b e h g k,f=>.loop fr b e h g λx e h g=>gw (k x e h g) f
 |.all t,f=>.all λl=>gw (t l) f
 |.und x y,f=>.und (gw x f) (gw y f)|.asm p x,f=>.asm p (gw x f)
theorem afP {LP:fE} {Pg:β->Prop} (f:α->AN β):∀ t:AN α,bU LP (gw t f) Pg=bU LP t λa=>bU LP (f a) Pg:=by
 intro t;induction t with
 |ret a=>rfl|br b x y hx hy=>simp[gw,bU,hx,hy]|ob b x hx=>simp[gw,bU,hx]|obi c d x hx=>simp[gw,bU,hx]|obp p x hx=>simp[gw,bU,hx]|obq a b x hx=>simp[gw,bU,hx]|fail n=>rfl|loop fr b e h g k hk=>simp[gw,bU,hk]|all t ht=>simp[gw,bU,ht]|und x y hx hy=>simp[gw,bU,hx,hy]|asm p x hx=>simp[gw,bU,hx]
theorem lI {LP:fE} (hLP:∀ fr b e h g (P P':Ex->bT->List AD->Option Ex->Prop),(∀ x e h g,P x e h g->P' x e h g)->LP fr b e h g P->LP fr b e h g P') {Pg Q':α->Prop} (hQ:∀ a,Pg a->Q' a):∀ t:AN α,bU LP t Pg->bU LP t Q':=by
 intro t;induction t with
 |ret a=>exact hQ a|br b x y hx hy=>exact λh=>⟨λe=>hx (h.1 e),λe=>hy (h.2 e)⟩
 |ob b x hx=>exact λh=>⟨h.1,hx h.2⟩
 |obi c d x hx=>exact λh=>⟨h.1,hx h.2⟩
 |obp p x hx=>exact λh=>⟨h.1,hx h.2⟩
 |obq a b x hx=>exact λh=>⟨h.1,hx h.2⟩
 |fail n=>exact id|loop fr b e h g k hk=>exact λhs=>hLP _ _ _ _ _ _ _ (λx e h g=>hk x e h g) hs
 |all t ht=>exact λh l=>ht l (h l)
 |und x y hx hy=>exact λh=>⟨hx h.1,hy h.2⟩
 |asm p x hx=>exact λh hp=>hx (h hp)
theorem iG (w0:World) (Pe:Ep):∀ fr b e h g (P P':Ex->bT->List AD->Option Ex->Prop),(∀ x e h g,P x e h g->P' x e h g)->dM w0 Pe fr b e h g P->dM w0 Pe fr b e h g P':=by
 intro fr b e h g P P' hP;cases b with
 |s body=>exact λhl Pn nbS ν nV nS sl lh QA M Q h3 h4=>hl Pn nbS ν nV nS sl lh QA M Q h3 λex e' h' ν' sl' lh' nV' nS' g0 g1 g2 g3=>h4 ex e' h' ν' sl' lh' nV' nS' g0 g1 g2 (hP _ _ _ _ g3)
 |i body rd=>exact λhl Pn N0 ν nV nS sl Rk lh QA M Q h3 h4 h5 h6 h7 h8=>hl Pn N0 ν nV nS sl Rk lh QA M Q h3 h4 h5 h6 h7 λex e' h' g' ν' sl' lh' nV' nS' g0 g1 g2 g3=>h8 ex e' h' g' ν' sl' lh' nV' nS' g0 g1 g2 (hP _ _ _ _ g3)
end
mutual
def mb (ρ:o7):V->V->V
 |.any,_=>.any|.int _ _,.int k a=>.int k a|.bool _,.bool a=>.bool a|.bool _,.kb a=>.bool a|.kb _,.kb a=>.kb a|.str _,.str a=>.str a|.agg ys,.agg xs=>.agg (mG ρ ys xs)|.tup ys,.tup xs=>.tup (mG ρ ys xs)|.fn _ us vs,.fn f xs ys=>.fn f (mG ρ us xs) (mG ρ vs ys)|.sl _ _,.sl n f=>.sl n f|.pd _,.pd cs=>.pd cs
 |.pl k1 _,.pl k o=>match ed ρ k1 with|some (some k')=>cond (Nat.beq k' k) (.pl k1 o) .any|_=>.any
 |.pe k1 _ _,.pe k i j=>match ed ρ k1 with|some (some k')=>cond (Nat.beq k' k) (.pe k1 i j) .any|_=>.any
 |.ss k1 _ _ _,.ss k o n c=>match ed ρ k1 with|some (some k')=>cond (Nat.beq k' k) (.ss k1 o n c) .any|_=>.any
 |.gs k1 _,.gs k n=>match ed ρ k1 with|some (some k')=>cond (Nat.beq k' k) (.gs k1 n) .any|_=>.any
 |.gs k1 _,.ns=>match ed ρ k1 with|some none=>.gs k1 0|_=>.any
 |.ns,.ns=>.ns|.np,.np=>.np|.yl _,.yl l=>.yl l
 |.go k1 _ _,.go k o n=>match ed ρ k1 with|some (some k')=>cond (Nat.beq k' k) (.go k1 o n) .any|_=>.any
 |_,_=>.any
def mG (ρ:o7):List V->List V->List V
 |[],[]=>[]|y::ys,x::xs=>mb ρ y x::mG ρ ys xs|[],_::_=>[.any]|_::_,[]=>[]
end
section
variable {ρ:o7}
theorem Nr {k k':Nat} {x y:V} (hb:cond (Nat.beq k' k) x V.any=y) (hy:y≠V.any):k'=k/\x=y:=by
 cases hc:Nat.beq k' k with
 |false=>rw[hc]at hb;exact(hy hb.symm).elim|true=>rw[hc]at hb;exact⟨Ap hc,hb⟩
mutual
theorem anX:∀ (t v:V),mb ρ t v=t->db ρ v t
 |.any,v,_=>by cases v<;>simp[db]
 |.int k n,v,h=>by cases v<;>simp only[mb]at h<;>cases h<;>simp[db]
 |.bool b,v,h=>by cases v<;>simp only[mb]at h<;>cases h<;>simp[db]
 |.kb b,v,h=>by cases v<;>simp only[mb]at h<;>cases h<;>simp[db]
 |.str b,v,h=>by cases v<;>simp only[mb]at h<;>cases h<;>simp[db]
 |.agg ys,v,h=>by
   cases v<;>simp only[mb]at h<;>first|(cases h;done)|skip
   simp only[V.agg.injEq]at h;simp only[db];exact gX ys _ h
 |.tup ys,v,h=>by
   cases v<;>simp only[mb]at h<;>first|(cases h;done)|skip
   simp only[V.tup.injEq]at h;simp only[db];exact gX ys _ h
 |.fn f us vs,v,h=>by
   cases v<;>simp only[mb]at h<;>first|(cases h;done)|skip
   simp only[V.fn.injEq]at h;simp only[db];exact⟨h.1,gX us _ h.2.1,gX vs _ h.2.2⟩
 |.sl n f,v,h=>by cases v<;>simp only[mb]at h<;>cases h<;>simp[db]
 |.pd cs,v,h=>by cases v<;>simp only[mb]at h<;>cases h<;>simp[db]
 |.pl k1 o1,v,h=>by
   cases v<;>simp only[mb]at h<;>first|(cases h;done)|skip
   split at h
   ·rename_i k' hk
    let ⟨rfl,e⟩:=Nr h au
    simp only[V.pl.injEq,D5]at e;simp only[db];exact⟨hk,e⟩
   ·cases h
 |.pe k1 i1 j1,v,h=>by
   cases v<;>simp only[mb]at h<;>first|(cases h;done)|skip
   split at h
   ·rename_i k' hk
    let ⟨rfl,e⟩:=Nr h au
    simp only[V.pe.injEq,D5]at e;simp only[db];exact⟨hk,e⟩
   ·cases h
 |.ss k1 i1 j1 c1,v,h=>by
   cases v<;>simp only[mb]at h<;>first|(cases h;done)|skip
   split at h
   ·rename_i k' hk
    let ⟨rfl,e⟩:=Nr h au
    simp only[V.ss.injEq,D5]at e;simp only[db];exact⟨hk,e⟩
   ·cases h
 |.gs k1 n1,v,h=>by
   cases v<;>simp only[mb]at h<;>first|(cases h;done)|skip
   ·split at h
    ·rename_i k' hk
     let ⟨rfl,e⟩:=Nr h au
     simp only[V.gs.injEq,D5]at e;simp only[db];exact⟨hk,e⟩
    ·cases h
   ·split at h
    ·rename_i hk;simp only[V.gs.injEq,D5]at h;simp only[db];exact⟨hk,h.symm⟩
    ·cases h
 |.ns,v,h=>by cases v<;>simp only[mb]at h<;>cases h<;>simp[db]
 |.np,v,h=>by cases v<;>simp only[mb]at h<;>cases h<;>simp[db]
 |.yl l,v,h=>by cases v<;>simp only[mb]at h<;>cases h<;>simp[db]
 |.gd b x,v,h=>by cases v<;>simp only[mb]at h<;>cases h
 |.go k1 i1 j1,v,h=>by
   cases v<;>simp only[mb]at h<;>first|(cases h;done)|skip
   split at h
   ·rename_i k' hk
    let ⟨rfl,e⟩:=Nr h au
    simp only[V.go.injEq,D5]at e;simp only[db];exact⟨hk,e⟩
   ·cases h
 |.sq n m f,v,h=>by cases v<;>simp only[mb]at h<;>cases h
theorem gX:∀ (ts vs:List V),mG ρ ts vs=ts->fK ρ vs ts
 |[],[],_=>by simp[fK]
 |y::ys,x::xs,h=>by simp[mG,Cc]at h;simp[fK];exact⟨anX y x h.1,gX ys xs h.2⟩
 |[],_::_,h=>by simp[mG]at h
 |_::_,[],h=>by simp[mG]at h
end
mutual
theorem ic4:∀ (v t:V),db [] v t->db ρ v t
 |.int ..,t,h=>by cases t<;>simp[db]at h ⊢<;>exact h
 |.bool _,t,h=>by cases t<;>simp[db]at h ⊢<;>exact h
 |.kb _,t,h=>by cases t<;>simp[db]at h ⊢<;>exact h
 |.str _,t,h=>by cases t<;>simp[db]at h ⊢<;>exact h
 |.agg xs,t,h=>by cases t<;>simp[db]at h ⊢<;>first|exact lf _ _ h|exact h
 |.tup xs,t,h=>by cases t<;>simp[db]at h ⊢<;>first|exact lf _ _ h|exact h
 |.fn f xs ys,t,h=>by cases t<;>simp[db]at h ⊢<;>first|exact⟨h.1,lf _ _ h.2.1,lf _ _ h.2.2⟩|exact h
 |.sl ..,t,h=>by cases t<;>simp[db]at h ⊢<;>exact h
 |.pd ..,t,h=>by cases t<;>simp[db]at h ⊢<;>exact h
 |.pl ..,t,h=>by cases t<;>simp[db]at h ⊢<;>first|exact h|(simp[ed,gZ]at h)
 |.pe ..,t,h=>by cases t<;>simp[db]at h ⊢<;>first|exact h|(simp[ed,gZ]at h)
 |.ss ..,t,h=>by cases t<;>simp[db]at h ⊢<;>first|exact h|(simp[ed,gZ]at h)
 |.gs ..,t,h=>by cases t<;>simp[db]at h ⊢<;>first|exact h|(simp[ed,gZ]at h)
 |.ns,t,h=>by cases t<;>simp[db]at h ⊢<;>first|exact h|(simp[ed,gZ]at h)
 |.np,t,h=>by cases t<;>simp[db]at h ⊢<;>exact h
 |.any,t,h=>by cases t<;>simp[db]at h ⊢<;>exact h
 |.gd ..,t,h=>by cases t<;>simp[db]at h ⊢<;>exact h
 |.yl _,t,h=>by cases t<;>simp[db]at h ⊢<;>exact h
 |.go ..,t,h=>by cases t<;>simp[db]at h ⊢<;>first|exact h|(simp[ed,gZ]at h)
 |.sq ..,t,h=>by cases t<;>simp[db]at h ⊢<;>exact h
theorem lf:∀ (vs ts:List V),fK [] vs ts->fK ρ vs ts
 |[],[],_=>by simp[fK]
 |v::vs,t::ts,h=>by simp[fK]at h ⊢;exact⟨ic4 v t h.1,lf vs ts h.2⟩
 |[],_::_,h=>by simp[fK]at h
 |_::_,[],h=>by simp[fK]at h
end
end
def yt (ts:List Ty) (n:Nat) (f:be):Prop:=∀i,i<n->nX (cj ts) (ap ts (f i))=true/\fK [] (f i) (ap ts (f i))
structure VF where
 k:Nat
 ts:List Ty
 n:Nat
 f:Nat->List V
 ok:yt ts n f
theorem hs3 {t:Ty} (h:cD t=true) (v:V):(dD t v).one=true:=by cases t<;>first|(simp[cD]at h;done)|(simp[dD];rfl)
theorem F57:∀ {ts:List Ty},ts.all cD=true->∀ vs,(ap ts vs).all V.one=true
 |[],_,_=>by simp[ap]
 |t::ts,h,vs=>by simp only[Dj,Ae]at h;simp only[ap,Dj,Ae];exact⟨hs3 h.1 _,F57 h.2 _⟩
theorem lc {ts:List Ty} (h:ts.all cD=true) (vs:List V):nX (cj ts) (ap ts vs)=true:=HM (by rw[uW,ca]) (F57 h vs)
theorem hrc {t:Ty} (h:cD t=true) (v:V):db [] (dD t v) (dD t v):=by cases t<;>first|(simp[cD]at h;done)|(simp[dD,db];try simp)
theorem hji:∀ {ts:List Ty},ts.all cD=true->∀ vs,fK [] (ap ts vs) (ap ts vs)
 |[],_,_=>by simp[ap,fK]
 |t::ts,h,vs=>by simp only[Dj,Ae]at h;simp only[ap,fK];exact⟨hrc h.1 _,hji h.2 _⟩
theorem aL {ts:List Ty} (h:ts.all cD=true) (n:Nat) (f:be):yt ts n (A ts f):=λi _=>by simp[A,eb];exact⟨lc h _,hji h _⟩
theorem gj {ts:List Ty} {n m:Nat} {f g:be} (M:yt ts n f) (Q:yt ts m g):yt ts (n+m) (bc n f g):=λi hi=>by
 unfold bc;by_cases Pj:i<n
 ·have hb:Nat.blt i n=true:=EC Pj;rw[hb];exact M i Pj
 ·have hb:Nat.blt i n=false:=by
   cases hb:Nat.blt i n with
   |false=>rfl|true=>have:=Bf hb;omega
  rw[hb];exact Q _ K
theorem EE {ts:List Ty} (h:ts.all cD=true) (n:Nat) {ds:List V} (hf:mG [] (ap ts ds) ds=ap ts ds):yt ts n λ_=>ds:=λi _=>⟨lc h _,gX _ _ hf⟩
theorem oF {ts:List Ty} (h:ts.all cD=true) {n j:Nat} {ds:List V} {f:be} (M:yt ts n f) (hf:mG [] (ap ts ds) ds=ap ts ds):yt ts n λi=>cond (Nat.beq i j) ds (f i):=λi hi=>by
 show nX _ (ap ts (cond (Nat.beq i j) ds (f i)))=true/\fK [] (cond (Nat.beq i j) ds (f i)) (ap ts (cond (Nat.beq i j) ds (f i)));cases Nat.beq i j with
 |true=>exact⟨lc h _,gX _ _ hf⟩|false=>exact M i hi
def GJ (ts:List Ty) (f:be):Nat->List (List V)
 |0=>[]|n+1=>mG [] (ap ts (f n)) (f n)::GJ ts f n
def B0 (ts:List Ty) (f:be):Nat->List (List V)
 |0=>[]|n+1=>ap ts (f n)::B0 ts f n
theorem CI {ts:List Ty} (h:ts.all cD=true) {f:be}:∀ {n:Nat},GJ ts f n=B0 ts f n->yt ts n f
 |0,_=>λi hi=>by omega
 |n+1,hf=>λi hi=>by
   simp[GJ,B0,Cc]at hf;by_cases e:i=n
   ·subst e;exact⟨lc h _,gX _ _ hf.1⟩
   ·exact CI h hf.2 i K
def DV (ρ:o7) (e:bT):bT->bT
 |[]=>[]|(s,t)::l=>(s,mb ρ t (ku e s))::DV ρ e l
theorem awn {ρ:o7} {e:bT}:∀ {e1:bT},DV ρ e e1=e1->xf ρ e e1
 |[],_=>trivial
 |(s,t)::l,h=>by simp[DV,Cc,Prod.mk.injEq,D5]at h;exact⟨anX _ _ h.1,awn h.2⟩
def zK:List VF->Nat->Option VF
 |[],_=>none|v::l,k=>cond (Nat.beq k v.k) (some v) (zK l k)
def SE (ρ:o7) (h:List AD) (vf:List VF) (k:Nat):AD->AD
 |.cells cs ty=>match ed ρ k with
   |some (some j)=>match gZ h j with|some (.cells ds ty')=>.cells (mG ρ cs ds) ty'|_=>.dead
   |_=>.dead
 |.gl e n f ty=>match ed ρ k with
   |some none=>.gl e 0 f ty
   |some (some j)=>match gZ h j with
     |some (.gl e' m g ty')=>match zK vf k with|some v=>.gl e' m (A v.ts g) ty'|none=>.dead
     |_=>.dead
   |none=>.dead
 |.dead=>.hid|.hid=>.hid
def DR (ρ:o7) (h:List AD) (vf:List VF):Nat->List AD->List AD
 |_,[]=>[]|k,o::l=>SE ρ h vf k o::DR ρ h vf (k+1) l
def ra (ρ:o7) (h:List AD):List VF->List (Nat×Nat×(Nat->List V))
 |[]=>[]
 |v::l=>(match ed ρ v.k with
   |some (some j)=>match gZ h j with|some (.gl e m g _)=>(e,m,g)|_=>(0,0,λ_=>[])
   |_=>(0,0,λ_=>[]))::ra ρ h l
def qZ:List VF->List (Nat×Nat×(Nat->List V))
 |[]=>[]|v::l=>(cj v.ts,v.n,v.f)::qZ l
theorem aAt {ρ:o7} {h:List AD} {k:Nat} {v:VF}:∀ {vf:List VF},zK vf k=some v->ra ρ h vf=qZ vf->v.k=k/\(match ed ρ v.k with
 |some (some j)=>match gZ h j with|some (.gl e m g _)=>(e,m,g)|_=>(0,0,λ_=>[])
 |_=>(0,0,λ_=>[]))=(cj v.ts,v.n,v.f)
 |[],M,_=>by cases M
 |x::l,M,Q=>by
   simp[ra,qZ,Cc]at Q;simp[zK]at M;cases hb:Nat.beq k x.k with
   |true=>rw[hb]at M;cases M;exact⟨(Ap hb).symm,Q.1⟩|false=>rw[hb]at M;exact aAt M Q.2
theorem iy0 {ρ:o7} {h:List AD} {vf:List VF} {k:Nat} {o:AD} (hf:SE ρ h vf k o=o) (hg:ra ρ h vf=qZ vf):F5 ρ h k o:=by
 cases o with
 |cells cs ty=>
   simp[SE]at hf;split at hf
   ·rename_i j hj
    split at hf
    ·rename_i ds ty' hn;simp[AD.cells.injEq]at hf;exact⟨j,ds,hj,by rw[hn,hf.2],gX _ _ hf.1⟩
    ·cases hf
   ·cases hf
 |gl e n f ty=>
   simp[SE]at hf;split at hf
   ·rename_i hj;simp[AD.gl.injEq,D5,and_true]at hf;exact .inl ⟨hj,hf.symm⟩
   ·rename_i j hj
    split at hf
    ·rename_i e' m g ty' hn
     split at hf
     ·rename_i v hv
      let ⟨rfl,Q⟩:=aAt hv hg
      rw[hj]at Q;simp[hn,Prod.mk.injEq]at Q;simp[AD.gl.injEq]at hf
      let ⟨rfl,rfl,rfl,rfl⟩:=hf
      let ⟨h3,h4,h5⟩:=Q
      refine .inr ⟨j,m,g,hj,hn,Ah _,λi hi=>?_⟩;have:=v.ok i (by rw[← h4];exact hi);rw[← h5,← h3]at this;exact⟨this.1,lf _ _ this.2⟩
     ·cases hf
    ·cases hf
   ·cases hf
 |dead=>simp only[SE]at hf;cases hf|hid=>trivial
theorem apY {ρ:o7} {h:List AD} {vf:List VF} (hg:ra ρ h vf=qZ vf):∀ {l:List AD} {k:Nat},DR ρ h vf k l=l->xb ρ h k l
 |[],_,_=>trivial
 |o::l,k,hf=>by simp[DR,Cc]at hf;exact⟨iy0 hf.1 hg,apY hg hf.2⟩
def Ac (ρ:o7) (nb:Nat) (M:List AD):Bool:=Nat.beq (cj ρ) (cj M)&&(Hf ρ&&KD ρ nb)
theorem wX (w0:World) {ρ:o7} {nb:Nat} {e e1:bT} {h M:List AD} {vf:List VF} (h0:Ac ρ nb M=true) (he:DV ρ e e1=e1) (hh:DR ρ h vf 0 M=M) (hg:ra ρ h vf=qZ vf):lM w0 nb e h e1 M:=by unfold Ac at h0;simp only[Ae]at h0;exact lM.ren w0 ρ h0.1 h0.2.1 h0.2.2 (awn he) (apY hg hh)
def OP (zs:List VF) (v v':V):Prop:=v'=v∨∃k n z,v=.gs k n/\z∈zs/\z.k=k/\n<=z.n/\v'=.sl n (A z.ts z.f)
def Zv (zs:List VF):List V->List V->Prop
 |[],[]=>True|a::l,b::m=>OP zs a b/\Zv zs l m|_,_=>False
structure FR (zs:List VF) where
 k:Nat
 n:Nat
 f:Nat->List V
 g:Nat->List V
 ok:∀i,i<n->Zv zs (f i) (g i)
section
variable {zs:List VF}
def Mr:List (FR zs)->Nat->Option (FR zs)
 |[],_=>none|v::l,k=>cond (Nat.beq k v.k) (some v) (Mr l k)
def My (fr:List (FR zs)) (k:Nat) (o:AD):AD:=match zK zs k with
 |some _=>.hid
 |none=>match o with
   |.gl e n f ty=>match Mr fr k with|some r=>.gl e n r.g ty|none=>.gl e n f ty
   |o=>o
def E7 (fr:List (FR zs)):Nat->List AD->List AD
 |_,[]=>[]|k,o::l=>My fr k o::E7 fr (k+1) l
def VD (zs:List VF):Bool:=zs.all λv=>v.ts.all cD
def Mx (h:List AD):List VF->List (Option (Nat×Nat×(Nat->List V)))
 |[]=>[]
 |v::l=>(match gZ h v.k with|some (.gl e m g _)=>some (e,m,g)|_=>none)::Mx h l
def uD:List VF->List (Option (Nat×Nat×(Nat->List V)))
 |[]=>[]|v::l=>some (cj v.ts,v.n,v.f)::uD l
def Ml (h:List AD):List (FR zs)->List (Option (Nat×(Nat->List V)))
 |[]=>[]
 |v::l=>(match gZ h v.k with|some (.gl _ m g _)=>some (m,g)|_=>none)::Ml h l
def Mu:List (FR zs)->List (Option (Nat×(Nat->List V)))
 |[]=>[]|v::l=>some (v.n,v.f)::Mu l
theorem av6 {h:List AD} {v:VF}:∀ {l:List VF},Mx h l=uD l->v∈l->∃ ty,h[v.k]? = some (.gl (cj v.ts) v.n v.f ty)
 |[],_,hm=>by cases hm
 |x::l,he,hm=>by
   simp[Mx,uD,Cc]at he;rcases List.mem_cons.1 hm with rfl|hm
   ·have M:=he.1
    rw[bw]at M;split at M
    ·rename_i e m g ty hk
     simp[Ak,Prod.mk.injEq]at M
     let ⟨rfl,rfl,rfl⟩:=M
     exact⟨ty,hk⟩
    ·cases M
   ·exact av6 he.2 hm
theorem an2 {h:List AD} {k:Nat} {r:FR zs}:∀ {l:List (FR zs)},Ml h l=Mu l->Mr l k=some r->∃ e ty,h[k]? = some (.gl e r.n r.f ty)
 |[],_,hm=>by cases hm
 |x::l,he,hm=>by
   simp[Ml,Mu,Cc]at he;simp[Mr]at hm;cases hb:Nat.beq k x.k with
   |true=>
     rw[hb]at hm;cases hm;have M:=he.1;rw[bw,← Ap hb]at M;split at M
     ·rename_i e m g ty hk
      simp[Ak,Prod.mk.injEq]at M
      let ⟨rfl,rfl⟩:=M
      exact⟨e,ty,hk⟩
     ·cases M
   |false=>rw[hb]at hm;exact an2 he.2 hm
theorem R78 {v:VF}:∀ {l:List VF},v∈l->zK l v.k≠none
 |x::l,hm=>by
   simp[zK];cases hb:Nat.beq v.k x.k with
   |true=>simp
   |false=>
     rcases List.mem_cons.1 hm with rfl|hm
     ·simp at hb
     ·exact R78 hm
theorem aAr (fr:List (FR zs)):∀ (l:List AD) (b k:Nat),(E7 fr b l)[k]? = (l[k]?).map (My fr (b+k))
 |[],b,k=>by simp[E7]
 |o::l,b,0=>by simp[E7]
 |o::l,b,k+1=>by simp[E7,EA];rw[aAr fr l (b+1) k,show b+1+k=b+(k+1) by omega]
theorem iy7 {v v':V} (h:OP zs v v') (hv:v.one=true):v'.one=true:=by
 rcases h with rfl|⟨k,n,z,_,_,_,_,rfl⟩
 ·exact hv
 ·rfl
theorem aAu:∀ {l m:List V},Zv zs l m->l.all V.one=true->cj m=cj l/\m.all V.one=true
 |[],[],_,_=>⟨rfl,rfl⟩
 |a::l,b::m,h,ho=>by
   simp only[Dj,Ae]at ho ⊢
   let ⟨M,Q⟩:=aAu h.2 ho.2
   exact⟨by simp[cj,M],iy7 h.1 ho.1,Q⟩
 |[],_::_,h,_=>h.elim|_::_,[],h,_=>h.elim
theorem awj (w0:World) {nb:Nat} {e:bT} {h:List AD} {fr:List (FR zs)} (hc:VD zs=true) (hz:Mx h zs=uD zs) (hf:Ml h fr=Mu fr):lM w0 nb e h e (E7 fr 0 h):=by
 classical
 intro Pn ν nV nS sl lh hs hr;have hB:∀v,v∈zs->∃ty,h[v.k]? = some (.gl (cj v.ts) v.n v.f ty):=λv hv=>av6 hz hv
 let S64:Nat->Prop:=λj=>∃v x,v∈zs/\ν v.k=some (some x)/\x.1=j
 let z1:List ar:=lh.mapIdx λj o=>if isCells ν.z[j]? = true∨S64 j then o else .hid
 have z1get:∀j,z1[j]? = (lh[j]?).map λo=>if isCells ν.z[j]? = true∨S64 j then o else .hid:=λj=>by simp[z1,Jf]
 have Zs:w6 ν.z z1:=λj az ty hj=>by rw[z1get,hr.zl j az ty hj];simp only[DK];rw[Ad (.inl (by rw[hj];rfl))]
 have Zu:w6 z1 lh:=λj az ty hj=>by
  rw[z1get]at hj;cases hl:lh[j]? with
  |none=>rw[hl]at hj;cases hj
  |some o=>
    rw[hl]at hj;simp[DK,Ak]at hj;split at hj
    ·rw[hj]
    ·cases hj
 let ν1:Nu:=⟨ν.m,z1⟩
 have hsub:ν.sub ν1:=⟨λ_ _ h=>h,Zs⟩;have Xw:∀ {v v':V} {a:ak},OP zs v v'->vr w0 ν.z ν v a->vr w0 z1 ν1 v' a:=by
  intro v v' a hv hx;rcases hv with rfl|⟨k,n,z,rfl,hm,rfl,hn,rfl⟩
  ·exact ady hsub _ _ hx
  ·let ⟨ty,hk⟩:=hB z hm
   have YC:z.ts.all cD=true:=by unfold VD at hc;exact List.all_eq_true.1 hc z hm
   simp only[vr]at hx ⊢;rcases hr.blk _ _ hk with ⟨M,Q⟩|⟨b,c,az,M,Q,h3,h4,h5⟩
   ·rcases hx with ⟨_,g2,rfl⟩|⟨b,c,e,g1,_⟩
    ·subst g2;exact⟨none,0,0,rfl,Ah _,K,trivial,λi hi=>by omega⟩
    ·rw[M]at g1;cases g1
   ·rcases hx with ⟨g1,_⟩|⟨b',c',e',g1,rfl,g3⟩
    ·rw[M]at g1;cases g1
    ·rw [M]at g1
     obtain⟨rfl,rfl,rfl⟩:b=b'/\c=c'/\cj z.ts=e':=by simpa using g1
     have hb:z1[b]? = some (.cells az ty):=by rw[z1get,Q];simp only[DK];rw[Ad (.inr ⟨z,_,hm,M,rfl⟩)]
     refine⟨some (.l b 0),c,cj z.ts,rfl,g3,K,⟨az,ty,hb,Bc _⟩,λi hi=>?_⟩;have RI:i*cj z.ts+cj z.ts<=az.length:=by rw[h3,← DO];exact DY _ K
     have Sk:=z.ok i K;refine⟨_,_,rfl,?_,lK Zs _ _ (iM (ν:=nP [] ν) (λk x hx=>?_) _ _ (ks _ _ _ Sk.2 (h5 i K).2)),pK _ _ YC⟩
     ·simp only[js.add,lds,hb,DZ];rw[Ad K]
     ·simp only[nP,ed,gZ]at hx;cases hx
 have hfrs:∀ {l m:List V} {az:List ak},Zv zs l m->bK w0 ν.z ν l az->bK w0 z1 ν1 m az:=by
  intro l;induction l with
  |nil=>intro m az M Q;cases m with|nil=>simp[bK]at Q ⊢;exact Q|cons=>exact M.elim
  |cons a l ih=>
    intro m az M Q;cases m with
    |nil=>exact M.elim
    |cons b m=>simp[bK]at Q ⊢;obtain⟨x,xs,rfl,g1,g2⟩:=Q;exact⟨x,xs,rfl,Xw M.1 g1,ih M.2 g2⟩
 have hget:∀ k o,(E7 fr 0 h)[k]? = some o->o≠.hid->zK zs k=none/\∃ o',h[k]? = some o'/\o=(match o' with
  |.gl e n f ty=>match Mr fr k with|some r=>AD.gl e n r.g ty|none=>.gl e n f ty
  |o=>o):=λk o hk ho=>by
  rw[aAr,DZ]at hk;cases hg:h[k]? with
  |none=>rw[hg]at hk;cases hk
  |some o'=>
    rw[hg]at hk;simp[DK,Ak,My]at hk;cases hv:zK zs k with
    |some v=>rw[hv]at hk;exact(ho hk.symm).elim|none=>rw[hv]at hk;exact⟨rfl,o',rfl,hk.symm⟩
 have hlive:∀ k,bp (E7 fr 0 h) k->zK zs k=none/\bp h k:=λk hk=>by
  rcases gz hk with ⟨cs,ty,g⟩|⟨e,n,f,ty,g⟩
  ·let ⟨M,o',Q,h3⟩:=hget k _ g au
   refine⟨M,?_⟩;cases o' with
   |cells cs' ty'=>exact eJ Q|gl e n f ty=>exact iq Q|dead=>cases h3|hid=>cases h3
  ·let ⟨M,o',Q,h3⟩:=hget k _ g au
   refine⟨M,?_⟩;cases o' with
   |cells cs' ty'=>exact eJ Q|gl e n f ty=>exact iq Q|dead=>cases h3|hid=>cases h3
 refine⟨ν1,nV,nS,Ao.of hsub _,hs.mono hsub,⟨λk o hk=>?_,λk k' x x' M Q=>hr.inj k k' x x' (hlive k M).2 (hlive k' Q).2,λk hk=>hr.dom k ?_,hr.rng,Zu,λk x hk hx=>?_⟩⟩
 ·by_cases ho:o=.hid
  ·subst ho;trivial
  ·let ⟨M,o',Q,h3⟩:=hget k o hk ho
   have hb:=hr.blk k o' Q;cases o' with
   |cells cs ty=>subst h3;exact d8 hsub au (λb az ty g _=>g) hb|dead=>subst h3;exact hb|hid=>subst h3;trivial
   |gl e n f ty=>
     cases oV:Mr fr k with
     |none=>rw[oV]at h3;subst h3;exact d8 hsub au (λb az ty g _=>g) hb
     |some r=>
       rw[oV]at h3;subst h3
       let ⟨e',ty',g⟩:=an2 hf oV
       rw[Q]at g;simp[Ak,AD.gl.injEq]at g;obtain⟨_,rfl,rfl,_⟩:=g;rcases hb with ⟨k1,k2⟩|⟨b,c,az,k1,k2,k3,k4,k5⟩
       ·exact .inl ⟨k1,k2⟩
       ·refine .inr ⟨b,c,az,k1,k2,k3,k4,λi hi=>?_⟩;obtain⟨q1,q2⟩:=k5 i hi;unfold nX at q1 ⊢;simp only[Ae]at q1 ⊢;obtain⟨p1,p2⟩:=aAu (r.ok i hi) q1.2;exact⟨⟨by rw[p1];exact q1.1,p2⟩,hfrs (r.ok i hi) q2⟩
 ·have hl:(E7 fr 0 h).length=h.length:=by
   have gen:∀ (l:List AD) (b:Nat),(E7 fr b l).length=l.length:=λl=>by
    induction l with
    |nil=>intro b;rfl|cons o l ih=>intro b;simp[E7,ih]
   exact gen h 0
  omega
 ·let ⟨M,Q⟩:=hlive k hk
  have SP:ν k=some (some x):=hx;have g1:=hr.zn k x Q SP;show isCells z1[x.1]? = false;rw[z1get];cases hl:lh[x.1]? with
  |none=>rfl
  |some o=>
    simp[DK];rw[AU]
    ·rfl
    ·rintro (g2|⟨v,x',hv,g2,g3⟩)
     ·rw[g1]at g2;cases g2
     ·let ⟨ty,RX⟩:=hB v hv
      have:=hr.inj v.k k x' x (iq RX) Q g2 SP g3;rw[← this]at M;exact R78 hv M
end
inductive RT (Pe:Type) where|ret (v:V)|next (ρ:o7) (s:Pe) (vf:List VF)|enter (ρ:o7) (s:Pe) (vf:List VF)|nextz (zs:List VF) (fr:List (FR zs)) (ρ:o7) (s:Pe) (vf:List VF)|enterz (zs:List VF) (fr:List (FR zs)) (ρ:o7) (s:Pe) (vf:List VF)|br (b:Bool) (x y:RT Pe)|brt (x:RT Pe)|brf (y:RT Pe)|brx (b:Bool) (x:RT Pe)|bry (b:Bool) (y:RT Pe)|ob (b:Bool) (x:RT Pe)|obt (x:RT Pe)|obv (b:Bool) (h:b=true) (x:RT Pe)|obi (x:RT Pe)|obj (c b:Bool) (x:RT Pe)|obc (x:RT Pe)|obp (p:Prop) (x:RT Pe)|obe (ts:List Ty) (ds:List V) (x:RT Pe)|und (x y:RT Pe)|asm (p:Prop) (x:RT Pe)|all (f:Nat->RT Pe)|fail
structure LD (J Pe:Type) where
 id:Pe->J
 lp:J->Lp J
 inv:Pe->bT×List AD×Option Ex
inductive FT (J:Type) where|res (v:V)|head (j:J) (g:Option Ex) (ok:Bool) (e:bT) (h:List AD) (vs:List (Nat×Nat×(Nat->List V)))|loop (fr:Nat×Nat) (b:AY) (k:Ex->bT->List AD->Option Ex->AN (cr J)) (g:Option Ex) (ok:Bool) (e:bT) (h:List AD) (vs:List (Nat×Nat×(Nat->List V)))|headz (c:Bool) (iza21:List (Option (Nat×Nat×(Nat->List V)))) (ybk:List (Option (Nat×(Nat->List V)))) (j:J) (g:Option Ex) (ok:Bool) (e:bT) (h:List AD) (vs:List (Nat×Nat×(Nat->List V)))|loopz (c:Bool) (iza21:List (Option (Nat×Nat×(Nat->List V)))) (ybk:List (Option (Nat×(Nat->List V)))) (fr:Nat×Nat) (b:AY) (k:Ex->bT->List AD->Option Ex->AN (cr J)) (g:Option Ex) (ok:Bool) (e:bT) (h:List AD) (vs:List (Nat×Nat×(Nat->List V)))|br (b:Bool) (x y:FT J)|brt (b:Bool) (x:FT J)|brf (b:Bool) (y:FT J)|brx (b:Bool) (x:FT J)|bry (b:Bool) (y:FT J)|ob (b:Bool) (x:FT J)|obt (b:Bool) (x:FT J)|obi (x:FT J)|obj (c b:Bool) (x:FT J)|obp (p:Prop) (x:FT J)|obe (a b:List V) (x:FT J)|und (x y:FT J)|asm (p:Prop) (x:FT J)|all (f:Nat->FT J)|fail (n:Nat)
section
variable {J Pe:Type}
def atl (a b:List V) (k:RT Pe->FT J):RT Pe->FT J
 |.obe _ _ x=>.obe a b (k x)|t=>k t
def arb (a b:List V) (k:RT Pe->AN (cr J)):RT Pe->AN (cr J)
 |.obe _ _ x=>.obq a b (k x)|t=>.obq a a (k t)
def fD (AI:LD J Pe):AN (cr J)->RT Pe->FT J
 |.ret (.res v),.ret _=>.res v|.ret (.head j e h g),.next ρ s vf=>.head j g (Ac ρ (AI.lp j).fr.2 (AI.inv s).2.1) (DV ρ e (AI.inv s).1) (DR ρ h vf 0 (AI.inv s).2.1) (ra ρ h vf)|.loop fr b e h g k,.enter ρ s vf=>.loop fr b k g (Ac ρ fr.2 (AI.inv s).2.1) (DV ρ e (AI.inv s).1) (DR ρ h vf 0 (AI.inv s).2.1) (ra ρ h vf)|.ret (.head j e h g),.nextz zs fz ρ s vf=>.headz (VD zs) (Mx h zs) (Ml h fz) j g (Ac ρ (AI.lp j).fr.2 (AI.inv s).2.1) (DV ρ e (AI.inv s).1) (DR ρ (E7 fz 0 h) vf 0 (AI.inv s).2.1) (ra ρ (E7 fz 0 h) vf)|.loop fr b e h g k,.enterz zs fz ρ s vf=>.loopz (VD zs) (Mx h zs) (Ml h fz) fr b k g (Ac ρ fr.2 (AI.inv s).2.1) (DV ρ e (AI.inv s).1) (DR ρ (E7 fz 0 h) vf 0 (AI.inv s).2.1) (ra ρ (E7 fz 0 h) vf)|.br b x y,.br _ x' y'=>.br b (fD AI x x') (fD AI y y')|.br b x _,.brt x'=>.brt b (fD AI x x')|.br b _ y,.brf y'=>.brf b (fD AI y y')|.br b x _,.brx _ x'=>.brx b (fD AI x x')|.br b _ y,.bry _ y'=>.bry b (fD AI y y')|.ob b x,.ob _ x'=>.ob b (fD AI x x')|.ob b x,.obt x'=>.obt b (fD AI x x')|.ob b x,.obv _ _ x'=>.ob b (fD AI x x')|.obp p x,.obc x'=>.obp p (fD AI x x')|.obi _ d x,.obt x'=>.obt d (fD AI x x')|.obi _ d x,.ob _ x'=>.ob d (fD AI x x')|.obi _ d x,.obv _ _ x'=>.ob d (fD AI x x')|.obi _ _ x,.obi x'=>.obi (fD AI x x')|.obi c d x,.obj _ _ x'=>.obj c d (fD AI x x')|.obp p x,.obp _ x'=>.obp p (fD AI x x')|.obq a b x,t=>atl a b (fD AI x) t|.und x y,.und x' y'=>.und (fD AI x x') (fD AI y y')|.asm p x,.asm _ x'=>.asm p (fD AI x x')|.all f,.all g=>.all λl=>fD AI (f l) (g l)
 |.fail _,.fail=>.fail 1|_,_=>.fail 0
def cQ:AN (cr J)->RT Pe->AN (cr J)
 |.br b x y,.br _ x' y'=>.br b (cQ x x') (cQ y y')|.br b x y,.brt x'=>.br b (cQ x x') y|.br b x y,.brf y'=>.br b x (cQ y y')|.br b x y,.brx _ x'=>.br b (cQ x x') y|.br b x y,.bry _ y'=>.br b x (cQ y y')|.ob b x,.ob _ x'=>.ob b (cQ x x')|.ob b x,.obt x'=>.ob b (cQ x x')|.ob b x,.obv _ _ x'=>.ob b (cQ x x')|.obp p x,.obp _ x'=>.obp p (cQ x x')|.obp p x,.obc x'=>.obp p (cQ x x')|.obi c d x,.obt x'=>.obi c d (cQ x x')|.obi c d x,.ob _ x'=>.obi c d (cQ x x')|.obi c d x,.obv _ _ x'=>.obi c d (cQ x x')|.obi c _ x,.obi x'=>.obi c c (cQ x x')|.obi c d x,.obj _ _ x'=>.obi c d (cQ x x')|.obq a b x,t=>arb a b (cQ x) t|.und x y,.und x' y'=>.und (cQ x x') (cQ y y')|.asm p x,.asm _ x'=>.asm p (cQ x x')|.all f,.all g=>.all λl=>cQ (f l) (g l)
 |t,_=>t
def o6 (AI:LD J Pe):RT Pe->FT J
 |.ret v=>.res v|.next _ s vf=>.head (AI.id s) (AI.inv s).2.2 true (AI.inv s).1 (AI.inv s).2.1 (qZ vf)|.enter _ s vf=>.loop (AI.lp (AI.id s)).fr (AI.lp (AI.id s)).body (AI.lp (AI.id s)).k (AI.inv s).2.2 true (AI.inv s).1 (AI.inv s).2.1 (qZ vf)|.nextz zs fz _ s vf=>.headz true (uD zs) (Mu fz) (AI.id s) (AI.inv s).2.2 true (AI.inv s).1 (AI.inv s).2.1 (qZ vf)|.enterz zs fz _ s vf=>.loopz true (uD zs) (Mu fz) (AI.lp (AI.id s)).fr (AI.lp (AI.id s)).body (AI.lp (AI.id s)).k (AI.inv s).2.2 true (AI.inv s).1 (AI.inv s).2.1 (qZ vf)|.br b x y=>.br b (o6 AI x) (o6 AI y)|.brt x=>.brt true (o6 AI x)|.brf y=>.brf false (o6 AI y)|.brx b x=>.brx b (o6 AI x)|.bry b y=>.bry b (o6 AI y)|.ob b x=>.ob b (o6 AI x)|.obt x=>.obt true (o6 AI x)|.obv b _ x=>.ob b (o6 AI x)|.obi x=>.obi (o6 AI x)|.obj c b x=>.obj c b (o6 AI x)|.obc x=>.obp True (o6 AI x)|.obp p x=>.obp p (o6 AI x)|.obe ts ds x=>.obe (l9 ts ds []) (ma ts ds []) (o6 AI x)|.und x y=>.und (o6 AI x) (o6 AI y)|.asm p x=>.asm p (o6 AI x)|.all f=>.all λl=>o6 AI (f l)
 |.fail=>.fail 1
def aU (Nx:Pe->V->Prop):RT Pe->V->Prop
 |.ret v,r=>dj v=dj r|.next _ s _,r=>Nx s r|.enter _ s _,r=>Nx s r|.nextz _ _ _ s _,r=>Nx s r|.enterz _ _ _ s _,r=>Nx s r|.br b x y,r=>(b=true->aU Nx x r)/\(b=false->aU Nx y r)|.brt x,r=>aU Nx x r|.brf y,r=>aU Nx y r|.brx b x,r=>b=true/\aU Nx x r|.bry b y,r=>b=false/\aU Nx y r|.ob b x,r=>b=true/\aU Nx x r|.obt x,r=>aU Nx x r|.obv _ _ x,r=>aU Nx x r|.obi x,r=>aU Nx x r|.obj c b x,r=>(c=true->b=true)/\aU Nx x r|.obc x,r=>aU Nx x r|.obp p x,r=>p/\aU Nx x r|.obe ts ds x,r=>l9 ts ds []=ma ts ds []/\aU Nx x r|.und x y,r=>aU Nx x r/\aU Nx y r|.asm p x,r=>p->aU Nx x r|.all f,r=>∀l,aU Nx (f l) r|.fail,_=>False
def uc (step:Pe->RT Pe):Nat->Pe->V->Prop
 |0,_,_=>False|n+1,s,r=>aU (uc step n) (step s) r
def Ev (step:Pe->RT Pe) (s:Pe) (r:V):Prop:=∃n,uc step n s r
theorem yS {Nx bb2:Pe->V->Prop} {r:V} (h:∀ s,Nx s r->bb2 s r):∀ t:RT Pe,aU Nx t r->aU bb2 t r:=by
 intro t;induction t with
 |ret v=>exact id|next ρ s vf=>exact h s|enter ρ s vf=>exact h s|nextz zs fz ρ s vf=>exact h s|enterz zs fz ρ s vf=>exact h s|br b x y hx hy=>exact λk=>⟨λe=>hx (k.1 e),λe=>hy (k.2 e)⟩
 |brt x hx=>exact hx|brf y hy=>exact hy|brx b x hx=>exact λk=>⟨k.1,hx k.2⟩
 |bry b y hy=>exact λk=>⟨k.1,hy k.2⟩
 |ob b x hx=>exact λk=>⟨k.1,hx k.2⟩
 |obt x hx=>exact hx|obv b h x hx=>exact hx|obi x hx=>exact hx|obj c b x hx=>exact λk=>⟨k.1,hx k.2⟩
 |obc x hx=>exact hx|obp p x hx=>exact λk=>⟨k.1,hx k.2⟩
 |obe a b x hx=>exact λk=>⟨k.1,hx k.2⟩
 |und x y hx hy=>exact λk=>⟨hx k.1,hy k.2⟩
 |asm p x hx=>exact λk hp=>hx (k hp)
 |all f hf=>exact λk l=>hf l (k l)
 |fail=>exact id
theorem Run {step:Pe->RT Pe} {r:V}:∀ {n:Nat} {s:Pe},uc step n s r->uc step (n+1) s r
 |0,s,h=>h.elim|n+1,s,h=>yS (λs hs=>Run hs) _ h
theorem yi {step:Pe->RT Pe} {r:V} {n m:Nat} {s:Pe} (h:uc step n s r) (hm:n<=m):uc step m s r:=by
 induction hm with
 |refl=>exact h|step _ ih=>exact Run ih
section
variable {Nx:Pe->V->Prop} {r:V}
theorem AF {v:V} (h:dj v=dj r):aU Nx (.ret v) r:=h
theorem AP {b:Bool} {x y:RT Pe} (M:b=true->aU Nx x r) (Q:b=false->aU Nx y r):aU Nx (.br b x y) r:=⟨M,Q⟩
theorem dX {x:RT Pe} (h:aU Nx x r):aU Nx (.brt x) r:=h
theorem gQ {x:RT Pe} (h:aU Nx x r):aU Nx (.brf x) r:=h
theorem asU {b:Bool} {x:RT Pe} (M:b=true) (h:aU Nx x r):aU Nx (.brx b x) r:=⟨M,h⟩
theorem ac3 {b:Bool} {x:RT Pe} (M:b=false) (h:aU Nx x r):aU Nx (.bry b x) r:=⟨M,h⟩
theorem fy12 {b:Bool} (h:b=false):(!b)=true:=by rw[h];rfl
theorem fy11 {b:Bool} (h:b=true):(!b)=false:=by rw[h];rfl
theorem wc {b:Bool} (h:(!b)=false):b=true:=by cases b;cases h;rfl
theorem Mq {b:Bool} (h:(!b)=true):b=false:=by cases b;rfl;cases h
theorem aF {b:Bool} {x:RT Pe} (M:b=true) (Q:aU Nx x r):aU Nx (.ob b x) r:=⟨M,Q⟩
theorem ac {x:RT Pe} (h:aU Nx x r):aU Nx (.obt x) r:=h
theorem aqo {b:Bool} {hb:b=true} {x:RT Pe} (h:aU Nx x r):aU Nx (.obv b hb x) r:=h
theorem AE {x:RT Pe} (h:aU Nx x r):aU Nx (.obi x) r:=h
theorem Ba {c b:Bool} {x:RT Pe} (M:c=true->b=true) (Q:aU Nx x r):aU Nx (.obj c b x) r:=⟨M,Q⟩
theorem AM {x:RT Pe} (h:aU Nx x r):aU Nx (.obc x) r:=h
theorem aI {p:Prop} {x:RT Pe} (M:p) (Q:aU Nx x r):aU Nx (.obp p x) r:=⟨M,Q⟩
theorem adn {ts:List Ty} {ds:List V} {x:RT Pe} (M:l9 ts ds []=ma ts ds []) (Q:aU Nx x r):aU Nx (.obe ts ds x) r:=⟨M,Q⟩
theorem arC {x y:RT Pe} (M:aU Nx x r) (Q:aU Nx y r):aU Nx (.und x y) r:=⟨M,Q⟩
theorem Af {p:Prop} {x:RT Pe} (h:p->aU Nx x r):aU Nx (.asm p x) r:=h
theorem bC {p:Prop} {x:RT Pe} (h:p->aU Nx x r):aU Nx (.asm (true=true->p) x) r:=λk=>h (k rfl)
theorem Ar {f:Nat->RT Pe} (h:∀l,aU Nx (f l) r):aU Nx (.all f) r:=h
theorem aH {ρ:o7} {s:Pe} {vf:List VF} (h:Nx s r):aU Nx (.enter ρ s vf) r:=h
theorem aK {ρ:o7} {s:Pe} {vf:List VF} (h:Nx s r):aU Nx (.next ρ s vf) r:=h
end
def fL:RT Pe->Bool
 |.br _ x y=>fL x&&fL y|.brt x=>fL x|.brf y=>fL y|.brx _ x=>fL x|.bry _ y=>fL y|.ob _ x=>fL x|.obt x=>fL x|.obv _ _ x=>fL x|.obi x=>fL x|.obj _ _ x=>fL x|.obc x=>fL x|.obp _ x=>fL x|.obe _ _ x=>fL x|.und x y=>fL x&&fL y|.asm _ x=>fL x|.all _=>false|_=>true
theorem agL {step:Pe->RT Pe} {r:V}:∀ t:RT Pe,fL t=true->aU (Ev step) t r->∃ n,aU (uc step n) t r:=by
 intro t;induction t with
 |ret v=>exact λ_ h=>⟨0,h⟩
 |next ρ s vf=>exact λ_ ⟨n,h⟩=>⟨n,h⟩
 |enter ρ s vf=>exact λ_ ⟨n,h⟩=>⟨n,h⟩
 |nextz zs fz ρ s vf=>exact λ_ ⟨n,h⟩=>⟨n,h⟩
 |enterz zs fz ρ s vf=>exact λ_ ⟨n,h⟩=>⟨n,h⟩
 |br b x y hx hy=>
   intro h0 h;simp[fL,Ae]at h0;cases b with
   |true=>let ⟨n,hn⟩:=hx h0.1 (h.1 rfl);exact⟨n,λ_=>hn,λe=>by cases e⟩
   |false=>let ⟨n,hn⟩:=hy h0.2 (h.2 rfl);exact⟨n,(λe=>by cases e),λ_=>hn⟩
 |brt x hx=>exact λh0 h=>hx h0 h
 |brf y hy=>exact λh0 h=>hy h0 h
 |brx b x hx=>exact λh0 h=>let ⟨n,hn⟩:=hx h0 h.2;⟨n,h.1,hn⟩
 |bry b y hy=>exact λh0 h=>let ⟨n,hn⟩:=hy h0 h.2;⟨n,h.1,hn⟩
 |ob b x hx=>exact λh0 h=>let ⟨n,hn⟩:=hx h0 h.2;⟨n,h.1,hn⟩
 |obt x hx=>exact λh0 h=>hx h0 h
 |obv b h x hx=>exact λh0 h=>hx h0 h
 |obi x hx=>exact λh0 h=>hx h0 h
 |obj c b x hx=>exact λh0 h=>let ⟨n,hn⟩:=hx h0 h.2;⟨n,h.1,hn⟩
 |obc x hx=>exact λh0 h=>hx h0 h
 |obp p x hx=>exact λh0 h=>let ⟨n,hn⟩:=hx h0 h.2;⟨n,h.1,hn⟩
 |obe a b x hx=>exact λh0 h=>let ⟨n,hn⟩:=hx h0 h.2;⟨n,h.1,hn⟩
 |und x y hx hy=>
   intro h0 h;simp[fL,Ae]at h0
   let ⟨n,hn⟩:=hx h0.1 h.1
   let ⟨m,hm⟩:=hy h0.2 h.2
   exact⟨max n m,yS (λs hs=>yi hs (Nat.le_max_left _ _)) _ hn,yS (λs hs=>yi hs (Nat.le_max_right _ _)) _ hm⟩
 |asm p x hx=>
   intro h0 h;by_cases hp:p
   ·let ⟨n,hn⟩:=hx h0 (h hp);exact⟨n,λ_=>hn⟩
   ·exact⟨0,λk=>(hp k).elim⟩
 |all f hf=>intro h0;cases h0|fail=>exact λ_ h=>h.elim
theorem Ev.of {step:Pe->RT Pe} {s:Pe} {r:V} (h0:fL (step s)=true) (h:aU (Ev step) (step s) r):Ev step s r :=
 let ⟨n,hn⟩:=agL _ h0 h;⟨n+1,hn⟩
theorem CZ {w0:World} {LP:fE} {AI:LD J Pe} {Pg:cr J->Prop} {Nx:Pe->V->Prop} {r:V} (hres:∀ v,dj v=dj r->Pg (.res v))
 (hhead:∀s e h,Nx s r->lM w0 (AI.lp (AI.id s)).fr.2 e h (AI.inv s).1 (AI.inv s).2.1->Pg (.head (AI.id s) e h (AI.inv s).2.2))
 (hloop:∀s e h,Nx s r->lM w0 (AI.lp (AI.id s)).fr.2 e h (AI.inv s).1 (AI.inv s).2.1->LP (AI.lp (AI.id s)).fr (AI.lp (AI.id s)).body e h (AI.inv s).2.2 λx e h g=>bU LP ((AI.lp (AI.id s)).k x e h g) Pg) :
 ∀(t:AN (cr J)) (rt:RT Pe),fD AI t rt=o6 AI rt->cQ t rt=t->aU Nx rt r->bU LP t Pg:=by
 intro t;induction t with
 |ret a=>
   intro rt hf _ hr;cases a with
   |res v=>cases rt<;>simp only[fD,o6]at hf<;>cases hf;exact hres _ hr
   |head j e h g=>
     cases rt<;>simp only[fD,o6]at hf<;>first|(cases hf;done)|skip
     ·simp only[FT.head.injEq]at hf;obtain⟨rfl,rfl,M,Q,h3,h4⟩:=hf;exact hhead _ e h hr (wX w0 M Q h3 h4)
     ·simp only[FT.headz.injEq]at hf;obtain⟨hc,hz,Xw,rfl,rfl,M,Q,h3,h4⟩:=hf;exact hhead _ e h hr ((awj w0 hc hz Xw).trans (wX w0 M Q h3 h4))
 |br b x y hx hy=>
   intro rt hf hs hr;cases rt<;>simp only[fD,o6]at hf<;>first|(cases hf;done)|skip
   ·simp only[FT.br.injEq]at hf;simp only[cQ,AN.br.injEq,D5]at hs;obtain⟨rfl,M,Q⟩:=hf;exact⟨λe=>hx _ M hs.1 (hr.1 e),λe=>hy _ Q hs.2 (hr.2 e)⟩
   ·simp only[FT.brt.injEq]at hf;simp only[cQ,AN.br.injEq,D5]at hs;obtain⟨rfl,M⟩:=hf;exact⟨λe=>hx _ M hs.1 hr,λe=>by cases e⟩
   ·simp only[FT.brf.injEq]at hf;simp only[cQ,AN.br.injEq,D5]at hs;obtain⟨rfl,M⟩:=hf;exact⟨(λe=>by cases e),λe=>hy _ M hs hr⟩
   ·simp only[FT.brx.injEq]at hf;simp only[cQ,AN.br.injEq,D5]at hs;obtain⟨rfl,M⟩:=hf;exact⟨λe=>hx _ M hs.1 hr.2,λe=>by rw[hr.1]at e;cases e⟩
   ·simp only[FT.bry.injEq]at hf;simp only[cQ,AN.br.injEq,D5]at hs;obtain⟨rfl,M⟩:=hf;exact⟨(λe=>by rw[hr.1]at e;cases e),λe=>hy _ M hs hr.2⟩
 |ob b x hx=>
   intro rt hf hs hr;cases rt<;>simp only[fD,o6]at hf<;>first|(cases hf;done)|skip
   ·simp only[FT.ob.injEq]at hf;simp only[cQ,AN.ob.injEq,D5]at hs;obtain⟨rfl,M⟩:=hf;exact⟨hr.1,hx _ M hs hr.2⟩
   ·simp only[FT.obt.injEq]at hf;simp only[cQ,AN.ob.injEq,D5]at hs;obtain⟨rfl,M⟩:=hf;exact⟨rfl,hx _ M hs hr⟩
   ·rename_i b' QX x';simp only[FT.ob.injEq]at hf;simp only[cQ,AN.ob.injEq,D5]at hs;obtain⟨rfl,M⟩:=hf;exact⟨QX,hx _ M hs hr⟩
 |obp p x hx=>
   intro rt hf hs hr;cases rt<;>simp only[fD,o6]at hf<;>first|(cases hf;done)|skip
   ·simp only[FT.obp.injEq]at hf;simp only[cQ,AN.obp.injEq,D5]at hs;obtain⟨rfl,M⟩:=hf;exact⟨trivial,hx _ M hs hr⟩
   ·simp only[FT.obp.injEq]at hf;simp only[cQ,AN.obp.injEq,D5]at hs;obtain⟨rfl,M⟩:=hf;exact⟨hr.1,hx _ M hs hr.2⟩
 |obi c d x hx=>
   intro rt hf hs hr;cases rt<;>simp only[fD,o6]at hf<;>first|(cases hf;done)|skip
   ·simp only[FT.ob.injEq]at hf;simp only[cQ,AN.obi.injEq,D5]at hs;obtain⟨rfl,M⟩:=hf;exact⟨λ_=>hr.1,hx _ M hs hr.2⟩
   ·simp only[FT.obt.injEq]at hf;simp only[cQ,AN.obi.injEq,D5]at hs;obtain⟨rfl,M⟩:=hf;exact⟨λ_=>rfl,hx _ M hs hr⟩
   ·rename_i b' QX x';simp only[FT.ob.injEq]at hf;simp only[cQ,AN.obi.injEq,D5]at hs;obtain⟨rfl,M⟩:=hf;exact⟨λ_=>QX,hx _ M hs hr⟩
   ·simp only[FT.obi.injEq]at hf;simp only[cQ,AN.obi.injEq,D5]at hs;obtain⟨h0,M⟩:=hs;subst h0;exact⟨id,hx _ hf M hr⟩
   ·simp only[FT.obj.injEq]at hf;simp only[cQ,AN.obi.injEq,D5]at hs;obtain⟨rfl,rfl,M⟩:=hf;exact⟨hr.1,hx _ M hs hr.2⟩
 |obq a b x hx=>
   intro rt hf hs hr;have gen:atl a b (fD AI x) rt=fD AI x rt->arb a b (cQ x) rt=.obq a a (cQ x rt)->bU LP (.obq a b x) Pg:=λe1 e2=>by have Ra:AN.obq a a (cQ x rt)=AN.obq a b x:=e2.symm.trans hs;simp only[AN.obq.injEq,D5]at Ra;exact⟨Ra.1,hx _ (e1.symm.trans hf) Ra.2 hr⟩
   cases rt<;>first|exact gen rfl rfl|skip
   rename_i ts ds x';have Zk:FT.obe a b (fD AI x x')=FT.obe (l9 ts ds []) (ma ts ds []) (o6 AI x'):=hf;have Ra:AN.obq a b (cQ x x')=AN.obq a b x:=hs;simp only[FT.obe.injEq]at Zk;simp only[AN.obq.injEq,D5]at Ra;obtain⟨rfl,rfl,M⟩:=Zk;exact⟨hr.1,hx _ M Ra hr.2⟩
 |fail n=>intro rt hf hs hr;cases rt<;>simp only[fD,o6]at hf<;>first|(cases hf;done)|exact hr.elim
 |loop fr b e h g k hk=>
   intro rt hf hs hr;cases rt<;>simp only[fD,o6]at hf<;>first|(cases hf;done)|skip
   ·simp only[FT.loop.injEq]at hf;obtain⟨rfl,rfl,rfl,rfl,M,Q,h3,h4⟩:=hf;exact hloop _ e h hr (wX w0 M Q h3 h4)
   ·simp only[FT.loopz.injEq]at hf;obtain⟨hc,hz,Xw,rfl,rfl,rfl,rfl,M,Q,h3,h4⟩:=hf;exact hloop _ e h hr ((awj w0 hc hz Xw).trans (wX w0 M Q h3 h4))
 |all f ip12=>
   intro rt hf hs hr;cases rt<;>simp only[fD,o6]at hf<;>first|(cases hf;done)|skip
   simp only[FT.all.injEq]at hf;simp only[cQ,AN.all.injEq]at hs;exact λl=>ip12 l _ (congrFun hf l) (congrFun hs l) (hr l)
 |und x y hx hy=>
   intro rt hf hs hr;cases rt<;>simp only[fD,o6]at hf<;>first|(cases hf;done)|skip
   simp only[FT.und.injEq]at hf;simp only[cQ,AN.und.injEq]at hs;exact⟨hx _ hf.1 hs.1 hr.1,hy _ hf.2 hs.2 hr.2⟩
 |asm p x hx=>
   intro rt hf hs hr;cases rt<;>simp only[fD,o6]at hf<;>first|(cases hf;done)|skip
   simp only[FT.asm.injEq]at hf;simp only[cQ,AN.asm.injEq,D5]at hs;obtain⟨rfl,M⟩:=hf;exact λhp=>hx _ M hs (hr hp)
def LF (ct:bo) (un:l7) (j:J) (l:Lp J) (e:bT) (h:List AD) (g:Option Ex):AN (cr J) :=
 match l.body with
 |.s body=>gw (vj (oQ ct l.fr.1) (ot ct) un l.fr 0 body e h λx e h=>.ret (x,e,h)) λr=>match r.1 with|.normal=>.ret (.head j r.2.1 r.2.2 none)|x=>l.k x r.2.1 r.2.2 none
 |.i body rd=>gw (oE (oQ ct l.fr.1) (ot ct) un l.fr rd (JK (oQ ct l.fr.1) (ot ct) un l.fr.1 0 rd) 0 body e h g λx e h g=>.ret (x,e,h,g)) λr=>match r.1 with|.normal=>.ret (.head j r.2.1 r.2.2.1 r.2.2.2)|x=>l.k x r.2.1 r.2.2.1 r.2.2.2
def LN (ct:bo) (un:l7) (AI:LD J Pe) (s:Pe):AN (cr J):=LF ct un (AI.id s) (AI.lp (AI.id s)) (AI.inv s).1 (AI.inv s).2.1 (AI.inv s).2.2
def QN (w0:World) (AI:LD J Pe) (step:Pe->RT Pe) (r:V) (n:Nat):cr J->Prop
 |.res v=>dj v=dj r|.head j e h g=>∃s,AI.id s=j/\(AI.inv s).2.2=g/\lM w0 (AI.lp (AI.id s)).fr.2 e h (AI.inv s).1 (AI.inv s).2.1/\uc step n s r
theorem w9 {w0:World} {AI:LD J Pe} {step:Pe->RT Pe} {r:V} {n m:Nat} (hm:n<=m):∀ a,QN w0 AI step r n a->QN w0 AI step r m a
 |.res v,h=>h|.head j e h g,⟨s,M,Q,h3,h4⟩=>⟨s,M,Q,h3,yi h4 hm⟩
theorem aiC {w0:World} {Pe:Ep} {fr:Nat×Nat} {body:hU} {e:bT} {h:List AD} {g:Option Ex} {P:Ex->bT->List AD->Option Ex->Prop} (hl:dM w0 Pe (fr.1,fr.2) (.s body) e h none P):dM w0 Pe fr (.s body) e h g P:=hl
theorem aoD {ct:bo} {un:l7} {w0:World} (hd:qQ ct=true) {AI:LD J Pe} {step:Pe->RT Pe} {r:V} (hs:∀ s,fD AI (LN ct un AI s) (step s)=o6 AI (step s)) (hq:∀ s,cQ (LN ct un AI s) (step s)=LN ct un AI s) :
 ∀(n:Nat) (s:Pe) (e:bT) (h:List AD),uc step n s r->lM w0 (AI.lp (AI.id s)).fr.2 e h (AI.inv s).1 (AI.inv s).2.1 ->
 dM w0 (SV ct) (AI.lp (AI.id s)).fr (AI.lp (AI.id s)).body e h (AI.inv s).2.2 λx e h g=>bU (dM w0 (SV ct)) ((AI.lp (AI.id s)).k x e h g) (QN w0 AI step r n):=by
 intro n;induction n using Nat.strongRecOn with
 |ind n ih=>
   intro s e h hn hsub;have key:∀ (p:Nat) (s':Pe),p<=n->uc step p s' r->∃ m,p=m+1/\bU (dM w0 (SV ct)) (LN ct un AI s') (QN w0 AI step r m):=by
    intro p s' hp he
    match p,hp,he with
    |0,_,he=>exact he.elim
    |m+1,hp,he=>exact⟨m,rfl,CZ (w0:=w0) (Nx:=uc step m) (λv hv=>hv) (λs e h M Q=>⟨s,rfl,rfl,Q,M⟩) (λs e h M Q=>ih m K s e h M Q) _ _ (hs s') (hq s') he⟩
   generalize hj:AI.id s=j at *
   match hb:(AI.lp j).body with
   |.s body=>
     refine aiC (apC (un:=un) hd 0 {p:Nat×Pe // p.1<=n/\uc step p.1 p.2 r/\AI.id p.2=j} (λp=>((AI.inv p.1.2).1,(AI.inv p.1.2).2.1)) (λp=>p.1.1) ⟨⟨(n,s),Ah _,hn,hj⟩,hsub⟩ ?_);rintro⟨⟨p,s'⟩,hp,he,SJ⟩
     let ⟨m,sJ,hk⟩:=key p s' hp he
     simp only at SJ hp sJ;unfold LN LF at hk;rw[SJ,hb]at hk;simp[afP]at hk;refine lI (iG _ _) (λa ha=>?_) _ hk
     let ⟨x,e',h'⟩:=a
     cases x with
     |normal=>
       let ⟨s2,g1,g2,g3,g4⟩:=ha
       rw[g1]at g3;exact⟨⟨(m,s2),K,g4,g1⟩,g3,by simp only;omega⟩
     |exit i=>exact lI (iG _ _) (w9 K) _ ha|ret=>exact lI (iG _ _) (w9 K) _ ha
   |.i body rd=>
     refine ai2 (un:=un) hd 0 0 {p:Nat×Pe // p.1<=n/\uc step p.1 p.2 r/\AI.id p.2=j} (λp=>AI.inv p.1.2) (λp=>p.1.1) ⟨⟨(n,s),Ah _,hn,hj⟩,rfl,hsub⟩ ?_;rintro⟨⟨p,s'⟩,hp,he,SJ⟩
     let ⟨m,sJ,hk⟩:=key p s' hp he
     simp only at SJ hp sJ;unfold LN LF at hk;rw[SJ,hb]at hk;simp[afP]at hk;refine lI (iG _ _) (λa ha=>?_) _ hk
     let ⟨x,e',h',g'⟩:=a
     cases x with
     |normal=>
       let ⟨s2,g1,g2,g3,g4⟩:=ha
       rw[g1]at g3;exact⟨⟨(m,s2),K,g4,g1⟩,g2.symm,g3,by simp only;omega⟩
     |exit i=>exact lI (iG _ _) (w9 K) _ ha|ret=>exact lI (iG _ _) (w9 K) _ ha
def aQ (J:Type) (ct:bo) (un:l7) (sf:aJ) (ds:List V):AN (cr J):=oZ (oQ ct LV) (ot ct) un LV sf ds [] λv _=>.ret (.res v)
def rz (r:V):cr J->Prop
 |.res v=>dj v=dj r|.head ..=>True
theorem afv {w0:World} {AI:LD J Pe} {step:Pe->RT Pe} {r:V} {n:Nat}:∀ a,QN w0 AI step r n a->rz r a
 |.res v,h=>h|.head ..,_=>trivial
theorem akn {ct:bo} {un:l7} {w0:World} (hd:qQ ct=true) {t:AN (cr J)} (AI:LD J Pe) (step:Pe->RT Pe) (m:RT Pe) {r:V} (M:fD AI t m=o6 AI m) (Q:cQ t m=t)
 (hs:∀s,fD AI (LN ct un AI s) (step s)=o6 AI (step s)) (hq:∀s,cQ (LN ct un AI s) (step s)=LN ct un AI s) (hr:aU (Ev step) m r):bU (dM w0 (SV ct)) t (rz r) :=
 CZ (w0:=w0) (Nx:=Ev step) (λv hv=>hv) (λ_ _ _ _ _=>trivial) (λs e h ⟨n,hn⟩ hsub=>iG _ _ _ _ _ _ _ _ _ (λx e h g hk=>lI (iG _ _) afv _ hk) (aoD hd hs hq n s e h hn hsub)) _ _ M Q hr
theorem C6 {ts:List Ty} (h:ts.all cD=true) (n:Nat) (f:be):dz n (λi=>nX (cj ts) (A ts f i))=true:=fQ λi _=>lc h _
def eX:AN (cr J)->Lp J
 |.loop fr b _ _ _ k=>⟨fr,b,k⟩|_=>⟨(0,0),.s .skip,λ_ _ _ _=>.fail 0⟩
def cX:LD J Empty:=⟨λs=>(Empty.elim s),λ_=>⟨(0,0),.s .skip,λ_ _ _ _=>.fail 0⟩,λs=>(Empty.elim s)⟩
def cN:Empty->V->Prop:=λs=>Empty.elim s
theorem io0 {ct:bo} {w0:World} (hd:qQ ct=true) {t:AN (cr J)} (m:RT Empty) {r:V} (M:fD cX t m=o6 cX m) (Q:cQ t m=t) (hr:aU cN m r):bU (dM w0 (SV ct)) t (rz r) :=
 CZ (w0:=w0) (Nx:=cN) (λv hv=>hv) (λs=>(Empty.elim s)) (λs=>(Empty.elim s)) _ _ M Q hr
def cV (AI:LD J Pe) (t:AN (cr J)) (m:RT Pe):Prop:=fD AI t m=o6 AI m/\cQ t m=t
def d0 (ct:bo) (un:l7) (AI:LD J Pe) (t:AN (cr J)) (m:RT Pe) (st:Pe->RT Pe):Prop:=cV AI t m/\∀s,cV AI (LN ct un AI s) (st s)
def Ie (ct:bo) (t:AN (cr J)) (r:V):Prop:=qQ ct=true->∀w0,bU (dM w0 (SV ct)) t (rz r)
theorem c7 {ct:bo} {t:AN (cr J)} {m:RT Empty} {r:V} (h:cV cX t m) (hr:aU cN m r):Ie ct t r:=λhd _=>io0 hd m h.1 h.2 hr
theorem kt {ct:bo} {un:l7} {AI:LD J Pe} {t:AN (cr J)} {m:RT Pe} {st:Pe->RT Pe} {r:V} (h:d0 ct un AI t m st) (hr:aU (Ev st) m r):Ie ct t r:=λhd _=>akn hd AI st m h.1.1 h.1.2 (λs=>(h.2 s).1) (λs=>(h.2 s).2) hr
inductive Cx where|i (n:Int)|n (n:Nat)|b (b:Bool)|s (s:ByteArray)|f (f:be)
def dw:List Cx->Nat->Int
 |.i n::_,0=>n|_::l,k+1=>dw l k|_,_=>0
def fX:List Cx->Nat->Nat
 |.n n::_,0=>n|_::l,k+1=>fX l k|_,_=>0
def lS:List Cx->Nat->Nat->List V
 |.f n::_,0=>n|_::l,k+1=>lS l k|_,_=>λ_=>[]
abbrev JJ:=Nat×List Cx
def Tk (J:Type) (e:Nat) (ty:TypeId) (ct:bo) (un:l7) (sf:aJ) (ds:List V):AN (cr J):=oZ (oQ ct LV) (ot ct) un LV sf ds [] λv h=>.ob (Mm h v) (.ret (.res (MB e ty h v)))
theorem G3 {P:Program} {AQ:List TypeId} {AS:List jc} {ct:bo} {f:FuncId} {fn:Func} {sf:aJ} {un:l7} {ts:List Ty} {pre:List V->Prop} {r:List V->V} (hT:ba P AQ AS ct) (hE:∀ t∈AQ,dL P t) (hI:mD P AQ AS) (hf:P.funcs[f]? = some fn)
 (hn : (fn.name == "runtime.NumGoroutine") = false) (hc : eS P AQ AS fn = some sf) (hd : gp sf.ntmps sf.body = true) (ho : gS ts = true)
 (h:∀w0 ds,pre (ap ts ds)->bU (dM w0 (SV ct)) (aQ J ct un sf (ap ts ds)) (rz (r (ap ts ds)))):(vP (bP ts pre r)).Ok P f :=
 jcl (α:=cr J) (K0:=λv=>.ret (.res v)) (Q0:=rz) (λ_ _ _ h=>h) hT hE hI hf hn hc hd ho h
theorem swF {P:Program} {AQ:List TypeId} {AS:List jc} {ct:bo} {f:FuncId} {fn:Func} {sf:aJ} {un:l7} {e:Nat} {ty:TypeId} {ts:List Ty} {pre:List V->Prop} {r:List V->V} (hT:ba P AQ AS ct) (hE:∀ t∈AQ,dL P t) (hI:mD P AQ AS) (hf:P.funcs[f]? = some fn)
 (hn : (fn.name == "runtime.NumGoroutine") = false) (hc : eS P AQ AS fn = some sf) (hd : gp sf.ntmps sf.body = true) (ho : gS ts = true)
 (h:∀w0 ds,pre (ap ts ds)->bU (dM w0 (SV ct)) (Tk J e ty ct un sf (ap ts ds)) (rz (r (ap ts ds)))):(vL e ty (bP ts pre r)).Ok P f :=
 ic0 (α:=cr J) (K0:=λv h=>.ob (Mm h v) (.ret (.res (MB e ty h v)))) (Q0:=rz) (λ_ _ _ _ h=>h) hT hE hI hf hn hc hd ho h
end
end Go.Dx
namespace Go.Sx
section
variable {P:Program} {m:aN}
theorem hij {t:TypeId} {k:IntKind} (ht:P.underlying t=some (.int k)) {us:Array Value} {i:Nat} {v:Value} (hv:us[i]? = some v) (w:World):(part t us i).run P w=.ok v w:=by
 unfold part;have hi:(isAgg t).run P w=.ok false w:=by unfold isAgg;rw[af (aP ht w)];rfl
 rw[af hi];simp only[Dy,Da,hv];rfl
end
end Go.Sx
namespace Go.Sx
def vl (P:Program) (PX:TypeId->Bool):List Field->Nat->Bool
 |[],_=>true
 |f :: fs, i => decide (f.name ≠ "_") && Nat.beq f.offset i && PX f.type && vl P PX fs (i + P.cellsOf f.type)
def Es (P:Program):List Field->Nat
 |[]=>0|f::fs=>P.cellsOf f.type+Es P fs
def nM (P:Program):Nat->TypeId->Bool
 |0,_=>false
 |d+1,t=>match P.underlying t with|some (.int _)=>Nat.beq (P.cellsOf t) 1|some (.array n e)=>Nat.beq (P.cellsOf t) (n*P.cellsOf e)&&nM P d e|some (.struct fs)=>Nat.beq (P.cellsOf t) (Es P fs.toList)&&!P.stoodInHeld t&&vl P (nM P d) fs.toList 0|_=>false
section
variable {P:Program} {m:aN}
theorem pG:∀ {xs ys:List ak} {b:Bool},cu xs ys=some b->ys.length=xs.length
 |[],[],_,_=>rfl|[],_::_,_,h=>by simp[cu]at h
 |x::xs,[],_,h=>by cases x<;>simp[cu]at h
 |x::xs,y::ys,_,h=>by
   cases x<;>try (simp[cu]at h;done)
   cases y<;>try (simp[cu]at h;done)
   simp only[cu]at h;split at h
   ·simp only[Bb]at h;obtain⟨b',hb,_⟩:=h;simp[pG hb]
   ·cases h
theorem m9:∀ (c:Nat) {xs ys:List ak} {b:Bool},cu xs ys=some b->∃ b1 b2,cu (xs.take c) (ys.take c)=some b1/\cu (xs.drop c) (ys.drop c)=some b2/\b=(b1&&b2)
 |0,xs,ys,b,h=>⟨true,b,by simp[cu],by simpa using h,au⟩|c+1,[],[],b,h=>⟨true,b,by simp[cu],by simpa using h,au⟩|c+1,[],_::_,b,h=>by simp[cu]at h
 |c+1,x::xs,[],b,h=>by cases x<;>simp[cu]at h
 |c+1,x::xs,y::ys,b,h=>by
   cases x<;>try (simp[cu]at h;done)
   cases y<;>try (simp[cu]at h;done)
   rename_i k a k' a';simp only[cu]at h;split at h
   ·rename_i hk;simp only[Bb]at h;obtain⟨b',hb,rfl⟩:=h;obtain⟨b1,b2,M,Q,rfl⟩:=m9 c hb;exact⟨(a==a')&&b1,b2,by simp[cu,hk,M],by simpa using Q,by rw[Bool.and_assoc]⟩
   ·cases h
def Ng (P:Program) (m:aN) (dd:Nat) (t:TypeId):Prop:=∀ (us vs:Array Value) (off:Nat) (xs ys:List ak) (b:Bool) (w:World),xs.length=P.cellsOf t->aE m xs ((us.toList.drop off).take (P.cellsOf t))->aE m ys ((vs.toList.drop off).take (P.cellsOf t))->cu xs ys=some b ->
 ∃a c,(part t us off).run P w=.ok a w/\(part t vs off).run P w=.ok c w/\(Op.equalIn dd t a c).run P w=.ok b w
theorem hi' {dd:Nat} {us vs:Array Value}:∀ (fs:List Field) (i:Nat) (xs ys:List ak) (b:Bool) (w:World),(∀ f∈fs,Ng P m dd f.type)->vl P (λ_=>true) fs i=true->xs.length=Es P fs->aE m xs ((us.toList.drop i).take (Es P fs))->aE m ys ((vs.toList.drop i).take (Es P fs))->cu xs ys=some b ->
 (Op.eqFields dd us vs fs).run P w=.ok b w
 |[],i,xs,ys,b,w,_,_,hl,_,_,hb=>by
   cases xs with
   |cons _ _=>simp[Es]at hl
   |nil=>cases ys with|nil=>simp[cu]at hb;subst hb;rfl|cons _ _=>simp[cu]at hb
 |f::fs,i,xs,ys,b,w,hq,hf,hl,hx,hy,hb=>by
   simp only[vl,Ae,DJ]at hf;obtain⟨⟨⟨M,Q⟩,_⟩,h4⟩:=hf;have ho:=Ap Q;simp only[Es]at hl hx hy;obtain⟨b1,b2,e1,e2,rfl⟩:=m9 (P.cellsOf f.type) hb;have S:=fM (P.cellsOf f.type) hx;have W:=gD (P.cellsOf f.type) hx;have y1:=fM (P.cellsOf f.type) hy;have y2:=gD (P.cellsOf f.type) hy;rw[Fc,IG K]at S y1;rw[J8,FA,Nat.add_sub_cancel_left]at W y2;obtain⟨a,c,r1,r2,r3⟩:=hq f au us vs i _ _ b1 w (by rw[Kb];omega) S y1 e1;simp only[Op.eqFields];rw[Ad M,ho,af r1,af r2,af r3];cases b1 with
   |false=>rfl|true=>exact hi' fs (i+P.cellsOf f.type) _ _ b2 w (λg hg=>hq g (by simp[hg])) h4 (by rw[Iz];omega) W y2 e2
theorem hi8 {dd:Nat} {e:TypeId} {us vs:Array Value} (hq:Ng P m dd e):∀ (n i:Nat) (xs ys:List ak) (b:Bool) (w:World),xs.length=n*P.cellsOf e->aE m xs ((us.toList.drop (i*P.cellsOf e)).take (n*P.cellsOf e))->aE m ys ((vs.toList.drop (i*P.cellsOf e)).take (n*P.cellsOf e))->cu xs ys=some b ->
 (Op.eqItems dd e (P.cellsOf e) us vs (List.range' i n)).run P w=.ok b w
 |0,i,xs,ys,b,w,hl,_,_,hb=>by
   cases xs with
   |cons _ _=>simp at hl
   |nil=>cases ys with|nil=>simp[cu]at hb;subst hb;rfl|cons _ _=>simp[cu]at hb
 |n+1,i,xs,ys,b,w,hl,hx,hy,hb=>by
   have hn:(n+1)*P.cellsOf e=P.cellsOf e+n*P.cellsOf e:=by rw[EP,Nat.one_mul,Ig]
   have hi:i*P.cellsOf e+P.cellsOf e=(i+1)*P.cellsOf e:=by rw[EP,Nat.one_mul]
   rw[hn]at hl hx hy;obtain⟨b1,b2,e1,e2,rfl⟩:=m9 (P.cellsOf e) hb;have S:=fM (P.cellsOf e) hx;have W:=gD (P.cellsOf e) hx;have y1:=fM (P.cellsOf e) hy;have y2:=gD (P.cellsOf e) hy;rw[Fc,IG K]at S y1;rw[J8,FA,Nat.add_sub_cancel_left,hi]at W y2;obtain⟨a,c,r1,r2,r3⟩:=hq us vs _ _ _ b1 w (by rw[Kb];omega) S y1 e1;rw[ID];simp only[Op.eqItems];rw[af r1,af r2,af r3];cases b1 with
   |false=>rfl|true=>exact hi8 hq n (i+1) _ _ b2 w (by rw[Iz];omega) W y2 e2
theorem R86 {PX:TypeId->Bool}:∀ {fs:List Field} {i:Nat},vl P PX fs i=true->(∀ f∈fs,PX f.type=true)/\vl P (λ_=>true) fs i=true
 |[],_,_=>⟨au,rfl⟩
 |f::fs,i,h=>by
   simp only[vl,Ae]at h ⊢;have k:=R86 h.2;exact⟨λg hg=>by
    rcases List.mem_cons.1 hg with rfl|hg
    ·exact h.1.2
    ·exact k.1 g hg,⟨⟨h.1.1,trivial⟩,k.2⟩⟩
theorem hmn:∀ (d dd:Nat) (t:TypeId),nM P d t=true->(∀ n e,P.underlying t=some (.array n e)->True)->d<=dd->∀ (us vs:Array Value) (xs ys:List ak) (b:Bool) (w:World),(match P.underlying t with|some (.array _ _)|some (.struct _)=>true|_=>false)=true->xs.length=P.cellsOf t->aE m xs (us.toList.take (P.cellsOf t))->aE m ys (vs.toList.take (P.cellsOf t))->cu xs ys=some b ->
 (Op.equalIn dd t (.agg us) (.agg vs)).run P w=.ok b w:=by
 intro d;induction d with
 |zero=>intro dd t h;cases h
 |succ d ih=>
   intro dd t h _ hd us vs xs ys b w hw hl hx hy hb;obtain⟨dd,rfl⟩:∃ PX,dd=PX+1:=⟨dd-1,K⟩;have pt:∀ e,nM P d e=true->Ng P m dd e:=by
    intro e he us vs off xs ys b w hl hx hy hb;cases hu:P.underlying e with
    |none=>cases d<;>simp[nM,hu]at he
    |some k=>
      obtain⟨ie,iw13⟩:=info_of_underlying hu;have wide:(match P.underlying e with|some (.array _ _)|some (.struct _)=>true|_=>false)=true->∃ a c,(part e us off).run P w=.ok a w/\(part e vs off).run P w=.ok c w/\(Op.equalIn dd e a c).run P w=.ok b w:=by
       intro hw;have pa:∀zs:Array Value,(part e zs off).run P w=.ok (.agg (zs.extract off (off+P.cellsOf e))) w:=by intro zs;rw[hu]at hw;cases k<;>first|(cases hw;done)|simp[part,isAgg,aP hu,Go.run_sizeOf w iw13]
       have ex:∀zs:Array Value,(zs.extract off (off+P.cellsOf e)).toList.take (P.cellsOf e)=(zs.toList.drop off).take (P.cellsOf e):=by intro zs;rw[Array.toList_extract];simp[List.extract,Fc]
       exact⟨_,_,pa us,pa vs,ih dd e he (λ_ _ _=>trivial) K _ _ xs ys b w hw hl (by rw[ex];exact hx) (by rw[ex];exact hy) hb⟩
      cases k with
      |array n e'=>exact wide (by rw[hu])|struct fs=>exact wide (by rw[hu])
      |int PX=>
        obtain⟨d,rfl⟩:∃r,d=r+1:=by cases d with|zero=>cases he|succ r=>exact⟨r,rfl⟩
        have hc:P.cellsOf e=1:=by simp only[nM,hu]at he;exact Ap he
        rw[hc]at hl hx hy;obtain⟨dd',rfl⟩:∃r,dd=r+1:=⟨dd-1,K⟩;have RO:=(pG hb).trans hl;obtain⟨x,rfl⟩:=List.length_eq_one_iff.1 hl;obtain⟨y,rfl⟩:=List.length_eq_one_iff.1 RO;cases x<;>try (simp[cu]at hb;done)
        cases y<;>try (simp[cu]at hb;done)
        rename_i k a k' a';simp only[cu]at hb;split at hb
        ·rename_i hk;subst hk;simp only[DK,Ak,Jd]at hb;subst hb;simp only[aE,AW]at hx hy;obtain⟨u,us',M,Q,h3⟩:=hx;obtain⟨v,vs',g1,g2,g3⟩:=hy;subst Q;subst g2;have ybn:us[off]? = some (.int k a):=getElem?_of_chunk (c:=1) (by rw[M,h3]);have ybo:vs[off]? = some (.int k a'):=getElem?_of_chunk (c:=1) (by rw[g1,g3]);exact⟨_,_,hij hu ybn w,hij hu ybo w,run_equalIn_int w dd' e k PX a a' hu⟩
        ·cases hb
      |_=>cases d<;>simp[nM,hu]at he
   cases hu:P.underlying t with
   |none=>simp[hu]at hw
   |some k=>
     cases k with
     |array n e=>
       obtain⟨hc,he⟩:P.cellsOf t=n*P.cellsOf e/\nM P d e=true:=by simp only[nM,hu,Ae]at h;exact⟨Ap h.1,h.2⟩
       obtain⟨ie,hi⟩:∃ i,P.info? e=some i:=by
        cases hue:P.underlying e with
        |none=>cases d<;>simp[nM,hue]at he|some k=>exact info_of_underlying hue
       rw[run_equalIn_array w _ us vs hu hi,Kl];rw[hc]at hl hx hy;exact hi8 (pt e he) n 0 xs ys b w hl (by simpa using hx) (by simpa using hy) hb
     |struct fs=>
       obtain⟨⟨hc,hs⟩,hf⟩:(P.cellsOf t=Es P fs.toList/\P.stoodInHeld t=false)/\vl P (nM P d) fs.toList 0=true:=by simp only[nM,hu,Ae,EY]at h;exact⟨⟨Ap h.1.1,h.1.2⟩,h.2⟩
       have Wy:P.fieldsOf t=fs:=by unfold Program.fieldsOf;rw[hu]
       rw[run_equalIn_struct w _ t us vs (by rw[hu,Wy]) hs,Wy];rw[hc]at hl hx hy;have k:=R86 hf;exact hi' _ 0 xs ys b w (λf hf=>pt _ (k.1 f hf)) k.2 hl (by simpa using hx) (by simpa using hy) hb
     |_=>simp[hu]at hw
theorem j9 {t:TypeId} (d:Nat) (h:(nM P d t&&decide (d<=10000)&&(match P.underlying t with|some (.array _ _)|some (.struct _)=>true|_=>false)&&!P.eqGuardType P.depth t&&decide ((P.info? t).map (·.size)=some (P.cellsOf t)))=true):dL P t:=by simp only[Ae,DJ,EY]at h;obtain⟨⟨⟨⟨M,Q⟩,h3⟩,h4⟩,h5⟩:=h;refine⟨h4,λn hn xs ys us vs m b w hl hx hy hb=>?_⟩;rw[h5]at hn;cases hn;have nza15:=c9 hx;have izb18:=pG hb;have nza18:=c9 hy;unfold Op.equal;exact hmn d _ t M (λ_ _ _=>trivial) Q us vs xs ys b w h3 hl (by rw[I5 K];exact hx) (by rw[I5 K];exact hy) hb
end
end Go.Sx
namespace Go.Dx
abbrev aA (l:List V):Int:=iv (av l)
abbrev aR (l:List V):Int:=iv (av (I l))
abbrev bX (l:List V):Int:=iv (av (I (I l)))
abbrev bf (l:List V):Int:=iv (av (I (I (I l))))
abbrev cq (l:List V):Int:=iv (av (I (I (I (I l)))))
abbrev bG (l:List V):Int:=iv (av (I (I (I (I (I l))))))
theorem AG {p:Prop} [inst:Decidable p] (h:p):decide p=true:=J3 h
theorem eM {p:Prop} [inst:Decidable p] (h:¬p):decide p=false:=decide_eq_false h
theorem mP {a b:Int} (h:0<=a) (g:0<=b):0<=a*b:=Int.mul_nonneg h g
theorem IM {a b c:Int} (h:a<=b) (g:0<=c):c*a<=c*b:=Int.mul_le_mul_of_nonneg_left h g
def iR:Nat->Nat->o7->o7
 |_,0,l=>l|k,n+1,l=>some (some k)::iR (k+1) n l
def oU (ct:bo) (un:l7) (j:JJ) (l:Lp JJ) (s:bT×List AD×Option Sx.Ex):AN (cr JJ):=LF ct un j l s.1 s.2.1 s.2.2
abbrev D (n:Int):V:=.int .i64 n
abbrev tI:Ty:=.int .i64
abbrev E (x:Int):Int:=IntKind.i64.wrap x
abbrev aM:List Ty:=[Ty.int IntKind.i64,Ty.int IntKind.i64]
abbrev gP:List Ty:=[Ty.int IntKind.i64,Ty.int IntKind.i64,Ty.int IntKind.i64,Ty.int IntKind.i64]
abbrev L:List Ty:=[Ty.int IntKind.i64]
abbrev aZ:List Ty:=[Ty.str,Ty.int IntKind.i64,Ty.sl [Ty.int IntKind.i64,Ty.int IntKind.i64],Ty.int IntKind.i64]
abbrev bm:List Ty:=[Ty.int IntKind.i64,Ty.int IntKind.i64,Ty.int IntKind.i64,Ty.int IntKind.i64,Ty.sl [Ty.int IntKind.i64,Ty.int IntKind.i64,Ty.int IntKind.i64,Ty.int IntKind.i64]]
abbrev aV:List Ty:=[Ty.str,Ty.int IntKind.i64,Ty.int IntKind.i64,Ty.int IntKind.i64,Ty.int IntKind.i64,Ty.int IntKind.i64]
abbrev bj:List Ty:=[Ty.int IntKind.i64,Ty.int IntKind.i64,Ty.int IntKind.i64,Ty.int IntKind.i64,Ty.int IntKind.i64]
abbrev al:List Ty:=[Ty.str,Ty.sl [Ty.int IntKind.i64],Ty.sl [Ty.int IntKind.i64],Ty.sl [Ty.sl [Ty.int IntKind.i64]],Ty.int IntKind.i64,Ty.int IntKind.i64]
abbrev ao:List Ty:=[Ty.str,Ty.int IntKind.i64,Ty.int IntKind.i64,Ty.int IntKind.i64,Ty.int IntKind.i64,Ty.int IntKind.i64,Ty.int IntKind.i64,Ty.int IntKind.i64,Ty.int IntKind.i64,Ty.int IntKind.i64,Ty.int IntKind.i64,Ty.int IntKind.i64,Ty.int IntKind.i64,Ty.int IntKind.i64]
abbrev cg:List Ty:=[Ty.int IntKind.i64,Ty.int IntKind.i64,Ty.int IntKind.i64]
abbrev Cq (H:Nat) (G:be) (R:Nat) (N:be) (n4:Nat) (f4:be) (n6:Nat) (f6:be):V:=.agg [.sl H (A aZ G),.sl R (A bj N),.sl n4 (A bm f4),.sl n6 (A aV f6)]
end Go.Dx
namespace Go.Dx
open Go.IntKind (i64 u64 u8)
open Go.Sx Go.Proofs
def AQ:List TypeId:=[39,61,45,233,149]
noncomputable section
noncomputable def itF (n:FuncId) (f:Func):jc:=⟨n,((sF Tryz.prog AQ f).getD (0,.skip)).1,((sF Tryz.prog AQ f).getD (0,.skip)).2⟩
def AS:List jc:=[itF 54 Tryz.f54,itF 182 Tryz.f182]
noncomputable def bR (f:Func):aJ:=(eS Tryz.prog AQ AS f).getD ⟨0,[],.skip⟩
def afo:aJ:=bR Tryz.f4
def anj:aJ:=bR Tryz.f5
def akk:aJ:=bR Tryz.f7
def hbl:aJ:=bR Tryz.f8
def anP:aJ:=bR Tryz.f9
def hgr:aJ:=bR Tryz.f10
def fy6:aJ:=bR Tryz.f11
def F8:aJ:=bR Tryz.f12
def agA:aJ:=bR Tryz.f13
def anh:aJ:=bR Tryz.f14
def agW:aJ:=bR Tryz.f15
def ajo:aJ:=bR Tryz.f17
def h13:aJ:=bR Tryz.f18
def eqB:aJ:=bR Tryz.f19
def fs4:aJ:=bR Tryz.f20
def amE:aJ:=bR Tryz.f21
def afG:aJ:=bR Tryz.f22
def ajV:aJ:=bR Tryz.f23
def azy:aJ:=bR Tryz.f24
def hdi:aJ:=bR Tryz.f25
def yaT:aJ:=bR Tryz.f26
def Bh:aJ:=bR Tryz.f27
def ah7:aJ:=bR Tryz.f28
def agE:aJ:=bR Tryz.f29
def fz6:aJ:=bR Tryz.f30
def ajn:aJ:=bR Tryz.f31
def ayn:aJ:=bR Tryz.f32
def B2:aJ:=bR Tryz.f33
def agk:aJ:=bR Tryz.f34
def akV:aJ:=bR Tryz.f35
def aju:aJ:=bR Tryz.f36
def akx:aJ:=bR Tryz.f38
def anF:aJ:=bR Tryz.f39
def agY:aJ:=bR Tryz.f40
def akU:aJ:=bR Tryz.f41
def af2:aJ:=bR Tryz.f42
def al3:aJ:=bR Tryz.f43
def fc3:aJ:=bR Tryz.f44
def hca:aJ:=bR Tryz.f45
def C3:aJ:=bR Tryz.f46
def ani:aJ:=bR Tryz.f47
def akG:aJ:=bR Tryz.f48
def am0:aJ:=bR Tryz.f49
def azj:aJ:=bR Tryz.f50
def ai8:aJ:=bR Tryz.f51
def Z7:aJ:=bR Tryz.f52
def gr4:aJ:=bR Tryz.f53
def B5:aJ:=bR Tryz.f55
def C4:aJ:=bR Tryz.f56
def alC:aJ:=bR Tryz.f57
def UO:aJ:=bR Tryz.f58
def ajD:aJ:=bR Tryz.f59
def ami:aJ:=bR Tryz.f60
def alz:aJ:=bR Tryz.f61
def ayq:aJ:=bR Tryz.f62
def hey:aJ:=bR Tryz.f63
def c66:aJ:=bR Tryz.f64
def amz:aJ:=bR Tryz.f65
def xO:aJ:=bR Tryz.f66
def hcM:aJ:=bR Tryz.f67
def GT:aJ:=bR Tryz.f68
def aiR:aJ:=bR Tryz.f69
def agG:aJ:=bR Tryz.f70
def bor:aJ:=bR Tryz.f71
def ba2:aJ:=bR Tryz.f72
def hbi:aJ:=bR Tryz.f73
def ahZ:aJ:=bR Tryz.f74
def ahe:aJ:=bR Tryz.f75
def alK:aJ:=bR Tryz.f76
def akT:aJ:=bR Tryz.f77
def alj:aJ:=bR Tryz.f78
def ak5:aJ:=bR Tryz.f79
def ai9:aJ:=bR Tryz.f80
def aiX:aJ:=bR Tryz.f81
def ajX:aJ:=bR Tryz.f82
def am9:aJ:=bR Tryz.f83
def ayy:aJ:=bR Tryz.f84
def awv:aJ:=bR Tryz.f85
def awi:aJ:=bR Tryz.f86
def av9:aJ:=bR Tryz.f87
def aws:aJ:=bR Tryz.f88
def aAj:aJ:=bR Tryz.f89
def ax0:aJ:=bR Tryz.f90
def awo:aJ:=bR Tryz.f91
def Ja:aJ:=bR Tryz.f92
def hcp:aJ:=bR Tryz.f93
def hab:aJ:=bR Tryz.f94
def hdy:aJ:=bR Tryz.f95
def agp:aJ:=bR Tryz.f96
def ag3:aJ:=bR Tryz.f97
def ar5:aJ:=bR Tryz.f98
def atk:aJ:=bR Tryz.f99
def az3:aJ:=bR Tryz.f100
def avT:aJ:=bR Tryz.f101
def axF:aJ:=bR Tryz.f102
def azT:aJ:=bR Tryz.f103
def azd:aJ:=bR Tryz.f104
def aww:aJ:=bR Tryz.f105
def ama:aJ:=bR Tryz.f106
def ayp:aJ:=bR Tryz.f107
def ahs:aJ:=bR Tryz.f108
def ai6:aJ:=bR Tryz.f109
def amj:aJ:=bR Tryz.f110
def aiZ:aJ:=bR Tryz.f111
def akh:aJ:=bR Tryz.f112
def af7:aJ:=bR Tryz.f113
def ag5:aJ:=bR Tryz.f114
def amk:aJ:=bR Tryz.f115
def aiA:aJ:=bR Tryz.f116
def awJ:aJ:=bR Tryz.f117
def ayb:aJ:=bR Tryz.f118
def axz:aJ:=bR Tryz.f119
def ayH:aJ:=bR Tryz.f120
def azS:aJ:=bR Tryz.f121
def hcs:aJ:=bR Tryz.f122
def aiq:aJ:=bR Tryz.f123
def ja:aJ:=bR Tryz.f124
def p9:aJ:=bR Tryz.f125
def fe1:aJ:=bR Tryz.f126
def f12:aJ:=bR Tryz.f127
def afp:aJ:=bR Tryz.f128
def aji:aJ:=bR Tryz.f129
def amy:aJ:=bR Tryz.f130
def aml:aJ:=bR Tryz.f132
def ai7:aJ:=bR Tryz.f133
def afA:aJ:=bR Tryz.f134
def ajz:aJ:=bR Tryz.f135
def akt:aJ:=bR Tryz.f136
def ak9:aJ:=bR Tryz.f137
def amn:aJ:=bR Tryz.f138
def arK:aJ:=bR Tryz.f139
def atd:aJ:=bR Tryz.f140
def asM:aJ:=bR Tryz.f141
def aoP:aJ:=bR Tryz.f142
def axv:aJ:=bR Tryz.f143
def az8:aJ:=bR Tryz.f144
def arG:aJ:=bR Tryz.f145
def aqn:aJ:=bR Tryz.f146
def arU:aJ:=bR Tryz.f147
def asi:aJ:=bR Tryz.f148
def avc:aJ:=bR Tryz.f149
def aqW:aJ:=bR Tryz.f150
def ap4:aJ:=bR Tryz.f151
def hfr:aJ:=bR Tryz.f152
def auz:aJ:=bR Tryz.f153
def apc:aJ:=bR Tryz.f154
def aum:aJ:=bR Tryz.f155
def arX:aJ:=bR Tryz.f156
def ao1:aJ:=bR Tryz.f157
def aw2:aJ:=bR Tryz.f158
def ahw:aJ:=bR Tryz.f159
def ajE:aJ:=bR Tryz.f160
def ayE:aJ:=bR Tryz.f161
def ayB:aJ:=bR Tryz.f162
def ax6:aJ:=bR Tryz.f163
def azC:aJ:=bR Tryz.f164
def ayQ:aJ:=bR Tryz.f165
def aht:aJ:=bR Tryz.f166
def aj3:aJ:=bR Tryz.f167
def agO:aJ:=bR Tryz.f168
def ajG:aJ:=bR Tryz.f169
def ahY:aJ:=bR Tryz.f170
def awk:aJ:=bR Tryz.f171
def aqC:aJ:=bR Tryz.f172
def auD:aJ:=bR Tryz.f173
def aqT:aJ:=bR Tryz.f174
def apy:aJ:=bR Tryz.f175
def arc:aJ:=bR Tryz.f176
def ba1:aJ:=bR Tryz.f177
def r4:aJ:=bR Tryz.f178
def ou:aJ:=bR Tryz.f179
def ald:aJ:=bR Tryz.f180
def alJ:aJ:=bR Tryz.f181
def anD:aJ:=bR Tryz.f183
def ajq:aJ:=bR Tryz.f184
def agi:aJ:=bR Tryz.f185
def agw:aJ:=bR Tryz.f186
def adm:aJ:=bR Tryz.f187
def atr:aJ:=bR Tryz.f189
def apM:aJ:=bR Tryz.f190
def apr:aJ:=bR Tryz.f191
def apw:aJ:=bR Tryz.f192
def azD:aJ:=bR Tryz.f193
def ayM:aJ:=bR Tryz.f194
def apb:aJ:=bR Tryz.f195
def apQ:aJ:=bR Tryz.f196
def arM:aJ:=bR Tryz.f197
def auY:aJ:=bR Tryz.f198
def ard:aJ:=bR Tryz.f199
def aqY:aJ:=bR Tryz.f200
def ap6:aJ:=bR Tryz.f201
def ati:aJ:=bR Tryz.f202
def aky:aJ:=bR Tryz.f203
def akX:aJ:=bR Tryz.f204
def anb:aJ:=bR Tryz.f205
def arp:aJ:=bR Tryz.f206
def anv:aJ:=bR Tryz.f207
def afi:aJ:=bR Tryz.f208
def ayl:aJ:=bR Tryz.f209
def awg:aJ:=bR Tryz.f210
def ar2:aJ:=bR Tryz.f211
def avV:aJ:=bR Tryz.f212
def au8:aJ:=bR Tryz.f213
def aoj:aJ:=bR Tryz.f214
def apE:aJ:=bR Tryz.f215
def fw9:aJ:=bR Tryz.f216
def aop:aJ:=bR Tryz.f224
def apJ:aJ:=bR Tryz.f225
def ybi:aJ:=bR Tryz.f226
def fe3:aJ:=bR Tryz.f227
def fb1:aJ:=bR Tryz.f228
def asG:aJ:=bR Tryz.f233
def ark:aJ:=bR Tryz.f242
def S3:aJ:=bR Tryz.f243
end
theorem hE:∀ t∈AQ,dL Tryz.prog t:=by
 intro t ht;simp only[AQ,Dq,H8,or_false]at ht;rcases ht with rfl|rfl|rfl|rfl|rfl
 ·exact j9 3 bD
 ·exact j9 3 bD
 ·exact j9 3 bD
 ·exact j9 3 bD
 ·exact j9 3 bD
theorem hI:mD Tryz.prog AQ AS:=by
 intro it ht;simp only[AS,Dq,H8,or_false]at ht;rcases ht with rfl|rfl
 ·exact⟨_,Tryz.func54,by kernel_rfl,by kernel_rfl⟩
 ·exact⟨_,Tryz.func182,by kernel_rfl,by kernel_rfl⟩
def u0:l7:=λ_=>0
noncomputable def JE (fn : Func) (sf : aJ) (ts : List Ty) : Bool × Option aJ × Bool × Bool := (fn.name == "runtime.NumGoroutine", eS Tryz.prog AQ AS fn, gp sf.ntmps sf.body, gS ts)
abbrev dm {α:Sort _} {β:Sort _} (_:α) (b:β):β:=b
abbrev RT.am {Pe:Type} (n:Nat) (x:RT Pe):RT Pe:=.asm (true=true->n<=9223372036854775807) x
abbrev RT.cb {Pe:Type} (x:RT Pe):RT Pe:=.obc (.obt x)
abbrev RT.ii {Pe:Type} (x:RT Pe):RT Pe:=.obi (.obi x)
abbrev RT.iv {Pe:Type} (x:RT Pe):RT Pe:=.ii (.ii x)
abbrev nz (x:Int):Prop:=x=0->False
abbrev dI (x:Int) (n:Nat):Bool:=decide (0<=x/\x<(n:Int))
theorem iz {f : FuncId} {fn : Func} {sf : aJ} {un : l7} {ct : bo} (hf : Tryz.prog.funcs[f]? = some fn) (hk : (fn.name == "runtime.NumGoroutine", eS Tryz.prog AQ AS fn, gp sf.ntmps sf.body) = (false, some sf, true)) (hl : ba Tryz.prog AQ AS ct) : ba Tryz.prog AQ AS ((f, .inl sf un) :: ct) := .inl hf (congrArg Prod.fst hk) (congrArg (fun x => x.2.1) hk) (congrArg (fun x => x.2.2) hk) hl
theorem fw {fn : Func} {sf : aJ} {ts : List Ty} (h : JE fn sf ts = (false, some sf, true, true)) : (fn.name == "runtime.NumGoroutine") = false /\ eS Tryz.prog AQ AS fn = some sf /\ gp sf.ntmps sf.body = true /\ gS ts = true := by
 have M:=congrArg Prod.fst h
 have Q:=congrArg (λx=>x.2.1) h
 have h3:=congrArg (λx=>x.2.2.1) h
 have h4:=congrArg (λx=>x.2.2.2) h
 exact⟨M,Q,h3,h4⟩
section
variable {ct:bo} {f:FuncId} {fn:Func} {sf:aJ} {un:l7} {ts:List Ty} {pre:List V->Prop} {r:List V->V}
theorem Ot (hT:ba Tryz.prog AQ AS ct) (hf:Tryz.prog.funcs[f]? = some fn) (hk:JE fn sf ts=(false,some sf,true,true)) (h:∀ ds,pre (ap ts ds)->Ie ct (aQ JJ ct un sf (ap ts ds)) (r (ap ts ds))):(vP (bP ts pre r)).Ok Tryz.prog f :=
 G3 (J:=JJ) (un:=un) hT hE hI hf (fw hk).1 (fw hk).2.1 (fw hk).2.2.1 (fw hk).2.2.2 λw0 ds hp=>h ds hp hT.dst w0
abbrev b7 (C:aD) (k:FuncId):Prop:=(vP C).Ok Tryz.prog k
theorem aT (hT:ba Tryz.prog AQ AS ct) (h:∀ds,pre (ap ts ds) → Ie ct (aQ JJ ct un sf (ap ts ds)) (r (ap ts ds))) (hk:(Tryz.prog.funcs[f]?).map (λfn=>JE fn sf ts)=some (false,some sf,true,true):=by kernel_rfl):(vP (bP ts pre r)).Ok Tryz.prog f:=by obtain⟨fn,hf,hk⟩:=Option.map_eq_some_iff.1 hk;exact Ot hT hf hk h
theorem azH {e:Nat} {ty:TypeId} (hT:ba Tryz.prog AQ AS ct) (hf:Tryz.prog.funcs[f]? = some fn) (hk:JE fn sf ts=(false,some sf,true,true)) (h:∀ ds,pre (ap ts ds)->Ie ct (Tk JJ e ty ct un sf (ap ts ds)) (r (ap ts ds))):(vL e ty (bP ts pre r)).Ok Tryz.prog f :=
 swF (J:=JJ) (un:=un) hT hE hI hf (fw hk).1 (fw hk).2.1 (fw hk).2.2.1 (fw hk).2.2.2 λw0 ds hp=>h ds hp hT.dst w0
end
variable (T:Int) (s0:ByteArray) (S W U O x5 x6 Z Y:Int) (b8:Bool) (x9 PV PT:Int)
noncomputable section
def rF:bo:=[]
theorem mL:ba Tryz.prog AQ AS rF:=.nil
def m84:RT Empty:=.ret (V.agg [D (E (T-W)),D (E (S-U))])
theorem aoG:cV cX (aQ JJ rF u0 azD [V.agg [D T,D S],V.agg [D W,D U]]) (m84 T S W U):=bF
def bO:Int:=E (T-W)
def bN:Int:=E (S-U)
def Lv:V:=.agg [D (bO T W),D (bN S U)]
theorem avZ:aU cN (m84 T S W U) (Lv T S W U):=AF (by unfold Lv bO bN;rfl)
def C84:aD:=bP [.agg aM,.agg aM] (λ_=>True) λ|[.agg [.int _ T,.int _ S],.agg [.int _ W,.int _ U]]=>Lv T S W U|_=>.any
theorem ax9:b7 C84 193:=aT mL λ_ hp=>c7 (aoG ..) (avZ _ _ _ _)
def m85:RT Empty:=.ret (D (E (E (T*W)+E (S*U))))
theorem aq1:cV cX (aQ JJ rF u0 ayM [V.agg [D T,D S],V.agg [D W,D U]]) (m85 T S W U):=bF
def jy:Int:=E (E (T*W)+E (S*U))
def Lw:V:=D (jy T S W U)
theorem azt:aU cN (m85 T S W U) (Lw T S W U):=AF (by unfold Lw jy;rfl)
def C85:aD:=bP [.agg aM,.agg aM] (λ_=>True) λ|[.agg [.int _ T,.int _ S],.agg [.int _ W,.int _ U]]=>Lw T S W U|_=>.any
theorem awN:b7 C85 194:=aT mL λ_ hp=>c7 (aq1 ..) (azt _ _ _ _)
def asI:RT Empty:=.ret (D (E (E (T*U)-E (S*W))))
theorem amm:cV cX (aQ JJ rF u0 apb [V.agg [D T,D S],V.agg [D W,D U]]) (asI T S W U):=bF
def er:Int:=E (E (T*U)-E (S*W))
def Nk:V:=D (er T S W U)
theorem auq:aU cN (asI T S W U) (Nk T S W U):=AF (by unfold Nk er;rfl)
def aua:aD:=bP [.agg aM,.agg aM] (λ_=>True) λ|[.agg [.int _ T,.int _ S],.agg [.int _ W,.int _ U]]=>Nk T S W U|_=>.any
theorem atW:b7 aua 195:=aT mL λ_ hp=>c7 (amm ..) (auq _ _ _ _)
def ara:RT Empty:=.ret (V.agg [D (E (W*T)),D (E (W*S))])
theorem ahC:cV cX (aQ JJ rF u0 auz [V.agg [D T,D S],D W]) (ara T S W):=bF
def xN:Int:=E (W*T)
def zh:Int:=E (W*S)
def O6:V:=.agg [D (xN T W),D (zh S W)]
theorem asa:aU cN (ara T S W) (O6 T S W):=AF (by unfold O6 xN zh;rfl)
def atw:aD:=bP [.agg aM,tI] (λ_=>True) λ|[.agg [.int _ T,.int _ S],.int _ W]=>O6 T S W|_=>.any
theorem aoY:b7 atw 153:=aT mL λ_ hp=>c7 (ahC ..) (asa _ _ _)
def m86:RT Empty:=.obi (.obi (.obi (.ret (V.bool (bif decide (T<S) then true else decide (W<T))))))
theorem arq:cV cX (aQ JJ rF u0 az8 [D T,D S,D W]) (m86 T S W):=bF
def bY:Bool:=bif decide (T<S) then true else decide (W<T)
def Lx:V:=.bool (bY T S W)
theorem awR:aU cN (m86 T S W) (Lx T S W):=AE (AE (AE (AF (by unfold Lx bY;rfl))))
def Lb:aD:=bP cg (λ_=>True) λ|[.int _ T,.int _ S,.int _ W]=>Lx T S W|_=>.any
theorem atD:b7 Lb 144:=aT mL λ_ hp=>c7 (arq ..) (awR _ _ _)
def m71:RT Empty:=.obi (.obi (.obi (.ret (V.bool (bif decide (S<=T) then decide (T<=W) else false)))))
theorem aon:cV cX (aQ JJ rF u0 ax6 [D T,D S,D W]) (m71 T S W):=bF
def dC:Bool:=bif decide (S<=T) then decide (T<=W) else false
def Lr:V:=.bool (dC T S W)
theorem awG:aU cN (m71 T S W) (Lr T S W):=AE (AE (AE (AF (by unfold Lr dC;rfl))))
def C71:aD:=bP cg (λ_=>True) λ|[.int _ T,.int _ S,.int _ W]=>Lr T S W|_=>.any
theorem azP:b7 C71 163:=aT mL λ_ hp=>c7 (aon ..) (awG _ _ _)
def m93:RT Empty:=.ret (V.agg [D (E (T-W)),D (E (S-U))])
theorem atJ:cV cX (aQ JJ rF u0 ayl [V.agg [D T,D S],V.agg [D W,D U]]) (m93 T S W U):=bF
def bI:Int:=E (T-W)
def bJ:Int:=E (S-U)
def M9:V:=.agg [D (bI T W),D (bJ S U)]
theorem azi:aU cN (m93 T S W U) (M9 T S W U):=AF (by unfold M9 bI bJ;rfl)
def C93:aD:=bP [.agg aM,.agg aM] (λ_=>True) λ|[.agg [.int _ T,.int _ S],.agg [.int _ W,.int _ U]]=>M9 T S W U|_=>.any
theorem ays:b7 C93 209:=aT mL λ_ hp=>c7 (atJ ..) (azi _ _ _ _)
def m92:RT Empty:=.ret (D (E (E (T*W)+E (S*U))))
theorem aq5:cV cX (aQ JJ rF u0 awg [V.agg [D T,D S],V.agg [D W,D U]]) (m92 T S W U):=bF
def jx:Int:=E (E (T*W)+E (S*U))
def M2:V:=D (jx T S W U)
theorem axp:aU cN (m92 T S W U) (M2 T S W U):=AF (by unfold M2 jx;rfl)
def C92:aD:=bP [.agg aM,.agg aM] (λ_=>True) λ|[.agg [.int _ T,.int _ S],.agg [.int _ W,.int _ U]]=>M2 T S W U|_=>.any
theorem azI:b7 C92 210:=aT mL λ_ hp=>c7 (aq5 ..) (axp _ _ _ _)
def m79:RT Empty:=.ret (D (E (E (T*U)-E (S*W))))
theorem aoU:cV cX (aQ JJ rF u0 avV [V.agg [D T,D S],V.agg [D W,D U]]) (m79 T S W U):=bF
def fB:Int:=E (E (T*U)-E (S*W))
def Lu:V:=D (fB T S W U)
theorem awc:aU cN (m79 T S W U) (Lu T S W U):=AF (by unfold Lu fB;rfl)
def C79:aD:=bP [.agg aM,.agg aM] (λ_=>True) λ|[.agg [.int _ T,.int _ S],.agg [.int _ W,.int _ U]]=>Lu T S W U|_=>.any
theorem ax4:b7 C79 212:=aT mL λ_ hp=>c7 (aoU ..) (awc _ _ _ _)
def arj:RT Empty:=.ret (D (max T (E (0-T))))
theorem amc:cV cX (aQ JJ rF u0 ar2 [D T]) (arj T):=bF
def lO:Int:=max T (E (0-T))
def Mz:V:=D (lO T)
theorem apL:aU cN (arj T) (Mz T):=AF (by unfold Mz lO;rfl)
def aq3:aD:=bP L (λ_=>True) λ|[.int _ T]=>Mz T|_=>.any
theorem id10:b7 aq3 211:=aT mL λ_ hp=>c7 (amc ..) (apL _)
def auW:RT Empty:=.ret (D (max (-1) (min 1 T)))
theorem aku:cV cX (aQ JJ rF u0 apE [D T]) (auW T):=bF
def fC:Int:=max (-1) (min 1 T)
def Np:V:=D (fC T)
theorem asD:aU cN (auW T) (Np T):=AF (by unfold Np fC;rfl)
def aq4:aD:=bP L (λ_=>True) λ|[.int _ T]=>Np T|_=>.any
theorem aob:b7 aq4 215:=aT mL λ_ hp=>c7 (aku ..) (asD _)
def avf:RT Empty:=.obt (.obt (.obt (.obt (.obt (.ret (V.tup [V.int u64 (u64.wrap (u64.wrap (u64.wrap (T.fdiv (2 ^ 32)*S.fdiv (2 ^ 32))+(u64.wrap (u64.wrap (T.fdiv (2 ^ 32)*bits BinOp.and u64 S 4294967295)+(u64.wrap (bits BinOp.and u64 T 4294967295*bits BinOp.and u64 S 4294967295)).fdiv (2 ^ 32))).fdiv (2 ^ 32))+(u64.wrap (bits BinOp.and u64 (u64.wrap (u64.wrap (T.fdiv (2 ^ 32)*bits BinOp.and u64 S 4294967295)+(u64.wrap (bits BinOp.and u64 T 4294967295*bits BinOp.and u64 S 4294967295)).fdiv (2 ^ 32))) 4294967295+u64.wrap (bits BinOp.and u64 T 4294967295*S.fdiv (2 ^ 32)))).fdiv (2 ^ 32))),V.int u64 (u64.wrap (T*S))]))))))
theorem akc:cV cX (aQ JJ rF u0 aop [V.int u64 T,V.int u64 S]) (avf T S):=bF
def uS:Int:=u64.wrap (u64.wrap (u64.wrap (T.fdiv (2 ^ 32)*S.fdiv (2 ^ 32))+(u64.wrap (u64.wrap (T.fdiv (2 ^ 32)*bits BinOp.and u64 S 4294967295)+(u64.wrap (bits BinOp.and u64 T 4294967295*bits BinOp.and u64 S 4294967295)).fdiv (2 ^ 32))).fdiv (2 ^ 32))+(u64.wrap (bits BinOp.and u64 (u64.wrap (u64.wrap (T.fdiv (2 ^ 32)*bits BinOp.and u64 S 4294967295)+(u64.wrap (bits BinOp.and u64 T 4294967295*bits BinOp.and u64 S 4294967295)).fdiv (2 ^ 32))) 4294967295+u64.wrap (bits BinOp.and u64 T 4294967295*S.fdiv (2 ^ 32)))).fdiv (2 ^ 32))
def u9:Int:=u64.wrap (T*S)
def N1:V:=.tup [.int u64 (uS T S),.int u64 (u9 T S)]
theorem ata:aU cN (avf T S) (N1 T S):=ac (ac (ac (ac (ac (AF (by unfold N1 uS u9;rfl))))))
def aoJ:aD:=bP [.int .u64,.int .u64] (λ_=>True) λ|[.int _ T,.int _ S]=>N1 T S|_=>.any
theorem aoH:b7 aoJ 224:=aT mL λ_ hp=>c7 (akc ..) (ata _ _)
def arn:RT Empty:=.ret (V.bool (T !=T))
theorem afe:cV cX (aQ JJ rF u0 S3 [D T]) (arn T):=bF
def ev2:Bool:=T !=T
def Nc:V:=.bool (ev2 T)
theorem auT:aU cN (arn T) (Nc T):=AF (by unfold Nc ev2;rfl)
def aty:aD:=bP L (λ_=>True) λ|[.int _ T]=>Nc T|_=>.any
theorem arQ:b7 aty 243:=aT mL λ_ hp=>c7 (afe ..) (auT _)
def tJ:bo:=(193,.con C84)::(194,.con C85)::(195,.con aua)::(153,.con atw)::(144,.con Lb)::(163,.con C71)::(209,.con C93)::(210,.con C92)::(212,.con C79)::(211,.con aq3)::(215,.con aq4)::(224,.con aoJ)::(243,.con aty)::rF
theorem nk:ba Tryz.prog AQ AS tJ:=.con ax9 (.con awN (.con atW (.con aoY (.con atD (.con azP (.con ays (.con azI (.con ax4 (.con id10 (.con aob (.con aoH (.con arQ (mL)))))))))))))
def atG:RT Empty:=.obc (.obt (.ret (V.agg [V.int u64 (uS (u64.wrap T) (u64.wrap S)),V.int u64 (u9 (u64.wrap T) (u64.wrap S))])))
theorem aie:cV cX (aQ JJ tJ u0 apQ [D T,D S]) (atG T S):=bF
def nZ:Int:=uS (u64.wrap T) (u64.wrap S)
def oP:Int:=u9 (u64.wrap T) (u64.wrap S)
def N2:V:=.agg [.int u64 (nZ T S),.int u64 (oP T S)]
theorem auX:aU cN (atG T S) (N2 T S):=AM (ac (AF (by unfold N2 nZ oP;rfl)))
def au9:aD:=bP aM (λ_=>True) λ|[.int _ T,.int _ S]=>N2 T S|_=>.any
theorem arD:b7 au9 196:=aT nk λ_ hp=>c7 (aie ..) (auX _ _)
def aqG:RT Empty:=.obi (.obi (.obi (.obi (.obi (.obi (.obi (.obi (.obi (.obi (.obi (.obi (.obi (.obi (.obi (.obi (.obi (.ret (V.bool (bif bif T==W&&(S==U&&true) then true else decide (T<W) then true else bif T==W then decide (S<U) else false)))))))))))))))))))
theorem ajU:cV cX (aQ JJ tJ u0 arM [V.agg [V.int u64 T,V.int u64 S],V.agg [V.int u64 W,V.int u64 U]]) (aqG T S W U):=bF
def uP:Bool:=bif bif T==W&&(S==U&&true) then true else decide (T<W) then true else bif T==W then decide (S<U) else false
def Mw:V:=.bool (uP T S W U)
theorem arH:aU cN (aqG T S W U) (Mw T S W U):=AE (AE (AE (AE (AE (AE (AE (AE (AE (AE (AE (AE (AE (AE (AE (AE (AE (AF (by unfold Mw uP;rfl))))))))))))))))))
def an8:aD:=bP [.agg [.int .u64,.int .u64],.agg [.int .u64,.int .u64]] (λ_=>True) λ|[.agg [.int _ T,.int _ S],.agg [.int _ W,.int _ U]]=>Mw T S W U|_=>.any
theorem atn:b7 an8 197:=aT nk λ_ hp=>c7 (ajU ..) (arH _ _ _ _)
def asj:RT Empty:=.obi (.obi (.obi (.obi (.obi (.obi (.obi (.obi (.obi (.obi (.obi (.obi (.ret (V.bool (bif decide (W<T) then true else bif T==W then decide (U<S) else false))))))))))))))
theorem ak0:cV cX (aQ JJ tJ u0 au8 [V.agg [V.int u64 T,V.int u64 S],V.agg [V.int u64 W,V.int u64 U]]) (asj T S W U):=bF
def uZ:Bool:=bif decide (W<T) then true else bif T==W then decide (U<S) else false
def Mg:V:=.bool (uZ T S W U)
theorem apf:aU cN (asj T S W U) (Mg T S W U):=AE (AE (AE (AE (AE (AE (AE (AE (AE (AE (AE (AE (AF (by unfold Mg uZ;rfl)))))))))))))
def auE:aD:=bP [.agg [.int .u64,.int .u64],.agg [.int .u64,.int .u64]] (λ_=>True) λ|[.agg [.int _ T,.int _ S],.agg [.int _ W,.int _ U]]=>Mg T S W U|_=>.any
theorem asX:b7 auE 213:=aT nk λ_ hp=>c7 (ak0 ..) (apf _ _ _ _)
def auA:RT Empty:=.obt (.obt (.obt (.obt (.obt (.obt (.obt (.obt (.obt (.obt (.obt (.obt (.obt (.ret (V.agg [V.int u64 (u64.wrap (u64.wrap (u64.wrap (u64.wrap ((u64.wrap T).tdiv 4294967296)*u64.wrap ((u64.wrap S).tdiv 4294967296))+u64.wrap ((u64.wrap (u64.wrap (u64.wrap ((u64.wrap T).tdiv 4294967296)*(u64.wrap S).tmod 4294967296)+u64.wrap ((u64.wrap ((u64.wrap T).tmod 4294967296*(u64.wrap S).tmod 4294967296)).tdiv 4294967296))).tdiv 4294967296))+u64.wrap ((u64.wrap (u64.wrap ((u64.wrap T).tmod 4294967296*u64.wrap ((u64.wrap S).tdiv 4294967296))+(u64.wrap (u64.wrap (u64.wrap ((u64.wrap T).tdiv 4294967296)*(u64.wrap S).tmod 4294967296)+u64.wrap ((u64.wrap ((u64.wrap T).tmod 4294967296*(u64.wrap S).tmod 4294967296)).tdiv 4294967296))).tmod 4294967296)).tdiv 4294967296))),V.int u64 (u64.wrap (u64.wrap (u64.wrap (u64.wrap ((u64.wrap T).tmod 4294967296*u64.wrap ((u64.wrap S).tdiv 4294967296))+(u64.wrap (u64.wrap (u64.wrap ((u64.wrap T).tdiv 4294967296)*(u64.wrap S).tmod 4294967296)+u64.wrap ((u64.wrap ((u64.wrap T).tmod 4294967296*(u64.wrap S).tmod 4294967296)).tdiv 4294967296))).tmod 4294967296)*4294967296)+(u64.wrap ((u64.wrap T).tmod 4294967296*(u64.wrap S).tmod 4294967296)).tmod 4294967296))]))))))))))))))
theorem aiv:cV cX (aQ JJ tJ u0 aoj [D T,D S]) (auA T S):=bF
def mU:Int:=u64.wrap (u64.wrap (u64.wrap (u64.wrap ((u64.wrap T).tdiv 4294967296)*u64.wrap ((u64.wrap S).tdiv 4294967296))+u64.wrap ((u64.wrap (u64.wrap (u64.wrap ((u64.wrap T).tdiv 4294967296)*(u64.wrap S).tmod 4294967296)+u64.wrap ((u64.wrap ((u64.wrap T).tmod 4294967296*(u64.wrap S).tmod 4294967296)).tdiv 4294967296))).tdiv 4294967296))+u64.wrap ((u64.wrap (u64.wrap ((u64.wrap T).tmod 4294967296*u64.wrap ((u64.wrap S).tdiv 4294967296))+(u64.wrap (u64.wrap (u64.wrap ((u64.wrap T).tdiv 4294967296)*(u64.wrap S).tmod 4294967296)+u64.wrap ((u64.wrap ((u64.wrap T).tmod 4294967296*(u64.wrap S).tmod 4294967296)).tdiv 4294967296))).tmod 4294967296)).tdiv 4294967296))
def mZ:Int:=u64.wrap (u64.wrap (u64.wrap (u64.wrap ((u64.wrap T).tmod 4294967296*u64.wrap ((u64.wrap S).tdiv 4294967296))+(u64.wrap (u64.wrap (u64.wrap ((u64.wrap T).tdiv 4294967296)*(u64.wrap S).tmod 4294967296)+u64.wrap ((u64.wrap ((u64.wrap T).tmod 4294967296*(u64.wrap S).tmod 4294967296)).tdiv 4294967296))).tmod 4294967296)*4294967296)+(u64.wrap ((u64.wrap T).tmod 4294967296*(u64.wrap S).tmod 4294967296)).tmod 4294967296)
def N3:V:=.agg [.int u64 (mU T S),.int u64 (mZ T S)]
theorem aqe:aU cN (auA T S) (N3 T S):=ac (ac (ac (ac (ac (ac (ac (ac (ac (ac (ac (ac (ac (AF (by unfold N3 mU mZ;rfl))))))))))))))
def atI:aD:=bP aM (λ_=>True) λ|[.int _ T,.int _ S]=>N3 T S|_=>.any
theorem as6:b7 atI 214:=aT nk λ_ hp=>c7 (aiv ..) (aqe _ _)
def m78:RT Empty:=.obc (.obt (.obc (.obt (.obc (.obt (.ret (D (er (bO W T) (bN U S) (bO O T) (bN x5 S)))))))))
theorem arw:cV cX (aQ JJ tJ u0 aw2 [V.agg [D T,D S,D W,D U],V.agg [D O,D x5]]) (m78 T S W U O x5):=bF
def kO:Int:=er (bO W T) (bN U S) (bO O T) (bN x5 S)
def Ls:V:=D (kO T S W U O x5)
theorem axo:aU cN (m78 T S W U O x5) (Ls T S W U O x5):=AM (ac (AM (ac (AM (ac (AF (by unfold Ls kO;rfl)))))))
def C78:aD:=bP [.agg gP,.agg aM] (λ_=>True) λ|[.agg [.int _ T,.int _ S,.int _ W,.int _ U],.agg [.int _ O,.int _ x5]]=>Ls T S W U O x5|_=>.any
theorem awS:b7 C78 158:=aT nk λ_ hp=>c7 (arw ..) (axo _ _ _ _ _ _)
def m54:RT Empty:=.ret (V.agg [D T,D S,D W,D S,D W,D U,D T,D U])
theorem avd:cV cX (aQ JJ tJ u0 avT [V.agg [D T,D S,D W,D U]]) (m54 T S W U):=bF
def Lj:V:=.agg [D T,D S,D W,D S,D W,D U,D T,D U]
theorem axK:aU cN (m54 T S W U) (Lj T S W U):=AF (by unfold Lj ; rfl)
def C54:aD:=bP [.agg gP] (λ_=>True) λ|[.agg [.int _ T,.int _ S,.int _ W,.int _ U]]=>Lj T S W U|_=>.any
theorem axq:b7 C54 101:=aT nk λ_ hp=>c7 (avd ..) (axK _ _ _ _)
def m59:RT Empty:=.ret (V.agg [D T,D S,D W,D S,D W,D U,D T,D U])
theorem aqu:cV cX (aQ JJ tJ u0 axz [V.agg [D T,D S,D W,D U]]) (m59 T S W U):=bF
def Lo:V:=.agg [D T,D S,D W,D S,D W,D U,D T,D U]
theorem azU:aU cN (m59 T S W U) (Lo T S W U):=AF (by unfold Lo ; rfl)
def C59:aD:=bP [.agg gP] (λ_=>True) λ|[.agg [.int _ T,.int _ S,.int _ W,.int _ U]]=>Lo T S W U|_=>.any
theorem ay2:b7 C59 119:=aT nk λ_ hp=>c7 (aqu ..) (azU _ _ _ _)
def m48:RT Empty:=dm (s0,O,x5) (.obc (.obt (.ret (V.agg [D S,D W,D U,D (max 0 (E (U-PV))),D (E (U-x9)),D (xN x6 U),D (zh Z U),D (E (Y*U)),V.bool (decide (U<x9))]))))
theorem arF:cV cX (aQ JJ tJ u0 az3 [V.agg [V.str s0,D S,D W,D U,D O,D x5],V.agg [D x6,D Z,D Y,D x9,D PV]]) (m48 s0 S W U O x5 x6 Z Y x9 PV):=bF
def nU:Int:=max 0 (E (U-PV))
def nC:Int:=E (U-x9)
def nN:Int:=xN x6 U
def nm:Int:=zh Z U
def nf:Int:=E (Y*U)
def lr:Bool:=decide (U<x9)
def Lh:V:=dm (s0,O,x5) (.agg [D S,D W,D U,D (nU U PV),D (nC U x9),D (nN U x6),D (nm U Z),D (nf U Y),.bool (lr U x9)])
theorem ay5:aU cN (m48 s0 S W U O x5 x6 Z Y x9 PV) (Lh s0 S W U O x5 x6 Z Y x9 PV):=AM (ac (AF (by unfold Lh nU nC nN nm nf lr;rfl)))
def C48:aD:=bP [.agg aV,.agg bj] (λ_=>True) λ|[.agg [.str s0,.int _ S,.int _ W,.int _ U,.int _ O,.int _ x5],.agg [.int _ x6,.int _ Z,.int _ Y,.int _ x9,.int _ PV]]=>Lh s0 S W U O x5 x6 Z Y x9 PV|_=>.any
theorem azV:b7 C48 100:=aT nk λ_ hp=>c7 (arF ..) (ay5 _ _ _ _ _ _ _ _ _ _ _)
def aoZ:RT Empty:=dm (U,O,x5,x6,Z,b8) (.obc (.obt (.ret (V.agg [D (E (E (W*T)+E (PT*bO x9 T))),D (E (E (W*S)+E (PT*bN PV S)))]))))
theorem ajk:cV cX (aQ JJ tJ u0 aum [V.agg [D T,D S,D W,D U,D O,D x5,D x6,D Z,V.bool b8],V.agg [D x9,D PV],D PT]) (aoZ T S W U O x5 x6 Z b8 x9 PV PT):=bF
def ck:Int:=E (E (W*T)+E (PT*bO x9 T))
def cm:Int:=E (E (W*S)+E (PT*bN PV S))
def O0:V:=dm (U,O,x5,x6,Z,b8) (.agg [D (ck T W x9 PT),D (cm S W PV PT)])
theorem arl:aU cN (aoZ T S W U O x5 x6 Z b8 x9 PV PT) (O0 T S W U O x5 x6 Z b8 x9 PV PT):=AM (ac (AF (by unfold O0 ck cm;rfl)))
def arL:aD:=bP [.agg [tI,tI,tI,tI,tI,tI,tI,tI,.bool],.agg aM,tI] (λ_=>True) λ|[.agg [.int _ T,.int _ S,.int _ W,.int _ U,.int _ O,.int _ x5,.int _ x6,.int _ Z,.bool b8],.agg [.int _ x9,.int _ PV],.int _ PT]=>O0 T S W U O x5 x6 Z b8 x9 PV PT|_=>.any
theorem as5:b7 arL 155:=aT nk λ_ hp=>c7 (ajk ..) (arl _ _ _ _ _ _ _ _ _ _ _ _)
def ap1:RT Empty:=dm (s0,S,W,O,x5,x6,Z,Y) (.ret (V.tup [D (E (U-min PV U)),D (E (U-x9)),V.bool (decide (x9<=U))]))
theorem anc:cV cX (aQ JJ tJ u0 aqC [V.agg [V.str s0,D S,D W,D U,D O,D x5],V.agg [D x6,D Z,D Y,D x9,D PV]]) (ap1 s0 S W U O x5 x6 Z Y x9 PV):=bF
def cG:Int:=E (U-min PV U)
def cJ:Int:=E (U-x9)
def fN:Bool:=decide (x9<=U)
def NS:V:=dm (s0,S,W,O,x5,x6,Z,Y) (.tup [D (cG U PV),D (cJ U x9),.bool (fN U x9)])
theorem aqN:aU cN (ap1 s0 S W U O x5 x6 Z Y x9 PV) (NS s0 S W U O x5 x6 Z Y x9 PV):=AF (by unfold NS cG cJ fN;rfl)
def an5:aD:=bP [.agg aV,.agg bj] (λ_=>True) λ|[.agg [.str s0,.int _ S,.int _ W,.int _ U,.int _ O,.int _ x5],.agg [.int _ x6,.int _ Z,.int _ Y,.int _ x9,.int _ PV]]=>NS s0 S W U O x5 x6 Z Y x9 PV|_=>.any
theorem apo:b7 an5 172:=aT nk λ_ hp=>c7 (anc ..) (aqN _ _ _ _ _ _ _ _ _ _ _)
def auH:RT Empty:=dm (s0,S,W,O,x5,x9,PV) (.ret (V.tup [V.agg [D (E (U*x6)),D (E (U*Z))],D (E (U*Y))]))
theorem aeZ:cV cX (aQ JJ tJ u0 auD [V.agg [V.str s0,D S,D W,D U,D O,D x5],V.agg [D x6,D Z,D Y,D x9,D PV]]) (auH s0 S W U O x5 x6 Z Y x9 PV):=bF
def cH:Int:=E (U*x6)
def cI:Int:=E (U*Z)
def Cg:Int:=E (U*Y)
def Nf:V:=dm (s0,S,W,O,x5,x9,PV) (.tup [.agg [D (cH U x6),D (cI U Z)],D (Cg U Y)])
theorem aoX:aU cN (auH s0 S W U O x5 x6 Z Y x9 PV) (Nf s0 S W U O x5 x6 Z Y x9 PV):=AF (by unfold Nf cH cI Cg;rfl)
def aux:aD:=bP [.agg aV,.agg bj] (λ_=>True) λ|[.agg [.str s0,.int _ S,.int _ W,.int _ U,.int _ O,.int _ x5],.agg [.int _ x6,.int _ Z,.int _ Y,.int _ x9,.int _ PV]]=>Nf s0 S W U O x5 x6 Z Y x9 PV|_=>.any
theorem arz:b7 aux 173:=aT nk λ_ hp=>c7 (aeZ ..) (aoX _ _ _ _ _ _ _ _ _ _ _)
def ass:RT Empty:=dm (s0,O,x5) (.ret (V.agg [D (E (E (U*S)+E (Y*E (x6-S)))),D (E (E (U*W)+E (Y*E (Z-W))))]))
theorem ajC:cV cX (aQ JJ tJ u0 apy [V.agg [V.str s0,D S,D W,D U,D O,D x5],V.agg [D x6,D Z],D Y]) (ass s0 S W U O x5 x6 Z Y):=bF
def eE:Int:=E (E (U*S)+E (Y*E (x6-S)))
def ep:Int:=E (E (U*W)+E (Y*E (Z-W)))
def N4:V:=dm (s0,O,x5) (.agg [D (eE S U x6 Y),D (ep W U Z Y)])
theorem atq:aU cN (ass s0 S W U O x5 x6 Z Y) (N4 s0 S W U O x5 x6 Z Y):=AF (by unfold N4 eE ep;rfl)
def apa:aD:=bP [.agg aV,.agg aM,tI] (λ_=>True) λ|[.agg [.str s0,.int _ S,.int _ W,.int _ U,.int _ O,.int _ x5],.agg [.int _ x6,.int _ Z],.int _ Y]=>N4 s0 S W U O x5 x6 Z Y|_=>.any
theorem an4:b7 apa 175:=aT nk λ_ hp=>c7 (ajC ..) (atq _ _ _ _ _ _ _ _ _)
end
end Go.Dx
namespace Go.Dx
open Go.IntKind (i64 u64 u8)
open Go.Sx
theorem dv {n:Nat} {P:Nat->Prop} (h:∀ i,i<=n->(i<n->P (i+1))->P i):∀ i,i<=n->P i:=by
 have key:∀ k i,i+k=n->P i:=by
  intro k;induction k with
  |zero=>intro i e;exact h i K λh=>by omega
  |succ k ih=>intro i e;exact h i K λ_=>ih (i+1) K
 exact λi hi=>key (n-i) i K
theorem AX {x:Int} (M:-9223372036854775808<=x) (Q:x<=9223372036854775807):E x=x:=IntWalk.i64_in _ K
theorem kH {i n:Nat} (h:i<n) (hn:n<=9223372036854775807):E ((i:Int)+1)=((i+1:Nat):Int):=by rw[AX K K];omega
theorem uG {n:Nat} {p:Nat->Bool}:dz n p=true↔∀i,i<n->p i=true:=⟨dB,fQ⟩
theorem gq {n:Nat} {p:Nat->Bool} (i:Nat) (hi:i<n) (h:p i=false):dz n p=false:=by
 cases hb:dz n p with
 |false=>rfl|true=>rw[dB hb i hi]at h;cases h
def HJ (p:Nat->Bool):Nat->Nat->Int
 |0,_=>-1|k+1,i=>bif p i then(i:Int) else HJ p k (i+1)
def zO (n:Nat) (p:Nat->Bool):Int:=HJ p n 0
theorem R90 {p:Nat->Bool}:∀ (k i:Nat),(∀ j,i<=j->j<i+k->p j=false)->HJ p k i=-1
 |0,_,_=>rfl|k+1,i,h=>by simp only[HJ,h i (Ah _) K,cond_false];exact R90 k (i+1) λj M Q=>h j K K
theorem R50 {p:Nat->Bool} {j:Nat} (hj:p j=true):∀ (k i:Nat),i<=j->j<i+k->(∀ l,i<=l->l<j->p l=false)->HJ p k i=j
 |0,i,M,Q,_=>by omega
 |k+1,i,M,Q,h=>by
   by_cases e:i=j
   ·subst e;simp only[HJ,hj,cond_true]
   ·simp only[HJ,h i (Ah _) K,cond_false];exact R50 hj k (i+1) K K λl h3 h4=>h l K h4
section
variable {n:Nat} {p:Nat->Bool}
include n p
theorem xo (h:∀j,j<n->p j=false):zO n p=-1:=R90 n 0 λj _ Q=>h j K
theorem yI {j:Nat} (hj:p j=true) (M:j<n) (h:∀l,l<j->p l=false):zO n p=j:=R50 hj n 0 K K λl _ h4=>h l h4
theorem hat:(zO n p=-1/\∀ j,j<n->p j=false)∨∃ j,j<n/\zO n p=(j:Int)/\p j=true/\∀ l,l<j->p l=false:=by
 by_cases h:∀j,j<n->p j=false
 ·exact .inl ⟨xo h,h⟩
 ·right
  have:∃j,j<n/\p j=true:=by simp only[Classical.not_forall]at h;obtain⟨j,hj,hp⟩:=h;exact⟨j,hj,by simpa using hp⟩
  have key:∀ m,(∃ j,j<m/\j<n/\p j=true)->∃ j,j<n/\p j=true/\∀ l,l<j->p l=false:=by
   intro m;induction m with
   |zero=>rintro⟨j,hj,_⟩;omega
   |succ m ih=>
     rintro⟨j,hj,hn,hp⟩;by_cases hm:∃j,j<m/\j<n/\p j=true
     ·exact ih hm
     ·refine⟨j,hn,hp,λl hl=>?_⟩
      cases hb:p l with
      |false=>rfl|true=>exact(hm ⟨l,K,K,hb⟩).elim
  obtain⟨j,hj,hp⟩:=this;obtain⟨j,M,Q,h3⟩:=key n ⟨j,hj,hj,hp⟩;exact⟨j,M,yI Q M h3,Q,h3⟩
end
def gW (n:Nat) (p:Nat->Bool):Bool:=!dz n λi=>!p i
theorem mz {n:Nat} {p:Nat->Bool}:decide (0<=zO n p)=gW n p:=by
 rcases hat (n:=n) (p:=p) with ⟨M,Q⟩|⟨j,M,Q,h3,_⟩
 ·rw[M];unfold gW;rw[fQ λi hi=>by rw[Q i hi];rfl];rfl
 ·rw[Q];unfold gW;rw[gq j M (by rw[h3];rfl)];simp
section
variable {Pe:Type} {step:Pe->RT Pe} {r:V}
theorem Ev.st {s:Pe} (h0:fL (step s)=true) (h:aU (Ev step) (step s) r):Ev step s r:=Ev.of h0 h
end
section
variable {Pe:Type} {step:Pe->RT Pe}
theorem pN {QS : Int -> Pe} {n:Nat} {p:Nat->Bool} (hn:n<=9223372036854775807)
 (Qe:∀i:Nat,step (QS i)=.br (decide ((i:Int)<(n:Int))) (.ob (decide (0<=(i:Int)/\(i:Int)<(n:Int))) (.obc (.obt (.br (p i) (.ret (.int .i64 i)) (.next [] (QS (E ((i:Int)+1))) []))))) (.ret (.int .i64 (-1)))) :
 Ev step (QS 0) (.int .i64 (zO n p)):=by
 have key:=dv (n:=n) (P:=λi=>(∀ j,j<i->p j=false)->Ev step (QS i) (.int .i64 (zO n p))) λi hi ih hj=>by
  refine Ev.of (by rw[Qe];rfl) ?_;rw[Qe];refine AP (λh=>?_) (λh=>?_)
  ·have Pj:i<n:=by simpa using h
   refine aF (by simpa using Pj) (AM (ac (AP (λhb=>AF ?_) (λhb=>aK ?_))))
   ·rw[yI hb Pj hj]
   ·rw [kH Pj hn]
    exact ih Pj λj M=>by
     by_cases e:j=i
     ·subst e;exact hb
     ·exact hj j K
  ·have : i = n := by have:¬ i<n:=by simpa using h
                      omega
   subst this;refine AF ?_;rw[xo hj]
 exact key 0 (Bc _) λj hj=>by omega
end
theorem ky {n:Nat} (hn:n<=9223372036854775807) (p:Nat->Bool) {P:Int->Prop} (hstep:∀ i:Nat,i<n->(∀ j,j<i->p j=false)->(p i=false->P (E ((i:Int)+1)))->P i) (hend:(∀ j,j<n->p j=false)->P n):P 0:=by
 have key:=dv (n:=n) (P:=λi=>(∀ j,j<i->p j=false)->P i) λi hi ih hj=>by
  by_cases Pj:i<n
  ·refine hstep i Pj hj λhp=>?_
   rw[kH Pj hn];exact ih Pj λj M=>by
    by_cases e:j=i
    ·subst e;exact hp
    ·exact hj j K
  ·have:i=n:=by omega
   subst this;exact hend hj
 exact key 0 (Bc _) λj hj=>by omega
theorem E3 {n:Nat} (hn:n<=9223372036854775807) {P:Int->Prop} (hstep:∀ i:Nat,i<n->P (E ((i:Int)+1))->P i) (hend:P n):P 0 :=
 ky hn (λ_=>false) (λi hi _ h=>hstep i hi (h rfl)) λ_=>hend
section
variable {Pe:Type} {Nx:Pe->V->Prop} {r:V} {x y:RT Pe} {i n:Nat}
theorem dt (h:i<n) (hx:aU Nx x r):aU Nx (.br (decide ((i:Int)<(n:Int))) x y) r:=⟨λ_=>hx,λk=>by have:=D2 k;omega⟩
theorem dp (hy:aU Nx y r):aU Nx (.br (decide ((n:Int)<(n:Int))) x y) r:=⟨(λk=>by have:=As k;omega),λ_=>hy⟩
theorem c8 (h:i<n) (hx:aU Nx x r):aU Nx (.ob (decide (0<=(i:Int)/\(i:Int)<(n:Int))) x) r:=⟨J3 K,hx⟩
theorem qw {c:Bool} (h:i<n) (hx:aU Nx x r):aU Nx (.obj c (decide (0<=(i:Int)/\(i:Int)<(n:Int))) x) r:=⟨λ_=>J3 K,hx⟩
theorem cO {b:Bool} (h:b=true) (hx:aU Nx x r):aU Nx (.br b x y) r:=⟨λ_=>hx,λk=>by rw[h]at k;cases k⟩
theorem cW {b:Bool} (h:b=false) (hy:aU Nx y r):aU Nx (.br b x y) r:=⟨(λk=>by rw[h]at k;cases k),λ_=>hy⟩
end
end Go.Dx
namespace Go.Dx
open Go.IntKind (i64 u64 u8)
section
variable {n:Nat} {p:Nat->Bool}
include n p
theorem cZ (i:Nat) (hi:i<n) (h:p i=true):gW n p=true:=by unfold gW;rw[gq i hi (by rw[h];rfl)];rfl
theorem da (h:∀i,i<n->p i=false):gW n p=false:=by unfold gW;rw[fQ λi hi=>by rw[h i hi];rfl];rfl
theorem B1:gW n p=true↔∃ i,i<n/\p i=true:=by
 constructor
 ·intro h
  apply Classical.byContradiction;intro hn;rw[da λi hi=>by
   cases hp:p i with
   |false=>rfl|true=>exact(hn ⟨i,hi,hp⟩).elim]at h
  cases h
 ·rintro⟨i,hi,h⟩;exact cZ i hi h
end
end Go.Dx
namespace Go.Dx
open Go.IntKind (i64 u64 u8)
open Go.Sx
def gr (n:Nat) (c:Nat->Int):Int:=bif zO n (λi=>c i !=0)==-1 then 0 else zO n λi=>c i !=0
def d9 (n:Nat) (c:Nat->Int):Int:=bif zO n (λi=>c i !=0)==-1 then 0 else c (zO n λi=>c i !=0).toNat
theorem iD {n:Nat} {c:Nat->Int} (h:∀j,j<n->(c j !=0)=false):gr n c=0/\d9 n c=0:=by unfold gr d9;rw[xo h];exact⟨rfl,rfl⟩
theorem du {n:Nat} {c:Nat->Int} {i:Nat} (hi:i<n) (hc:(c i != 0)=true) (h:∀ j,j<i->(c j != 0)=false):gr n c=i/\d9 n c=c i:=by
 unfold gr d9;rw[yI hc hi h];have:((i:Int)==-1)=false:=by rw[KV];omega
 rw[this];exact⟨rfl,rfl⟩
section
variable {Pe:Type} {step:Pe->RT Pe}
theorem sI {QS:Int->Pe} {n:Nat} {c:Nat->Int} {Pg:Nat->Prop} {ρ:o7} (Q8:Nat->RT Pe->RT Pe) (hW:∀ i x r,Pg i->aU (Ev step) x r->aU (Ev step) (Q8 i x) r) (hWn:∀ i x,fL (Q8 i x)=fL x) (hn:n<=9223372036854775807) (hQ:∀ i,i<n->Pg i)
 (Qe:∀i:Nat,step (QS i)=.br (decide ((i:Int)<(n:Int))) (.ob (decide (0<=(i:Int)/\(i:Int)<(n:Int))) (.ob (decide (0<=(i:Int)/\(i:Int)<=(n:Int))) (Q8 i (.br (c i !=0) (.ret (.tup [.int .i64 i,.int .i64 (c i)])) (.next ρ (QS (E ((i:Int)+1))) []))))) (.ret (.tup [.int .i64 0,.int .i64 0]))) :
 Ev step (QS 0) (.tup [.int .i64 (gr n c),.int .i64 (d9 n c)]) :=
 ky hn (λi=>c i != 0) (P:=λi=>Ev step (QS i) (.tup [.int .i64 (gr n c),.int .i64 (d9 n c)])) (λi Pj hj next=>Ev.of (by rw[Qe];simp only[fL,hWn,JA]) (by
  rw[Qe];refine dt Pj (c8 Pj (aF (J3 K) (hW i _ _ (hQ i Pj) (AP (λhb=>AF ?_) (λhb=>aK (next hb))))));rw[(du Pj hb hj).1,(du Pj hb hj).2])) (λhj=>Ev.of (by rw[Qe];simp only[fL,hWn,JA]) (by
  rw[Qe];refine dp (AF ?_);rw[(iD hj).1,(iD hj).2]))
end
def aC (n:Nat) (f:be):Prop:=∀i,i<n->(sv (av (f i))).size<=9223372036854775807
end Go.Dx
namespace Go.Dx
open Go.IntKind (i64 u64 u8)
theorem ng {b:Bool} (h:(!!b)=true):(!b)=false:=by cases b<;>first|rfl|cases h
theorem Ou {b:Bool} (h:(!!b)=false):(!b)=true:=by cases b<;>first|rfl|cases h
end Go.Dx
namespace Go.Dx
open Go.IntKind (i64 u64 u8)
open Go.Sx Go.Proofs
variable (H:Nat) (G:be) (T:Int) (s0:ByteArray) (S:Int) (R:Nat) (N:be) (W:Int) (s2:ByteArray) (U:Int) (n4:Nat) (f4:be) (O x5:Int) (s5:ByteArray) (n6:Nat) (f6:be) (x6:Int) (s6:ByteArray) (n7:Nat) (f7:be) (Z Y x9 PV PT:Int)
noncomputable section
def Mb:bo:=(196,.con au9)::(197,.con an8)::(213,.con auE)::(214,.con atI)::(158,.con C78)::(101,.con C54)::(119,.con C59)::(100,.con C48)::(155,.con arL)::(172,.con an5)::(173,.con aux)::(175,.con apa)::tJ
theorem Dm:ba Tryz.prog AQ AS Mb:=.con arD (.con atn (.con asX (.con as6 (.con awS (.con axq (.con ay2 (.con azV (.con as5 (.con apo (.con arz (.con an4 (nk))))))))))))
def ate:RT Empty:=.cb (.cb (.cb (.cb (.br (decide (jy (bO O T) (bN x5 S) (bO W T) (bN U S)<=0)) (.cb (.ret (V.bool (decide (jy (bO O T) (bN x5 S) (bO O T) (bN x5 S)<=E (x6*x6)))))) (.br (decide (jy (bO W T) (bN U S) (bO W T) (bN U S)<=jy (bO O T) (bN x5 S) (bO W T) (bN U S))) (.cb (.cb (.ret (V.bool (decide (jy (bO O W) (bN x5 U) (bO O W) (bN x5 U)<=E (x6*x6))))))) (.cb (.cb (.cb (.cb (.ret (V.bool (uP (nZ (max (er (bO W T) (bN U S) (bO O T) (bN x5 S)) (E (0-er (bO W T) (bN U S) (bO O T) (bN x5 S)))) (max (er (bO W T) (bN U S) (bO O T) (bN x5 S)) (E (0-er (bO W T) (bN U S) (bO O T) (bN x5 S))))) (oP (max (er (bO W T) (bN U S) (bO O T) (bN x5 S)) (E (0-er (bO W T) (bN U S) (bO O T) (bN x5 S)))) (max (er (bO W T) (bN U S) (bO O T) (bN x5 S)) (E (0-er (bO W T) (bN U S) (bO O T) (bN x5 S))))) (nZ (E (x6*x6)) (jy (bO W T) (bN U S) (bO W T) (bN U S))) (oP (E (x6*x6)) (jy (bO W T) (bN U S) (bO W T) (bN U S)))))))))))))))
theorem ahz:cV cX (aQ JJ Mb u0 arX [V.agg [D T,D S,D W,D U],V.agg [D O,D x5],D x6]) (ate T S W U O x5 x6):=bF
def kx:Bool:=bif decide (jy (bO O T) (bN x5 S) (bO W T) (bN U S)<=0) then decide (jy (bO O T) (bN x5 S) (bO O T) (bN x5 S)<=E (x6*x6)) else bif decide (jy (bO W T) (bN U S) (bO W T) (bN U S)<=jy (bO O T) (bN x5 S) (bO W T) (bN U S)) then decide (jy (bO O W) (bN x5 U) (bO O W) (bN x5 U)<=E (x6*x6)) else uP (nZ (max (er (bO W T) (bN U S) (bO O T) (bN x5 S)) (E (0-er (bO W T) (bN U S) (bO O T) (bN x5 S)))) (max (er (bO W T) (bN U S) (bO O T) (bN x5 S)) (E (0-er (bO W T) (bN U S) (bO O T) (bN x5 S))))) (oP (max (er (bO W T) (bN U S) (bO O T) (bN x5 S)) (E (0-er (bO W T) (bN U S) (bO O T) (bN x5 S)))) (max (er (bO W T) (bN U S) (bO O T) (bN x5 S)) (E (0-er (bO W T) (bN U S) (bO O T) (bN x5 S))))) (nZ (E (x6*x6)) (jy (bO W T) (bN U S) (bO W T) (bN U S))) (oP (E (x6*x6)) (jy (bO W T) (bN U S) (bO W T) (bN U S)))
def Nl:V:=.bool (kx T S W U O x5 x6)
theorem atY:aU cN (ate T S W U O x5 x6) (Nl T S W U O x5 x6):=AM (ac (AM (ac (AM (ac (AM (ac (AP (λh0=>AM (ac (AF (by unfold Nl kx;try rw[h0];rfl)))) (λh0=>AP (λM=>AM (ac (AM (ac (AF (by unfold Nl kx;try rw[h0];try rw[M];rfl)))))) (λM=>AM (ac (AM (ac (AM (ac (AM (ac (AF (by unfold Nl kx;try rw[h0];try rw[M];rfl)))))))))))))))))))
def asl:aD:=bP [.agg gP,.agg aM,tI] (λ_=>True) λ|[.agg [.int _ T,.int _ S,.int _ W,.int _ U],.agg [.int _ O,.int _ x5],.int _ x6]=>Nl T S W U O x5 x6|_=>.any
theorem an7:b7 asl 156:=aT Dm λ_ hp=>c7 (ahz ..) (atY _ _ _ _ _ _ _)
def asN:RT Empty:=.cb (.cb (.cb (.br (decide (jx (bI T W) (bJ S U) (bI O W) (bJ x5 U)<=0)) (.cb (.ret (V.bool (decide (jx (bI T W) (bJ S U) (bI T W) (bJ S U)<=E (x6*x6)))))) (.cb (.cb (.br (decide (jx (bI O W) (bJ x5 U) (bI O W) (bJ x5 U)<=jx (bI T W) (bJ S U) (bI O W) (bJ x5 U))) (.cb (.cb (.ret (V.bool (decide (jx (bI T O) (bJ S x5) (bI T O) (bJ S x5)<=E (x6*x6))))))) (.cb (.cb (.cb (.cb (.cb (.cb (.ret (V.bool !uZ (mU (lO (fB (bI O W) (bJ x5 U) (bI T W) (bJ S U))) (lO (fB (bI O W) (bJ x5 U) (bI T W) (bJ S U)))) (mZ (lO (fB (bI O W) (bJ x5 U) (bI T W) (bJ S U))) (lO (fB (bI O W) (bJ x5 U) (bI T W) (bJ S U)))) (mU (E (x6*x6)) (jx (bI O W) (bJ x5 U) (bI O W) (bJ x5 U))) (mZ (E (x6*x6)) (jx (bI O W) (bJ x5 U) (bI O W) (bJ x5 U)))))))))))))))))
theorem alx:cV cX (aQ JJ Mb u0 aqT [V.agg [D T,D S],V.agg [D W,D U],V.agg [D O,D x5],D x6]) (asN T S W U O x5 x6):=bF
def lF:Bool:=bif decide (jx (bI T W) (bJ S U) (bI O W) (bJ x5 U)<=0) then decide (jx (bI T W) (bJ S U) (bI T W) (bJ S U)<=E (x6*x6)) else bif decide (jx (bI O W) (bJ x5 U) (bI O W) (bJ x5 U)<=jx (bI T W) (bJ S U) (bI O W) (bJ x5 U)) then decide (jx (bI T O) (bJ S x5) (bI T O) (bJ S x5)<=E (x6*x6)) else !uZ (mU (lO (fB (bI O W) (bJ x5 U) (bI T W) (bJ S U))) (lO (fB (bI O W) (bJ x5 U) (bI T W) (bJ S U)))) (mZ (lO (fB (bI O W) (bJ x5 U) (bI T W) (bJ S U))) (lO (fB (bI O W) (bJ x5 U) (bI T W) (bJ S U)))) (mU (E (x6*x6)) (jx (bI O W) (bJ x5 U) (bI O W) (bJ x5 U))) (mZ (E (x6*x6)) (jx (bI O W) (bJ x5 U) (bI O W) (bJ x5 U)))
def Ry:V:=.bool (lF T S W U O x5 x6)
theorem atK:aU cN (asN T S W U O x5 x6) (Ry T S W U O x5 x6):=AM (ac (AM (ac (AM (ac (AP (λh0=>AM (ac (AF (by unfold Ry lF;try rw[h0];rfl)))) (λh0=>AM (ac (AM (ac (AP (λM=>AM (ac (AM (ac (AF (by unfold Ry lF;try rw[h0];try rw[M];rfl)))))) (λM=>AM (ac (AM (ac (AM (ac (AM (ac (AM (ac (AM (ac (AF (by unfold Ry lF;try rw[h0];try rw[M];rfl)))))))))))))))))))))))))
def asE:aD:=bP [.agg aM,.agg aM,.agg aM,tI] (λ_=>True) λ|[.agg [.int _ T,.int _ S],.agg [.int _ W,.int _ U],.agg [.int _ O,.int _ x5],.int _ x6]=>Ry T S W U O x5 x6|_=>.any
theorem arP:b7 asE 174:=aT Dm λ_ hp=>c7 (alx ..) (atK _ _ _ _ _ _ _)
def ar3:RT Empty:=.cb (.cb (.cb (.cb (.cb (.cb (.cb (.cb (.cb (.cb (.cb (.cb (.cb (.cb (.cb (.iv (.iv (.iv (.iv (.iv (.ii (.ret (V.bool (bif !fB (bI O W) (bJ x5 U) (bI x6 W) (bJ Z U)==0 then bif bif bif decide (0<=fC (fB (bI O W) (bJ x5 U) (bI T W) (bJ S U))) then decide (0<=fC (fB (bI x6 O) (bJ Z x5) (bI T O) (bJ S x5))) else false then decide (0<=fC (fB (bI W x6) (bJ U Z) (bI T x6) (bJ S Z))) else false then true else bif bif decide (fC (fB (bI O W) (bJ x5 U) (bI T W) (bJ S U))<=0) then decide (fC (fB (bI x6 O) (bJ Z x5) (bI T O) (bJ S x5))<=0) else false then decide (fC (fB (bI W x6) (bJ U Z) (bI T x6) (bJ S Z))<=0) else false else false)))))))))))))))))))))))
theorem ahP:cV cX (aQ JJ Mb u0 arc [V.agg [D T,D S],V.agg [D W,D U],V.agg [D O,D x5],V.agg [D x6,D Z]]) (ar3 T S W U O x5 x6 Z):=bF
def pQ:Bool:=bif !fB (bI O W) (bJ x5 U) (bI x6 W) (bJ Z U)==0 then bif bif bif decide (0<=fC (fB (bI O W) (bJ x5 U) (bI T W) (bJ S U))) then decide (0<=fC (fB (bI x6 O) (bJ Z x5) (bI T O) (bJ S x5))) else false then decide (0<=fC (fB (bI W x6) (bJ U Z) (bI T x6) (bJ S Z))) else false then true else bif bif decide (fC (fB (bI O W) (bJ x5 U) (bI T W) (bJ S U))<=0) then decide (fC (fB (bI x6 O) (bJ Z x5) (bI T O) (bJ S x5))<=0) else false then decide (fC (fB (bI W x6) (bJ U Z) (bI T x6) (bJ S Z))<=0) else false else false
def Ms:V:=.bool (pQ T S W U O x5 x6 Z)
theorem aqI:aU cN (ar3 T S W U O x5 x6 Z) (Ms T S W U O x5 x6 Z):=AM (ac (AM (ac (AM (ac (AM (ac (AM (ac (AM (ac (AM (ac (AM (ac (AM (ac (AM (ac (AM (ac (AM (ac (AM (ac (AM (ac (AM (ac (AE (AE (AE (AE (AE (AE (AE (AE (AE (AE (AE (AE (AE (AE (AE (AE (AE (AE (AE (AE (AE (AE (AF (by unfold Ms pQ;rfl)))))))))))))))))))))))))))))))))))))))))))))))))))))
def auJ:aD:=bP [.agg aM,.agg aM,.agg aM,.agg aM] (λ_=>True) λ|[.agg [.int _ T,.int _ S],.agg [.int _ W,.int _ U],.agg [.int _ O,.int _ x5],.agg [.int _ x6,.int _ Z]]=>Ms T S W U O x5 x6 Z|_=>.any
theorem aoa:b7 auJ 176:=aT Dm λ_ hp=>c7 (ahP ..) (aqI _ _ _ _ _ _ _ _)
def atZ:RT Empty:=.cb (.ret (V.bool (bY T (-100000) 100000)))
theorem ahy:cV cX (aQ JJ Mb u0 adm [D T]) (atZ T):=bF
def CO:Bool:=bY T (-100000) 100000
def O5:V:=.bool (CO T)
theorem aoI:aU cN (atZ T) (O5 T):=AM (ac (AF (by unfold O5 CO;rfl)))
def arN:aD:=bP L (λ_=>True) λ|[.int _ T]=>O5 T|_=>.any
theorem ao8:b7 arN 187:=aT Dm λ_ hp=>c7 (ahy ..) (aoI _)
def BG:bo:=(156,.con asl)::(174,.con asE)::(176,.con auJ)::(187,.con arN)::Mb
theorem AJ:ba Tryz.prog AQ AS BG:=.con an7 (.con arP (.con aoa (.con ao8 (Dm))))
def ava:RT Empty:=dm (S,R,N,O,x6,n7,f7,x9) (.ret (V.bool (s0.toList==s5.toList)))
theorem amB:cV cX (aQ JJ BG u0 arK [V.agg [V.str s0,D S,V.sl R (A aM N),D O],V.pd [V.str s5,D x6,V.sl n7 (A aM f7),D x9]]) (ava s0 S R N O s5 x6 n7 f7 x9):=bF
def BS:Bool:=s0.toList==s5.toList
def N9:V:=dm (S,R,N,O,x6,n7,f7,x9) (.bool (BS s0 s5))
theorem apg:aU cN (ava s0 S R N O s5 x6 n7 f7 x9) (N9 s0 S R N O s5 x6 n7 f7 x9):=AF (by unfold N9 BS;rfl)
def arS:aD:=bP [.agg aZ,.pd aZ] (λ_=>True) λ|[.agg [.str s0,.int _ S,.sl R N,.int _ O],.pd [.str s5,.int _ x6,.sl n7 f7,.int _ x9]]=>N9 s0 S R N O s5 x6 n7 f7 x9|_=>.any
theorem aso:b7 arS 139:=aT AJ λ_ hp=>c7 (amB ..) (apg _ _ _ _ _ _ _ _ _ _)
def aqJ:RT Empty:=.cb (.ii (.obi (.br (!bY S 1 1000) (.ob (!bY S 1 1000) (.ob (!bY S 1 1000) (.cb (.obi (.br (!bY T 0 (E (S-1))) (.ob (!bY T 0 (E (S-1))) (.cb (.ii (.obi (.br (!bY U 1 1000) (.ob (!bY U 1 1000) (.ob (!bY U 1 1000) (.cb (.ret (V.bool (bY W 0 (E (U-1)))))))) (.ret (V.kb true))))))) (.ret (V.kb true))))))) (.ret (V.kb true)))))
theorem ajN:cV cX (aQ JJ BG u0 asi [V.agg [D T,D S,D W,D U]]) (aqJ T S W U):=bF
def mS:Bool:=bif !bY S 1 1000 then bif !bY T 0 (E (S-1)) then bif !bY U 1 1000 then bY W 0 (E (U-1)) else true else true else true
def MM:V:=.bool (mS T S W U)
theorem asY:aU cN (aqJ T S W U) (MM T S W U):=AM (ac (AE (AE (AE (AP (λh0=>aF (by first|assumption|(fail)) (aF (by first|assumption|(fail)) (AM (ac (AE (AP (λM=>aF (by first|assumption|(fail)) (AM (ac (AE (AE (AE (AP (λQ=>aF (by first|assumption|(fail)) (aF (by first|assumption|(fail)) (AM (ac (AF (by unfold MM mS;try rw[h0];try rw[M];try rw[Q];rfl)))))) (λQ=>AF (by unfold MM mS;try rw[h0];try rw[M];try rw[Q];rfl))))))))) (λM=>AF (by unfold MM mS;try rw[h0];try rw[M];rfl)))))))) (λh0=>AF (by unfold MM mS;try rw[h0];rfl)))))))
def ybm:aD:=bP [.agg gP] (λ_=>True) λ|[.agg [.int _ T,.int _ S,.int _ W,.int _ U]]=>MM T S W U|_=>.any
theorem aru:b7 ybm 148:=aT AJ λ_ hp=>c7 (ajN ..) (asY _ _ _ _)
def aom:RT Empty:=dm (S,W,U,O,x5,Z,Y,x9,PV,PT) (.ret (V.bool (s0.toList==s6.toList)))
theorem aiW:cV cX (aQ JJ BG u0 aqW [V.agg [V.str s0,D S,D W,D U,D O,D x5],V.pd [V.str s6,D Z,D Y,D x9,D PV,D PT]]) (aom s0 S W U O x5 s6 Z Y x9 PV PT):=bF
def C7:Bool:=s0.toList==s6.toList
def Nt:V:=dm (S,W,U,O,x5,Z,Y,x9,PV,PT) (.bool (C7 s0 s6))
theorem atc:aU cN (aom s0 S W U O x5 s6 Z Y x9 PV PT) (Nt s0 S W U O x5 s6 Z Y x9 PV PT):=AF (by unfold Nt C7;rfl)
def aqa:aD:=bP [.agg aV,.pd aV] (λ_=>True) λ|[.agg [.str s0,.int _ S,.int _ W,.int _ U,.int _ O,.int _ x5],.pd [.str s6,.int _ Z,.int _ Y,.int _ x9,.int _ PV,.int _ PT]]=>Nt s0 S W U O x5 s6 Z Y x9 PV PT|_=>.any
theorem aun:b7 aqa 150:=aT AJ λ_ hp=>c7 (aiW ..) (atc _ _ _ _ _ _ _ _ _ _ _ _)
inductive Gj where|L0 (_:Int)
def ase:Gj->bT×List AD×Option Ex
 |.L0 PW=>([(3,D PW),(2,V.kb false),(0,V.sl H (A L G))],[],none)
def ayx:Gj->JJ
 |.L0 _=>(0,[])
def auh:AN (cr JJ):=aQ JJ BG u0 ayB [V.sl H (A L G)]
def fs8 (cx:List Cx):Lp JJ:=eX (eC (auh H G) [])
def axW:JJ->Lp JJ
 |(0,cx)=>fs8 H G cx|(_,cx)=>fs8 H G cx
def D51:LD JJ Gj:=⟨ayx,axW H G,ase H G⟩
def ZQ:Gj->RT Gj
 |.L0 PW=>.am H (.br (decide (PW<(H:Int))) (.ob (decide (0<=PW/\PW<(H:Int))) (.cb (.br (!dC (aA (G PW.toNat)) (-100000) 100000) (.ret (V.kb false)) (.next [] (Gj.L0 (E (PW+1))) [])))) (.ret (V.kb true)))
def OZ:RT Gj:=dm (H,G) (.enter [] (Gj.L0 0) [])
theorem atb:d0 BG u0 (D51 H G) (auh H G) (OZ H G) (ZQ H G):=⟨bF,λs=>by cases s<;>exact bF⟩
def wj:Bool:=dz H λi=>dC (aA (G i)) (-100000) 100000
theorem aly:aU (Ev (ZQ H G)) (OZ H G) (.bool (wj H G)):=by
 refine aH ?_;have key:=dv (n:=H) (P:=λi=>(∀ j,j<i->dC (aA (G j)) (-100000) 100000=true)->Ev (ZQ H G) (.L0 i) (.bool (wj H G))) λi hi ih hj=>by
  refine Ev.of rfl (bC λhn=>AP (λh=>?_) (λh=>AF ?_))
  ·have Pj:i<H:=by simpa using h
   refine aF (by simpa using Pj) (AM (ac (AP (λhb=>AF ?_) (λhb=>aK ?_))))
   ·simp only[dj];unfold wj;rw[gq i Pj (by simpa using hb)]
   ·rw[kH Pj hn];exact ih Pj λj M=>by
     by_cases e:j=i
     ·subst e;simpa using hb
     ·exact hj j K
  ·have:i=H:=by
    have:¬i<H:=by simpa using h
    omega
   subst this;simp only[dj];unfold wj;rw[fQ hj]
 exact key 0 (Bc _) λj hj=>by omega
theorem axx:aU (Ev (ZQ H G)) (OZ H G) (.bool (wj H (A L G))):=aly H G
def C51:aD:=bP [.sl L] (λ_=>True) λ|[.sl H G]=>.bool (wj H G)|_=>.any
theorem axE:b7 C51 162:=aT AJ λ_ hp=>kt (atb ..) (axx _ _)
inductive Fv where|L0 (_:Int)
def amQ:Fv->bT×List AD×Option Ex
 |.L0 PW=>([(8,D PW),(7,D (H:Int)),(6,V.sl H (A L G)),(4,D 0),(0,V.sl H (A L G)),(1,V.fn 187 [] [])],[],none)
def aoE:Fv->JJ
 |.L0 _=>(0,[])
def acX:AN (cr JJ):=aQ JJ BG u0 Ja [V.sl H (A L G),V.fn 187 [] []]
def aid (cx:List Cx):Lp JJ:=eX (eC (acX H G) [])
def aut:JJ->Lp JJ
 |(0,cx)=>aid H G cx|(_,cx)=>aid H G cx
def axm:LD JJ Fv:=⟨aoE,aut H G,amQ H G⟩
def QB:Fv->RT Fv
 |.L0 PW=>.br (decide (PW<(H:Int))) (.ob (decide (0<=PW/\PW<(H:Int))) (.cb (.br (CO (aA (G PW.toNat))) (.ret (D PW)) (.next [] (Fv.L0 (E (PW+1))) [])))) (.ret (D (-1)))
def NC:RT Fv:=dm G (.am H (.enter [] (Fv.L0 0) []))
theorem ahj:d0 BG u0 (axm H G) (acX H G) (NC H G) (QB H G):=⟨bF,λs=>by cases s<;>exact bF⟩
def LS:Int  :=zO H λii=>CO (aA (G ii))
theorem nf5:aU (Ev (QB H G)) (NC H G) (D (LS H G)):=bC λhn=>aH (pN hn λi=>rfl)
theorem auL:aU (Ev (QB H G)) (NC H G) (D (LS H (A L G))):=nf5 H G
def auf:aD:=bP [.sl L,.fn 187 [] []] (λ_=>True) λ|[.sl H G,.fn _ [] []]=>D (LS H G)|_=>.any
theorem ap8:b7 auf 92:=aT AJ λ_ hp=>kt (ahj ..) (auL _ _)
def Br:bo:=(139,.con arS)::(148,.con ybm)::(150,.con aqa)::(162,.con C51)::(92,.con auf)::BG
theorem E8:ba Tryz.prog AQ AS Br:=.con aso (.con aru (.con aun (.con axE (.con ap8 (AJ)))))
def m99:RT Empty:=.cb (.ret (V.bool (decide (0<=LS H (A L G)))))
theorem ao2:cV cX (aQ JJ Br u0 Z7 [V.sl H (A L G),V.fn 187 [] []]) (m99 H G):=bF
def D9:Bool:=decide (0<=LS H (A L G))
def MH:V:=.bool (D9 H G)
theorem azh:aU cN (m99 H G) (MH H G):=AM (ac (AF (by unfold MH D9;rfl)))
def C99:aD:=bP [.sl L,.fn 187 [] []] (λ_=>True) λ|[.sl H G,.fn _ [] []]=>MH H G|_=>.any
theorem ayL:b7 C99 52:=aT E8 λ_ hp=>c7 (ao2 ..) (azh _ _)
inductive Fq where|L0 (_:Int)
def amd:Fq->bT×List AD×Option Ex
 |.L0 PW=>([(8,D PW),(7,D (H:Int)),(6,V.sl H (A aZ G)),(4,D 0),(0,V.sl H (A aZ G)),(1,V.fn 139 [] [V.pd [V.str s2,D U,V.sl n4 (A aM f4),D x6]])],[],none)
def aqy:Fq->JJ
 |.L0 _=>(0,[])
def acL:AN (cr JJ):=aQ JJ Br u0 atr [V.sl H (A aZ G),V.fn 139 [] [V.pd [V.str s2,D U,V.sl n4 (A aM f4),D x6]]]
def axT (cx:List Cx):Lp JJ:=eX (eC (acL H G s2 U n4 f4 x6) [])
def aoh:JJ->Lp JJ
 |(0,cx)=>axT H G s2 U n4 f4 x6 cx|(_,cx)=>axT H G s2 U n4 f4 x6 cx
def azW:LD JJ Fq:=⟨aqy,aoh H G s2 U n4 f4 x6,amd H G s2 U n4 f4 x6⟩
def Oj (H:Nat) (G:be) (s2:ByteArray) (U:Int) (n4:Nat) (f4:be) (x6:Int):Fq->RT Fq
 |.L0 PW=>.br (decide (PW<(H:Int))) (.ob (decide (0<=PW/\PW<(H:Int))) (.cb (.br (BS (sv (av (G PW.toNat))) s2) (.ret (D PW)) (.next [] (Fq.L0 (E (PW+1))) [])))) (.ret (D (-1)))
def NW:RT Fq:=dm (G,s2,U,n4,f4,x6) (.am H (.enter [] (Fq.L0 0) []))
theorem ahl:d0 Br u0 (azW H G s2 U n4 f4 x6) (acL H G s2 U n4 f4 x6) (NW H G s2 U n4 f4 x6) (Oj H G s2 U n4 f4 x6):=⟨bF,λs=>by cases s<;>exact bF⟩
def Mv:Int  :=zO H λii=>BS (sv (av (G ii))) s2
theorem szB:aU (Ev (Oj H G s2 U n4 f4 x6)) (NW H G s2 U n4 f4 x6) (D (Mv H G s2)):=bC λhn=>aH (pN hn λi=>rfl)
theorem aq9:aU (Ev (Oj H G s2 U n4 f4 x6)) (NW H G s2 U n4 f4 x6) (D (Mv H (A aZ G) s2)):=szB H G s2 U n4 f4 x6
def asu:aD:=bP [.sl aZ,.fn 139 [] [.pd aZ]] (λ_=>True) λ|[.sl H G,.fn _ [] [.pd [.str s2,.int _ U,.sl n4 f4,.int _ x6]]]=>D (Mv H G s2)|_=>.any
theorem aot:b7 asu 189:=aT E8 λ_ hp=>kt (ahl ..) (aq9 _ _ _ _ _ _ _)
inductive Hr where|L0 (_:Int)
def ajR:Hr->bT×List AD×Option Ex
 |.L0 PW=>([(8,D PW),(7,D (H:Int)),(6,V.sl H (A gP G)),(4,D 0),(0,V.sl H (A gP G)),(1,V.fn 148 [] [])],[],none)
def aqB:Hr->JJ
 |.L0 _=>(0,[])
def acN:AN (cr JJ):=aQ JJ Br u0 apr [V.sl H (A gP G),V.fn 148 [] []]
def aqM (cx:List Cx):Lp JJ:=eX (eC (acN H G) [])
def apt:JJ->Lp JJ
 |(0,cx)=>aqM H G cx|(_,cx)=>aqM H G cx
def axy:LD JJ Hr:=⟨aqB,apt H G,ajR H G⟩
def SC:Hr->RT Hr
 |.L0 PW=>.br (decide (PW<(H:Int))) (.ob (decide (0<=PW/\PW<(H:Int))) (.cb (.br (mS (aA (G PW.toNat)) (aR (G PW.toNat)) (bX (G PW.toNat)) (bf (G PW.toNat))) (.ret (D PW)) (.next [] (Hr.L0 (E (PW+1))) [])))) (.ret (D (-1)))
def O4:RT Hr:=dm G (.am H (.enter [] (Hr.L0 0) []))
theorem ae3:d0 Br u0 (axy H G) (acN H G) (O4 H G) (SC H G):=⟨bF,λs=>by cases s<;>exact bF⟩
def MK:Int  :=zO H λii=>mS (aA (G ii)) (aR (G ii)) (bX (G ii)) (bf (G ii))
theorem isW:aU (Ev (SC H G)) (O4 H G) (D (MK H G)):=bC λhn=>aH (pN hn λi=>rfl)
theorem auG:aU (Ev (SC H G)) (O4 H G) (D (MK H (A gP G))):=isW H G
def ao0:aD:=bP [.sl gP,.fn 148 [] []] (λ_=>True) λ|[.sl H G,.fn _ [] []]=>D (MK H G)|_=>.any
theorem asq:b7 ao0 191:=aT E8 λ_ hp=>kt (ae3 ..) (auG _ _)
inductive DG where|L0 (_:Int)
def agb:DG->bT×List AD×Option Ex
 |.L0 PW=>([(8,D PW),(7,D (H:Int)),(6,V.sl H (A aV G)),(4,D 0),(0,V.sl H (A aV G)),(1,V.fn 150 [] [V.pd [V.str s2,D U,D O,D x5,D x6,D Z]])],[],none)
def asc:DG->JJ
 |.L0 _=>(0,[])
def aeF:AN (cr JJ):=aQ JJ Br u0 apw [V.sl H (A aV G),V.fn 150 [] [V.pd [V.str s2,D U,D O,D x5,D x6,D Z]]]
def ain (cx:List Cx):Lp JJ:=eX (eC (aeF H G s2 U O x5 x6 Z) [])
def aro:JJ->Lp JJ
 |(0,cx)=>ain H G s2 U O x5 x6 Z cx|(_,cx)=>ain H G s2 U O x5 x6 Z cx
def aAl:LD JJ DG:=⟨asc,aro H G s2 U O x5 x6 Z,agb H G s2 U O x5 x6 Z⟩
def Pl (H:Nat) (G:be) (s2:ByteArray) (U O x5 x6 Z:Int):DG->RT DG
 |.L0 PW=>.br (decide (PW<(H:Int))) (.ob (decide (0<=PW/\PW<(H:Int))) (.cb (.br (C7 (sv (av (G PW.toNat))) s2) (.ret (D PW)) (.next [] (DG.L0 (E (PW+1))) [])))) (.ret (D (-1)))
def Ny:RT DG:=dm (G,s2,U,O,x5,x6,Z) (.am H (.enter [] (DG.L0 0) []))
theorem aib:d0 Br u0 (aAl H G s2 U O x5 x6 Z) (aeF H G s2 U O x5 x6 Z) (Ny H G s2 U O x5 x6 Z) (Pl H G s2 U O x5 x6 Z):=⟨bF,λs=>by cases s<;>exact bF⟩
def Mc:Int  :=zO H λii=>C7 (sv (av (G ii))) s2
theorem x15:aU (Ev (Pl H G s2 U O x5 x6 Z)) (Ny H G s2 U O x5 x6 Z) (D (Mc H G s2)):=bC λhn=>aH (pN hn λi=>rfl)
theorem aok:aU (Ev (Pl H G s2 U O x5 x6 Z)) (Ny H G s2 U O x5 x6 Z) (D (Mc H (A aV G) s2)):=x15 H G s2 U O x5 x6 Z
def aul:aD:=bP [.sl aV,.fn 150 [] [.pd aV]] (λ_=>True) λ|[.sl H G,.fn _ [] [.pd [.str s2,.int _ U,.int _ O,.int _ x5,.int _ x6,.int _ Z]]]=>D (Mc H G s2)|_=>.any
theorem apA:b7 aul 192:=aT E8 λ_ hp=>kt (aib ..) (aok _ _ _ _ _ _ _ _)
def Me:bo:=(52,.con C99)::(189,.con asu)::(191,.con ao0)::(192,.con aul)::Br
theorem EN:ba Tryz.prog AQ AS Me:=.con ayL (.con aot (.con asq (.con apA (E8))))
def m45:RT Empty:=.cb (.ret (V.bool (D9 H (A L G))))
theorem aqc:cV cX (aQ JJ Me u0 asM [V.sl H (A L G)]) (m45 H G):=bF
def kB:Bool:=D9 H (A L G)
def Lg:V:=.bool (kB H G)
theorem awq:aU cN (m45 H G) (Lg H G):=AM (ac (AF (by unfold Lg kB;rfl)))
def C45:aD:=bP [.sl L] (λ_=>True) λ|[.sl H G]=>Lg H G|_=>.any
theorem avU:b7 C45 141:=aT EN λ_ hp=>c7 (aqc ..) (awq _ _)
def m90:RT Empty:=dm (U,n4,f4,x6) (.cb (.ret (V.bool (decide (0<=Mv H (A aZ G) s2)))))
theorem ash:cV cX (aQ JJ Me u0 axv [V.sl H (A aZ G),V.fn 139 [] [V.pd [V.str s2,D U,V.sl n4 (A aM f4),D x6]]]) (m90 H G s2 U n4 f4 x6):=bF
def vk:Bool:=decide (0<=Mv H (A aZ G) s2)
def Ly:V:=dm (U,n4,f4,x6) (.bool (vk H G s2))
theorem ax7:aU cN (m90 H G s2 U n4 f4 x6) (Ly H G s2 U n4 f4 x6):=AM (ac (AF (by unfold Ly vk;rfl)))
def C90:aD:=bP [.sl aZ,.fn 139 [] [.pd aZ]] (λ_=>True) λ|[.sl H G,.fn _ [] [.pd [.str s2,.int _ U,.sl n4 f4,.int _ x6]]]=>Ly H G s2 U n4 f4 x6|_=>.any
theorem ayu:b7 C90 143:=aT EN λ_ hp=>c7 (ash ..) (ax7 _ _ _ _ _ _ _)
def atg:RT Empty:=.cb (.ret (V.bool (decide (0<=MK H (A gP G)))))
theorem aki:cV cX (aQ JJ Me u0 avc [V.sl H (A gP G),V.fn 148 [] []]) (atg H G):=bF
def ud:Bool:=decide (0<=MK H (A gP G))
def Ni:V:=.bool (ud H G)
theorem as7:aU cN (atg H G) (Ni H G):=AM (ac (AF (by unfold Ni ud;rfl)))
def at5:aD:=bP [.sl gP,.fn 148 [] []] (λ_=>True) λ|[.sl H G,.fn _ [] []]=>Ni H G|_=>.any
theorem auy:b7 at5 149:=aT EN λ_ hp=>c7 (aki ..) (as7 _ _)
def avk:RT Empty:=dm (U,O,x5,x6,Z) (.cb (.ret (V.bool (decide (0<=Mc H (A aV G) s2)))))
theorem aiy:cV cX (aQ JJ Me u0 ap4 [V.sl H (A aV G),V.fn 150 [] [V.pd [V.str s2,D U,D O,D x5,D x6,D Z]]]) (avk H G s2 U O x5 x6 Z):=bF
def uf:Bool:=decide (0<=Mc H (A aV G) s2)
def Nw:V:=dm (U,O,x5,x6,Z) (.bool (uf H G s2))
theorem asw:aU cN (avk H G s2 U O x5 x6 Z) (Nw H G s2 U O x5 x6 Z):=AM (ac (AF (by unfold Nw uf;rfl)))
def apn:aD:=bP [.sl aV,.fn 150 [] [.pd aV]] (λ_=>True) λ|[.sl H G,.fn _ [] [.pd [.str s2,.int _ U,.int _ O,.int _ x5,.int _ x6,.int _ Z]]]=>Nw H G s2 U O x5 x6 Z|_=>.any
theorem aqb:b7 apn 151:=aT EN λ_ hp=>c7 (aiy ..) (asw _ _ _ _ _ _ _ _)
def xQ:bo:=(141,.con C45)::(143,.con C90)::(149,.con at5)::(151,.con apn)::Me
theorem vd:ba Tryz.prog AQ AS xQ:=.con avU (.con ayu (.con auy (.con aqb (EN))))
def apm:RT Empty:=.obt (.obt (.cb (.ret (V.bool (kB 2 (A L (b9 [D T,D S] 0 1)))))))
theorem amb:cV cX (aQ JJ xQ u0 atd [V.agg [D T,D S]]) (apm T S):=bF
def uA:Bool:=kB 2 (A L (b9 [D T,D S] 0 1))
def Na:V:=.bool (uA T S)
theorem aqK:aU cN (apm T S) (Na T S):=ac (ac (AM (ac (AF (by unfold Na uA;rfl)))))
def avg:aD:=bP [.agg aM] (λ_=>True) λ|[.agg [.int _ T,.int _ S]]=>Na T S|_=>.any
theorem aqi:b7 avg 140:=aT vd λ_ hp=>c7 (amb ..) (aqK _ _)
def m65:RT Empty:=dm (H,G) (.cb (.obi (.br (!kB 2 (A L (b9 [D W,D U] 0 1))) (.ob (!kB 2 (A L (b9 [D W,D U] 0 1))) (.cb (.ii (.obi (.br (!bY O 1 20000) (.ob (!bY O 1 20000) (.ob (!bY O 1 20000) (.cb (.obi (.br (!bY x5 0 (E (x6-1))) (.ob (!bY x5 0 (E (x6-1))) (.cb (.br (bY x6 1 1000) (.ret (D 7)) (.ret (D 0))))) (.ret (D 7))))))) (.ret (D 7))))))) (.ret (D 7)))))
theorem ao5:cV cX (aQ JJ xQ u0 av9 [V.sl H (A bj G),V.agg [D W,D U,D O,D x5,D x6]]) (m65 H G W U O x5 x6):=bF
def pO:Int:=bif !kB 2 (A L (b9 [D W,D U] 0 1)) then bif !bY O 1 20000 then bif !bY x5 0 (E (x6-1)) then bif bY x6 1 1000 then 7 else 0 else 7 else 7 else 7
def I1:V:=dm (H,G) (D (pO W U O x5 x6))
theorem awI:aU cN (m65 H G W U O x5 x6) (I1 H G W U O x5 x6):=AM (ac (AE (AP (λh0=>aF (by first|assumption|(fail)) (AM (ac (AE (AE (AE (AP (λM=>aF (by first|assumption|(fail)) (aF (by first|assumption|(fail)) (AM (ac (AE (AP (λQ=>aF (by first|assumption|(fail)) (AM (ac (AP (λh3=>AF (by unfold I1 pO;try rw[h0];try rw[M];try rw[Q];try rw[h3];rfl)) (λh3=>AF (by unfold I1 pO;try rw[h0];try rw[M];try rw[Q];try rw[h3];rfl)))))) (λQ=>AF (by unfold I1 pO;try rw[h0];try rw[M];try rw[Q];rfl)))))))) (λM=>AF (by unfold I1 pO;try rw[h0];try rw[M];rfl))))))))) (λh0=>AF (by unfold I1 pO;try rw[h0];rfl)))))
def C65:aD:=bP [.sl bj,.agg bj] (λ_=>True) λ|[.sl H G,.agg [.int _ W,.int _ U,.int _ O,.int _ x5,.int _ x6]]=>I1 H G W U O x5 x6|_=>.any
theorem axB:b7 C65 87:=aT vd λ_ hp=>c7 (ao5 ..) (awI _ _ _ _ _ _ _)
def m67:RT Empty:=dm (H,G) (.obt (.obt (.obt (.obt (.cb (.br (kB 4 (A L (b9 [D W,D U,D O,D x5] 0 1))) (.ret (D 7)) (.br (W==O&&(U==x5&&true)) (.ret (D 2)) (.am n6 (.br (decide (6<(n6:Int))) (.ret (D 3)) (.cb (.br (ud n6 (A gP f6)) (.ret (D 7)) (.ret (D 0)))))))))))))
theorem auv:cV cX (aQ JJ xQ u0 aAj [V.sl H (A bm G),V.agg [D W,D U,D O,D x5,V.sl n6 (A gP f6)]]) (m67 H G W U O x5 n6 f6):=bF
def pT:Int:=bif kB 4 (A L (b9 [D W,D U,D O,D x5] 0 1)) then 7 else bif W==O&&(U==x5&&true) then 2 else bif decide (6<(n6:Int)) then 3 else bif ud n6 (A gP f6) then 7 else 0
def I2:V:=dm (H,G) (D (pT W U O x5 n6 f6))
theorem av0:aU cN (m67 H G W U O x5 n6 f6) (I2 H G W U O x5 n6 f6):=ac (ac (ac (ac (AM (ac (AP (λh0=>AF (by unfold I2 pT;try rw[h0];rfl)) (λh0=>AP (λM=>AF (by unfold I2 pT;try rw[h0];try rw[M];rfl)) (λM=>Af (λa2=>AP (λQ=>AF (by unfold I2 pT;try rw[h0];try rw[M];try rw[Q];rfl)) (λQ=>AM (ac (AP (λh3=>AF (by unfold I2 pT;try rw[h0];try rw[M];try rw[Q];try rw[h3];rfl)) (λh3=>AF (by unfold I2 pT;try rw[h0];try rw[M];try rw[Q];try rw[h3];rfl))))))))))))))
def C67:aD:=bP [.sl bm,.agg bm] (λ_=>True) λ|[.sl H G,.agg [.int _ W,.int _ U,.int _ O,.int _ x5,.sl n6 f6]]=>I2 H G W U O x5 n6 f6|_=>.any
theorem azm:b7 C67 89:=aT vd λ_ hp=>c7 (auv ..) (av0 _ _ _ _ _ _ _ _)
def m53:RT Empty:=.cb (.iv (.iv (.ii (.ret (V.bool (bif bif kB 4 (A L (b9 [D T,D S,D W,D U] 0 1)) then true else decide (W<T) then true else decide (U<S)))))))
theorem aoy:cV cX (aQ JJ xQ u0 atk [V.agg [D T,D S,D W,D U]]) (m53 T S W U):=bF
def yQ:Bool:=bif bif kB 4 (A L (b9 [D T,D S,D W,D U] 0 1)) then true else decide (W<T) then true else decide (U<S)
def Li:V:=.bool (yQ T S W U)
theorem ax3:aU cN (m53 T S W U) (Li T S W U):=AM (ac (AE (AE (AE (AE (AE (AE (AE (AE (AE (AE (AF (by unfold Li yQ;rfl)))))))))))))
def C53:aD:=bP [.agg gP] (λ_=>True) λ|[.agg [.int _ T,.int _ S,.int _ W,.int _ U]]=>Li T S W U|_=>.any
theorem awZ:b7 C53 99:=aT vd λ_ hp=>c7 (aoy ..) (ax3 _ _ _ _)
def m58:RT Empty:=.cb (.iv (.iv (.ii (.ret (V.bool (bif bif wj 4 (A L (b9 [D T,D S,D W,D U] 0 1)) then decide (T<=W) else false then decide (S<=U) else false))))))
theorem apS:cV cX (aQ JJ xQ u0 ayb [V.agg [D T,D S,D W,D U]]) (m58 T S W U):=bF
def rm:Bool:=bif bif wj 4 (A L (b9 [D T,D S,D W,D U] 0 1)) then decide (T<=W) else false then decide (S<=U) else false
def Ln:V:=.bool (rm T S W U)
theorem axg:aU cN (m58 T S W U) (Ln T S W U):=AM (ac (AE (AE (AE (AE (AE (AE (AE (AE (AE (AE (AF (by unfold Ln rm;rfl)))))))))))))
def C58:aD:=bP [.agg gP] (λ_=>True) λ|[.agg [.int _ T,.int _ S,.int _ W,.int _ U]]=>Ln T S W U|_=>.any
theorem azE:b7 C58 118:=aT vd λ_ hp=>c7 (apS ..) (axg _ _ _ _)
inductive DL where|L0 (_:Int)
def amv:DL->bT×List AD×Option Ex
 |.L0 PW=>([(3,D PW),(2,V.kb false),(0,V.str s0)],[],none)
def aps:DL->JJ
 |.L0 _=>(0,[])
def aeS:AN (cr JJ):=aQ JJ xQ u0 arp [V.str s0]
def awX (cx:List Cx):Lp JJ:=eX (eC (aeS s0) [])
def apk:JJ->Lp JJ
 |(0,cx)=>awX s0 cx|(_,cx)=>awX s0 cx
def awf:LD JJ DL:=⟨aps,apk s0,amv s0⟩
def Q4:DL->RT DL
 |.L0 PW=>.br (decide (PW<(↑s0.size:Int))) (.ob (decide (0<=PW/\PW<(↑s0.size:Int))) (.ii (.obj (decide (97<=(↑(s0.data.1.getD PW.toNat 0).toNat:Int))) (decide (0<=PW/\PW<(↑s0.size:Int))) (.iv (.ii (.obj ((!bif decide (97<=(↑(s0.data.1.getD PW.toNat 0).toNat:Int)) then decide ((↑(s0.data.1.getD PW.toNat 0).toNat:Int)<=122) else false)&&!PW==0) (decide (0<=PW/\PW<(↑s0.size:Int))) (.iv (.obj ((!bif decide (97<=(↑(s0.data.1.getD PW.toNat 0).toNat:Int)) then decide ((↑(s0.data.1.getD PW.toNat 0).toNat:Int)<=122) else false)&&!PW==0&&decide (48<=(↑(s0.data.1.getD PW.toNat 0).toNat:Int))) (decide (0<=PW/\PW<(↑s0.size:Int))) (.iv (.ii (.obi (.obj ((!bif decide (97<=(↑(s0.data.1.getD PW.toNat 0).toNat:Int)) then decide ((↑(s0.data.1.getD PW.toNat 0).toNat:Int)<=122) else false)&&!PW==0&&!bif decide (48<=(↑(s0.data.1.getD PW.toNat 0).toNat:Int)) then decide ((↑(s0.data.1.getD PW.toNat 0).toNat:Int)<=57) else false) (decide (0<=PW/\PW<(↑s0.size:Int))) (.iv (.ii (.br (bif !bif decide (97<=(↑(s0.data.1.getD PW.toNat 0).toNat:Int)) then decide ((↑(s0.data.1.getD PW.toNat 0).toNat:Int)<=122) else false then bif PW==0 then true else bif !bif decide (48<=(↑(s0.data.1.getD PW.toNat 0).toNat:Int)) then decide ((↑(s0.data.1.getD PW.toNat 0).toNat:Int)<=57) else false then(↑(s0.data.1.getD PW.toNat 0).toNat:Int)!=45 else false else false) (.ret (V.kb false)) (.next [] (DL.L0 (E (PW+1))) [])))))))))))))))) (.ii (.obi (.ret (V.bool (bif decide (0<(↑s0.size:Int)) then decide ((↑s0.size:Int)<=24) else false)))))
def aoz:RT DL:=dm s0 (.enter [] (DL.L0 0) [])
theorem ahR:d0 xQ u0 (awf s0) (aeS s0) (aoz s0) (Q4 s0):=⟨bF,λs=>by cases s<;>exact bF⟩
def F2 (i:Nat):Bool:=bif !bif decide (97<=((s0.data.toList.getD i 0).toNat:Int)) then decide (((s0.data.toList.getD i 0).toNat:Int)<=122) else false then bif(i:Int)==0 then true else bif !bif decide (48<=((s0.data.toList.getD i 0).toNat:Int)) then decide (((s0.data.toList.getD i 0).toNat:Int)<=57) else false then((s0.data.toList.getD i 0).toNat:Int)!=45 else false else false
def nQ:Bool:=dz s0.size (λi=>!F2 s0 i)&&bif decide (0<(s0.size:Int)) then decide ((s0.size:Int)<=24) else false
theorem evObi {n:Nat} (p:Nat->Bool) {P:Int->Prop} (hstep:∀i:Nat,i<n->(∀j,j<i->p j=false)->(p i=false->P (E ((i:Int)+1)))->P i) (hend:(∀j,j<n->p j=false)->P n) (hn:n<=9223372036854775807):P 0:=ky hn p hstep hend
theorem ar1 (hp:s0.size<=9223372036854775807):aU (Ev (Q4 s0)) (aoz s0) (.bool (nQ s0)):=aH (ky hp (F2 s0) (P:=λi=>Ev (Q4 s0) (.L0 i) (.bool (nQ s0))) (λi Pj hj next=>Ev.of rfl (dt Pj (c8 Pj (by
 repeat (first|refine AE ?_|refine qw Pj ?_)
 refine AP (λhb=>AF ?_) (λhb=>aK (next hb));simp only[dj];unfold nQ;rw[gq i Pj (by show(!F2 s0 i)=false;rw[show F2 s0 i=true from hb];rfl)];rfl))))
 (λhj=>Ev.of rfl (dp (by
 repeat refine AE ?_
 refine AF ?_;simp only[dj];unfold nQ;rw[fQ λi hi=>by rw[hj i hi];rfl];rfl))))
def att:aD:=bP [.str] (λ
 |[.str s0]=>s0.size<=9223372036854775807|_=>False) λ
 |[.str s0]=>.bool (nQ s0)|_=>.any
theorem au7:b7 att 206:=aT vd λ_ hp=>kt (ahR ..) (ar1 _ hp)
inductive H1 where|L0 (_:Int)
def atE:H1->bT×List AD×Option Ex
 |.L0 PW=>([(3,D PW),(28,V.kb false),(27,D (n4:Int)),(26,V.sl n4 (A gP f4)),(25,V.pl 0 4),(24,V.kb false),(23,V.agg [D W,D U]),(22,V.pl 0 2),(21,V.agg [D T,D S]),(20,V.pl 0 0),(19,V.kb false),(18,V.bool (wj 4 (A L (b9 [D T,D S,D W,D U] 0 1)))),(17,V.ss 1 0 4 4),(16,D U),(15,V.pl 0 3),(14,V.pl 0 2),(13,D W),(12,V.pl 0 2),(11,V.pl 0 2),(10,D S),(9,V.pl 0 1),(8,V.pl 0 0),(7,D T),(6,V.pl 0 0),(5,V.pl 0 0),(2,D 0),(1,V.pl 0 0),(0,V.agg [D T,D S,D W,D U,V.sl n4 (A gP f4)])],[AD.cells [D T,D S,D W,D U,V.sl n4 (A gP f4)] 138,AD.cells [D T,D S,D W,D U] 3],none)
def az6:H1->JJ
 |.L0 _=>(0,[])
def aoW:AN (cr JJ):=aQ JJ xQ u0 azC [V.agg [D T,D S,D W,D U,V.sl n4 (A gP f4)]]
def hb0 (cx:List Cx):Lp JJ:=eX (eC (aoW T S W U n4 f4) [false,false,false])
def axH:JJ->Lp JJ
 |(0,cx)=>hb0 T S W U n4 f4 cx|(_,cx)=>hb0 T S W U n4 f4 cx
def D72:LD JJ H1:=⟨az6,axH T S W U n4 f4,atE T S W U n4 f4⟩
abbrev D8:=[some (some 0),some (some 1)]
def Z8 (T S W U:Int) (n4:Nat) (f4:be):H1->RT H1
 |.L0 PW=>.am n4 (.br (decide (PW<(n4:Int))) (.ob (decide (0<=PW/\PW<(n4:Int))) (.iv (.iv (.iv (.iv (.ii (.obi (.br (bif bif bif bif bif decide (aA (f4 PW.toNat)<0) then true else decide (aR (f4 PW.toNat)<=aA (f4 PW.toNat)) then true else decide (1000<aR (f4 PW.toNat)) then true else decide (bX (f4 PW.toNat)<0) then true else decide (bf (f4 PW.toNat)<=bX (f4 PW.toNat)) then true else decide (1000<bf (f4 PW.toNat))) (.ret (D 7)) (.next D8 (H1.L0 (E (PW+1))) []))))))))) (.ret (D 0)))
def Oo:RT H1:=dm f4 (.obt (.obt (.obt (.obt (.cb (.br (!wj 4 (A L (b9 [D T,D S,D W,D U] 0 1))) (.ret (D 7)) (.br (T==W&&(S==U&&true)) (.ret (D 2)) (.am n4 (.br (decide (6<(n4:Int))) (.ret (D 3)) (.enter D8 (H1.L0 0) []))))))))))
theorem ari:d0 xQ u0 (D72 T S W U n4 f4) (aoW T S W U n4 f4) (Oo T S W U n4 f4) (Z8 T S W U n4 f4):=⟨bF,λs=>by cases s<;>exact bF⟩
def Oi (l:List V):Bool:=bif bif bif bif bif decide (aA l<0) then true else decide (aR l<=aA l) then true else decide (1000<aR l) then true else decide (bX l<0) then true else decide (bf l<=bX l) then true else decide (1000<bf l)
def GY (T S W U:Int) (n4:Nat) (f4:be):Int:=bif !wj 4 (A L (b9 [D T,D S,D W,D U] 0 ((1+1+1+1-0) / 4))) then 7 else bif T==W&&(S==U&&true) then 2 else bif decide (6<(n4:Int)) then 3 else bif gW n4 (λi=>Oi (f4 i)) then 7 else 0
theorem ahd:aU (Ev (Z8 T S W U n4 f4)) (Oo T S W U n4 f4) (D (GY T S W U n4 f4)):=by
 unfold GY
 repeat (first|refine ac ?_|refine AM ?_)
 refine AP (λh0=>AF (by rw[h0];rfl)) (λh0=>?_);rw[h0,cond_false];refine AP (λM=>AF (by rw[M];rfl)) (λM=>?_);rw[M,cond_false];refine bC λhn=>?_;refine AP (λQ=>AF (by rw[Q];rfl)) (λQ=>?_);rw[Q,cond_false];refine aH (ky hn (λi=>Oi (f4 i)) (P:=λi=>Ev (Z8 T S W U n4 f4) (.L0 i) (D (bif gW n4 (λi=>Oi (f4 i)) then 7 else 0))) (λi Pj hj next=>Ev.of rfl (bC λ_=>dt Pj (c8 Pj (by
  repeat (first|refine AE ?_|refine qw Pj ?_)
  refine AP (λhb=>AF ?_) (λhb=>aK (next hb));rw[cZ i Pj (show Oi (f4 i)=true from hb)];rfl))))
  (λhj=>Ev.of rfl (bC λ_=>dp (AF ?_))))
 rw[da hj];rfl
theorem azR:aU (Ev (Z8 T S W U n4 f4)) (Oo T S W U n4 f4) (D (GY T S W U n4 (A gP f4))):=ahd T S W U n4 f4
def C72:aD:=bP [.agg bm] (λ_=>True) λ|[.agg [.int _ T,.int _ S,.int _ W,.int _ U,.sl n4 f4]]=>D (GY T S W U n4 f4)|_=>.any
theorem azs:b7 C72 164:=aT vd λ_ hp=>kt (ari ..) (azR _ _ _ _ _ _)
def Hn:bo:=(140,.con avg)::(87,.con C65)::(89,.con C67)::(99,.con C53)::(118,.con C58)::(206,.con att)::(164,.con C72)::xQ
theorem Ld:ba Tryz.prog AQ AS Hn:=.con aqi (.con axB (.con azm (.con awZ (.con azE (.con au7 (.con azs (vd)))))))
inductive DN where|L0 (_:Int)
def anM:DN->bT×List AD×Option Ex
 |.L0 PW=>([(8,D PW),(7,D (H:Int)),(6,V.sl H (A aM G)),(4,D 0),(0,V.sl H (A aM G)),(1,V.fn 140 [] [])],[],none)
def apD:DN->JJ
 |.L0 _=>(0,[])
def adl:AN (cr JJ):=aQ JJ Hn u0 apM [V.sl H (A aM G),V.fn 140 [] []]
def atU (cx:List Cx):Lp JJ:=eX (eC (adl H G) [])
def atf:JJ->Lp JJ
 |(0,cx)=>atU H G cx|(_,cx)=>atU H G cx
def axO:LD JJ DN:=⟨apD,atf H G,anM H G⟩
def Tc:DN->RT DN
 |.L0 PW=>.br (decide (PW<(H:Int))) (.ob (decide (0<=PW/\PW<(H:Int))) (.cb (.br (uA (aA (G PW.toNat)) (aR (G PW.toNat))) (.ret (D PW)) (.next [] (DN.L0 (E (PW+1))) [])))) (.ret (D (-1)))
def Nz:RT DN:=dm G (.am H (.enter [] (DN.L0 0) []))
theorem agU:d0 Hn u0 (axO H G) (adl H G) (Nz H G) (Tc H G):=⟨bF,λs=>by cases s<;>exact bF⟩
def LJ:Int  :=zO H λii=>uA (aA (G ii)) (aR (G ii))
theorem sqs:aU (Ev (Tc H G)) (Nz H G) (D (LJ H G)):=bC λhn=>aH (pN hn λi=>rfl)
theorem apW:aU (Ev (Tc H G)) (Nz H G) (D (LJ H (A aM G))):=sqs H G
def at6:aD:=bP [.sl aM,.fn 140 [] []] (λ_=>True) λ|[.sl H G,.fn _ [] []]=>D (LJ H G)|_=>.any
theorem aub:b7 at6 190:=aT Ld λ_ hp=>kt (agU ..) (apW _ _)
inductive Gp where|L0 (_:Int)
def aq2:Gp->bT×List AD×Option Ex
 |.L0 PW=>([(11,D PW),(10,D (H:Int)),(9,V.sl H (A bj G)),(5,D 0),(4,D 0),(0,V.sl H (A bj G)),(1,V.fn 87 [] [])],[],none)
def axA:Gp->JJ
 |.L0 _=>(0,[])
def arY:AN (cr JJ):=aQ JJ Hn u0 awi [V.sl H (A bj G),V.fn 87 [] []]
def hdj (cx:List Cx):Lp JJ:=eX (eC (arY H G) [])
def aw1:JJ->Lp JJ
 |(0,cx)=>hdj H G cx|(_,cx)=>hdj H G cx
def D64:LD JJ Gp:=⟨axA,aw1 H G,aq2 H G⟩
abbrev Au:=[D 0,D 0]
def NY:Gp->RT Gp
 |.L0 PW=>.br (decide (PW<(H:Int))) (.ob (decide (0<=PW/\PW<(H:Int))) (.ob (decide (0<=PW/\PW<=(H:Int))) (.cb (.br (pO (aA (G PW.toNat)) (aR (G PW.toNat)) (bX (G PW.toNat)) (bf (G PW.toNat)) (cq (G PW.toNat))!=0) (.ret (V.tup [D PW,D (pO (aA (G PW.toNat)) (aR (G PW.toNat)) (bX (G PW.toNat)) (bf (G PW.toNat)) (cq (G PW.toNat)))])) (.next [] (Gp.L0 (E (PW+1))) []))))) (.ret (V.tup Au))
def Of:RT Gp:=dm G (.am H (.enter [] (Gp.L0 0) []))
theorem ap0:d0 Hn u0 (D64 H G) (arY H G) (Of H G) (NY H G):=⟨bF,λs=>by cases s<;>exact bF⟩
def OA (ii:Nat):Int:=dm H ((pO (aA (G ii)) (aR (G ii)) (bX (G ii)) (bf (G ii)) (cq (G ii))))
def Aa:Int:=gr H (OA H G)
def ri:Int:=d9 H (OA H G)
theorem afz:aU (Ev (NY H G)) (Of H G) (.tup [D (Aa H G),D (ri H G)]):=bC λhn=>aH (sI (Pg:=λ_=>True) (λ_ x=>.obc (.obt x)) (λi x r h hx=>AM (ac hx)) (λ_ _=>rfl) hn (λ_ _=>trivial) λi=>rfl)
theorem ayV:aU (Ev (NY H G)) (Of H G) (.tup [D (Aa H (A bj G)),D (ri H (A bj G))]):=afz H G
def C64:aD:=bP [.sl bj,.fn 87 [] []] (λ_=>True) λ|[.sl H G,.fn _ [] []]=>.tup [D (Aa H G),D (ri H G)]|_=>.any
theorem awy:b7 C64 86:=aT Ld λ_ hp=>kt (ap0 ..) (ayV _ _)
inductive Gt where|L0 (_:Int)
def aq6:Gt->bT×List AD×Option Ex
 |.L0 PW=>([(11,D PW),(10,D (H:Int)),(9,V.sl H (A bm G)),(5,D 0),(4,D 0),(0,V.sl H (A bm G)),(1,V.fn 89 [] [])],[],none)
def ax5:Gt->JJ
 |.L0 _=>(0,[])
def asz:AN (cr JJ):=aQ JJ Hn u0 aws [V.sl H (A bm G),V.fn 89 [] []]
def yaP (cx:List Cx):Lp JJ:=eX (eC (asz H G) [])
def ayZ:JJ->Lp JJ
 |(0,cx)=>yaP H G cx|(_,cx)=>yaP H G cx
def D66:LD JJ Gt:=⟨ax5,ayZ H G,aq6 H G⟩
def Nm:Gt->RT Gt
 |.L0 PW=>.br (decide (PW<(H:Int))) (.ob (decide (0<=PW/\PW<(H:Int))) (.ob (decide (0<=PW/\PW<=(H:Int))) (.cb (.br ((pT (aA (G PW.toNat)) (aR (G PW.toNat)) (bX (G PW.toNat)) (bf (G PW.toNat)) (aw (av (I (I (I (I (G PW.toNat))))))) λi=>ap gP (bz (av (I (I (I (I (G PW.toNat)))))) i))!=0) (.ret (V.tup [D PW,D (pT (aA (G PW.toNat)) (aR (G PW.toNat)) (bX (G PW.toNat)) (bf (G PW.toNat)) (aw (av (I (I (I (I (G PW.toNat))))))) λi=>ap gP (bz (av (I (I (I (I (G PW.toNat)))))) i))])) (.next [] (Gt.L0 (E (PW+1))) []))))) (.ret (V.tup Au))
def Oh:RT Gt:=dm G (.am H (.enter [] (Gt.L0 0) []))
theorem aqq:d0 Hn u0 (D66 H G) (asz H G) (Oh H G) (Nm H G):=⟨bF,λs=>by cases s<;>exact bF⟩
def OB (ii:Nat):Int:=dm H ((pT (aA (G ii)) (aR (G ii)) (bX (G ii)) (bf (G ii)) (aw (av (I (I (I (I (G ii))))))) λi=>ap gP (bz (av (I (I (I (I (G ii)))))) i)))
def AH:Int:=gr H (OB H G)
def qV:Int:=d9 H (OB H G)
theorem aim:aU (Ev (Nm H G)) (Oh H G) (.tup [D (AH H G),D (qV H G)]):=bC λhn=>aH (sI (Pg:=λ_=>True) (λ_ x=>.obc (.obt x)) (λi x r h hx=>AM (ac hx)) (λ_ _=>rfl) hn (λ_ _=>trivial) λi=>rfl)
theorem axe:aU (Ev (Nm H G)) (Oh H G) (.tup [D (AH H (A bm G)),D (qV H (A bm G))]):=aim H G
def C66:aD:=bP [.sl bm,.fn 89 [] []] (λ_=>True) λ|[.sl H G,.fn _ [] []]=>.tup [D (AH H G),D (qV H G)]|_=>.any
theorem axN:b7 C66 88:=aT Ld λ_ hp=>kt (aqq ..) (axe _ _)
end
end Go.Dx
namespace Go.Proofs
open Go.Shelf
def Tryz.lays160_ren:Go.Shelf.Ren:=⟨λ|160=>188|232=>218|231=>217|227=>219|234=>221|233=>220|236=>223|235=>222|228=>229|271=>232|151=>231|197=>230|120=>246|152=>245|260=>244|137=>252|119=>253|224=>254|225=>255|217=>257|266=>258|n=>n,λ|9=>9|4=>4|3=>3|5=>5|117=>255|116=>254|0=>0|124=>258|21=>21|105=>265|46=>263|119=>285|139=>288|138=>287|n=>n,λ|3=>0|4=>1|n=>n⟩
theorem Tryz.lays160:Go.Proofs.Lays.n160 Tryz.prog Tryz.lays160_ren:={
 mixed:=by kernel_rfl
 f119:=Tryz.func253.trans (congrArg some bD)
 f120:=Tryz.func246.trans (congrArg some bD)
 f137:=Tryz.func252.trans (congrArg some bD)
 f151:=Tryz.func231.trans (congrArg some bD)
 f152:=Tryz.func245.trans (congrArg some bD)
 f160:=Tryz.func188.trans (congrArg some bD)
 f197:=Tryz.func230.trans (congrArg some bD)
 f217:=Tryz.func257.trans (congrArg some bD)
 f224:=Tryz.func254.trans (congrArg some bD)
 f225:=Tryz.func255.trans (congrArg some bD)
 f227:=Tryz.func219.trans (congrArg some bD)
 f228:=Tryz.func229.trans (congrArg some bD)
 f231:=Tryz.func217.trans (congrArg some bD)
 f232:=Tryz.func218.trans (congrArg some bD)
 f233:=Tryz.func220.trans (congrArg some bD)
 f234:=Tryz.func221.trans (congrArg some bD)
 f235:=Tryz.func222.trans (congrArg some bD)
 f236:=Tryz.func223.trans (congrArg some bD)
 f260:=Tryz.func244.trans (congrArg some bD)
 f266:=Tryz.func258.trans (congrArg some bD)
 f271:=Tryz.func232.trans (congrArg some bD)
 t0:=Tryz.underlying0
 a0:=Tryz.isAgg0
 z0:=Tryz.sizeOf0
 v0:=Tryz.zeroValue0
 t3:=Tryz.underlying3
 a3:=Tryz.isAgg3
 z3:=Tryz.sizeOf3
 v3:=Tryz.zeroValue3
 t4:=Tryz.underlying4
 a4:=Tryz.isAgg4
 z4:=Tryz.sizeOf4
 v4:=Tryz.zeroValue4
 t5:=Tryz.underlying5
 a5:=Tryz.isAgg5
 z5:=Tryz.sizeOf5
 v5:=Tryz.zeroValue5
 t9:=Tryz.underlying9
 a9:=Tryz.isAgg9
 z9:=Tryz.sizeOf9
 v9:=Tryz.zeroValue9
 t21:=Tryz.underlying21
 a21:=Tryz.isAgg21
 z21:=Tryz.sizeOf21
 v21:=Tryz.zeroValue21
 t46:=Tryz.underlying263
 a46:=Tryz.isAgg263
 z46:=Tryz.sizeOf263
 v46:=Tryz.zeroValue263
 t105:=Tryz.underlying265
 a105:=Tryz.isAgg265
 z105:=Tryz.sizeOf265
 v105:=Tryz.zeroValue265
 t116:=Tryz.underlying254
 a116:=Tryz.isAgg254
 z116:=Tryz.sizeOf254
 t117:=Tryz.underlying255
 a117:=Tryz.isAgg255
 z117:=Tryz.sizeOf255
 v117:=Tryz.zeroValue255
 t119:=Tryz.underlying285
 a119:=Tryz.isAgg285
 z119:=Tryz.sizeOf285
 t124:=Tryz.underlying258
 a124:=Tryz.isAgg258
 z124:=Tryz.sizeOf258
 v124:=Tryz.zeroValue258
 t138:=Tryz.underlying287
 a138:=Tryz.isAgg287
 z138:=Tryz.sizeOf287
 v138:=Tryz.zeroValue287
 t139:=Tryz.underlying288
 a139:=Tryz.isAgg288
 z139:=Tryz.sizeOf288
 v139:=Tryz.zeroValue288
 g3:=by kernel_rfl
 g4:=by kernel_rfl }
end Go.Proofs
namespace Go.Dx
open Go.IntKind (i64 u64 u8)
open Go.Sx Go.Proofs Go.Shelf Go.RowKit
noncomputable section
def Xz:ByteArray:=⟨#[97,98,99,100,101,102,103,104,105,106,107,108,109,110,111,112,113,114,115,116,117,118,119,120,121,122,48,49,50,51,52,53,54,55,56,57,45]⟩
def z6 (s c:ByteArray):ByteArray:=⟨(Lib.trimS s.data.toList c.data.toList).toArray⟩
def Nh:aD:=bP [.str,.str] (λ
 |[.str s,.str c]=>s.size<=9223372036854775807/\c=Xz|_=>False) λ
 |[.str s,.str c]=>.str (z6 s c)|_=>.any
theorem how (s:ByteArray) (w:World) (hs:s.size<=9223372036854775807):Calls Tryz.prog 188 #[.string s,.string Xz] w λe w'=>e=.returned (.string (z6 s Xz))/\Below w.heap.size w w' :=
 Any.strings_Trim_laid Tryz.lays160 bD s Xz w hs aO (ascii_of_all aO)
theorem bk.below {B:dN} {m:aN} {lh:List ar} {w w':World} (h:bk B m lh w) (hb:Below w.heap.size w w'):bk B m lh w':=by obtain⟨M,Q,h3,h4,h5⟩:=hb;have Qu:B.w0.heap.size<=w'.heap.size:=E0 h.size h4;refine⟨M.trans h.os,Q.trans h.tape,h3.trans h.output,Qu,λb hb=>(h5 b (ET hb h.size)).trans (h.old b hb),E0 h.fsize h4,λb hb ho=>(h5 b (ET hb h.fsize)).trans (h.kept b hb ho),λk cs ty hk=>?_,h.inj,h.dom,h.dead,λk b hk=>ET (h.rng k b hk) h4⟩;obtain⟨b,vs,g1,g2,g3,g4⟩:=h.loc k cs ty hk;exact⟨b,vs,g1,g2,(h5 b (h.rng k b g1)).trans g3,g4⟩
theorem ic15:(vP Nh).Ok Tryz.prog 188:=by refine⟨λB m lh w args vs PR hrel hargs Rh=>?_,λ_ _ _ _ _ hk ⟨ds,d,p,r,M,Q,h3,h4,h5⟩=>⟨ds,d,p,r,M,Q,h3,h4,hk _ _ h5⟩,λ_ _ _ _ ⟨_,_,_,_,_,_,_,_,h⟩=>h⟩;obtain⟨ds,d,p,r,M,Q,⟨SK,h3⟩,h4,h5⟩:=Rh;simp only[Nh,bP,Ak,Prod.mk.injEq]at Q;obtain⟨rfl,rfl,rfl⟩:=Q;have SH:=(kz [.str,.str] ds [] [] rfl SK).1;simp only[bQ,dG]at SH;obtain⟨e1,e2,e3,e4,e5⟩:=SH;rw[e5]at e3;rw[e3,e2,e4]at e1;generalize sv (av ds)=s at e1;generalize sv (av (I ds))=c at e1;subst e1;simp only[lQ,Ti]at h3 h4 h5;obtain⟨hs,rfl⟩:=h3;simp only[bK,vr]at M;obtain⟨_,_,rfl,rfl,_,_,rfl,rfl,rfl⟩:=M;simp only[aE,AW]at hargs;obtain⟨_,_,rfl,rfl,_,_,rfl,rfl,rfl⟩:=hargs;refine⟨⟨_,Tryz.func188,by kernel_rfl,by kernel_rfl⟩,(how s w hs).mono λe w' ⟨he,hb⟩=>?_⟩;exact⟨_,_,m,lh,he,by simp only[dj,AW],jI.refl _ _,bk.below hrel hb,h5⟩
theorem avt (s:ByteArray) (h:(!s.toList==(⟨#[]⟩:ByteArray).toList)=true):(0:Int)<(s.size:Int):=by
 have e:(⟨#[]⟩:ByteArray).toList=[]:=by decide +kernel
 by_cases hz:s.size=0
 ·have:s=⟨#[]⟩:=by
   cases s with|mk d=>
   have:d=#[]:=Array.eq_empty_of_size_eq_zero hz;rw[this]
  rw[this,e]at h;cases h
 ·omega
end
end Go.Dx
namespace Go.Dx
open Go.IntKind (i64 u64 u8)
open Go.Sx Go.Proofs
variable (H:Nat) (G:be) (s0:ByteArray) (R:Nat) (N:be) (s2:ByteArray) (U:Int) (n4:Nat) (f4:be) (O x5:Int) (n6:Nat) (f6:be) (x6 Z Y:Int)
noncomputable section
def LA:bo:=(190,.con at6)::(86,.con C64)::(88,.con C66)::(188,.con Nh)::Hn
theorem Lq:ba Tryz.prog AQ AS LA:=.con aub (.con awy (.con axN (.con ic15 (Ld))))
def aoo:RT Empty:=.cb (.ret (V.bool (decide (0<=LJ H (A aM G)))))
theorem aj7:cV cX (aQ JJ LA u0 arG [V.sl H (A aM G),V.fn 140 [] []]) (aoo H G):=bF
def lX:Bool:=decide (0<=LJ H (A aM G))
def Nb:V:=.bool (lX H G)
theorem atO:aU cN (aoo H G) (Nb H G):=AM (ac (AF (by unfold Nb lX;rfl)))
def apK:aD:=bP [.sl aM,.fn 140 [] []] (λ_=>True) λ|[.sl H G,.fn _ [] []]=>Nb H G|_=>.any
theorem aqd:b7 apK 145:=aT Lq λ_ hp=>c7 (aj7 ..) (atO _ _)
def ao7:RT Empty:=.obp (s0.size<=(9223372036854775807:Nat)/\ByteArray.mk (Array.mk [(97:UInt8),(98:UInt8),(99:UInt8),(100:UInt8),(101:UInt8),(102:UInt8),(103:UInt8),(104:UInt8),(105:UInt8),(106:UInt8),(107:UInt8),(108:UInt8),(109:UInt8),(110:UInt8),(111:UInt8),(112:UInt8),(113:UInt8),(114:UInt8),(115:UInt8),(116:UInt8),(117:UInt8),(118:UInt8),(119:UInt8),(120:UInt8),(121:UInt8),(122:UInt8),(48:UInt8),(49:UInt8),(50:UInt8),(51:UInt8),(52:UInt8),(53:UInt8),(54:UInt8),(55:UInt8),(56:UInt8),(57:UInt8),(45:UInt8)])=ByteArray.mk (Array.mk [(97:UInt8),(98:UInt8),(99:UInt8),(100:UInt8),(101:UInt8),(102:UInt8),(103:UInt8),(104:UInt8),(105:UInt8),(106:UInt8),(107:UInt8),(108:UInt8),(109:UInt8),(110:UInt8),(111:UInt8),(112:UInt8),(113:UInt8),(114:UInt8),(115:UInt8),(116:UInt8),(117:UInt8),(118:UInt8),(119:UInt8),(120:UInt8),(121:UInt8),(122:UInt8),(48:UInt8),(49:UInt8),(50:UInt8),(51:UInt8),(52:UInt8),(53:UInt8),(54:UInt8),(55:UInt8),(56:UInt8),(57:UInt8),(45:UInt8)])) (.obt (.iv (.ii (.obj (bif bif !s0.toList==(ByteArray.mk (Array.mk [])).toList then decide ((↑s0.size:Int)<=24) else false then(z6 s0 (ByteArray.mk (Array.mk [97,98,99,100,101,102,103,104,105,106,107,108,109,110,111,112,113,114,115,116,117,118,119,120,121,122,48,49,50,51,52,53,54,55,56,57,45]))).toList==(ByteArray.mk (Array.mk [])).toList else false) (decide ((0:Int)<=0/\0<(↑s0.size:Int))) (.ii (.obi (.obj (bif bif bif !s0.toList==(ByteArray.mk (Array.mk [])).toList then decide ((↑s0.size:Int)<=24) else false then(z6 s0 (ByteArray.mk (Array.mk [97,98,99,100,101,102,103,104,105,106,107,108,109,110,111,112,113,114,115,116,117,118,119,120,121,122,48,49,50,51,52,53,54,55,56,57,45]))).toList==(ByteArray.mk (Array.mk [])).toList else false then decide (97<=(↑(s0.data.1.getD 0 0).toNat:Int)) else false) (decide ((0:Int)<=0/\0<(↑s0.size:Int))) (.ii (.ret (V.bool (bif bif bif bif !s0.toList==(ByteArray.mk (Array.mk [])).toList then decide ((↑s0.size:Int)<=24) else false then(z6 s0 (ByteArray.mk (Array.mk [97,98,99,100,101,102,103,104,105,106,107,108,109,110,111,112,113,114,115,116,117,118,119,120,121,122,48,49,50,51,52,53,54,55,56,57,45]))).toList==(ByteArray.mk (Array.mk [])).toList else false then decide (97<=(↑(s0.data.1.getD 0 0).toNat:Int)) else false then decide ((↑(s0.data.1.getD 0 0).toNat:Int)<=122) else false)))))))))))
theorem amg:cV cX (aQ JJ LA u0 aoP [V.str s0]) (ao7 s0):=bF
def o9:Bool:=bif bif bif bif !s0.toList==(ByteArray.mk (Array.mk [])).toList then decide ((↑s0.size:Int)<=24) else false then(z6 s0 (ByteArray.mk (Array.mk [97,98,99,100,101,102,103,104,105,106,107,108,109,110,111,112,113,114,115,116,117,118,119,120,121,122,48,49,50,51,52,53,54,55,56,57,45]))).toList==(ByteArray.mk (Array.mk [])).toList else false then decide (97<=(↑(s0.data.1.getD 0 0).toNat:Int)) else false then decide ((↑(s0.data.1.getD 0 0).toNat:Int)<=122) else false
def Ns:V:=.bool (o9 s0)
theorem asZ (hp:s0.size<=9223372036854775807):aU cN (ao7 s0) (Ns s0):=aI (by first|assumption|(exact⟨hp,rfl⟩)) (ac (AE (AE (AE (AE (AE (AE (Ba (by first|assumption|(intro h;refine AG ⟨Int.le_refl 0,avt s0 ?_⟩;cases hb:(!s0.toList==(⟨#[]⟩:ByteArray).toList) with|true=>rfl|false=>(rw[hb]at h;simp at h))) (AE (AE (AE (Ba (by first|assumption|(intro h;refine AG ⟨Int.le_refl 0,avt s0 ?_⟩;cases hb:(!s0.toList==(⟨#[]⟩:ByteArray).toList) with|true=>rfl|false=>(rw[hb]at h;simp at h))) (AE (AE (AF (by unfold Ns o9;rfl))))))))))))))))
def asJ:aD:=bP [.str] (λ
 |[.str s0]=>s0.size<=9223372036854775807|_=>False) λ
 |[.str s0]=>Ns s0|_=>.any
theorem ic16:b7 asJ 142:=aT Lq λ_ hp=>c7 (amg ..) (asZ _ hp)
inductive H2 where|L0 (_:Int)
def aqQ:H2->bT×List AD×Option Ex
 |.L0 PW=>([(6,D PW),(15,V.kb false),(14,V.bool (nQ (sv (av (f6 Y.toNat))))),(13,V.str (sv (av (f6 Y.toNat)))),(12,V.pl 0 0),(5,V.pl 0 0),(11,V.agg [V.str (sv (av (f6 Y.toNat))),D (aR (f6 Y.toNat)),D (bX (f6 Y.toNat)),D (bf (f6 Y.toNat)),D (cq (f6 Y.toNat)),D (bG (f6 Y.toNat))]),(10,V.pd [V.str (sv (av (f6 Y.toNat))),D (aR (f6 Y.toNat)),D (bX (f6 Y.toNat)),D (bf (f6 Y.toNat)),D (cq (f6 Y.toNat)),D (bG (f6 Y.toNat))]),(9,D Y),(8,V.sl n6 (A aV f6)),(7,V.pl 1 3),(4,D 0),(2,V.pl 1 0),(0,Cq H G R N n4 f4 n6 f6),(1,D Y)],[AD.cells [V.str (sv (av (f6 Y.toNat))),D (aR (f6 Y.toNat)),D (bX (f6 Y.toNat)),D (bf (f6 Y.toNat)),D (cq (f6 Y.toNat)),D (bG (f6 Y.toNat))] 52,AD.cells [V.sl H (A aZ G),V.sl R (A bj N),V.sl n4 (A bm f4),V.sl n6 (A aV f6)] 31],none)
def ay3:H2->JJ
 |.L0 _=>(0,[])
def apu:AN (cr JJ):=aQ JJ LA u0 ayQ [Cq H G R N n4 f4 n6 f6,D Y]
def hcf (cx:List Cx):Lp JJ:=eX (eC (apu H G R N n4 f4 n6 f6 Y) [false])
def ayS:JJ->Lp JJ
 |(0,cx)=>hcf H G R N n4 f4 n6 f6 Y cx|(_,cx)=>hcf H G R N n4 f4 n6 f6 Y cx
def D73:LD JJ H2:=⟨ay3,ayS H G R N n4 f4 n6 f6 Y,aqQ H G R N n4 f4 n6 f6 Y⟩
def WL (H:Nat) (G:be) (R:Nat) (N:be) (n4:Nat) (f4:be) (n6:Nat) (f6:be) (Y:Int):H2->RT H2
 |.L0 PW=>.br (decide (PW<Y)) (.ob (decide (0<=PW/\PW<(n6:Int))) (.br ((sv (av (f6 PW.toNat))).toList==(sv (av (f6 Y.toNat))).toList) (.ret (D 5)) (.next D8 (H2.L0 (E (PW+1))) []))) (.cb (.obi (.br (!!wj 2 (A L (b9 [D (aR (f6 Y.toNat)),D (bX (f6 Y.toNat))] 0 1))) (.ob (!!wj 2 (A L (b9 [D (aR (f6 Y.toNat)),D (bX (f6 Y.toNat))] 0 1))) (.cb (.obi (.br (!!dC (bf (f6 Y.toNat)) 1 200) (.ob (!!dC (bf (f6 Y.toNat)) 1 200) (.cb (.obi (.br (!!dC (cq (f6 Y.toNat)) (-1000) 1000) (.ob (!!dC (cq (f6 Y.toNat)) (-1000) 1000) (.cb (.br (!dC (bG (f6 Y.toNat)) (-1000) 1000) (.ret (D 7)) (.ii (.obi (.br (bif cq (f6 Y.toNat)==0 then bG (f6 Y.toNat)==0 else false) (.ret (D 2)) (.ret (D 0)))))))) (.ret (D 7)))))) (.ret (D 7)))))) (.ret (D 7)))))
abbrev Il:=[some (some 1),some (some 0)]
def Oq:RT H2:=dm (H,G,R,N,n4,f4) (.ob (decide (0<=Y/\Y<(n6:Int))) (.obp ((sv (av (f6 Y.toNat))).size<=(9223372036854775807:Nat)) (.obt (.br (!nQ (sv (av (f6 Y.toNat)))) (.ret (D 6)) (.enter Il (H2.L0 0) [])))))
theorem aoQ:d0 LA u0 (D73 H G R N n4 f4 n6 f6 Y) (apu H G R N n4 f4 n6 f6 Y) (Oq H G R N n4 f4 n6 f6 Y) (WL H G R N n4 f4 n6 f6 Y):=⟨bF,λs=>by cases s<;>exact bF⟩
def MD (x y h dx dy:Int):Int:=bif bif bif bif !wj 2 (A L (b9 [D x,D y] 0 ((1+1-0) / 2))) then true else !dC h 1 200 then true else !dC dx (-1000) 1000 then true else !dC dy (-1000) 1000 then 7 else bif bif dx==0 then dy==0 else false then 2 else 0
def R8:Int:=dm n6 (bif !nQ (sv (av (f6 Y.toNat))) then 6 else bif gW Y.toNat (λk=>(sv (av (f6 k))).toList==(sv (av (f6 Y.toNat))).toList) then 5 else MD (aR (f6 Y.toNat)) (bX (f6 Y.toNat)) (bf (f6 Y.toNat)) (cq (f6 Y.toNat)) (bG (f6 Y.toNat)))
theorem alb (hp:0<=Y/\Y<n6/\n6<=9223372036854775807/\aC n6 f6):aU (Ev (WL H G R N n4 f4 n6 f6 Y)) (Oq H G R N n4 f4 n6 f6 Y) (D (R8 n6 f6 Y)):=by
 obtain⟨h0,M,Q,h3⟩:=hp;obtain⟨k,rfl⟩:∃k:Nat,Y=(k:Int):=⟨Y.toNat,K⟩;have hk:k<n6:=by omega
 refine c8 hk (aI (h3 k hk) (ac ?_));unfold R8;simp only[Bt];refine AP (λh=>AF (by rw[show(!nQ (sv (av (f6 k))))=true from h];rfl)) (λh=>?_);rw[show(!nQ (sv (av (f6 k))))=false from h,cond_false]
 refine aH (ky (n:=k) K (λi=>(sv (av (f6 i))).toList==(sv (av (f6 k))).toList) (P:=λi=>Ev (WL H G R N n4 f4 n6 f6 (k:Int)) (.L0 i) _) (λi Pj hj next=>Ev.of rfl (dt Pj (c8 K (AP (λhb=>AF ?_) (λhb=>aK (next hb))))))
  (λhj=>Ev.of rfl (dp ?_)))
 ·rw[cZ i Pj hb];rfl
 ·rw [da hj,cond_false]
  unfold MD;refine AM (ac (AE (AP (λh=>aF h (AM (ac (AE (AP (λh'=>aF h' (AM (ac (AE (AP (λh''=>aF h'' (AM (ac (AP (λh3=>AF ?_) (λh3=>?_))))) (λh''=>AF ?_)))))) (λh'=>AF ?_)))))) (λh=>AF ?_))))
  all_goals try simp only[Bt]at *
  ·rw[ng h,ng h',ng h'',h3];rfl
  ·rw[ng h,ng h',ng h'',h3]
   repeat refine AE ?_
   refine AP (λh4=>AF ?_) (λh4=>AF ?_)<;>(simp only[cond_false];rw[h4];rfl)
  ·rw[ng h,ng h',Ou h''];rfl
  ·rw[ng h,Ou h'];rfl
  ·rw[Ou h];rfl
theorem az2 (hp:0<=Y/\Y<n6/\n6<=9223372036854775807/\aC n6 (A aV f6)):aU (Ev (WL H G R N n4 f4 n6 f6 Y)) (Oq H G R N n4 f4 n6 f6 Y) (D (R8 n6 (A aV f6) Y)):=alb H G R N n4 f4 n6 f6 Y hp
def C73:aD:=bP [.agg [.sl aZ,.sl bj,.sl bm,.sl aV],tI] (λ
 |[.agg [.sl H G,.sl R N,.sl n4 f4,.sl n6 f6],.int _ Y]=>0<=Y/\Y<n6/\n6<=9223372036854775807/\aC n6 f6|_=>False) λ
 |[.agg [.sl H G,.sl R N,.sl n4 f4,.sl n6 f6],.int _ Y]=>D (R8 n6 f6 Y)|_=>.any
theorem axl:b7 C73 165:=aT Lq λ_ hp=>kt (aoQ ..) (az2 _ _ _ _ _ _ _ _ _ hp)
def tl:bo:=(147,.inl arU u0)::(146,.inl aqn u0)::(145,.con apK)::(142,.con asJ)::(165,.con C73)::LA
theorem GP:ba Tryz.prog AQ AS tl:=iz Tryz.func147 bD (iz Tryz.func146 bD (.con aqd (.con ic16 (.con axl (Lq)))))
inductive t8 where|L0 (_:Int) (_:be)|L1 (_:Int) (_:be)|L2 (_:Int) (_:be)|L3 (_:Int) (_:be)|L4 (_:Int) (_ _:Nat) (_ _ _:Int) (_:Nat) (_ _ _ _:Int) (_:be)|L5 (_:Int) (_ _:Nat) (_ _ _:Int) (_:Nat) (_ _ _ _:Int) (_:be)|L6 (_:Int) (_ _:Nat) (_ _ _:Int) (_:Nat) (_ _ _ _:Int) (_:be)|L7 (_:Int) (_ _:Nat) (_ _ _:Int) (_:Nat) (_ _ _ _:Int) (_:be)
def EH (H:Nat) (G:be) (s2:ByteArray) (U:Int) (n4:Nat) (f4:be) (x6:Int):t8->bT×List AD×Option Ex
 |.L0 PW Rs=>([(3,D PW),(8,V.kb false),(7,D (n4:Int)),(6,V.gs 2 n4),(2,V.ns),(0,V.gs 2 n4)],[AD.cells [V.str s2,D U,V.sl n4 (A aM f4),D x6] 91,AD.hid,AD.gl 2 n4 (A aM Rs) 45],none)|.L1 Q6 Sv=>([(3,D Q6),(8,V.kb false),(7,D (n4:Int)),(6,V.gs 2 n4),(2,V.ns),(0,V.gs 2 n4)],[AD.cells [V.str s2,D U,V.sl n4 (A aM f4),D x6] 91,AD.hid,AD.gl 2 n4 (A aM Sv) 45],none)|.L2 Q9 SN=>([(3,D Q9),(8,V.kb false),(7,D (n4:Int)),(6,V.gs 2 n4),(2,V.ns),(0,V.gs 2 n4)],[AD.cells [V.str s2,D U,V.sl n4 (A aM f4),D x6] 91,AD.hid,AD.gl 2 n4 (A aM SN) 45],none)|.L3 Qn fb=>([(3,D Qn),(8,V.kb false),(7,D (n4:Int)),(6,V.gs 2 n4),(2,V.ns),(0,V.gs 2 n4)],[AD.cells [V.str s2,D U,V.sl n4 (A aM f4),D x6] 91,AD.hid,AD.gl 2 n4 (A aM fb) 45],none)|.L4 Qp Rn Rz Ta Vj VG VU VH VI Zy Sm TL=>([(5,D Qp),(4,V.go 2 Rn Rz),(28,V.go 2 Rn Rz),(27,D Ta),(26,V.gs 2 n4),(25,V.kb true),(24,V.agg [D Vj,D VG]),(23,V.pe 2 VU 0),(22,D VH),(21,D Ta),(20,V.gs 2 n4),(19,V.agg [D VI,D Zy]),(18,V.pe 2 Rn 0),(17,D Ta),(16,V.gs 2 n4),(13,V.kb true),(12,D (n4:Int)),(11,V.gs 2 n4),(10,D Ta),(3,D Sm),(8,V.kb false),(7,D (n4:Int)),(6,V.gs 2 n4),(2,V.ns),(0,V.gs 2 n4)],[AD.cells [V.str s2,D U,V.sl n4 (A aM f4),D x6] 91,AD.hid,AD.gl 2 n4 (A aM TL) 45],none)|.L5 Qg Ri Rj T4 Sb XC XL US UT XE SS Sy=>([(5,D Qg),(4,V.go 2 Ri Rj),(28,V.go 2 Ri Rj),(27,D T4),(26,V.gs 2 n4),(25,V.kb true),(24,V.agg [D Sb,D XC]),(23,V.pe 2 XL 0),(22,D US),(21,D T4),(20,V.gs 2 n4),(19,V.agg [D UT,D XE]),(18,V.pe 2 Ri 0),(17,D T4),(16,V.gs 2 n4),(13,V.kb true),(12,D (n4:Int)),(11,V.gs 2 n4),(10,D T4),(3,D SS),(8,V.kb false),(7,D (n4:Int)),(6,V.gs 2 n4),(2,V.ns),(0,V.gs 2 n4)],[AD.cells [V.str s2,D U,V.sl n4 (A aM f4),D x6] 91,AD.hid,AD.gl 2 n4 (A aM Sy) 45],none)|.L6 vJ Z6 dn XF vM vO yZ vR vS vW vK fg=>([(5,D vJ),(4,V.go 2 Z6 dn),(28,V.go 2 Z6 dn),(27,D XF),(26,V.gs 2 n4),(25,V.kb true),(24,V.agg [D vM,D vO]),(23,V.pe 2 yZ 0),(22,D vR),(21,D XF),(20,V.gs 2 n4),(19,V.agg [D vS,D vW]),(18,V.pe 2 Z6 0),(17,D XF),(16,V.gs 2 n4),(13,V.kb true),(12,D (n4:Int)),(11,V.gs 2 n4),(10,D XF),(3,D vK),(8,V.kb false),(7,D (n4:Int)),(6,V.gs 2 n4),(2,V.ns),(0,V.gs 2 n4)],[AD.cells [V.str s2,D U,V.sl n4 (A aM f4),D x6] 91,AD.hid,AD.gl 2 n4 (A aM fg) 45],none)|.L7 Ux Z9 Qw TF UU vg ya Vk vi vm vY g7=>([(5,D Ux),(4,V.go 2 Z9 Qw),(28,V.go 2 Z9 Qw),(27,D TF),(26,V.gs 2 n4),(25,V.kb true),(24,V.agg [D UU,D vg]),(23,V.pe 2 ya 0),(22,D Vk),(21,D TF),(20,V.gs 2 n4),(19,V.agg [D vi,D vm]),(18,V.pe 2 Z9 0),(17,D TF),(16,V.gs 2 n4),(13,V.kb true),(12,D (n4:Int)),(11,V.gs 2 n4),(10,D TF),(3,D vY),(8,V.kb false),(7,D (n4:Int)),(6,V.gs 2 n4),(2,V.ns),(0,V.gs 2 n4)],[AD.cells [V.str s2,D U,V.sl n4 (A aM f4),D x6] 91,AD.hid,AD.gl 2 n4 (A aM g7) 45],none)
def awx:t8->JJ
 |.L0 ..=>(0,[])|.L1 ..=>(1,[])|.L2 ..=>(2,[])|.L3 ..=>(3,[])|.L4 ..=>(4,[])|.L5 ..=>(5,[])|.L6 ..=>(6,[])|.L7 ..=>(7,[])
def Pd:AN (cr JJ):=aQ JJ tl u0 awv [V.sl H (A aZ G),V.agg [V.str s2,D U,V.sl n4 (A aM f4),D x6]]
def Hw (cx:List Cx):Lp JJ:=eX (eC (Pd H G s2 U n4 f4 x6) [false,false,false,false,false,true,false,true,true,false,true,false])
def dwL (cx:List Cx):Lp JJ:=eX (eC (Pd H G s2 U n4 f4 x6) [false,false,false,false,false,true,false,true,true,false,false,false])
def f11 (cx:List Cx):Lp JJ:=eX (eC (Pd H G s2 U n4 f4 x6) [false,false,false,false,false,true,false,true,false,false,false])
def fn7 (cx:List Cx):Lp JJ:=eX (eC (Pd H G s2 U n4 f4 x6) [false,false,false,false,false,true,false,false,false,false])
abbrev Fp:=[true,true]
def agI (cx:List Cx):Lp JJ:=eX (eC (oU tl u0 (0,[]) (Hw H G s2 U n4 f4 x6 []) (EH H G s2 U n4 f4 x6 (.L0 (0:Int) (λ_=>[])))) Fp)
def anx (cx:List Cx):Lp JJ:=eX (eC (oU tl u0 (1,[]) (dwL H G s2 U n4 f4 x6 []) (EH H G s2 U n4 f4 x6 (.L1 (0:Int) (λ_=>[])))) Fp)
def al0 (cx:List Cx):Lp JJ:=eX (eC (oU tl u0 (2,[]) (f11 H G s2 U n4 f4 x6 []) (EH H G s2 U n4 f4 x6 (.L2 (0:Int) (λ_=>[])))) Fp)
def anw (cx:List Cx):Lp JJ:=eX (eC (oU tl u0 (3,[]) (fn7 H G s2 U n4 f4 x6 []) (EH H G s2 U n4 f4 x6 (.L3 (0:Int) (λ_=>[])))) Fp)
def aAe:JJ->Lp JJ
 |(0,cx)=>Hw H G s2 U n4 f4 x6 cx|(1,cx)=>dwL H G s2 U n4 f4 x6 cx|(2,cx)=>f11 H G s2 U n4 f4 x6 cx|(3,cx)=>fn7 H G s2 U n4 f4 x6 cx|(4,cx)=>agI H G s2 U n4 f4 x6 cx|(5,cx)=>anx H G s2 U n4 f4 x6 cx|(6,cx)=>al0 H G s2 U n4 f4 x6 cx|(7,cx)=>anw H G s2 U n4 f4 x6 cx|(_,cx)=>Hw H G s2 U n4 f4 x6 cx
def D63:LD JJ t8:=⟨awx,aAe H G s2 U n4 f4 x6,EH H G s2 U n4 f4 x6⟩
def M6 (mk:Int->Nat->Nat->Int->Int->Int->Nat->Int->Int->Int->Int->(Nat->List V)->t8) (Qg:Int) (Ri:Nat) (Rj:Nat) (T4:Int) (Sb:Int) (XC:Int) (XL:Nat) (US:Int) (UT:Int) (XE:Int) (SS:Int) (Sy:be):RT t8:=.br (decide (Qg<(↑Rj:Int))) (.ob (decide (0<=Qg/\Qg<(↑Rj:Int)/\Ri+Rj<=n4)) (.ob (decide (Ri+Qg.toNat<n4)) (.ob (decide (0<=E (Qg-1)/\E (Qg-1)<(↑Rj:Int)/\Ri+Rj<=n4)) (.ob (decide (Ri+(E (Qg-1)).toNat<n4)) (.br (!(aA (Sy (Ri+Qg.toNat))==aA (Sy (Ri+(E (Qg-1)).toNat))&&(aR (Sy (Ri+Qg.toNat))==aR (Sy (Ri+(E (Qg-1)).toNat))&&true))) (.ob (decide (0<=Qg/\Qg<(↑Rj:Int)/\Ri+Rj<=n4)) (.ob (decide (Ri+Qg.toNat<n4)) (.ob (decide (0<=SS/\SS<(n4:Int)/\n4<=n4)) (.ob (decide (SS.toNat<n4)) (.next (iR 0 3 []) (mk (E (Qg+1)) Ri Rj T4 Sb XC XL US UT XE (E (SS+1)) (λi'=>bif i'.beq SS.toNat then [D (aA (Sy (Ri+Qg.toNat))),D (aR (Sy (Ri+Qg.toNat)))] else A aM Sy i')) [⟨2,aM,n4,λi'=>bif i'.beq SS.toNat then [D (aA (Sy (Ri+Qg.toNat))),D (aR (Sy (Ri+Qg.toNat)))] else A aM Sy i',oF rfl (aL rfl _ _) rfl⟩]))))) (.next (iR 0 3 []) (mk (E (Qg+1)) Ri Rj T4 Sb XC XL US UT XE SS (A aM Sy)) [⟨2,aM,n4,A aM Sy,aL rfl _ _⟩])))))) (.ob (decide (0<=SS/\SS<=(n4:Int))) (.ob (decide (0<n4-SS.toNat/\SS.toNat+(n4-SS.toNat)<=n4)) (.ob (decide (0<=SS/\SS<=(n4:Int))) (.br (decide ((↑SS.toNat:Int)<(n4:Int))) (.ret (D 2)) (.ii (.asm ((U==3)=true->n4<=9223372036854775807) (.ii (.br (bif U==3 then decide (2<(n4:Int)) else false) (.ret (D 2)) (.ret (D 0))))))))))
def NJ (mk:Int->(Nat->List V)->t8) (mk2:Int->Nat->Nat->Int->Int->Int->Nat->Int->Int->Int->Int->(Nat->List V)->t8) (Q6:Int) (Sv:be):RT t8:=.br (decide (Q6<(n4:Int))) (.ob (decide (0<=Q6/\Q6<(n4:Int)/\n4<=n4)) (.ob (decide (Q6.toNat<n4)) (.ob (decide (0<=E (Q6-1)/\E (Q6-1)<(n4:Int)/\n4<=n4)) (.ob (decide ((E (Q6-1)).toNat<n4)) (.br (aA (Sv Q6.toNat)==aA (Sv (E (Q6-1)).toNat)&&(aR (Sv Q6.toNat)==aR (Sv (E (Q6-1)).toNat)&&true)) (.ob (decide (0<=Q6/\Q6<=(n4:Int))) (.enter (iR 0 3 []) (mk2 1 (Q6.toNat) (n4-Q6.toNat) Q6 (aA (Sv (E (Q6-1)).toNat)) (aR (Sv (E (Q6-1)).toNat)) ((E (Q6-1)).toNat) (E (Q6-1)) (aA (Sv Q6.toNat)) (aR (Sv Q6.toNat)) Q6 (A aM Sv)) [⟨2,aM,n4,A aM Sv,aL rfl _ _⟩])) (.next (iR 0 3 []) (mk (E (Q6+1)) (A aM Sv)) [⟨2,aM,n4,A aM Sv,aL rfl _ _⟩])))))) (.br (decide ((n4:Int)<(n4:Int))) (.ret (D 2)) (.ii (.asm ((U==3)=true->n4<=9223372036854775807) (.ii (.br (bif U==3 then decide (2<(n4:Int)) else false) (.ret (D 2)) (.ret (D 0)))))))
def rI (H:Nat) (G:be) (s2:ByteArray) (U:Int) (n4:Nat) (f4:be) (x6:Int):t8->RT t8
 |.L0 PW Rs=>.br (decide (PW<(n4:Int))) (.ob (decide (0<=PW/\PW<(n4:Int)/\n4<=n4)) (.ob (decide (PW.toNat<n4)) (.ob (decide (0<=E (PW-1)/\E (PW-1)<(n4:Int)/\n4<=n4)) (.ob (decide ((E (PW-1)).toNat<n4)) (.br (aA (Rs PW.toNat)==aA (Rs (E (PW-1)).toNat)&&(aR (Rs PW.toNat)==aR (Rs (E (PW-1)).toNat)&&true)) (.ob (decide (0<=PW/\PW<=(n4:Int))) (.enter (iR 0 3 []) (t8.L4 1 (PW.toNat) (n4-PW.toNat) PW (aA (Rs (E (PW-1)).toNat)) (aR (Rs (E (PW-1)).toNat)) ((E (PW-1)).toNat) (E (PW-1)) (aA (Rs PW.toNat)) (aR (Rs PW.toNat)) PW (A aM Rs)) [⟨2,aM,n4,A aM Rs,aL rfl _ _⟩])) (.next (iR 0 3 []) (t8.L0 (E (PW+1)) (A aM Rs)) [⟨2,aM,n4,A aM Rs,aL rfl _ _⟩])))))) (.am n4 (.br (decide ((n4:Int)<(n4:Int))) (.ret (D 2)) (.ii (.asm ((U==3)=true->n4<=9223372036854775807) (.ii (.br (bif U==3 then decide (2<(n4:Int)) else false) (.ret (D 2)) (.ret (D 0))))))))|.L1 Q6 Sv=>NJ U n4 t8.L1 t8.L5 Q6 Sv|.L2 Q9 SN=>NJ U n4 t8.L2 t8.L6 Q9 SN|.L3 Qn fb=>NJ U n4 t8.L3 t8.L7 Qn fb|.L4 Qp Rn Rz Ta Vj VG VU VH VI Zy Sm TL=>.br (decide (Qp<(↑Rz:Int))) (.ob (decide (0<=Qp/\Qp<(↑Rz:Int)/\Rn+Rz<=n4)) (.ob (decide (Rn+Qp.toNat<n4)) (.ob (decide (0<=E (Qp-1)/\E (Qp-1)<(↑Rz:Int)/\Rn+Rz<=n4)) (.ob (decide (Rn+(E (Qp-1)).toNat<n4)) (.br (!(aA (TL (Rn+Qp.toNat))==aA (TL (Rn+(E (Qp-1)).toNat))&&(aR (TL (Rn+Qp.toNat))==aR (TL (Rn+(E (Qp-1)).toNat))&&true))) (.ob (decide (0<=Qp/\Qp<(↑Rz:Int)/\Rn+Rz<=n4)) (.ob (decide (Rn+Qp.toNat<n4)) (.ob (decide (0<=Sm/\Sm<(n4:Int)/\n4<=n4)) (.ob (decide (Sm.toNat<n4)) (.next (iR 0 3 []) (t8.L4 (E (Qp+1)) Rn Rz Ta Vj VG VU VH VI Zy (E (Sm+1)) (λi'=>bif i'.beq Sm.toNat then [D (aA (TL (Rn+Qp.toNat))),D (aR (TL (Rn+Qp.toNat)))] else A aM TL i')) [⟨2,aM,n4,λi'=>bif i'.beq Sm.toNat then [D (aA (TL (Rn+Qp.toNat))),D (aR (TL (Rn+Qp.toNat)))] else A aM TL i',oF rfl (aL rfl _ _) rfl⟩]))))) (.next (iR 0 3 []) (t8.L4 (E (Qp+1)) Rn Rz Ta Vj VG VU VH VI Zy Sm (A aM TL)) [⟨2,aM,n4,A aM TL,aL rfl _ _⟩])))))) (.ob (decide (0<=Sm/\Sm<=(n4:Int))) (.ob (decide (0<n4-Sm.toNat/\Sm.toNat+(n4-Sm.toNat)<=n4)) (.ob (decide (0<=Sm/\Sm<=(n4:Int))) (.am n4 (.br (decide ((↑Sm.toNat:Int)<(n4:Int))) (.ret (D 2)) (.ii (.asm ((U==3)=true->n4<=9223372036854775807) (.ii (.br (bif U==3 then decide (2<(n4:Int)) else false) (.ret (D 2)) (.ret (D 0)))))))))))|.L5 Qg Ri Rj T4 Sb XC XL US UT XE SS Sy=>M6 U n4 t8.L5 Qg Ri Rj T4 Sb XC XL US UT XE SS Sy|.L6 vJ Z6 dn XF vM vO yZ vR vS vW vK fg=>M6 U n4 t8.L6 vJ Z6 dn XF vM vO yZ vR vS vW vK fg|.L7 Ux Z9 Qw TF UU vg ya Vk vi vm vY g7=>M6 U n4 t8.L7 Ux Z9 Qw TF UU vg ya Vk vi vm vY g7
def Oc:RT t8:=.obp (s2.size<=(9223372036854775807:Nat)) (.obt (.br (!o9 s2) (.ret (D 6)) (.cb (.br (vk H (A aZ G) s2) (.ret (D 5)) (.cb (.br (bY U 0 3) (.ret (D 2)) (.am n4 (.br (decide ((n4:Int)<2)) (.ret (D 4)) (.am n4 (.br (decide (8<(n4:Int))) (.ret (D 3)) (.cb (.obi (.br (!lX n4 (A aM f4)) (.ob (!lX n4 (A aM f4)) (.cb (.br (bY x6 100 30000) (.ret (D 7)) (.und (.und (.und (.asm (n4=0) (.und (.brt (.am n4 (.br (decide (0<(n4:Int))) (.ret (D 2)) (.ii (.asm ((U==3)=true->n4<=9223372036854775807) (.ii (.br (bif U==3 then decide (2<(n4:Int)) else false) (.ret (D 2)) (.ret (D 0))))))))) (.am n4 (.brt (.br (decide (0<(n4:Int))) (.ret (D 2)) (.ii (.asm ((U==3)=true->n4<=9223372036854775807) (.ii (.br (bif U==3 then decide (2<(n4:Int)) else false) (.ret (D 2)) (.ret (D 0))))))))))) (.obv (dz n4 λi=>nX 2 (A aM f4 i)) (C6 rfl _ _) (.ob (decide (n4*16<=140737488355328)&&!Nat.beq 16 0) (.und (.br (decide ((n4:Int)<2)) (.am n4 (.br (decide ((n4:Int)<(n4:Int))) (.ret (D 2)) (.ii (.asm ((U==3)=true->n4<=9223372036854775807) (.ii (.br (bif U==3 then decide (2<(n4:Int)) else false) (.ret (D 2)) (.ret (D 0)))))))) (.enter (iR 0 3 []) (t8.L0 1 (A aM f4)) [⟨2,aM,n4,A aM f4,aL rfl _ _⟩])) (.am n4 (.br (decide ((n4:Int)<2)) (.br (decide ((n4:Int)<(n4:Int))) (.ret (D 2)) (.ii (.asm ((U==3)=true->n4<=9223372036854775807) (.ii (.br (bif U==3 then decide (2<(n4:Int)) else false) (.ret (D 2)) (.ret (D 0))))))) (.enter (iR 0 3 []) (t8.L1 1 (A aM f4)) [⟨2,aM,n4,A aM f4,aL rfl _ _⟩]))))))) (.am n4 (.und (.asm (n4=0) (.brt (.br (decide (0<(n4:Int))) (.ret (D 2)) (.ii (.asm ((U==3)=true->n4<=9223372036854775807) (.ii (.br (bif U==3 then decide (2<(n4:Int)) else false) (.ret (D 2)) (.ret (D 0))))))))) (.obv (dz n4 λi=>nX 2 (A aM f4 i)) (C6 rfl _ _) (.ob (decide (n4*16<=140737488355328)&&!Nat.beq 16 0) (.br (decide ((n4:Int)<2)) (.br (decide ((n4:Int)<(n4:Int))) (.ret (D 2)) (.ii (.asm ((U==3)=true->n4<=9223372036854775807) (.ii (.br (bif U==3 then decide (2<(n4:Int)) else false) (.ret (D 2)) (.ret (D 0))))))) (.enter (iR 0 3 []) (t8.L2 1 (A aM f4)) [⟨2,aM,n4,A aM f4,aL rfl _ _⟩]))))))) (.am n4 (.und (.asm (n4=0) (.brt (.br (decide (0<(n4:Int))) (.ret (D 2)) (.ii (.asm ((U==3)=true->n4<=9223372036854775807) (.ii (.br (bif U==3 then decide (2<(n4:Int)) else false) (.ret (D 2)) (.ret (D 0))))))))) (.obv (dz n4 λi=>nX 2 (A aM f4 i)) (C6 rfl _ _) (.ob (decide (n4*16<=140737488355328)&&!Nat.beq 16 0) (.br (decide ((n4:Int)<2)) (.br (decide ((n4:Int)<(n4:Int))) (.ret (D 2)) (.ii (.asm ((U==3)=true->n4<=9223372036854775807) (.ii (.br (bif U==3 then decide (2<(n4:Int)) else false) (.ret (D 2)) (.ret (D 0))))))) (.enter (iR 0 3 []) (t8.L3 1 (A aM f4)) [⟨2,aM,n4,A aM f4,aL rfl _ _⟩])))))))))) (.ret (D 7)))))))))))))))
theorem apI:d0 tl u0 (D63 H G s2 U n4 f4 x6) (Pd H G s2 U n4 f4 x6) (Oc H G s2 U n4 f4 x6) (rI H G s2 U n4 f4 x6):=⟨bF,λs=>by cases s<;>exact bF⟩
def uO (f:be) (i j:Nat):Bool:=aA (f i)==aA (f j)&&(aR (f i)==aR (f j)&&true)
def qO (n:Nat) (f:be):Bool:=gW n λi=>decide (0<i)&&uO f i (i-1)
def iT (U:Int) (n4:Nat):Int:=bif bif U==3 then decide (2<(n4:Int)) else false then 2 else 0
def GE (H:Nat) (G:be) (s2:ByteArray) (U:Int) (n4:Nat) (f4:be) (x6:Int):Int:=bif !o9 s2 then 6 else bif vk H G s2 then 5 else bif bY U 0 3 then 2 else bif decide ((n4:Int)<2) then 4 else bif decide (8<(n4:Int)) then 3 else bif !!lX n4 f4 then 7 else bif bY x6 100 30000 then 7 else bif qO n4 f4 then 2 else iT U n4
theorem R52 {Pe:Type} {Nx:Pe->V->Prop} {U:Int} {n4:Nat} {PX:Prop}:aU Nx (.obi (.obi (.asm PX (.obi (.obi (.br (bif U==3 then decide (2<(n4:Int)) else false) (.ret (D 2)) (.ret (D 0)))))))) (D (iT U n4)):=by refine AE (AE (Af λ_=>AE (AE (AP (λh=>AF ?_) (λh=>AF ?_)))))<;>(unfold iT;rw[h];rfl)
theorem ato (h8:n4<=8) (k0:Nat) (hk:1<=k0) (RX:k0<n4) (t1 t2 t3:Int) (t4:Nat) (t5 t6 t7:Int):(∀ k2:Nat,k2<=n4-k0->1<=k2->∀ (k:Nat) (f:be),k+1<=k0+k2->Ev (rI H G s2 U n4 f4 x6) (.L4 k2 k0 (n4-k0) t1 t2 t3 t4 t5 t6 t7 k f) (D 2))/\(∀ k2:Nat,k2<=n4-k0->1<=k2->∀ (k:Nat) (f:be),k+1<=k0+k2->Ev (rI H G s2 U n4 f4 x6) (.L5 k2 k0 (n4-k0) t1 t2 t3 t4 t5 t6 t7 k f) (D 2))/\(∀ k2:Nat,k2<=n4-k0->1<=k2->∀ (k:Nat) (f:be),k+1<=k0+k2->Ev (rI H G s2 U n4 f4 x6) (.L6 k2 k0 (n4-k0) t1 t2 t3 t4 t5 t6 t7 k f) (D 2))/\(∀ k2:Nat,k2<=n4-k0->1<=k2->∀ (k:Nat) (f:be),k+1<=k0+k2->Ev (rI H G s2 U n4 f4 x6) (.L7 k2 k0 (n4-k0) t1 t2 t3 t4 t5 t6 t7 k f) (D 2)):=by
 refine⟨?_,?_,?_,?_⟩
 all_goals
  refine dv λk2 WS ih M k f izb11=>Ev.of rfl ?_;have w1:E ((k2:Int)-1)=((k2-1:Nat):Int):=by rw[AX K K];omega
  have w2:E ((k2:Int)+1)=((k2+1:Nat):Int):=by rw[AX K K];omega
  have pl57:E ((k:Int)+1)=((k+1:Nat):Int):=by rw[AX K K];omega
  refine AP (λh=>?_) (λh=>?_)
  ·have Pj:k2<n4-k0:=by have:=As h;omega
   refine aF (AG K) (aF (AG K) (aF (AG (by rw[w1];omega)) (aF (AG (by rw[w1];omega)) (AP (λ_=>?_) (λ_=>?_)))))
   ·refine aF (AG K) (aF (AG K) (aF (AG K) (aF (AG K) (aK ?_))));rw[w2,pl57];exact ih Pj K (k+1) _ K
   ·refine aK ?_;rw[w2];exact ih Pj K k _ K
  ·have Sf:¬ k2<n4-k0:=by have:=D2 h;omega
   refine aF (AG K) (aF (AG K) (aF (AG K) ?_))
   try refine Af λ_=>?_
   exact cO (AG K) (AF rfl)
theorem aqE (h8:n4<=8) (Q:2<=n4):(∀ i:Nat,i<=n4->1<=i->(∀ j,j<i->(decide (0<j)&&uO f4 j (j-1))=false)->∀ f:be,(∀ i j,uO f i j=uO f4 i j)->Ev (rI H G s2 U n4 f4 x6) (.L0 i f) (D (bif qO n4 f4 then 2 else iT U n4)))/\(∀ i:Nat,i<=n4->1<=i->(∀ j,j<i->(decide (0<j)&&uO f4 j (j-1))=false)->∀ f:be,(∀ i j,uO f i j=uO f4 i j)->Ev (rI H G s2 U n4 f4 x6) (.L1 i f) (D (bif qO n4 f4 then 2 else iT U n4)))/\(∀ i:Nat,i<=n4->1<=i->(∀ j,j<i->(decide (0<j)&&uO f4 j (j-1))=false)->∀ f:be,(∀ i j,uO f i j=uO f4 i j)->Ev (rI H G s2 U n4 f4 x6) (.L2 i f) (D (bif qO n4 f4 then 2 else iT U n4)))/\(∀ i:Nat,i<=n4->1<=i->(∀ j,j<i->(decide (0<j)&&uO f4 j (j-1))=false)->∀ f:be,(∀ i j,uO f i j=uO f4 i j)->Ev (rI H G s2 U n4 f4 x6) (.L3 i f) (D (bif qO n4 f4 then 2 else iT U n4))):=by
 refine⟨?_,?_,?_,?_⟩
 all_goals
  refine dv λi hi ih M hj f hf=>Ev.of rfl ?_;have w1:E ((i:Int)-1)=((i-1:Nat):Int):=by rw[AX K K];omega
  have w2:E ((i:Int)+1)=((i+1:Nat):Int):=by rw[AX K K];omega
  refine AP (λh=>?_) (λh=>?_)
  ·have Pj:i<n4:=by have:=As h;omega
   refine aF (AG K) (aF (AG K) (aF (AG (by rw[w1];omega)) (aF (AG (by rw[w1];omega)) (AP (λhb=>?_) (λhb=>?_)))))
   ·have QX:uO f4 i (i-1)=true:=by
     rw[← hf];rw[w1]at hb;simpa only[Bt,uO] using hb
    rw[show qO n4 f4=true from cZ i Pj (by rw[QX];simp;omega),cond_true];refine aF (AG K) (aH ?_);have PX:=ato H G s2 U n4 f4 x6 h8 i M Pj;simp only[Bt]
    first|exact(PX _ _ _ _ _ _ _).1 1 K K i _ K|exact(PX _ _ _ _ _ _ _).2.1 1 K K i _ K|exact(PX _ _ _ _ _ _ _).2.2.1 1 K K i _ K|exact(PX _ _ _ _ _ _ _).2.2.2 1 K K i _ K
   ·have QX:uO f4 i (i-1)=false:=by
     rw[← hf];rw[w1]at hb;simpa only[Bt,uO] using hb
    refine aK ?_;rw[w2];refine ih Pj K (λj h3=>?_) _ (λa b=>hf a b);by_cases e:j=i
    ·subst e;rw[QX,Bool.and_false]
    ·exact hj j K
  ·have:i=n4:=by have:=D2 h;omega
   subst this;rw[show qO i f4=false from da hj,cond_false]
   try refine Af λ_=>?_
   exact dp R52
theorem Jx (h8:n4<=8) (Q:2<=n4) (f:be) (hf:∀ i j,uO f i j=uO f4 i j):(Ev (rI H G s2 U n4 f4 x6) (.L0 1 f) (D (bif qO n4 f4 then 2 else iT U n4)))/\(Ev (rI H G s2 U n4 f4 x6) (.L1 1 f) (D (bif qO n4 f4 then 2 else iT U n4)))/\(Ev (rI H G s2 U n4 f4 x6) (.L2 1 f) (D (bif qO n4 f4 then 2 else iT U n4)))/\(Ev (rI H G s2 U n4 f4 x6) (.L3 1 f) (D (bif qO n4 f4 then 2 else iT U n4))):=by
 have PX:=aqE H G s2 U n4 f4 x6 h8 Q;have h0:∀ j,j<1->(decide (0<j)&&uO f4 j (j-1))=false:=λj hj=>by
  have:j=0:=by omega
  subst this;rfl
 exact⟨PX.1 1 K (Ah _) h0 f hf,PX.2.1 1 K (Ah _) h0 f hf,PX.2.2.1 1 K (Ah _) h0 f hf,PX.2.2.2 1 K (Ah _) h0 f hf⟩
theorem aiJ (hp:s2.size<=9223372036854775807):aU (Ev (rI H G s2 U n4 f4 x6)) (Oc H G s2 U n4 f4 x6) (D (GE H G s2 U n4 f4 x6)):=by
 unfold GE;refine aI hp (ac ?_);refine AP (λh=>AF (by rw[h];rfl)) (λh=>?_);rw[h,cond_false];refine AM (ac (AP (λh=>AF (by rw[show vk H G s2=true from h];rfl)) (λh=>?_)));rw[show vk H G s2=false from h,cond_false];refine AM (ac (AP (λh=>AF (by rw[h];rfl)) (λh=>?_)));rw[h,cond_false];refine bC λhn=>AP (λh=>AF (by rw[h];rfl)) (λQ=>?_);rw[Q,cond_false];refine bC λhn=>AP (λh=>AF (by rw[h];rfl)) (λh8=>?_);rw[h8,cond_false];have Q:2<=n4:=by have:=D2 Q;omega
 have h8:n4<=8:=by have:=D2 h8;omega
 have e2:decide ((n4:Int)<2)=false:=eM K;refine AM (ac (AE (AP (λh=>?_) (λh=>AF (by rw[show(!!lX n4 f4)=true from by rw[show(!lX n4 f4)=false from h];rfl];rfl)))));rw[show(!!lX n4 f4)=false from by rw[show(!lX n4 f4)=true from h];rfl,cond_false];refine aF h (AM (ac (AP (λh=>AF (by rw[h];rfl)) (λh=>?_))));rw[h,cond_false];have h16:(decide (n4*16<=140737488355328)&&!Nat.beq 16 0)=true:=by rw[AG (show n4*16<=140737488355328 by omega)];rfl
 have RY:n4=0->False:=by omega
 have hi:∀i j,uO (A aM f4) i j=uO f4 i j:=λ_ _=>rfl
 repeat' (first
  |exact Af (λh0=>(RY h0).elim)|exact aH (Jx _ _ _ _ _ _ _ h8 Q _ hi).1|exact aH (Jx _ _ _ _ _ _ _ h8 Q _ hi).2.1|exact aH (Jx _ _ _ _ _ _ _ h8 Q _ hi).2.2.1|exact aH (Jx _ _ _ _ _ _ _ h8 Q _ hi).2.2.2|refine arC ?_ ?_
  |refine Af (λ_=>?_)|refine aqo ?_
  |refine aF h16 ?_
  |refine cW e2 ?_
  |refine cW rfl ?_
  |refine cO rfl ?_)
theorem aze (hp:s2.size<=9223372036854775807):aU (Ev (rI H G s2 U n4 f4 x6)) (Oc H G s2 U n4 f4 x6) (D (GE H (A aZ G) s2 U n4 (A aM f4) x6)):=aiJ H G s2 U n4 f4 x6 hp
def C63:aD:=bP [.sl aZ,.agg aZ] (λ
 |[.sl H G,.agg [.str s2,.int _ U,.sl n4 f4,.int _ x6]]=>s2.size<=9223372036854775807|_=>False) λ
 |[.sl H G,.agg [.str s2,.int _ U,.sl n4 f4,.int _ x6]]=>D (GE H G s2 U n4 f4 x6)|_=>.any
theorem ayj:b7 C63 85:=aT GP λ_ hp=>kt (apI ..) (aze _ _ _ _ _ _ _ hp)
def m69:RT Empty:=.obp (s2.size<=(9223372036854775807:Nat)) (.obt (.br (!o9 s2) (.ret (D 6)) (.cb (.br (uf H (A aV G) s2) (.ret (D 5)) (.cb (.obi (.br (!kB 2 (A L (b9 [D U,D O] 0 1))) (.ob (!kB 2 (A L (b9 [D U,D O] 0 1))) (.cb (.obi (.br (!bY x5 1 200) (.ob (!bY x5 1 200) (.cb (.obi (.br (!bY x6 (-1000) 1000) (.ob (!bY x6 (-1000) 1000) (.cb (.br (bY Z (-1000) 1000) (.ret (D 7)) (.ii (.obi (.br (bif x6==0 then Z==0 else false) (.ret (D 2)) (.ret (D 0)))))))) (.ret (D 7)))))) (.ret (D 7)))))) (.ret (D 7)))))))))
theorem aqh:cV cX (aQ JJ tl u0 awo [V.sl H (A aV G),V.agg [V.str s2,D U,D O,D x5,D x6,D Z]]) (m69 H G s2 U O x5 x6 Z):=bF
def nh:Int:=bif !o9 s2 then 6 else bif uf H (A aV G) s2 then 5 else bif !kB 2 (A L (b9 [D U,D O] 0 1)) then bif !bY x5 1 200 then bif !bY x6 (-1000) 1000 then bif bY Z (-1000) 1000 then 7 else bif bif x6==0 then Z==0 else false then 2 else 0 else 7 else 7 else 7
def UI:V:=D (nh H G s2 U O x5 x6 Z)
theorem awY (hp:s2.size<=9223372036854775807):aU cN (m69 H G s2 U O x5 x6 Z) (UI H G s2 U O x5 x6 Z):=aI (by first|assumption|(exact hp)) (ac (AP (λh0=>AF (by unfold UI nh;try rw[h0];rfl)) (λh0=>AM (ac (AP (λM=>AF (by unfold UI nh;try rw[h0];try rw[M];rfl)) (λM=>AM (ac (AE (AP (λQ=>aF (by first|assumption|(fail)) (AM (ac (AE (AP (λh3=>aF (by first|assumption|(fail)) (AM (ac (AE (AP (λh4=>aF (by first|assumption|(fail)) (AM (ac (AP (λh5=>AF (by unfold UI nh;try rw[h0];try rw[M];try rw[Q];try rw[h3];try rw[h4];try rw[h5];rfl)) (λh5=>AE (AE (AE (AP (λh6=>AF (by unfold UI nh;try rw[h0];try rw[M];try rw[Q];try rw[h3];try rw[h4];try rw[h5];try rw[h6];rfl)) (λh6=>AF (by unfold UI nh;try rw[h0];try rw[M];try rw[Q];try rw[h3];try rw[h4];try rw[h5];try rw[h6];rfl)))))))))) (λh4=>AF (by unfold UI nh;try rw[h0];try rw[M];try rw[Q];try rw[h3];try rw[h4];rfl))))))) (λh3=>AF (by unfold UI nh;try rw[h0];try rw[M];try rw[Q];try rw[h3];rfl))))))) (λQ=>AF (by unfold UI nh;try rw[h0];try rw[M];try rw[Q];rfl)))))))))))
def C69:aD:=bP [.sl aV,.agg aV] (λ
 |[.sl H G,.agg [.str s2,.int _ U,.int _ O,.int _ x5,.int _ x6,.int _ Z]]=>s2.size<=9223372036854775807|_=>False) λ
 |[.sl H G,.agg [.str s2,.int _ U,.int _ O,.int _ x5,.int _ x6,.int _ Z]]=>UI H G s2 U O x5 x6 Z|_=>.any
theorem ay0:b7 C69 91:=aT GP λ_ hp=>c7 (aqh ..) (awY _ _ _ _ _ _ _ _ hp)
def qU:bo:=(85,.con C63)::(91,.con C69)::tl
theorem Cd:ba Tryz.prog AQ AS qU:=.con ayj (.con ay0 (GP))
inductive MV where|L0 (_:Int)|L1 (_ _:Int)|L2 (_ _ _:Int)
def Tn:MV->bT×List AD×Option Ex
 |.L0 PW=>([(6,D PW),(17,V.kb false),(16,V.bool (nQ (sv (av (G Y.toNat))))),(15,V.str (sv (av (G Y.toNat)))),(14,V.pl 0 0),(5,V.pl 0 0),(13,V.agg [V.str (sv (av (G Y.toNat))),D (aR (G Y.toNat)),V.sl (aw (av (I (I (G Y.toNat))))) λi=>ap aM (bz (av (I (I (G Y.toNat)))) i),D (bf (G Y.toNat))]),(12,V.pd [V.str (sv (av (G Y.toNat))),D (aR (G Y.toNat)),V.sl (aw (av (I (I (G Y.toNat))))) λi=>ap aM (bz (av (I (I (G Y.toNat)))) i),D (bf (G Y.toNat))]),(11,D Y),(10,V.sl H (A aZ G)),(9,V.pl 1 0),(4,D 0),(2,V.pl 1 0),(0,Cq H G R N n4 f4 n6 f6),(1,D Y)],[AD.cells [V.str (sv (av (G Y.toNat))),D (aR (G Y.toNat)),V.sl (aw (av (I (I (G Y.toNat))))) λi=>ap aM (bz (av (I (I (G Y.toNat)))) i),D (bf (G Y.toNat))] 91,AD.cells [V.sl H (A aZ G),V.sl R (A bj N),V.sl n4 (A bm f4),V.sl n6 (A aV f6)] 31],none)|.L1 Q6 Qd=>([(7,D Q6),(43,V.kb false),(42,D (↑(aw (av (I (I (G Y.toNat))))):Int)),(41,V.sl (aw (av (I (I (G Y.toNat))))) λi=>ap aM (bz (av (I (I (G Y.toNat)))) i)),(40,V.pl 0 2),(39,V.kb false),(38,D (↑(aw (av (I (I (G Y.toNat))))):Int)),(37,V.sl (aw (av (I (I (G Y.toNat))))) λi=>ap aM (bz (av (I (I (G Y.toNat)))) i)),(36,V.pl 0 2),(35,V.kb false),(34,V.bool (dC (aR (G Y.toNat)) 0 3)),(33,D (aR (G Y.toNat))),(32,V.pl 0 1),(20,V.kb false),(19,D Y),(18,D Qd),(6,D Qd),(17,V.kb false),(16,V.bool (nQ (sv (av (G Y.toNat))))),(15,V.str (sv (av (G Y.toNat)))),(14,V.pl 0 0),(5,V.pl 0 0),(13,V.agg [V.str (sv (av (G Y.toNat))),D (aR (G Y.toNat)),V.sl (aw (av (I (I (G Y.toNat))))) λi=>ap aM (bz (av (I (I (G Y.toNat)))) i),D (bf (G Y.toNat))]),(12,V.pd [V.str (sv (av (G Y.toNat))),D (aR (G Y.toNat)),V.sl (aw (av (I (I (G Y.toNat))))) λi=>ap aM (bz (av (I (I (G Y.toNat)))) i),D (bf (G Y.toNat))]),(11,D Y),(10,V.sl H (A aZ G)),(9,V.pl 1 0),(4,D 0),(2,V.pl 1 0),(0,Cq H G R N n4 f4 n6 f6),(1,D Y)],[AD.cells [V.str (sv (av (G Y.toNat))),D (aR (G Y.toNat)),V.sl (aw (av (I (I (G Y.toNat))))) λi=>ap aM (bz (av (I (I (G Y.toNat)))) i),D (bf (G Y.toNat))] 91,AD.cells [V.sl H (A aZ G),V.sl R (A bj N),V.sl n4 (A bm f4),V.sl n6 (A aV f6)] 31],none)|.L2 Q9 R3 RG=>([(8,D Q9),(69,V.kb false),(68,V.bool (dC (bf (G Y.toNat)) 100 30000)),(67,D (bf (G Y.toNat))),(66,V.pl 0 3),(48,V.kb false),(47,D (↑(aw (av (I (I (G Y.toNat))))):Int)),(46,V.sl (aw (av (I (I (G Y.toNat))))) λi=>ap aM (bz (av (I (I (G Y.toNat)))) i)),(45,V.pl 0 2),(44,D R3),(7,D R3),(43,V.kb false),(42,D (↑(aw (av (I (I (G Y.toNat))))):Int)),(41,V.sl (aw (av (I (I (G Y.toNat))))) λi=>ap aM (bz (av (I (I (G Y.toNat)))) i)),(40,V.pl 0 2),(39,V.kb false),(38,D (↑(aw (av (I (I (G Y.toNat))))):Int)),(37,V.sl (aw (av (I (I (G Y.toNat))))) λi=>ap aM (bz (av (I (I (G Y.toNat)))) i)),(36,V.pl 0 2),(35,V.kb false),(34,V.bool (dC (aR (G Y.toNat)) 0 3)),(33,D (aR (G Y.toNat))),(32,V.pl 0 1),(20,V.kb false),(19,D Y),(18,D RG),(6,D RG),(17,V.kb false),(16,V.bool (nQ (sv (av (G Y.toNat))))),(15,V.str (sv (av (G Y.toNat)))),(14,V.pl 0 0),(5,V.pl 0 0),(13,V.agg [V.str (sv (av (G Y.toNat))),D (aR (G Y.toNat)),V.sl (aw (av (I (I (G Y.toNat))))) λi=>ap aM (bz (av (I (I (G Y.toNat)))) i),D (bf (G Y.toNat))]),(12,V.pd [V.str (sv (av (G Y.toNat))),D (aR (G Y.toNat)),V.sl (aw (av (I (I (G Y.toNat))))) λi=>ap aM (bz (av (I (I (G Y.toNat)))) i),D (bf (G Y.toNat))]),(11,D Y),(10,V.sl H (A aZ G)),(9,V.pl 1 0),(4,D 0),(2,V.pl 1 0),(0,Cq H G R N n4 f4 n6 f6),(1,D Y)],[AD.cells [V.str (sv (av (G Y.toNat))),D (aR (G Y.toNat)),V.sl (aw (av (I (I (G Y.toNat))))) λi=>ap aM (bz (av (I (I (G Y.toNat)))) i),D (bf (G Y.toNat))] 91,AD.cells [V.sl H (A aZ G),V.sl R (A bj N),V.sl n4 (A bm f4),V.sl n6 (A aV f6)] 31],none)
def ayF:MV->JJ
 |.L0 _=>(0,[])|.L1 ..=>(1,[])|.L2 ..=>(2,[])
def aow:AN (cr JJ):=aQ JJ qU u0 ayE [Cq H G R N n4 f4 n6 f6,D Y]
def F1 (cx:List Cx):Lp JJ:=eX (eC (aow H G R N n4 f4 n6 f6 Y) [false])
def f14 (cx:List Cx):Lp JJ:=eX (eC (oU qU u0 (0,[]) (F1 H G R N n4 f4 n6 f6 Y []) (Tn H G R N n4 f4 n6 f6 Y (.L0 (0:Int)))) [false,false,false,false])
abbrev It:=[false,false]
def agV (cx:List Cx):Lp JJ:=eX (eC (oU qU u0 (1,[]) (f14 H G R N n4 f4 n6 f6 Y []) (Tn H G R N n4 f4 n6 f6 Y (.L1 (0:Int) (0:Int)))) It)
def azg:JJ->Lp JJ
 |(0,cx)=>F1 H G R N n4 f4 n6 f6 Y cx|(1,cx)=>f14 H G R N n4 f4 n6 f6 Y cx|(2,cx)=>agV H G R N n4 f4 n6 f6 Y cx|(_,cx)=>F1 H G R N n4 f4 n6 f6 Y cx
def D70:LD JJ MV:=⟨ayF,azg H G R N n4 f4 n6 f6 Y,Tn H G R N n4 f4 n6 f6 Y⟩
def Mf (H:Nat) (G:be) (R:Nat) (N:be) (n4:Nat) (f4:be) (n6:Nat) (f6:be) (Y:Int):MV->RT MV
 |.L0 PW=>.br (decide (PW<Y)) (.ob (decide (0<=PW/\PW<(H:Int))) (.br ((sv (av (G PW.toNat))).toList==(sv (av (G Y.toNat))).toList) (.ret (D 5)) (.next D8 (MV.L0 (E (PW+1))) []))) (.cb (.br (!dC (aR (G Y.toNat)) 0 3) (.ret (D 2)) (.asm (true=true->aw (av (I (I (G Y.toNat))))<=9223372036854775807) (.br (decide ((↑(aw (av (I (I (G Y.toNat))))):Int)<2)) (.ret (D 4)) (.asm (true=true->aw (av (I (I (G Y.toNat))))<=9223372036854775807) (.br (decide (8<(↑(aw (av (I (I (G Y.toNat))))):Int))) (.ret (D 3)) (.enter D8 (MV.L1 0 PW) [])))))))|.L1 Q6 Qd=>.asm (true=true->aw (av (I (I (G Y.toNat))))<=9223372036854775807) (.br (decide (Q6<(↑(aw (av (I (I (G Y.toNat))))):Int))) (.ob (decide (0<=Q6/\Q6<(↑(aw (av (I (I (G Y.toNat))))):Int))) (.obt (.ob (decide (0<=Q6/\Q6<(↑(aw (av (I (I (G Y.toNat))))):Int))) (.obt (.cb (.br (!wj 2 (A L (b9 [D (aA (bz (av (I (I (G Y.toNat)))) Q6.toNat)),D (aR (bz (av (I (I (G Y.toNat)))) Q6.toNat))] 0 1))) (.ret (D 7)) (.next D8 (MV.L1 (E (Q6+1)) Qd) []))))))) (.cb (.br (!dC (bf (G Y.toNat)) 100 30000) (.ret (D 7)) (.enter D8 (MV.L2 1 Q6 Qd) []))))|.L2 Q9 R3 RG=>.asm (true=true->aw (av (I (I (G Y.toNat))))<=9223372036854775807) (.br (decide (Q9<(↑(aw (av (I (I (G Y.toNat))))):Int))) (.ob (decide (0<=Q9/\Q9<(↑(aw (av (I (I (G Y.toNat))))):Int))) (.ob (decide (0<=E (Q9-1)/\E (Q9-1)<(↑(aw (av (I (I (G Y.toNat))))):Int))) (.br (aA (bz (av (I (I (G Y.toNat)))) Q9.toNat)==aA (bz (av (I (I (G Y.toNat)))) (E (Q9-1)).toNat)&&(aR (bz (av (I (I (G Y.toNat)))) Q9.toNat)==aR (bz (av (I (I (G Y.toNat)))) (E (Q9-1)).toNat)&&true)) (.ret (D 2)) (.next D8 (MV.L2 (E (Q9+1)) R3 RG) [])))) (.ii (.asm ((aR (G Y.toNat)==3)=true->aw (av (I (I (G Y.toNat))))<=9223372036854775807) (.ii (.br (bif aR (G Y.toNat)==3 then decide (2<(↑(aw (av (I (I (G Y.toNat))))):Int)) else false) (.ret (D 2)) (.ret (D 0)))))))
def Om:RT MV:=dm (R,N,n4,f4,n6,f6) (.ob (decide (0<=Y/\Y<(H:Int))) (.obp ((sv (av (G Y.toNat))).size<=(9223372036854775807:Nat)) (.obt (.br (!nQ (sv (av (G Y.toNat)))) (.ret (D 6)) (.enter Il (MV.L0 0) [])))))
theorem asf:d0 qU u0 (D70 H G R N n4 f4 n6 f6 Y) (aow H G R N n4 f4 n6 f6 Y) (Om H G R N n4 f4 n6 f6 Y) (Mf H G R N n4 f4 n6 f6 Y):=⟨bF,λs=>by cases s<;>exact bF⟩
def nY (x y:Int):Bool:=wj 2 (A L (b9 [D x,D y] 0 ((1+1-0) / 2)))
def Q1 (k:Int) (n:Nat) (f:be) (h:Int):Int:=bif !dC k 0 3 then 2 else bif decide ((n:Int)<2) then 4 else bif decide (8<(n:Int)) then 3 else bif gW n (λi=>!nY (aA (f i)) (aR (f i))) then 7 else bif !dC h 100 30000 then 7 else bif qO n f then 2 else iT k n
def GR:Int:=dm H (bif !nQ (sv (av (G Y.toNat))) then 6 else bif gW Y.toNat (λk=>(sv (av (G k))).toList==(sv (av (G Y.toNat))).toList) then 5 else Q1 (aR (G Y.toNat)) (aw (av (I (I (G Y.toNat))))) (bz (av (I (I (G Y.toNat))))) (bf (G Y.toNat)))
section
variable (k:Nat) (h8:(aw (av (I (I (G k)))))<=8) (Q:2<=(aw (av (I (I (G k)))))) (i1:Int)
include k h8 Q i1
theorem ath (i2:Int):∀ i:Nat,i<=(aw (av (I (I (G k)))))->1<=i->(∀ j,j<i->(decide (0<j)&&uO (bz (av (I (I (G k))))) j (j-1))=false)->Ev (Mf H G R N n4 f4 n6 f6 (k:Int)) (.L2 i i1 i2) (D (bif qO (aw (av (I (I (G k))))) (bz (av (I (I (G k))))) then 2 else iT (aR (G k)) (aw (av (I (I (G k))))))):=by
 refine dv λi hi ih M hj=>Ev.of rfl ?_;have w1:E ((i:Int)-1)=((i-1:Nat):Int):=by rw[AX K K];omega
 have w2:E ((i:Int)+1)=((i+1:Nat):Int):=by rw[AX K K];omega
 refine Af λ_=>AP (λh=>?_) (λh=>?_)
 ·have Pj:i<(aw (av (I (I (G k))))):=by have:(i:Int)<((aw (av (I (I (G k))))):Int):=As h;omega
  refine aF (AG (show 0<=(i:Int)/\(i:Int)<((aw (av (I (I (G k))))):Int) by omega)) (aF (AG (show 0<=E ((i:Int)-1)/\E ((i:Int)-1)<((aw (av (I (I (G k))))):Int) by rw[w1];omega)) (AP (λhb=>?_) (λhb=>?_)))
  ·have QX:uO (bz (av (I (I (G k))))) i (i-1)=true:=by
    rw[w1]at hb;simpa only[Bt,uO] using hb
   rw[show qO (aw (av (I (I (G k))))) (bz (av (I (I (G k)))))=true from cZ i Pj (by rw[QX];simp;omega),cond_true];exact AF rfl
  ·have QX:uO (bz (av (I (I (G k))))) i (i-1)=false:=by
    rw[w1]at hb;simpa only[Bt,uO] using hb
   refine aK ?_;rw[w2];refine ih Pj K (λj h3=>?_);by_cases e:j=i
   ·subst e;rw[QX,Bool.and_false]
   ·exact hj j K
 ·have e:i=(aw (av (I (I (G k))))):=by have:¬ (i:Int)<((aw (av (I (I (G k))))):Int):=D2 h;omega
  rw[show qO (aw (av (I (I (G k))))) (bz (av (I (I (G k)))))=false from da λj h=>hj j K,cond_false];exact R52
theorem apx:∀ i:Nat,i<=(aw (av (I (I (G k)))))->(∀ j,j<i->(!nY (aA ((bz (av (I (I (G k))))) j)) (aR ((bz (av (I (I (G k))))) j)))=false)->Ev (Mf H G R N n4 f4 n6 f6 (k:Int)) (.L1 i i1) (D (bif gW (aw (av (I (I (G k))))) (λi=>!nY (aA ((bz (av (I (I (G k))))) i)) (aR ((bz (av (I (I (G k))))) i))) then 7 else bif !dC (bf (G k)) 100 30000 then 7 else bif qO (aw (av (I (I (G k))))) (bz (av (I (I (G k))))) then 2 else iT (aR (G k)) (aw (av (I (I (G k))))))):=by
 refine dv λi hi ih hj=>Ev.of rfl ?_;have w2:E ((i:Int)+1)=((i+1:Nat):Int):=by rw[AX K K];omega
 refine Af λ_=>AP (λh=>?_) (λh=>?_)
 ·have Pj:i<(aw (av (I (I (G k))))):=by have:(i:Int)<((aw (av (I (I (G k))))):Int):=As h;omega
  refine aF (AG (show 0<=(i:Int)/\(i:Int)<((aw (av (I (I (G k))))):Int) by omega)) (ac (aF (AG (show 0<=(i:Int)/\(i:Int)<((aw (av (I (I (G k))))):Int) by omega)) (ac (AM (ac (AP (λhb=>AF ?_) (λhb=>aK ?_)))))))
  ·rw[cZ (p:=λi=>!nY (aA ((bz (av (I (I (G k))))) i)) (aR ((bz (av (I (I (G k))))) i))) i Pj hb];rfl
  ·rw[w2]
   refine ih Pj (λj h3=>?_);by_cases e:j=i
   ·subst e;exact hb
   ·exact hj j K
 ·have e:i=(aw (av (I (I (G k))))):=by have:¬ (i:Int)<((aw (av (I (I (G k))))):Int):=D2 h;omega
  rw[show gW (aw (av (I (I (G k))))) (λi=>!nY (aA ((bz (av (I (I (G k))))) i)) (aR ((bz (av (I (I (G k))))) i)))=false from da λj h=>hj j K,cond_false];refine AM (ac (AP (λh=>AF (by rw[show(!dC (bf (G k)) 100 30000)=true from h];rfl)) (λh=>?_)));rw[show(!dC (bf (G k)) 100 30000)=false from h,cond_false];refine aH (ath H G R N n4 f4 n6 f6 k h8 Q _ _ 1 K K (λj h=>?_));have:j=0:=by omega
  subst this;rfl
end
theorem akO (hp:0<=Y/\Y<H/\H<=9223372036854775807/\aC H G):aU (Ev (Mf H G R N n4 f4 n6 f6 Y)) (Om H G R N n4 f4 n6 f6 Y) (D (GR H G Y)):=by
 obtain⟨h0,M,Q,h3⟩:=hp;obtain⟨k,rfl⟩:∃k:Nat,Y=(k:Int):=⟨Y.toNat,K⟩;have hk:k<H:=by omega
 refine c8 hk (aI (h3 k hk) (ac ?_));unfold GR;simp only[Bt];refine AP (λh=>AF (by rw[show(!nQ (sv (av (G k))))=true from h];rfl)) (λh=>?_);rw[show(!nQ (sv (av (G k))))=false from h,cond_false]
 refine aH (ky (n:=k) K (λi=>(sv (av (G i))).toList==(sv (av (G k))).toList) (P:=λi=>Ev (Mf H G R N n4 f4 n6 f6 (k:Int)) (.L0 i) _) (λi Pj hj next=>Ev.of rfl (dt Pj (c8 K (AP (λhb=>AF ?_) (λhb=>aK (next hb))))))
  (λhj=>Ev.of rfl (dp ?_)))
 ·rw[cZ i Pj hb];rfl
 ·rw[da hj,cond_false]
  unfold Q1;refine AM (ac (AP (λh=>AF (by rw[show(!dC (aR (G k)) 0 3)=true from h];rfl)) (λh=>?_)));rw[show(!dC (aR (G k)) 0 3)=false from h,cond_false];refine bC λhn=>AP (λh=>AF (by rw[show decide (((aw (av (I (I (G k))))):Int)<2)=true from h];rfl)) (λQ=>?_);rw[show decide (((aw (av (I (I (G k))))):Int)<2)=false from Q,cond_false];refine bC λhn=>AP (λh=>AF (by rw[show decide (8<((aw (av (I (I (G k))))):Int))=true from h];rfl)) (λh8=>?_);rw[show decide (8<((aw (av (I (I (G k))))):Int))=false from h8,cond_false];have Q:2<=(aw (av (I (I (G k))))):=by have:¬(((aw (av (I (I (G k))))):Int)<2):=D2 Q;omega
  have h8:(aw (av (I (I (G k)))))<=8:=by have:¬(8<((aw (av (I (I (G k))))):Int)):=D2 h8;omega
  exact aH (apx H G R N n4 f4 n6 f6 k h8 Q _ 0 K (λj h=>by omega))
theorem azN (hp:0<=Y/\Y<H/\H<=9223372036854775807/\aC H (A aZ G)):aU (Ev (Mf H G R N n4 f4 n6 f6 Y)) (Om H G R N n4 f4 n6 f6 Y) (D (GR H (A aZ G) Y)):=akO H G R N n4 f4 n6 f6 Y hp
def C70:aD:=bP [.agg [.sl aZ,.sl bj,.sl bm,.sl aV],tI] (λ
 |[.agg [.sl H G,.sl R N,.sl n4 f4,.sl n6 f6],.int _ Y]=>0<=Y/\Y<H/\H<=9223372036854775807/\aC H G|_=>False) λ
 |[.agg [.sl H G,.sl R N,.sl n4 f4,.sl n6 f6],.int _ Y]=>D (GR H G Y)|_=>.any
theorem aw3:b7 C70 161:=aT Cd λ_ hp=>kt (asf ..) (azN _ _ _ _ _ _ _ _ _ hp)
inductive Gm where|L0 (_:Int)
def au6:Gm->bT×List AD×Option Ex
 |.L0 PW=>([(11,D PW),(10,D (H:Int)),(9,V.sl H (A aZ G)),(5,D 0),(4,D 0),(0,V.sl H (A aZ G)),(1,V.fn 85 [] [])],[],none)
def awT:Gm->JJ
 |.L0 _=>(0,[])
def arE:AN (cr JJ):=aQ JJ qU u0 ayy [V.sl H (A aZ G),V.fn 85 [] []]
def h11 (cx:List Cx):Lp JJ:=eX (eC (arE H G) [])
def azF:JJ->Lp JJ
 |(0,cx)=>h11 H G cx|(_,cx)=>h11 H G cx
def D62:LD JJ Gm:=⟨awT,azF H G,au6 H G⟩
def NH:Gm->RT Gm
 |.L0 PW=>.br (decide (PW<(H:Int))) (.ob (decide (0<=PW/\PW<(H:Int))) (.ob (decide (0<=PW/\PW<=(H:Int))) (.obp ((sv (av (G PW.toNat))).size<=(9223372036854775807:Nat)) (.obt (.br (GE (PW.toNat-0) (λi=>A aZ G (0+i)) (sv (av (G PW.toNat))) (aR (G PW.toNat)) (aw (av (I (I (G PW.toNat))))) (λi=>ap aM (bz (av (I (I (G PW.toNat)))) i)) (bf (G PW.toNat))!=0) (.ret (V.tup [D PW,D (GE (PW.toNat-0) (λi=>A aZ G (0+i)) (sv (av (G PW.toNat))) (aR (G PW.toNat)) (aw (av (I (I (G PW.toNat))))) (λi=>ap aM (bz (av (I (I (G PW.toNat)))) i)) (bf (G PW.toNat)))])) (.next [] (Gm.L0 (E (PW+1))) [])))))) (.ret (V.tup Au))
def Ob:RT Gm:=dm G (.am H (.enter [] (Gm.L0 0) []))
theorem avh:d0 qU u0 (D62 H G) (arE H G) (Ob H G) (NH H G):=⟨bF,λs=>by cases s<;>exact bF⟩
def Kp (ii:Nat):Int:=dm H ((GE (ii-0) (λi=>A aZ G (0+i)) (sv (av (G ii))) (aR (G ii)) (aw (av (I (I (G ii))))) (λi=>ap aM (bz (av (I (I (G ii)))) i)) (bf (G ii))))
def A0:Int:=gr H (Kp H G)
def FZ:Int:=d9 H (Kp H G)
theorem ajh (hp:aC H G):aU (Ev (NH H G)) (Ob H G) (.tup [D (A0 H G),D (FZ H G)]):=bC λhn=>aH (sI (Pg:=λi=>(sv (av (G i))).size<=9223372036854775807) (λi x=>.obp ((sv (av (G i))).size<=9223372036854775807) (.obt x)) (λi x r h hx=>aI h (ac hx)) (λ_ _=>rfl) hn hp λi=>rfl)
theorem aAi (hp:aC H (A aZ G)):aU (Ev (NH H G)) (Ob H G) (.tup [D (A0 H (A aZ G)),D (FZ H (A aZ G))]):=ajh H G hp
def C62:aD:=bP [.sl aZ,.fn 85 [] []] (λ
 |[.sl H G,.fn _ [] []]=>aC H G|_=>False) λ
 |[.sl H G,.fn _ [] []]=>.tup [D (A0 H G),D (FZ H G)]|_=>.any
theorem aAg:b7 C62 84:=aT Cd λ_ hp=>kt (avh ..) (aAi _ _ hp)
inductive Gw where|L0 (_:Int)
def ary:Gw->bT×List AD×Option Ex
 |.L0 PW=>([(11,D PW),(10,D (H:Int)),(9,V.sl H (A aV G)),(5,D 0),(4,D 0),(0,V.sl H (A aV G)),(1,V.fn 91 [] [])],[],none)
def azJ:Gw->JJ
 |.L0 _=>(0,[])
def aoK:AN (cr JJ):=aQ JJ qU u0 ax0 [V.sl H (A aV G),V.fn 91 [] []]
def hfc (cx:List Cx):Lp JJ:=eX (eC (aoK H G) [])
def awl:JJ->Lp JJ
 |(0,cx)=>hfc H G cx|(_,cx)=>hfc H G cx
def D68:LD JJ Gw:=⟨azJ,awl H G,ary H G⟩
def Md:Gw->RT Gw
 |.L0 PW=>.br (decide (PW<(H:Int))) (.ob (decide (0<=PW/\PW<(H:Int))) (.ob (decide (0<=PW/\PW<=(H:Int))) (.obp ((sv (av (G PW.toNat))).size<=(9223372036854775807:Nat)) (.obt (.br (nh (PW.toNat-0) (λi=>A aV G (0+i)) (sv (av (G PW.toNat))) (aR (G PW.toNat)) (bX (G PW.toNat)) (bf (G PW.toNat)) (cq (G PW.toNat)) (bG (G PW.toNat))!=0) (.ret (V.tup [D PW,D (nh (PW.toNat-0) (λi=>A aV G (0+i)) (sv (av (G PW.toNat))) (aR (G PW.toNat)) (bX (G PW.toNat)) (bf (G PW.toNat)) (cq (G PW.toNat)) (bG (G PW.toNat)))])) (.next [] (Gw.L0 (E (PW+1))) [])))))) (.ret (V.tup Au))
def Ol:RT Gw:=dm G (.am H (.enter [] (Gw.L0 0) []))
theorem auo:d0 qU u0 (D68 H G) (aoK H G) (Ol H G) (Md H G):=⟨bF,λs=>by cases s<;>exact bF⟩
def Kq (ii:Nat):Int:=dm H ((nh (ii-0) (λi=>A aV G (0+i)) (sv (av (G ii))) (aR (G ii)) (bX (G ii)) (bf (G ii)) (cq (G ii)) (bG (G ii))))
def A4:Int:=gr H (Kq H G)
def qY:Int:=d9 H (Kq H G)
theorem amP (hp:aC H G):aU (Ev (Md H G)) (Ol H G) (.tup [D (A4 H G),D (qY H G)]):=bC λhn=>aH (sI (Pg:=λi=>(sv (av (G i))).size<=9223372036854775807) (λi x=>.obp ((sv (av (G i))).size<=9223372036854775807) (.obt x)) (λi x r h hx=>aI h (ac hx)) (λ_ _=>rfl) hn hp λi=>rfl)
theorem axi (hp:aC H (A aV G)):aU (Ev (Md H G)) (Ol H G) (.tup [D (A4 H (A aV G)),D (qY H (A aV G))]):=amP H G hp
def C68:aD:=bP [.sl aV,.fn 91 [] []] (λ
 |[.sl H G,.fn _ [] []]=>aC H G|_=>False) λ
 |[.sl H G,.fn _ [] []]=>.tup [D (A4 H G),D (qY H G)]|_=>.any
theorem ayW:b7 C68 90:=aT Cd λ_ hp=>kt (auo ..) (axi _ _ hp)
def wa:bo:=(161,.con C70)::(84,.con C62)::(90,.con C68)::qU
theorem GW:ba Tryz.prog AQ AS wa:=.con aw3 (.con aAg (.con ayW (Cd)))
inductive Kn where|L0 (_:Int)|L1 (_ _:Int)|L2 (_ _ _:Int)|L3 (_ _ _ _:Int)
def IF:Kn->bT×List AD×Option Ex
 |.L0 PW=>([(5,D PW),(34,V.kb false),(29,V.bool (bif bif decide (8<(H:Int)) then true else decide (12<(R:Int)) then true else decide (8<(n4:Int)))),(28,V.bool (bif bif decide (8<(H:Int)) then true else decide (12<(R:Int)) then true else decide (8<(n4:Int)))),(23,V.bool (bif decide (8<(H:Int)) then true else decide (12<(R:Int)))),(22,V.bool (bif decide (8<(H:Int)) then true else decide (12<(R:Int)))),(17,V.bool (decide (8<(H:Int)))),(16,V.bool (decide (8<(H:Int)))),(15,D (H:Int)),(14,V.sl H (A aZ G)),(13,V.pl 0 0),(4,D 0),(3,D 0),(2,D 0),(1,V.pl 0 0),(0,Cq H G R N n4 f4 n6 f6)],[AD.cells [V.sl H (A aZ G),V.sl R (A bj N),V.sl n4 (A bm f4),V.sl n6 (A aV f6)] 31],none)|.L1 Q6 Qd=>([(7,D Q6),(39,V.kb false),(38,D (H:Int)),(37,V.sl H (A aZ G)),(36,V.pl 0 0),(35,D Qd),(5,D Qd),(34,V.kb false),(29,V.bool (bif bif decide (8<(H:Int)) then true else decide (12<(R:Int)) then true else decide (8<(n4:Int)))),(28,V.bool (bif bif decide (8<(H:Int)) then true else decide (12<(R:Int)) then true else decide (8<(n4:Int)))),(23,V.bool (bif decide (8<(H:Int)) then true else decide (12<(R:Int)))),(22,V.bool (bif decide (8<(H:Int)) then true else decide (12<(R:Int)))),(17,V.bool (decide (8<(H:Int)))),(16,V.bool (decide (8<(H:Int)))),(15,D (H:Int)),(14,V.sl H (A aZ G)),(13,V.pl 0 0),(4,D 0),(3,D 0),(2,D 0),(1,V.pl 0 0),(0,Cq H G R N n4 f4 n6 f6)],[AD.cells [V.sl H (A aZ G),V.sl R (A bj N),V.sl n4 (A bm f4),V.sl n6 (A aV f6)] 31],none)|.L2 Q9 R3 RG=>([(9,D Q9),(53,V.kb false),(52,D (R:Int)),(51,V.sl R (A bj N)),(50,V.pl 0 1),(49,D R3),(7,D R3),(39,V.kb false),(38,D (H:Int)),(37,V.sl H (A aZ G)),(36,V.pl 0 0),(35,D RG),(5,D RG),(34,V.kb false),(29,V.bool (bif bif decide (8<(H:Int)) then true else decide (12<(R:Int)) then true else decide (8<(n4:Int)))),(28,V.bool (bif bif decide (8<(H:Int)) then true else decide (12<(R:Int)) then true else decide (8<(n4:Int)))),(23,V.bool (bif decide (8<(H:Int)) then true else decide (12<(R:Int)))),(22,V.bool (bif decide (8<(H:Int)) then true else decide (12<(R:Int)))),(17,V.bool (decide (8<(H:Int)))),(16,V.bool (decide (8<(H:Int)))),(15,D (H:Int)),(14,V.sl H (A aZ G)),(13,V.pl 0 0),(4,D 0),(3,D 0),(2,D 0),(1,V.pl 0 0),(0,Cq H G R N n4 f4 n6 f6)],[AD.cells [V.sl H (A aZ G),V.sl R (A bj N),V.sl n4 (A bm f4),V.sl n6 (A aV f6)] 31],none)|.L3 Qn Sa VE UR=>([(11,D Qn),(96,V.kb false),(95,D (n4:Int)),(94,V.sl n4 (A bm f4)),(93,V.pl 0 2),(92,D Sa),(9,D Sa),(53,V.kb false),(52,D (R:Int)),(51,V.sl R (A bj N)),(50,V.pl 0 1),(49,D VE),(7,D VE),(39,V.kb false),(38,D (H:Int)),(37,V.sl H (A aZ G)),(36,V.pl 0 0),(35,D UR),(5,D UR),(34,V.kb false),(29,V.bool (bif bif decide (8<(H:Int)) then true else decide (12<(R:Int)) then true else decide (8<(n4:Int)))),(28,V.bool (bif bif decide (8<(H:Int)) then true else decide (12<(R:Int)) then true else decide (8<(n4:Int)))),(23,V.bool (bif decide (8<(H:Int)) then true else decide (12<(R:Int)))),(22,V.bool (bif decide (8<(H:Int)) then true else decide (12<(R:Int)))),(17,V.bool (decide (8<(H:Int)))),(16,V.bool (decide (8<(H:Int)))),(15,D (H:Int)),(14,V.sl H (A aZ G)),(13,V.pl 0 0),(4,D 0),(3,D 0),(2,D 0),(1,V.pl 0 0),(0,Cq H G R N n4 f4 n6 f6)],[AD.cells [V.sl H (A aZ G),V.sl R (A bj N),V.sl n4 (A bm f4),V.sl n6 (A aV f6)] 31],none)
def axc:Kn->JJ
 |.L0 _=>(0,[])|.L1 ..=>(1,[])|.L2 ..=>(2,[])|.L3 ..=>(3,[])
def apV:AN (cr JJ):=aQ JJ wa u0 ayp [Cq H G R N n4 f4 n6 f6]
def Gl (cx:List Cx):Lp JJ:=eX (eC (apV H G R N n4 f4 n6 f6) [false])
def hc0 (cx:List Cx):Lp JJ:=eX (eC (oU wa u0 (0,[]) (Gl H G R N n4 f4 n6 f6 []) (IF H G R N n4 f4 n6 f6 (.L0 (0:Int)))) [false])
def grR (cx:List Cx):Lp JJ:=eX (eC (oU wa u0 (1,[]) (hc0 H G R N n4 f4 n6 f6 []) (IF H G R N n4 f4 n6 f6 (.L1 (0:Int) (0:Int)))) [false])
def akK (cx:List Cx):Lp JJ:=eX (eC (oU wa u0 (2,[]) (grR H G R N n4 f4 n6 f6 []) (IF H G R N n4 f4 n6 f6 (.L2 (0:Int) (0:Int) (0:Int)))) [false])
def awu:JJ->Lp JJ
 |(0,cx)=>Gl H G R N n4 f4 n6 f6 cx|(1,cx)=>hc0 H G R N n4 f4 n6 f6 cx|(2,cx)=>grR H G R N n4 f4 n6 f6 cx|(3,cx)=>akK H G R N n4 f4 n6 f6 cx|(_,cx)=>Gl H G R N n4 f4 n6 f6 cx
def D24:LD JJ Kn:=⟨axc,awu H G R N n4 f4 n6 f6,IF H G R N n4 f4 n6 f6⟩
abbrev Az:=[some (some 0)]
abbrev Fb:=[D 0,D 0,D 0]
def zA:Kn->RT Kn
 |.L0 PW=>.am H (.br (decide (PW<(H:Int))) (.obp ((0:Int)<=PW/\PW<(H:Int)/\H<=(9223372036854775807:Nat)/\aC H G) (.obt (.br (GR H (A aZ G) PW !=0) (.ret (V.tup [D 1,D PW,D (GR H (A aZ G) PW)])) (.next Az (Kn.L0 (E (PW+1))) [])))) (.enter Az (Kn.L1 0 PW) []))|.L1 Q6 Qd=>.am R (.br (decide (Q6<(R:Int))) (.ob (decide (0<=Q6/\Q6<(R:Int))) (.cb (.obi (.br (!!wj 2 (A L (b9 [D (aA (N Q6.toNat)),D (aR (N Q6.toNat))] 0 1))) (.ob (!!wj 2 (A L (b9 [D (aA (N Q6.toNat)),D (aR (N Q6.toNat))] 0 1))) (.cb (.iv (.iv (.ii (.obi (.br (bif bif bif !dC (bX (N Q6.toNat)) 1 20000 then true else decide (bf (N Q6.toNat)<0) then true else decide (cq (N Q6.toNat)<=bf (N Q6.toNat)) then true else decide (1000<cq (N Q6.toNat))) (.ret (V.tup [D 2,D Q6,D 7])) (.next Az (Kn.L1 (E (Q6+1)) Qd) [])))))))) (.ret (V.tup [D 2,D Q6,D 7])))))) (.enter Az (Kn.L2 0 Q6 Qd) []))|.L2 Q9 R3 RG=>.am n4 (.br (decide (Q9<(n4:Int))) (.ob (decide (0<=Q9/\Q9<(n4:Int))) (.cb (.br ((GY (aA (f4 Q9.toNat)) (aR (f4 Q9.toNat)) (bX (f4 Q9.toNat)) (bf (f4 Q9.toNat)) (aw (av (I (I (I (I (f4 Q9.toNat))))))) λi=>ap gP (bz (av (I (I (I (I (f4 Q9.toNat)))))) i))!=0) (.ret (V.tup [D 3,D Q9,D (GY (aA (f4 Q9.toNat)) (aR (f4 Q9.toNat)) (bX (f4 Q9.toNat)) (bf (f4 Q9.toNat)) (aw (av (I (I (I (I (f4 Q9.toNat))))))) λi=>ap gP (bz (av (I (I (I (I (f4 Q9.toNat)))))) i))])) (.next Az (Kn.L2 (E (Q9+1)) R3 RG) [])))) (.enter Az (Kn.L3 0 Q9 R3 RG) []))|.L3 Qn Sa VE UR=>.am n6 (.br (decide (Qn<(n6:Int))) (.obp ((0:Int)<=Qn/\Qn<(n6:Int)/\n6<=(9223372036854775807:Nat)/\aC n6 f6) (.obt (.br (R8 n6 (A aV f6) Qn !=0) (.ret (V.tup [D 4,D Qn,D (R8 n6 (A aV f6) Qn)])) (.next Az (Kn.L3 (E (Qn+1)) Sa VE UR) [])))) (.ret (V.tup Fb)))
def OX:RT Kn:=dm (G,N,f4,f6) (.am H (.ii (.asm ((!decide (8<(H:Int)))=true->R<=9223372036854775807) (.iv (.asm ((!bif decide (8<(H:Int)) then true else decide (12<(R:Int)))=true->n4<=9223372036854775807) (.iv (.asm ((!bif bif decide (8<(H:Int)) then true else decide (12<(R:Int)) then true else decide (8<(n4:Int)))=true->n6<=9223372036854775807) (.ii (.br (bif bif bif decide (8<(H:Int)) then true else decide (12<(R:Int)) then true else decide (8<(n4:Int)) then true else decide (24<(n6:Int))) (.ret (V.tup [D 0,D 0,D 3])) (.enter Az (Kn.L0 0) []))))))))))
theorem ar6:d0 wa u0 (D24 H G R N n4 f4 n6 f6) (apV H G R N n4 f4 n6 f6) (OX H G R N n4 f4 n6 f6) (zA H G R N n4 f4 n6 f6):=⟨bF,λs=>by cases s<;>exact bF⟩
def MR (t:Int×Int×Int):V:=.tup [D t.1,D t.2.1,D t.2.2]
def xt (x y a z w:Int):Int:=bif !!nY x y then(bif(bif bif bif !dC a 1 20000 then true else decide (z<0) then true else decide (w<=z) then true else decide (1000<w)) then 7 else 0) else 7
def Ay (n:Nat) (c:Nat->Int) (k:Int) (z:Int×Int×Int):Int×Int×Int:=bif d9 n c !=0 then(k,gr n c,d9 n c) else z
def cR (i:Nat):Int:=GR H (A aZ G) (i:Int)
def cT (i:Nat):Int:=xt (aA (N i)) (aR (N i)) (bX (N i)) (bf (N i)) (cq (N i))
def cF (i:Nat):Int:=GY (aA (f4 i)) (aR (f4 i)) (bX (f4 i)) (bf (f4 i)) (aw (av (I (I (I (I (f4 i))))))) λj=>ap gP (bz (av (I (I (I (I (f4 i)))))) j)
def cC (i:Nat):Int:=R8 n6 (A aV f6) (i:Int)
def z3:Int×Int×Int:=Ay n6 (cC n6 f6) 4 (0,0,0)
def z2:Int×Int×Int:=Ay n4 (cF f4) 3 (z3 n6 f6)
def z1:Int×Int×Int:=Ay R (cT N) 2 (z2 n4 f4 n6 f6)
def MO (H:Nat) (G:be) (R:Nat) (N:be) (n4:Nat) (f4:be) (n6:Nat) (f6:be):Bool:=bif bif bif decide (8<(H:Int)) then true else decide (12<(R:Int)) then true else decide (8<(n4:Int)) then true else decide (24<(n6:Int))
def G5:Int×Int×Int:=bif MO H G R N n4 f4 n6 f6 then(0,0,3) else Ay H (cR H G) 1 (z1 R N n4 f4 n6 f6)
def NM:Int:=(G5 H G R N n4 f4 n6 f6).1
def PQ:Int:=(G5 H G R N n4 f4 n6 f6).2.1
def gR:Int:=(G5 H G R N n4 f4 n6 f6).2.2
theorem kV {n:Nat} {c:Nat->Int} {i:Nat} (k:Int) (z:Int×Int×Int) (hi:i<n) (hc:(c i !=0)=true) (h:∀j,j<i->(c j !=0)=false):Ay n c k z=(k,(i:Int),c i):=by unfold Ay;obtain⟨e1,e2⟩:=du hi hc h;rw[e1,e2,hc];rfl
theorem mq {n:Nat} {c:Nat->Int} (k:Int) (z:Int×Int×Int) (h:∀j,j<n->(c j !=0)=false):Ay n c k z=z:=by unfold Ay;obtain⟨e1,e2⟩:=iD h;rw[e1,e2];rfl
section
variable (hs:aC n6 f6) (i1:Int)
include hs i1
theorem aqU (i2 i3:Int):Ev (zA H G R N n4 f4 n6 f6) (.L3 0 i1 i2 i3) (MR (z3 n6 f6)):=by
 by_cases hn:n6<=9223372036854775807
 ·refine ky (n:=n6) hn (λi=>cC n6 f6 i != 0) (P:=λi=>Ev (zA H G R N n4 f4 n6 f6) (.L3 i i1 i2 i3) _) (λi Pj hj next=>Ev.of rfl (Af λ_=>dt Pj (aI ⟨K,K,hn,hs⟩ (ac (AP (λhb=>AF ?_) (λhb=>aK (next hb))))))) (λhj=>Ev.of rfl (Af λ_=>dp (AF ?_)))
  ·unfold z3;rw[kV 4 _ Pj hb hj];rfl
  ·unfold z3;rw[mq 4 _ hj];rfl
 ·exact Ev.of rfl (Af λh=>absurd (h rfl) hn)
theorem atA (i2:Int):Ev (zA H G R N n4 f4 n6 f6) (.L2 0 i1 i2) (MR (z2 n4 f4 n6 f6)):=by
 by_cases hn:n4<=9223372036854775807
 ·refine ky (n:=n4) hn (λi=>cF f4 i != 0) (P:=λi=>Ev (zA H G R N n4 f4 n6 f6) (.L2 i i1 i2) _) (λi Pj hj next=>Ev.of rfl (Af λ_=>dt Pj (c8 Pj (AM (ac (AP (λhb=>AF ?_) (λhb=>aK (next hb)))))))) (λhj=>Ev.of rfl (Af λ_=>dp (aH ?_)))
  ·unfold z2;rw[kV 3 _ Pj hb hj];rfl
  ·unfold z2;rw[mq 3 _ hj];exact aqU H G R N n4 f4 n6 f6 hs _ _ _
 ·exact Ev.of rfl (Af λh=>absurd (h rfl) hn)
theorem apl:Ev (zA H G R N n4 f4 n6 f6) (.L1 0 i1) (MR (z1 R N n4 f4 n6 f6)):=by
 by_cases hn:R<=9223372036854775807
 ·refine ky (n:=R) hn (λi=>cT N i != 0) (P:=λi=>Ev (zA H G R N n4 f4 n6 f6) (.L1 i i1) _) (λi Pj hj next=>Ev.of rfl (Af λ_=>dt Pj (c8 Pj (AM (ac (AE (AP (λh=>aF h (AM (ac ?_))) (λh=>AF ?_)))))))) (λhj=>Ev.of rfl (Af λ_=>dp (aH ?_)))
  ·repeat refine AE ?_
   refine AP (λhb=>AF ?_) (λhb=>aK (next ?_))
   ·have e:cT N i=7:=by
     unfold cT xt;rw[show(!!nY (aA (N i)) (aR (N i)))=true from h];exact(congrArg (λc=>bif c then(7:Int) else 0) hb).trans rfl
    unfold z1;rw[kV 2 _ Pj (by rw[e];rfl) hj,e];rfl
   ·have e:cT N i=0:=by
     unfold cT xt;rw[show(!!nY (aA (N i)) (aR (N i)))=true from h];exact(congrArg (λc=>bif c then(7:Int) else 0) hb).trans rfl
    rw[e];rfl
  ·have e:cT N i=7:=by
    unfold cT xt;rw[show(!!nY (aA (N i)) (aR (N i)))=false from h];rfl
   unfold z1;rw[kV 2 _ Pj (by rw[e];rfl) hj,e];rfl
  ·unfold z1;rw[mq 2 _ hj];exact atA H G R N n4 f4 n6 f6 hs _ _
 ·exact Ev.of rfl (Af λh=>absurd (h rfl) hn)
end
theorem aqm (hr:aC H G) (hs:aC n6 f6):Ev (zA H G R N n4 f4 n6 f6) (.L0 0) (MR (Ay H (cR H G) 1 (z1 R N n4 f4 n6 f6))):=by
 by_cases hn:H<=9223372036854775807
 ·refine ky (n:=H) hn (λi=>cR H G i != 0) (P:=λi=>Ev (zA H G R N n4 f4 n6 f6) (.L0 i) _) (λi Pj hj next=>Ev.of rfl (Af λ_=>dt Pj (aI ⟨K,K,hn,hr⟩ (ac (AP (λhb=>AF ?_) (λhb=>aK (next hb))))))) (λhj=>Ev.of rfl (Af λ_=>dp (aH ?_)))
  ·rw[kV 1 _ Pj hb hj];rfl
  ·rw[mq 1 _ hj];exact apl H G R N n4 f4 n6 f6 hs _
 ·exact Ev.of rfl (Af λh=>absurd (h rfl) hn)
theorem ahU (hp:aC H G/\aC n6 f6):aU (Ev (zA H G R N n4 f4 n6 f6)) (OX H G R N n4 f4 n6 f6) (.tup [D (NM H G R N n4 f4 n6 f6),D (PQ H G R N n4 f4 n6 f6),D (gR H G R N n4 f4 n6 f6)]):=by
 show aU _ _ (MR (G5 H G R N n4 f4 n6 f6));unfold G5
 repeat (first|refine AE ?_|refine Af λ_=>?_)
 refine AP (λh=>AF ?_) (λh=>aH ?_)
 ·rw[show MO H G R N n4 f4 n6 f6=true from h];rfl
 ·rw[show MO H G R N n4 f4 n6 f6=false from h];exact aqm H G R N n4 f4 n6 f6 hp.1 hp.2
theorem awz (hp:aC H (A aZ G)/\aC n6 (A aV f6)):aU (Ev (zA H G R N n4 f4 n6 f6)) (OX H G R N n4 f4 n6 f6) (.tup [D (NM H (A aZ G) R (A bj N) n4 (A bm f4) n6 (A aV f6)),D (PQ H (A aZ G) R (A bj N) n4 (A bm f4) n6 (A aV f6)),D (gR H (A aZ G) R (A bj N) n4 (A bm f4) n6 (A aV f6))]):=ahU H G R N n4 f4 n6 f6 hp
def C24:aD:=bP [.agg [.sl aZ,.sl bj,.sl bm,.sl aV]] (λ
 |[.agg [.sl H G,.sl R N,.sl n4 f4,.sl n6 f6]]=>aC H G/\aC n6 f6|_=>False) λ
 |[.agg [.sl H G,.sl R N,.sl n4 f4,.sl n6 f6]]=>.tup [D (NM H G R N n4 f4 n6 f6),D (PQ H G R N n4 f4 n6 f6),D (gR H G R N n4 f4 n6 f6)]|_=>.any
theorem awO:b7 C24 107:=aT GW λ_ hp=>kt (ar6 ..) (awz _ _ _ _ _ _ _ _ hp)
def m23:RT Empty:=.am H (.ii (.asm ((!decide (8<(H:Int)))=true->R<=9223372036854775807) (.iv (.asm ((!bif decide (8<(H:Int)) then true else decide (12<(R:Int)))=true->n4<=9223372036854775807) (.iv (.asm ((!bif bif decide (8<(H:Int)) then true else decide (12<(R:Int)) then true else decide (8<(n4:Int)))=true->n6<=9223372036854775807) (.ii (.br (bif bif bif decide (8<(H:Int)) then true else decide (12<(R:Int)) then true else decide (8<(n4:Int)) then true else decide (24<(n6:Int))) (.ret (V.tup [D 0,D 0,D 3])) (.obp (aC H G) (.obt (.br (FZ H (A aZ G)!=0) (.ret (V.tup [D 1,D (A0 H (A aZ G)),D (FZ H (A aZ G))])) (.cb (.br (ri R (A bj N)!=0) (.ret (V.tup [D 2,D (Aa R (A bj N)),D (ri R (A bj N))])) (.cb (.br (qV n4 (A bm f4)!=0) (.ret (V.tup [D 3,D (AH n4 (A bm f4)),D (qV n4 (A bm f4))])) (.obp (aC n6 f6) (.obt (.br (qY n6 (A aV f6)!=0) (.ret (V.tup [D 4,D (A4 n6 (A aV f6)),D (qY n6 (A aV f6))])) (.ret (V.tup Fb))))))))))))))))))))
theorem ao6:cV cX (aQ JJ wa u0 azj [Cq H G R N n4 f4 n6 f6]) (m23 H G R N n4 f4 n6 f6):=bF
def nE:Int:=bif bif bif bif decide (8<(H:Int)) then true else decide (12<(R:Int)) then true else decide (8<(n4:Int)) then true else decide (24<(n6:Int)) then 0 else bif FZ H (A aZ G)!=0 then 1 else bif ri R (A bj N)!=0 then 2 else bif qV n4 (A bm f4)!=0 then 3 else bif qY n6 (A aV f6)!=0 then 4 else 0
def nu:Int:=bif bif bif bif decide (8<(H:Int)) then true else decide (12<(R:Int)) then true else decide (8<(n4:Int)) then true else decide (24<(n6:Int)) then 0 else bif FZ H (A aZ G)!=0 then A0 H (A aZ G) else bif ri R (A bj N)!=0 then Aa R (A bj N) else bif qV n4 (A bm f4)!=0 then AH n4 (A bm f4) else bif qY n6 (A aV f6)!=0 then A4 n6 (A aV f6) else 0
def j6:Int:=bif bif bif bif decide (8<(H:Int)) then true else decide (12<(R:Int)) then true else decide (8<(n4:Int)) then true else decide (24<(n6:Int)) then 3 else bif FZ H (A aZ G)!=0 then FZ H (A aZ G) else bif ri R (A bj N)!=0 then ri R (A bj N) else bif qV n4 (A bm f4)!=0 then qV n4 (A bm f4) else bif qY n6 (A aV f6)!=0 then qY n6 (A aV f6) else 0
def Ge:V:=.tup [D (nE H G R N n4 f4 n6 f6),D (nu H G R N n4 f4 n6 f6),D (j6 H G R N n4 f4 n6 f6)]
theorem aym (hp:aC H G/\aC n6 f6):aU cN (m23 H G R N n4 f4 n6 f6) (Ge H G R N n4 f4 n6 f6):=Af (λa0=>AE (AE (Af (λa0=>AE (AE (AE (AE (Af (λa0=>AE (AE (AE (AE (Af (λa0=>AE (AE (AP (λh0=>AF (by unfold Ge nE nu j6;try rw[h0];rfl)) (λh0=>aI (by first|assumption|((first|exact hp.1|exact hp.2))) (ac (AP (λM=>AF (by unfold Ge nE nu j6;try rw[h0];try rw[M];rfl)) (λM=>AM (ac (AP (λQ=>AF (by unfold Ge nE nu j6;try rw[h0];try rw[M];try rw[Q];rfl)) (λQ=>AM (ac (AP (λh3=>AF (by unfold Ge nE nu j6;try rw[h0];try rw[M];try rw[Q];try rw[h3];rfl)) (λh3=>aI (by first|assumption|((first|exact hp.1|exact hp.2))) (ac (AP (λh4=>AF (by unfold Ge nE nu j6;try rw[h0];try rw[M];try rw[Q];try rw[h3];try rw[h4];rfl)) (λh4=>AF (by unfold Ge nE nu j6;try rw[h0];try rw[M];try rw[Q];try rw[h3];try rw[h4];rfl))))))))))))))))))))))))))))))
def C23:aD:=bP [.agg [.sl aZ,.sl bj,.sl bm,.sl aV]] (λ
 |[.agg [.sl H G,.sl R N,.sl n4 f4,.sl n6 f6]]=>aC H G/\aC n6 f6|_=>False) λ
 |[.agg [.sl H G,.sl R N,.sl n4 f4,.sl n6 f6]]=>Ge H G R N n4 f4 n6 f6|_=>.any
theorem auV:b7 C23 50:=aT GW λ_ hp=>c7 (ao6 ..) (aym _ _ _ _ _ _ _ _ hp)
end
end Go.Dx
