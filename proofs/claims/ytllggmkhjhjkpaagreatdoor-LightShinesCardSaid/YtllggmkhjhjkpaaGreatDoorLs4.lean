/- Part 4 of a proof. No conditions. -/
import Derived.Test.YtllggmkhjhjkpaaGreatDoorLs3
import Derived.Laws.StructEq
import Derived.ChangeKeysEq
import Derived.Test.YtllggmkhjhjkpaaGreatDoorChecked
import Derived.IntWalk
import Derived.WalkKit
import Derived.Ground.NamesProg
import Derived.Shelf.Strings.SlTrimAscii
import Derived.Lib.ConvBytes
import Derived.Lib.Walk
set_option maxRecDepth 100000
set_option linter.unusedVariables false
set_option linter.unusedSimpArgs false
theorem BF {p:Prop} (h:p:=by kernel_rfl):p:=h
theorem cD {p X1:Prop} (h:p:=by kernel_rfl) (k:X1:=by kernel_rfl):p∧X1:=⟨h,k⟩
namespace Go.Dx
open Go.Sx
inductive cN (J:Type) where|res (v:V)|head (j:J) (e:bV) (h:List AX) (g:Option Ex)
structure Lp (J:Type) where
 fr:Nat×Nat
 body:BB
 k:Ex->bV->List AX->Option Ex->Bj (cN J)
section
variable {α β:Type}
def fQ:Bj α->(α->Bj β)->Bj β
 |.ret a,f=>f a|.br b x At,f=>.br b (fQ x f) (fQ At f)|.ob b x,f=>.ob b (fQ x f)|.obi c d x,f=>.obi c d (fQ x f)|.obp p x,f=>.obp p (fQ x f)|.obq a b x,f=>.obq a b (fQ x f)|.fail n,_=>.fail n|.loop fr b e h g k,f=>.loop fr b e h g λx e h g=>fQ (k x e h g) f
 |.all t,f=>.all λl=>fQ (t l) f
 |.und x At,f=>.und (fQ x f) (fQ At f)|.asm p x,f=>.asm p (fQ x f)
theorem BM {LP:eZ} {X4:β->Prop} (f:α->Bj β):∀ t:Bj α,bM LP (fQ t f) X4=bM LP t λa=>bM LP (f a) X4:=by
 intro t;induction t with
 |ret a=>rfl|br b x At hx hy=>simp[fQ,bM,hx,hy]|ob b x hx=>simp[fQ,bM,hx]|obi c d x hx=>simp[fQ,bM,hx]|obp p x hx=>simp[fQ,bM,hx]|obq a b x hx=>simp[fQ,bM,hx]|fail n=>rfl|loop fr b e h g k hk=>simp[fQ,bM,hk]|all t ht=>simp[fQ,bM,ht]|und x At hx hy=>simp[fQ,bM,hx,hy]|asm p x hx=>simp[fQ,bM,hx]
theorem jY {LP:eZ} (hLP:∀ fr b e h g (P P':Ex->bV->List AX->Option Ex->Prop),(∀ x e h g,P x e h g->P' x e h g)->LP fr b e h g P->LP fr b e h g P') {X4 Q':α->Prop} (hQ:∀ a,X4 a->Q' a):∀ t:Bj α,bM LP t X4->bM LP t Q':=by
 intro t;induction t with
 |ret a=>exact hQ a|br b x At hx hy=>exact λh=>⟨λe=>hx (h.1 e),λe=>hy (h.2 e)⟩
 |ob b x hx=>exact λh=>⟨h.1,hx h.2⟩
 |obi c d x hx=>exact λh=>⟨h.1,hx h.2⟩
 |obp p x hx=>exact λh=>⟨h.1,hx h.2⟩
 |obq a b x hx=>exact λh=>⟨h.1,hx h.2⟩
 |fail n=>exact id|loop fr b e h g k hk=>exact λhs=>hLP _ _ _ _ _ _ _ (λx e h g=>hk x e h g) hs
 |all t ht=>exact λh l=>ht l (h l)
 |und x At hx hy=>exact λh=>⟨hx h.1,hy h.2⟩
 |asm p x hx=>exact λh hp=>hx (h hp)
theorem gK (w0:World) (Uc:A6):∀ fr b e h g (P P':Ex->bV->List AX->Option Ex->Prop),(∀ x e h g,P x e h g->P' x e h g)->dq w0 Uc fr b e h g P->dq w0 Uc fr b e h g P':=by
 intro fr b e h g P P' hP;cases b with
 |s body=>exact λhl XE nbS ν nV nS sl lh QA N Q h3 h4=>hl XE nbS ν nV nS sl lh QA N Q h3 λex e' h' ν' sl' lh' nV' nS' g0 g1 g2 g3=>h4 ex e' h' ν' sl' lh' nV' nS' g0 g1 g2 (hP _ _ _ _ g3)
 |i body rd=>exact λhl XE N0 ν nV nS sl YU lh QA N Q h3 h4 h5 h6 h7 h8=>hl XE N0 ν nV nS sl YU lh QA N Q h3 h4 h5 h6 h7 λex e' h' g' ν' sl' lh' nV' nS' g0 g1 g2 g3=>h8 ex e' h' g' ν' sl' lh' nV' nS' g0 g1 g2 (hP _ _ _ _ g3)
end
mutual
def ko (ρ:mQ):V->V->V
 |.any,_=>.any|.int _ _,.int k a=>.int k a|.bool _,.bool a=>.bool a|.bool _,.kb a=>.bool a|.kb _,.kb a=>.kb a|.str _,.str a=>.str a|.agg ys,.agg xs=>.agg (mI ρ ys xs)|.tup ys,.tup xs=>.tup (mI ρ ys xs)|.fn _ us vs,.fn f xs ys=>.fn f (mI ρ us xs) (mI ρ vs ys)|.sl _ _,.sl n f=>.sl n f|.pd _,.pd cs=>.pd cs
 |.pl k1 _,.pl k o=>match dQ ρ k1 with|some (some k')=>cond (Nat.beq k' k) (.pl k1 o) .any|_=>.any
 |.pe k1 _ _,.pe k i j=>match dQ ρ k1 with|some (some k')=>cond (Nat.beq k' k) (.pe k1 i j) .any|_=>.any
 |.ss k1 _ _ _,.ss k o n c=>match dQ ρ k1 with|some (some k')=>cond (Nat.beq k' k) (.ss k1 o n c) .any|_=>.any
 |.gs k1 _,.gs k n=>match dQ ρ k1 with|some (some k')=>cond (Nat.beq k' k) (.gs k1 n) .any|_=>.any
 |.gs k1 _,.ns=>match dQ ρ k1 with|some none=>.gs k1 0|_=>.any
 |.ns,.ns=>.ns|.np,.np=>.np|.yl _,.yl l=>.yl l
 |.go k1 _ _,.go k o n=>match dQ ρ k1 with|some (some k')=>cond (Nat.beq k' k) (.go k1 o n) .any|_=>.any
 |_,_=>.any
def mI (ρ:mQ):List V->List V->List V
 |[],[]=>[]|At::ys,x::xs=>ko ρ At x::mI ρ ys xs|[],_::_=>[.any]|_::_,[]=>[]
end
section
variable {ρ:mQ}
theorem IH {k k':Nat} {x At:V} (hb:cond (Nat.beq k' k) x V.any=At) (hy:At≠V.any):k'=k/\x=At:=by
 cases hc:Nat.beq k' k with
 |false=>rw[hc]at hb;exact(hy hb.symm).elim|true=>rw[hc]at hb;exact⟨G9 hc,hb⟩
mutual
theorem Fw:∀ (t v:V),ko ρ t v=t->cE ρ v t
 |.any,v,_=>by cases v<;>simp[cE]
 |.int k n,v,h=>by cases v<;>simp only[ko]at h<;>cases h<;>simp[cE]
 |.bool b,v,h=>by cases v<;>simp only[ko]at h<;>cases h<;>simp[cE]
 |.kb b,v,h=>by cases v<;>simp only[ko]at h<;>cases h<;>simp[cE]
 |.str b,v,h=>by cases v<;>simp only[ko]at h<;>cases h<;>simp[cE]
 |.agg ys,v,h=>by
   cases v<;>simp only[ko]at h<;>first|(cases h;done)|skip
   simp only[V.agg.injEq]at h;simp only[cE];exact iK ys _ h
 |.tup ys,v,h=>by
   cases v<;>simp only[ko]at h<;>first|(cases h;done)|skip
   simp only[V.tup.injEq]at h;simp only[cE];exact iK ys _ h
 |.fn f us vs,v,h=>by
   cases v<;>simp only[ko]at h<;>first|(cases h;done)|skip
   simp only[V.fn.injEq]at h;simp only[cE];exact⟨h.1,iK us _ h.2.1,iK vs _ h.2.2⟩
 |.sl n f,v,h=>by cases v<;>simp only[ko]at h<;>cases h<;>simp[cE]
 |.pd cs,v,h=>by cases v<;>simp only[ko]at h<;>cases h<;>simp[cE]
 |.pl k1 o1,v,h=>by
   cases v<;>simp only[ko]at h<;>first|(cases h;done)|skip
   split at h
   ·rename_i k' hk
    let ⟨rfl,e⟩:=IH h aD
    simp only[V.pl.injEq,HJ]at e;simp only[cE];exact⟨hk,e⟩
   ·cases h
 |.pe k1 i1 j1,v,h=>by
   cases v<;>simp only[ko]at h<;>first|(cases h;done)|skip
   split at h
   ·rename_i k' hk
    let ⟨rfl,e⟩:=IH h aD
    simp only[V.pe.injEq,HJ]at e;simp only[cE];exact⟨hk,e⟩
   ·cases h
 |.ss k1 i1 j1 c1,v,h=>by
   cases v<;>simp only[ko]at h<;>first|(cases h;done)|skip
   split at h
   ·rename_i k' hk
    let ⟨rfl,e⟩:=IH h aD
    simp only[V.ss.injEq,HJ]at e;simp only[cE];exact⟨hk,e⟩
   ·cases h
 |.gs k1 n1,v,h=>by
   cases v<;>simp only[ko]at h<;>first|(cases h;done)|skip
   ·split at h
    ·rename_i k' hk
     let ⟨rfl,e⟩:=IH h aD
     simp only[V.gs.injEq,HJ]at e;simp only[cE];exact⟨hk,e⟩
    ·cases h
   ·split at h
    ·rename_i hk;simp only[V.gs.injEq,HJ]at h;simp only[cE];exact⟨hk,h.symm⟩
    ·cases h
 |.ns,v,h=>by cases v<;>simp only[ko]at h<;>cases h<;>simp[cE]
 |.np,v,h=>by cases v<;>simp only[ko]at h<;>cases h<;>simp[cE]
 |.yl l,v,h=>by cases v<;>simp only[ko]at h<;>cases h<;>simp[cE]
 |.gd b x,v,h=>by cases v<;>simp only[ko]at h<;>cases h
 |.go k1 i1 j1,v,h=>by
   cases v<;>simp only[ko]at h<;>first|(cases h;done)|skip
   split at h
   ·rename_i k' hk
    let ⟨rfl,e⟩:=IH h aD
    simp only[V.go.injEq,HJ]at e;simp only[cE];exact⟨hk,e⟩
   ·cases h
 |.sq n m f,v,h=>by cases v<;>simp only[ko]at h<;>cases h
theorem iK:∀ (ts vs:List V),mI ρ ts vs=ts->fC ρ vs ts
 |[],[],_=>by simp[fC]
 |At::ys,x::xs,h=>by simp[mI,Hc]at h;simp[fC];exact⟨Fw At x h.1,iK ys xs h.2⟩
 |[],_::_,h=>by simp[mI]at h
 |_::_,[],h=>by simp[mI]at h
end
mutual
theorem akf:∀ (v t:V),cE [] v t->cE ρ v t
 |.int ..,t,h=>by cases t<;>simp[cE]at h ⊢<;>exact h
 |.bool _,t,h=>by cases t<;>simp[cE]at h ⊢<;>exact h
 |.kb _,t,h=>by cases t<;>simp[cE]at h ⊢<;>exact h
 |.str _,t,h=>by cases t<;>simp[cE]at h ⊢<;>exact h
 |.agg xs,t,h=>by cases t<;>simp[cE]at h ⊢<;>first|exact jI _ _ h|exact h
 |.tup xs,t,h=>by cases t<;>simp[cE]at h ⊢<;>first|exact jI _ _ h|exact h
 |.fn f xs ys,t,h=>by cases t<;>simp[cE]at h ⊢<;>first|exact⟨h.1,jI _ _ h.2.1,jI _ _ h.2.2⟩|exact h
 |.sl ..,t,h=>by cases t<;>simp[cE]at h ⊢<;>exact h
 |.pd ..,t,h=>by cases t<;>simp[cE]at h ⊢<;>exact h
 |.pl ..,t,h=>by cases t<;>simp[cE]at h ⊢<;>first|exact h|(simp[dQ,gk]at h)
 |.pe ..,t,h=>by cases t<;>simp[cE]at h ⊢<;>first|exact h|(simp[dQ,gk]at h)
 |.ss ..,t,h=>by cases t<;>simp[cE]at h ⊢<;>first|exact h|(simp[dQ,gk]at h)
 |.gs ..,t,h=>by cases t<;>simp[cE]at h ⊢<;>first|exact h|(simp[dQ,gk]at h)
 |.ns,t,h=>by cases t<;>simp[cE]at h ⊢<;>first|exact h|(simp[dQ,gk]at h)
 |.np,t,h=>by cases t<;>simp[cE]at h ⊢<;>exact h
 |.any,t,h=>by cases t<;>simp[cE]at h ⊢<;>exact h
 |.gd ..,t,h=>by cases t<;>simp[cE]at h ⊢<;>exact h
 |.yl _,t,h=>by cases t<;>simp[cE]at h ⊢<;>exact h
 |.go ..,t,h=>by cases t<;>simp[cE]at h ⊢<;>first|exact h|(simp[dQ,gk]at h)
 |.sq ..,t,h=>by cases t<;>simp[cE]at h ⊢<;>exact h
theorem jI:∀ (vs ts:List V),fC [] vs ts->fC ρ vs ts
 |[],[],_=>by simp[fC]
 |v::vs,t::ts,h=>by simp[fC]at h ⊢;exact⟨akf v t h.1,jI vs ts h.2⟩
 |[],_::_,h=>by simp[fC]at h
 |_::_,[],h=>by simp[fC]at h
end
end
def Ba (ts:List Ty) (n:Nat) (f:bl):Prop:=∀i,i<n->lY (bU ts) (aw ts (f i))=true/\fC [] (f i) (aw ts (f i))
structure VF where
 k:Nat
 ts:List Ty
 n:Nat
 f:Nat->List V
 ok:Ba ts n f
theorem ai4 {t:Ty} (h:cq t=true) (v:V):(cV t v).one=true:=by cases t<;>first|(simp[cq]at h;done)|(simp[cV];rfl)
theorem adF:∀ {ts:List Ty},ts.all cq=true->∀ vs,(aw ts vs).all V.one=true
 |[],_,_=>by simp[aw]
 |t::ts,h,vs=>by simp only[Ib,DD]at h;simp only[aw,Ib,DD];exact⟨ai4 h.1 _,adF h.2 _⟩
theorem nI {ts:List Ty} (h:ts.all cq=true) (vs:List V):lY (bU ts) (aw ts vs)=true:=Sb (by rw[rU,bS]) (adF h vs)
theorem afJ {t:Ty} (h:cq t=true) (v:V):cE [] (cV t v) (cV t v):=by cases t<;>first|(simp[cq]at h;done)|(simp[cV,cE];try simp)
theorem F24:∀ {ts:List Ty},ts.all cq=true->∀ vs,fC [] (aw ts vs) (aw ts vs)
 |[],_,_=>by simp[aw,fC]
 |t::ts,h,vs=>by simp only[Ib,DD]at h;simp only[aw,fC];exact⟨afJ h.1 _,F24 h.2 _⟩
theorem fp {ts:List Ty} (h:ts.all cq=true) (n:Nat) (f:bl):Ba ts n (A ts f):=λi _=>by simp[A,ea];exact⟨nI h _,F24 h _⟩
theorem zo {ts:List Ty} {n m:Nat} {f g:bl} (N:Ba ts n f) (Q:Ba ts m g):Ba ts (n+m) (dl n f g):=λi hi=>by
 unfold dl;by_cases XD:i<n
 ·have hb:Nat.blt i n=true:=KW XD;rw[hb];exact N i XD
 ·have hb:Nat.blt i n=false:=by
   cases hb:Nat.blt i n with
   |false=>rfl|true=>have:=HS hb;omega
  rw[hb];exact Q _ I
theorem Sf {ts:List Ty} (h:ts.all cq=true) (n:Nat) {ds:List V} (hf:mI [] (aw ts ds) ds=aw ts ds):Ba ts n λ_=>ds:=λi _=>⟨nI h _,iK _ _ hf⟩
theorem Nj {ts:List Ty} (h:ts.all cq=true) {n j:Nat} {ds:List V} {f:bl} (N:Ba ts n f) (hf:mI [] (aw ts ds) ds=aw ts ds):Ba ts n λi=>cond (Nat.beq i j) ds (f i):=λi hi=>by
 show lY _ (aw ts (cond (Nat.beq i j) ds (f i)))=true/\fC [] (cond (Nat.beq i j) ds (f i)) (aw ts (cond (Nat.beq i j) ds (f i)));cases Nat.beq i j with
 |true=>exact⟨nI h _,iK _ _ hf⟩|false=>exact N i hi
def AG (ρ:mQ) (e:bV):bV->bV
 |[]=>[]|(s,t)::l=>(s,ko ρ t (jc e s))::AG ρ e l
theorem GL {ρ:mQ} {e:bV}:∀ {e1:bV},AG ρ e e1=e1->ua ρ e e1
 |[],_=>trivial
 |(s,t)::l,h=>by simp[AG,Hc,Prod.mk.injEq,HJ]at h;exact⟨Fw _ _ h.1,GL h.2⟩
def wy:List VF->Nat->Option VF
 |[],_=>none|v::l,k=>cond (Nat.beq k v.k) (some v) (wy l k)
def NG (ρ:mQ) (h:List AX) (vf:List VF) (k:Nat):AX->AX
 |.cells cs ty=>match dQ ρ k with
   |some (some j)=>match gk h j with|some (.cells ds ty')=>.cells (mI ρ cs ds) ty'|_=>.dead
   |_=>.dead
 |.gl e n f ty=>match dQ ρ k with
   |some none=>.gl e 0 f ty
   |some (some j)=>match gk h j with
     |some (.gl e' m g ty')=>match wy vf k with|some v=>.gl e' m (A v.ts g) ty'|none=>.dead
     |_=>.dead
   |none=>.dead
 |.dead=>.hid|.hid=>.hid
def AD (ρ:mQ) (h:List AX) (vf:List VF):Nat->List AX->List AX
 |_,[]=>[]|k,o::l=>NG ρ h vf k o::AD ρ h vf (k+1) l
def oK (ρ:mQ) (h:List AX):List VF->List (Nat×Nat×(Nat->List V))
 |[]=>[]
 |v::l=>(match dQ ρ v.k with
   |some (some j)=>match gk h j with|some (.gl e m g _)=>(e,m,g)|_=>(0,0,λ_=>[])
   |_=>(0,0,λ_=>[]))::oK ρ h l
def oG:List VF->List (Nat×Nat×(Nat->List V))
 |[]=>[]|v::l=>(bU v.ts,v.n,v.f)::oG l
theorem Bu {ρ:mQ} {h:List AX} {k:Nat} {v:VF}:∀ {vf:List VF},wy vf k=some v->oK ρ h vf=oG vf->v.k=k/\(match dQ ρ v.k with
 |some (some j)=>match gk h j with|some (.gl e m g _)=>(e,m,g)|_=>(0,0,λ_=>[])
 |_=>(0,0,λ_=>[]))=(bU v.ts,v.n,v.f)
 |[],N,_=>by cases N
 |x::l,N,Q=>by
   simp[oK,oG,Hc]at Q;simp[wy]at N;cases hb:Nat.beq k x.k with
   |true=>rw[hb]at N;cases N;exact⟨(G9 hb).symm,Q.1⟩|false=>rw[hb]at N;exact Bu N Q.2
theorem hd1 {ρ:mQ} {h:List AX} {vf:List VF} {k:Nat} {o:AX} (hf:NG ρ h vf k o=o) (hg:oK ρ h vf=oG vf):Cn ρ h k o:=by
 cases o with
 |cells cs ty=>
   simp[NG]at hf;split at hf
   ·rename_i j hj
    split at hf
    ·rename_i ds ty' hn;simp[AX.cells.injEq]at hf;exact⟨j,ds,hj,by rw[hn,hf.2],iK _ _ hf.1⟩
    ·cases hf
   ·cases hf
 |gl e n f ty=>
   simp[NG]at hf;split at hf
   ·rename_i hj;simp[AX.gl.injEq,HJ,K9]at hf;exact .inl ⟨hj,hf.symm⟩
   ·rename_i j hj
    split at hf
    ·rename_i e' m g ty' hn
     split at hf
     ·rename_i v y
      let ⟨rfl,Q⟩:=Bu y hg
      rw[hj]at Q;simp[hn,Prod.mk.injEq]at Q;simp[AX.gl.injEq]at hf
      let ⟨rfl,rfl,rfl,rfl⟩:=hf
      let ⟨h3,h4,h5⟩:=Q
      refine .inr ⟨j,m,g,hj,hn,Dm _,λi hi=>?_⟩;have:=v.ok i (by rw[← h4];exact hi);rw[← h5,← h3]at this;exact⟨this.1,jI _ _ this.2⟩
     ·cases hf
    ·cases hf
   ·cases hf
 |dead=>simp only[NG]at hf;cases hf|hid=>trivial
theorem FF {ρ:mQ} {h:List AX} {vf:List VF} (hg:oK ρ h vf=oG vf):∀ {l:List AX} {k:Nat},AD ρ h vf k l=l->tX ρ h k l
 |[],_,_=>trivial
 |o::l,k,hf=>by simp[AD,Hc]at hf;exact⟨hd1 hf.1 hg,FF hg hf.2⟩
def wP (ρ:mQ) (nb:Nat) (N:List AX):Bool:=Nat.beq (bU ρ) (bU N)&&(Do ρ&&MR ρ nb)
theorem tO (w0:World) {ρ:mQ} {nb:Nat} {e e1:bV} {h N:List AX} {vf:List VF} (h0:wP ρ nb N=true) (he:AG ρ e e1=e1) (hh:AD ρ h vf 0 N=N) (hg:oK ρ h vf=oG vf):j6 w0 nb e h e1 N:=by unfold wP at h0;simp only[DD]at h0;exact j6.ren w0 ρ h0.1 h0.2.1 h0.2.2 (GL he) (FF hg hh)
def SC (zs:List VF) (v v':V):Prop:=v'=v∨∃k n z,v=.gs k n/\z∈zs/\z.k=k/\n<=z.n/\v'=.sl n (A z.ts z.f)
def Tk (zs:List VF):List V->List V->Prop
 |[],[]=>True|a::l,b::m=>SC zs a b/\Tk zs l m|_,_=>False
structure FR (zs:List VF) where
 k:Nat
 n:Nat
 f:Nat->List V
 g:Nat->List V
 ok:∀i,i<n->Tk zs (f i) (g i)
section
variable {zs:List VF}
def HL:List (FR zs)->Nat->Option (FR zs)
 |[],_=>none|v::l,k=>cond (Nat.beq k v.k) (some v) (HL l k)
def YQ (fr:List (FR zs)) (k:Nat) (o:AX):AX:=match wy zs k with
 |some _=>.hid
 |none=>match o with
   |.gl e n f ty=>match HL fr k with|some r=>.gl e n r.g ty|none=>.gl e n f ty
   |o=>o
def Jl (fr:List (FR zs)):Nat->List AX->List AX
 |_,[]=>[]|k,o::l=>YQ fr k o::Jl fr (k+1) l
def Qe (zs:List VF):Bool:=zs.all λv=>v.ts.all cq
def HQ (h:List AX):List VF->List (Option (Nat×Nat×(Nat->List V)))
 |[]=>[]
 |v::l=>(match gk h v.k with|some (.gl e m g _)=>some (e,m,g)|_=>none)::HQ h l
def rF:List VF->List (Option (Nat×Nat×(Nat->List V)))
 |[]=>[]|v::l=>some (bU v.ts,v.n,v.f)::rF l
def HH (h:List AX):List (FR zs)->List (Option (Nat×(Nat->List V)))
 |[]=>[]
 |v::l=>(match gk h v.k with|some (.gl _ m g _)=>some (m,g)|_=>none)::HH h l
def HO:List (FR zs)->List (Option (Nat×(Nat->List V)))
 |[]=>[]|v::l=>some (v.n,v.f)::HO l
theorem yaF {h:List AX} {v:VF}:∀ {l:List VF},HQ h l=rF l->v∈l->∃ ty,h[v.k]? = some (.gl (bU v.ts) v.n v.f ty)
 |[],_,hm=>by cases hm
 |x::l,he,hm=>by
   simp[HQ,rF,Hc]at he;rcases List.mem_cons.1 hm with rfl|hm
   ·have N:=he.1
    rw[bk]at N;split at N
    ·rename_i e m g ty hk
     simp[H2,Prod.mk.injEq]at N
     let ⟨rfl,rfl,rfl⟩:=N
     exact⟨ty,hk⟩
    ·cases N
   ·exact yaF he.2 hm
theorem Eu {h:List AX} {k:Nat} {r:FR zs}:∀ {l:List (FR zs)},HH h l=HO l->HL l k=some r->∃ e ty,h[k]? = some (.gl e r.n r.f ty)
 |[],_,hm=>by cases hm
 |x::l,he,hm=>by
   simp[HH,HO,Hc]at he;simp[HL]at hm;cases hb:Nat.beq k x.k with
   |true=>
     rw[hb]at hm;cases hm;have N:=he.1;rw[bk,← G9 hb]at N;split at N
     ·rename_i e m g ty hk
      simp[H2,Prod.mk.injEq]at N
      let ⟨rfl,rfl⟩:=N
      exact⟨e,ty,hk⟩
     ·cases N
   |false=>rw[hb]at hm;exact Eu he.2 hm
theorem acX {v:VF}:∀ {l:List VF},v∈l->wy l v.k≠none
 |x::l,hm=>by
   simp[wy];cases hb:Nat.beq v.k x.k with
   |true=>simp
   |false=>
     rcases List.mem_cons.1 hm with rfl|hm
     ·simp at hb
     ·exact acX hm
theorem Aq (fr:List (FR zs)):∀ (l:List AX) (b k:Nat),(Jl fr b l)[k]? = (l[k]?).map (YQ fr (b+k))
 |[],b,k=>by simp[Jl]
 |o::l,b,0=>by simp[Jl]
 |o::l,b,k+1=>by simp[Jl,Jv];rw[Aq fr l (b+1) k,show b+1+k=b+(k+1) by omega]
theorem hdS {v v':V} (h:SC zs v v') (y:v.one=true):v'.one=true:=by
 rcases h with rfl|⟨k,n,z,_,_,_,_,rfl⟩
 ·exact y
 ·rfl
theorem Bv:∀ {l m:List V},Tk zs l m->l.all V.one=true->bU m=bU l/\m.all V.one=true
 |[],[],_,_=>⟨rfl,rfl⟩
 |a::l,b::m,h,ho=>by
   simp only[Ib,DD]at ho ⊢
   let ⟨N,Q⟩:=Bv h.2 ho.2
   exact⟨by simp[bU,N],hdS h.1 ho.1,Q⟩
 |[],_::_,h,_=>h.elim|_::_,[],h,_=>h.elim
theorem GJ (w0:World) {nb:Nat} {e:bV} {h:List AX} {fr:List (FR zs)} (hc:Qe zs=true) (hz:HQ h zs=rF zs) (hf:HH h fr=HO fr):j6 w0 nb e h e (Jl fr 0 h):=by
 classical
 intro XE ν nV nS sl lh hs hr;have hB:∀v,v∈zs->∃ty,h[v.k]? = some (.gl (bU v.ts) v.n v.f ty):=λv y=>yaF hz y
 let Bf:Nat->Prop:=λj=>∃v x,v∈zs/\ν v.k=some (some x)/\x.1=j
 let z1:List av:=lh.mapIdx λj o=>if isCells ν.z[j]? = true∨Bf j then o else .hid
 have z1get:∀j,z1[j]? = (lh[j]?).map λo=>if isCells ν.z[j]? = true∨Bf j then o else .hid:=λj=>by simp[z1,QD]
 have u6:tf ν.z z1:=λj az ty hj=>by rw[z1get,hr.zl j az ty hj];simp only[Hr];rw[DL (.inl (by rw[hj];rfl))]
 have uC:tf z1 lh:=λj az ty hj=>by
  rw[z1get]at hj;cases hl:lh[j]? with
  |none=>rw[hl]at hj;cases hj
  |some o=>
    rw[hl]at hj;simp[Hr,H2]at hj;split at hj
    ·rw[hj]
    ·cases hj
 let ν1:Nu:=⟨ν.m,z1⟩
 have hsub:ν.sub ν1:=⟨λ_ _ h=>h,u6⟩;have oQ:∀ {v v':V} {a:ah},SC zs v v'->vr w0 ν.z ν v a->vr w0 z1 ν1 v' a:=by
  intro v v' a y hx;rcases y with rfl|⟨k,n,z,rfl,hm,rfl,hn,rfl⟩
  ·exact Wt hsub _ _ hx
  ·let ⟨ty,hk⟩:=hB z hm
   have rn:z.ts.all cq=true:=by unfold Qe at hc;exact List.all_eq_true.1 hc z hm
   simp only[vr]at hx ⊢;rcases hr.blk _ _ hk with ⟨N,Q⟩|⟨b,c,az,N,Q,h3,h4,h5⟩
   ·rcases hx with ⟨_,g2,rfl⟩|⟨b,c,e,g1,_⟩
    ·subst g2;exact⟨none,0,0,rfl,Dm _,I,trivial,λi hi=>by omega⟩
    ·rw[N]at g1;cases g1
   ·rcases hx with ⟨g1,_⟩|⟨b',c',e',g1,rfl,g3⟩
    ·rw[N]at g1;cases g1
    ·rw [N]at g1
     obtain⟨rfl,rfl,rfl⟩:b=b'/\c=c'/\bU z.ts=e':=by simpa using g1
     have hb:z1[b]? = some (.cells az ty):=by rw[z1get,Q];simp only[Hr];rw[DL (.inr ⟨z,_,hm,N,rfl⟩)]
     refine⟨some (.l b 0),c,bU z.ts,rfl,g3,I,⟨az,ty,hb,Ho _⟩,λi hi=>?_⟩;have YC:i*bU z.ts+bU z.ts<=az.length:=by rw[h3,← Hs];exact Hw _ I
     have Z2:=z.ok i I;refine⟨_,_,rfl,?_,j5 u6 _ _ (gP (ν:=lK [] ν) (λk x hx=>?_) _ _ (jb _ _ _ Z2.2 (h5 i I).2)),ng _ _ rn⟩
     ·simp only[hU.add,lds,hb,Ic];rw[DL I]
     ·simp only[lK,dQ,gk]at hx;cases hx
 have hfrs:∀ {l m:List V} {az:List ah},Tk zs l m->bp w0 ν.z ν l az->bp w0 z1 ν1 m az:=by
  intro l;induction l with
  |nil=>intro m az N Q;cases m with|nil=>simp[bp]at Q ⊢;exact Q|cons=>exact N.elim
  |cons a l ih=>
    intro m az N Q;cases m with
    |nil=>exact N.elim
    |cons b m=>simp[bp]at Q ⊢;obtain⟨x,xs,rfl,g1,g2⟩:=Q;exact⟨x,xs,rfl,oQ N.1 g1,ih N.2 g2⟩
 have hget:∀ k o,(Jl fr 0 h)[k]? = some o->o≠.hid->wy zs k=none/\∃ o',h[k]? = some o'/\o=(match o' with
  |.gl e n f ty=>match HL fr k with|some r=>AX.gl e n r.g ty|none=>.gl e n f ty
  |o=>o):=λk o hk ho=>by
  rw[Aq,Ic]at hk;cases hg:h[k]? with
  |none=>rw[hg]at hk;cases hk
  |some o'=>
    rw[hg]at hk;simp[Hr,H2,YQ]at hk;cases y:wy zs k with
    |some v=>rw[y]at hk;exact(ho hk.symm).elim|none=>rw[y]at hk;exact⟨rfl,o',rfl,hk.symm⟩
 have hlive:∀ k,bg (Jl fr 0 h) k->wy zs k=none/\bg h k:=λk hk=>by
  rcases fT hk with ⟨cs,ty,g⟩|⟨e,n,f,ty,g⟩
  ·let ⟨N,o',Q,h3⟩:=hget k _ g aD
   refine⟨N,?_⟩;cases o' with
   |cells cs' ty'=>exact d8 Q|gl e n f ty=>exact gC Q|dead=>cases h3|hid=>cases h3
  ·let ⟨N,o',Q,h3⟩:=hget k _ g aD
   refine⟨N,?_⟩;cases o' with
   |cells cs' ty'=>exact d8 Q|gl e n f ty=>exact gC Q|dead=>cases h3|hid=>cases h3
 refine⟨ν1,nV,nS,Dv.of hsub _,hs.mono hsub,⟨λk o hk=>?_,λk k' x x' N Q=>hr.inj k k' x x' (hlive k N).2 (hlive k' Q).2,λk hk=>hr.dom k ?_,hr.rng,uC,λk x hk hx=>?_⟩⟩
 ·by_cases ho:o=.hid
  ·subst ho;trivial
  ·let ⟨N,o',Q,h3⟩:=hget k o hk ho
   have hb:=hr.blk k o' Q;cases o' with
   |cells cs ty=>subst h3;exact dO hsub aD (λb az ty g _=>g) hb|dead=>subst h3;exact hb|hid=>subst h3;trivial
   |gl e n f ty=>
     cases w6:HL fr k with
     |none=>rw[w6]at h3;subst h3;exact dO hsub aD (λb az ty g _=>g) hb
     |some r=>
       rw[w6]at h3;subst h3
       let ⟨e',ty',g⟩:=Eu hf w6
       rw[Q]at g;simp[H2,AX.gl.injEq]at g;obtain⟨_,rfl,rfl,_⟩:=g;rcases hb with ⟨k1,k2⟩|⟨b,c,az,k1,k2,k3,k4,k5⟩
       ·exact .inl ⟨k1,k2⟩
       ·refine .inr ⟨b,c,az,k1,k2,k3,k4,λi hi=>?_⟩;obtain⟨q1,q2⟩:=k5 i hi;unfold lY at q1 ⊢;simp only[DD]at q1 ⊢;obtain⟨p1,p2⟩:=Bv (r.ok i hi) q1.2;exact⟨⟨by rw[p1];exact q1.1,p2⟩,hfrs (r.ok i hi) q2⟩
 ·have hl:(Jl fr 0 h).length=h.length:=by
   have gen:∀ (l:List AX) (b:Nat),(Jl fr b l).length=l.length:=λl=>by
    induction l with
    |nil=>intro b;rfl|cons o l ih=>intro b;simp[Jl,ih]
   exact gen h 0
  omega
 ·let ⟨N,Q⟩:=hlive k hk
  have Yr:ν k=some (some x):=hx;have g1:=hr.zn k x Q Yr;show isCells z1[x.1]? = false;rw[z1get];cases hl:lh[x.1]? with
  |none=>rfl
  |some o=>
    simp[Hr];rw[Ck]
    ·rfl
    ·rintro (g2|⟨v,x',y,g2,g3⟩)
     ·rw[g1]at g2;cases g2
     ·let ⟨ty,YP⟩:=hB v y
      have:=hr.inj v.k k x' x (gC YP) Q g2 Yr g3;rw[← this]at N;exact acX y N
end
inductive RT (Uc:Type) where|ret (v:V)|next (ρ:mQ) (s:Uc) (vf:List VF)|enter (ρ:mQ) (s:Uc) (vf:List VF)|nextz (zs:List VF) (fr:List (FR zs)) (ρ:mQ) (s:Uc) (vf:List VF)|enterz (zs:List VF) (fr:List (FR zs)) (ρ:mQ) (s:Uc) (vf:List VF)|br (b:Bool) (x At:RT Uc)|brt (x:RT Uc)|brf (At:RT Uc)|brx (b:Bool) (x:RT Uc)|bry (b:Bool) (At:RT Uc)|ob (b:Bool) (x:RT Uc)|obt (x:RT Uc)|obv (b:Bool) (h:b=true) (x:RT Uc)|obi (x:RT Uc)|obj (c b:Bool) (x:RT Uc)|obc (x:RT Uc)|obp (p:Prop) (x:RT Uc)|obe (ts:List Ty) (ds:List V) (x:RT Uc)|und (x At:RT Uc)|asm (p:Prop) (x:RT Uc)|all (f:Nat->RT Uc)|fail
structure LD (J Uc:Type) where
 id:Uc->J
 lp:J->Lp J
 inv:Uc->bV×List AX×Option Ex
inductive FT (J:Type) where|res (v:V)|head (j:J) (g:Option Ex) (ok:Bool) (e:bV) (h:List AX) (vs:List (Nat×Nat×(Nat->List V)))|loop (fr:Nat×Nat) (b:BB) (k:Ex->bV->List AX->Option Ex->Bj (cN J)) (g:Option Ex) (ok:Bool) (e:bV) (h:List AX) (vs:List (Nat×Nat×(Nat->List V)))|headz (c:Bool) (yax:List (Option (Nat×Nat×(Nat->List V)))) (x30:List (Option (Nat×(Nat->List V)))) (j:J) (g:Option Ex) (ok:Bool) (e:bV) (h:List AX) (vs:List (Nat×Nat×(Nat->List V)))|loopz (c:Bool) (yax:List (Option (Nat×Nat×(Nat->List V)))) (x30:List (Option (Nat×(Nat->List V)))) (fr:Nat×Nat) (b:BB) (k:Ex->bV->List AX->Option Ex->Bj (cN J)) (g:Option Ex) (ok:Bool) (e:bV) (h:List AX) (vs:List (Nat×Nat×(Nat->List V)))|br (b:Bool) (x At:FT J)|brt (b:Bool) (x:FT J)|brf (b:Bool) (At:FT J)|brx (b:Bool) (x:FT J)|bry (b:Bool) (At:FT J)|ob (b:Bool) (x:FT J)|obt (b:Bool) (x:FT J)|obi (x:FT J)|obj (c b:Bool) (x:FT J)|obp (p:Prop) (x:FT J)|obe (a b:List V) (x:FT J)|und (x At:FT J)|asm (p:Prop) (x:FT J)|all (f:Nat->FT J)|fail (n:Nat)
section
variable {J Uc:Type}
def Tt (a b:List V) (k:RT Uc->FT J):RT Uc->FT J
 |.obe _ _ x=>.obe a b (k x)|t=>k t
def Ti (a b:List V) (k:RT Uc->Bj (cN J)):RT Uc->Bj (cN J)
 |.obe _ _ x=>.obq a b (k x)|t=>.obq a a (k t)
def eW (Bp:LD J Uc):Bj (cN J)->RT Uc->FT J
 |.ret (.res v),.ret _=>.res v|.ret (.head j e h g),.next ρ s vf=>.head j g (wP ρ (Bp.lp j).fr.2 (Bp.inv s).2.1) (AG ρ e (Bp.inv s).1) (AD ρ h vf 0 (Bp.inv s).2.1) (oK ρ h vf)|.loop fr b e h g k,.enter ρ s vf=>.loop fr b k g (wP ρ fr.2 (Bp.inv s).2.1) (AG ρ e (Bp.inv s).1) (AD ρ h vf 0 (Bp.inv s).2.1) (oK ρ h vf)|.ret (.head j e h g),.nextz zs fz ρ s vf=>.headz (Qe zs) (HQ h zs) (HH h fz) j g (wP ρ (Bp.lp j).fr.2 (Bp.inv s).2.1) (AG ρ e (Bp.inv s).1) (AD ρ (Jl fz 0 h) vf 0 (Bp.inv s).2.1) (oK ρ (Jl fz 0 h) vf)|.loop fr b e h g k,.enterz zs fz ρ s vf=>.loopz (Qe zs) (HQ h zs) (HH h fz) fr b k g (wP ρ fr.2 (Bp.inv s).2.1) (AG ρ e (Bp.inv s).1) (AD ρ (Jl fz 0 h) vf 0 (Bp.inv s).2.1) (oK ρ (Jl fz 0 h) vf)|.br b x At,.br _ x' y'=>.br b (eW Bp x x') (eW Bp At y')|.br b x _,.brt x'=>.brt b (eW Bp x x')|.br b _ At,.brf y'=>.brf b (eW Bp At y')|.br b x _,.brx _ x'=>.brx b (eW Bp x x')|.br b _ At,.bry _ y'=>.bry b (eW Bp At y')|.ob b x,.ob _ x'=>.ob b (eW Bp x x')|.ob b x,.obt x'=>.obt b (eW Bp x x')|.ob b x,.obv _ _ x'=>.ob b (eW Bp x x')|.obp p x,.obc x'=>.obp p (eW Bp x x')|.obi _ d x,.obt x'=>.obt d (eW Bp x x')|.obi _ d x,.ob _ x'=>.ob d (eW Bp x x')|.obi _ d x,.obv _ _ x'=>.ob d (eW Bp x x')|.obi _ _ x,.obi x'=>.obi (eW Bp x x')|.obi c d x,.obj _ _ x'=>.obj c d (eW Bp x x')|.obp p x,.obp _ x'=>.obp p (eW Bp x x')|.obq a b x,t=>Tt a b (eW Bp x) t|.und x At,.und x' y'=>.und (eW Bp x x') (eW Bp At y')|.asm p x,.asm _ x'=>.asm p (eW Bp x x')|.all f,.all g=>.all λl=>eW Bp (f l) (g l)
 |.fail _,.fail=>.fail 1|_,_=>.fail 0
def cw:Bj (cN J)->RT Uc->Bj (cN J)
 |.br b x At,.br _ x' y'=>.br b (cw x x') (cw At y')|.br b x At,.brt x'=>.br b (cw x x') At|.br b x At,.brf y'=>.br b x (cw At y')|.br b x At,.brx _ x'=>.br b (cw x x') At|.br b x At,.bry _ y'=>.br b x (cw At y')|.ob b x,.ob _ x'=>.ob b (cw x x')|.ob b x,.obt x'=>.ob b (cw x x')|.ob b x,.obv _ _ x'=>.ob b (cw x x')|.obp p x,.obp _ x'=>.obp p (cw x x')|.obp p x,.obc x'=>.obp p (cw x x')|.obi c d x,.obt x'=>.obi c d (cw x x')|.obi c d x,.ob _ x'=>.obi c d (cw x x')|.obi c d x,.obv _ _ x'=>.obi c d (cw x x')|.obi c _ x,.obi x'=>.obi c c (cw x x')|.obi c d x,.obj _ _ x'=>.obi c d (cw x x')|.obq a b x,t=>Ti a b (cw x) t|.und x At,.und x' y'=>.und (cw x x') (cw At y')|.asm p x,.asm _ x'=>.asm p (cw x x')|.all f,.all g=>.all λl=>cw (f l) (g l)
 |t,_=>t
def mP (Bp:LD J Uc):RT Uc->FT J
 |.ret v=>.res v|.next _ s vf=>.head (Bp.id s) (Bp.inv s).2.2 true (Bp.inv s).1 (Bp.inv s).2.1 (oG vf)|.enter _ s vf=>.loop (Bp.lp (Bp.id s)).fr (Bp.lp (Bp.id s)).body (Bp.lp (Bp.id s)).k (Bp.inv s).2.2 true (Bp.inv s).1 (Bp.inv s).2.1 (oG vf)|.nextz zs fz _ s vf=>.headz true (rF zs) (HO fz) (Bp.id s) (Bp.inv s).2.2 true (Bp.inv s).1 (Bp.inv s).2.1 (oG vf)|.enterz zs fz _ s vf=>.loopz true (rF zs) (HO fz) (Bp.lp (Bp.id s)).fr (Bp.lp (Bp.id s)).body (Bp.lp (Bp.id s)).k (Bp.inv s).2.2 true (Bp.inv s).1 (Bp.inv s).2.1 (oG vf)|.br b x At=>.br b (mP Bp x) (mP Bp At)|.brt x=>.brt true (mP Bp x)|.brf At=>.brf false (mP Bp At)|.brx b x=>.brx b (mP Bp x)|.bry b At=>.bry b (mP Bp At)|.ob b x=>.ob b (mP Bp x)|.obt x=>.obt true (mP Bp x)|.obv b _ x=>.ob b (mP Bp x)|.obi x=>.obi (mP Bp x)|.obj c b x=>.obj c b (mP Bp x)|.obc x=>.obp True (mP Bp x)|.obp p x=>.obp p (mP Bp x)|.obe ts ds x=>.obe (lf ts ds []) (ln ts ds []) (mP Bp x)|.und x At=>.und (mP Bp x) (mP Bp At)|.asm p x=>.asm p (mP Bp x)|.all f=>.all λl=>mP Bp (f l)
 |.fail=>.fail 1
def bj (Nx:Uc->V->Prop):RT Uc->V->Prop
 |.ret v,r=>cP v=cP r|.next _ s _,r=>Nx s r|.enter _ s _,r=>Nx s r|.nextz _ _ _ s _,r=>Nx s r|.enterz _ _ _ s _,r=>Nx s r|.br b x At,r=>(b=true->bj Nx x r)/\(b=false->bj Nx At r)|.brt x,r=>bj Nx x r|.brf At,r=>bj Nx At r|.brx b x,r=>b=true/\bj Nx x r|.bry b At,r=>b=false/\bj Nx At r|.ob b x,r=>b=true/\bj Nx x r|.obt x,r=>bj Nx x r|.obv _ _ x,r=>bj Nx x r|.obi x,r=>bj Nx x r|.obj c b x,r=>(c=true->b=true)/\bj Nx x r|.obc x,r=>bj Nx x r|.obp p x,r=>p/\bj Nx x r|.obe ts ds x,r=>lf ts ds []=ln ts ds []/\bj Nx x r|.und x At,r=>bj Nx x r/\bj Nx At r|.asm p x,r=>p->bj Nx x r|.all f,r=>∀l,bj Nx (f l) r|.fail,_=>False
def rh (step:Uc->RT Uc):Nat->Uc->V->Prop
 |0,_,_=>False|n+1,s,r=>bj (rh step n) (step s) r
def Ev (step:Uc->RT Uc) (s:Uc) (r:V):Prop:=∃n,rh step n s r
theorem vG {Nx Ny:Uc->V->Prop} {r:V} (h:∀ s,Nx s r->Ny s r):∀ t:RT Uc,bj Nx t r->bj Ny t r:=by
 intro t;induction t with
 |ret v=>exact id|next ρ s vf=>exact h s|enter ρ s vf=>exact h s|nextz zs fz ρ s vf=>exact h s|enterz zs fz ρ s vf=>exact h s|br b x At hx hy=>exact λk=>⟨λe=>hx (k.1 e),λe=>hy (k.2 e)⟩
 |brt x hx=>exact hx|brf At hy=>exact hy|brx b x hx=>exact λk=>⟨k.1,hx k.2⟩
 |bry b At hy=>exact λk=>⟨k.1,hy k.2⟩
 |ob b x hx=>exact λk=>⟨k.1,hx k.2⟩
 |obt x hx=>exact hx|obv b h x hx=>exact hx|obi x hx=>exact hx|obj c b x hx=>exact λk=>⟨k.1,hx k.2⟩
 |obc x hx=>exact hx|obp p x hx=>exact λk=>⟨k.1,hx k.2⟩
 |obe a b x hx=>exact λk=>⟨k.1,hx k.2⟩
 |und x At hx hy=>exact λk=>⟨hx k.1,hy k.2⟩
 |asm p x hx=>exact λk hp=>hx (k hp)
 |all f hf=>exact λk l=>hf l (k l)
 |fail=>exact id
theorem Av {step:Uc->RT Uc} {r:V}:∀ {n:Nat} {s:Uc},rh step n s r->rh step (n+1) s r
 |0,s,h=>h.elim|n+1,s,h=>vG (λs hs=>Av hs) _ h
theorem u7 {step:Uc->RT Uc} {r:V} {n m:Nat} {s:Uc} (h:rh step n s r) (hm:n<=m):rh step m s r:=by
 induction hm with
 |refl=>exact h|step _ ih=>exact Av ih
section
variable {Nx:Uc->V->Prop} {r:V}
theorem Br {v:V} (h:cP v=cP r):bj Nx (.ret v) r:=h
theorem Ct {b:Bool} {x At:RT Uc} (N:b=true->bj Nx x r) (Q:b=false->bj Nx At r):bj Nx (.br b x At) r:=⟨N,Q⟩
theorem ku {x:RT Uc} (h:bj Nx x r):bj Nx (.brt x) r:=h
theorem w7 {x:RT Uc} (h:bj Nx x r):bj Nx (.brf x) r:=h
theorem agu {b:Bool} {x:RT Uc} (N:b=false) (h:bj Nx x r):bj Nx (.bry b x) r:=⟨N,h⟩
theorem Cr {b:Bool} (h:(!b)=false):b=true:=by cases b;cases h;rfl
theorem Pr {b:Bool} (h:(!b)=true):b=false:=by cases b;rfl;cases h
theorem bf {b:Bool} {x:RT Uc} (N:b=true) (Q:bj Nx x r):bj Nx (.ob b x) r:=⟨N,Q⟩
theorem AY {x:RT Uc} (h:bj Nx x r):bj Nx (.obt x) r:=h
theorem afi {b:Bool} {hb:b=true} {x:RT Uc} (h:bj Nx x r):bj Nx (.obv b hb x) r:=h
theorem CE {x:RT Uc} (h:bj Nx x r):bj Nx (.obi x) r:=h
theorem jy {c b:Bool} {x:RT Uc} (N:c=true->b=true) (Q:bj Nx x r):bj Nx (.obj c b x) r:=⟨N,Q⟩
theorem aG {x:RT Uc} (h:bj Nx x r):bj Nx (.obc x) r:=h
theorem Cv {p:Prop} {x:RT Uc} (N:p) (Q:bj Nx x r):bj Nx (.obp p x) r:=⟨N,Q⟩
theorem af4 {x At:RT Uc} (N:bj Nx x r) (Q:bj Nx At r):bj Nx (.und x At) r:=⟨N,Q⟩
theorem H1 {p:Prop} {x:RT Uc} (h:p->bj Nx x r):bj Nx (.asm p x) r:=h
theorem ce {p:Prop} {x:RT Uc} (h:p->bj Nx x r):bj Nx (.asm (true=true->p) x) r:=λk=>h (k rfl)
theorem AA {f:Nat->RT Uc} (h:∀l,bj Nx (f l) r):bj Nx (.all f) r:=h
theorem bm {ρ:mQ} {s:Uc} {vf:List VF} (h:Nx s r):bj Nx (.enter ρ s vf) r:=h
theorem b9 {ρ:mQ} {s:Uc} {vf:List VF} (h:Nx s r):bj Nx (.next ρ s vf) r:=h
end
def fF:RT Uc->Bool
 |.br _ x At=>fF x&&fF At|.brt x=>fF x|.brf At=>fF At|.brx _ x=>fF x|.bry _ At=>fF At|.ob _ x=>fF x|.obt x=>fF x|.obv _ _ x=>fF x|.obi x=>fF x|.obj _ _ x=>fF x|.obc x=>fF x|.obp _ x=>fF x|.obe _ _ x=>fF x|.und x At=>fF x&&fF At|.asm _ x=>fF x|.all _=>false|_=>true
theorem ie4 {step:Uc->RT Uc} {r:V}:∀ t:RT Uc,fF t=true->bj (Ev step) t r->∃ n,bj (rh step n) t r:=by
 intro t;induction t with
 |ret v=>exact λ_ h=>⟨0,h⟩
 |next ρ s vf=>exact λ_ ⟨n,h⟩=>⟨n,h⟩
 |enter ρ s vf=>exact λ_ ⟨n,h⟩=>⟨n,h⟩
 |nextz zs fz ρ s vf=>exact λ_ ⟨n,h⟩=>⟨n,h⟩
 |enterz zs fz ρ s vf=>exact λ_ ⟨n,h⟩=>⟨n,h⟩
 |br b x At hx hy=>
   intro h0 h;simp[fF,DD]at h0;cases b with
   |true=>let ⟨n,hn⟩:=hx h0.1 (h.1 rfl);exact⟨n,λ_=>hn,λe=>by cases e⟩
   |false=>let ⟨n,hn⟩:=hy h0.2 (h.2 rfl);exact⟨n,(λe=>by cases e),λ_=>hn⟩
 |brt x hx=>exact λh0 h=>hx h0 h
 |brf At hy=>exact λh0 h=>hy h0 h
 |brx b x hx=>exact λh0 h=>let ⟨n,hn⟩:=hx h0 h.2;⟨n,h.1,hn⟩
 |bry b At hy=>exact λh0 h=>let ⟨n,hn⟩:=hy h0 h.2;⟨n,h.1,hn⟩
 |ob b x hx=>exact λh0 h=>let ⟨n,hn⟩:=hx h0 h.2;⟨n,h.1,hn⟩
 |obt x hx=>exact λh0 h=>hx h0 h
 |obv b h x hx=>exact λh0 h=>hx h0 h
 |obi x hx=>exact λh0 h=>hx h0 h
 |obj c b x hx=>exact λh0 h=>let ⟨n,hn⟩:=hx h0 h.2;⟨n,h.1,hn⟩
 |obc x hx=>exact λh0 h=>hx h0 h
 |obp p x hx=>exact λh0 h=>let ⟨n,hn⟩:=hx h0 h.2;⟨n,h.1,hn⟩
 |obe a b x hx=>exact λh0 h=>let ⟨n,hn⟩:=hx h0 h.2;⟨n,h.1,hn⟩
 |und x At hx hy=>
   intro h0 h;simp[fF,DD]at h0
   let ⟨n,hn⟩:=hx h0.1 h.1
   let ⟨m,hm⟩:=hy h0.2 h.2
   exact⟨max n m,vG (λs hs=>u7 hs (Nat.le_max_left _ _)) _ hn,vG (λs hs=>u7 hs (Nat.le_max_right _ _)) _ hm⟩
 |asm p x hx=>
   intro h0 h;by_cases hp:p
   ·let ⟨n,hn⟩:=hx h0 (h hp);exact⟨n,λ_=>hn⟩
   ·exact⟨0,λk=>(hp k).elim⟩
 |all f hf=>intro h0;cases h0|fail=>exact λ_ h=>h.elim
theorem Ev.of {step:Uc->RT Uc} {s:Uc} {r:V} (h0:fF (step s)=true) (h:bj (Ev step) (step s) r):Ev step s r :=
 let ⟨n,hn⟩:=ie4 _ h0 h;⟨n+1,hn⟩
theorem zP {w0:World} {LP:eZ} {Bp:LD J Uc} {X4:cN J->Prop} {Nx:Uc->V->Prop} {r:V} (hres:∀ v,cP v=cP r->X4 (.res v))
 (hhead:∀s e h,Nx s r->j6 w0 (Bp.lp (Bp.id s)).fr.2 e h (Bp.inv s).1 (Bp.inv s).2.1->X4 (.head (Bp.id s) e h (Bp.inv s).2.2))
 (hloop:∀s e h,Nx s r->j6 w0 (Bp.lp (Bp.id s)).fr.2 e h (Bp.inv s).1 (Bp.inv s).2.1->LP (Bp.lp (Bp.id s)).fr (Bp.lp (Bp.id s)).body e h (Bp.inv s).2.2 λx e h g=>bM LP ((Bp.lp (Bp.id s)).k x e h g) X4) :
 ∀(t:Bj (cN J)) (rt:RT Uc),eW Bp t rt=mP Bp rt->cw t rt=t->bj Nx rt r->bM LP t X4:=by
 intro t;induction t with
 |ret a=>
   intro rt hf _ hr;cases a with
   |res v=>cases rt<;>simp only[eW,mP]at hf<;>cases hf;exact hres _ hr
   |head j e h g=>
     cases rt<;>simp only[eW,mP]at hf<;>first|(cases hf;done)|skip
     ·simp only[FT.head.injEq]at hf;obtain⟨rfl,rfl,N,Q,h3,h4⟩:=hf;exact hhead _ e h hr (tO w0 N Q h3 h4)
     ·simp only[FT.headz.injEq]at hf;obtain⟨hc,hz,oQ,rfl,rfl,N,Q,h3,h4⟩:=hf;exact hhead _ e h hr ((GJ w0 hc hz oQ).trans (tO w0 N Q h3 h4))
 |br b x At hx hy=>
   intro rt hf hs hr;cases rt<;>simp only[eW,mP]at hf<;>first|(cases hf;done)|skip
   ·simp only[FT.br.injEq]at hf;simp only[cw,Bj.br.injEq,HJ]at hs;obtain⟨rfl,N,Q⟩:=hf;exact⟨λe=>hx _ N hs.1 (hr.1 e),λe=>hy _ Q hs.2 (hr.2 e)⟩
   ·simp only[FT.brt.injEq]at hf;simp only[cw,Bj.br.injEq,HJ]at hs;obtain⟨rfl,N⟩:=hf;exact⟨λe=>hx _ N hs.1 hr,λe=>by cases e⟩
   ·simp only[FT.brf.injEq]at hf;simp only[cw,Bj.br.injEq,HJ]at hs;obtain⟨rfl,N⟩:=hf;exact⟨(λe=>by cases e),λe=>hy _ N hs hr⟩
   ·simp only[FT.brx.injEq]at hf;simp only[cw,Bj.br.injEq,HJ]at hs;obtain⟨rfl,N⟩:=hf;exact⟨λe=>hx _ N hs.1 hr.2,λe=>by rw[hr.1]at e;cases e⟩
   ·simp only[FT.bry.injEq]at hf;simp only[cw,Bj.br.injEq,HJ]at hs;obtain⟨rfl,N⟩:=hf;exact⟨(λe=>by rw[hr.1]at e;cases e),λe=>hy _ N hs hr.2⟩
 |ob b x hx=>
   intro rt hf hs hr;cases rt<;>simp only[eW,mP]at hf<;>first|(cases hf;done)|skip
   ·simp only[FT.ob.injEq]at hf;simp only[cw,Bj.ob.injEq,HJ]at hs;obtain⟨rfl,N⟩:=hf;exact⟨hr.1,hx _ N hs hr.2⟩
   ·simp only[FT.obt.injEq]at hf;simp only[cw,Bj.ob.injEq,HJ]at hs;obtain⟨rfl,N⟩:=hf;exact⟨rfl,hx _ N hs hr⟩
   ·rename_i b' Xw x';simp only[FT.ob.injEq]at hf;simp only[cw,Bj.ob.injEq,HJ]at hs;obtain⟨rfl,N⟩:=hf;exact⟨Xw,hx _ N hs hr⟩
 |obp p x hx=>
   intro rt hf hs hr;cases rt<;>simp only[eW,mP]at hf<;>first|(cases hf;done)|skip
   ·simp only[FT.obp.injEq]at hf;simp only[cw,Bj.obp.injEq,HJ]at hs;obtain⟨rfl,N⟩:=hf;exact⟨trivial,hx _ N hs hr⟩
   ·simp only[FT.obp.injEq]at hf;simp only[cw,Bj.obp.injEq,HJ]at hs;obtain⟨rfl,N⟩:=hf;exact⟨hr.1,hx _ N hs hr.2⟩
 |obi c d x hx=>
   intro rt hf hs hr;cases rt<;>simp only[eW,mP]at hf<;>first|(cases hf;done)|skip
   ·simp only[FT.ob.injEq]at hf;simp only[cw,Bj.obi.injEq,HJ]at hs;obtain⟨rfl,N⟩:=hf;exact⟨λ_=>hr.1,hx _ N hs hr.2⟩
   ·simp only[FT.obt.injEq]at hf;simp only[cw,Bj.obi.injEq,HJ]at hs;obtain⟨rfl,N⟩:=hf;exact⟨λ_=>rfl,hx _ N hs hr⟩
   ·rename_i b' Xw x';simp only[FT.ob.injEq]at hf;simp only[cw,Bj.obi.injEq,HJ]at hs;obtain⟨rfl,N⟩:=hf;exact⟨λ_=>Xw,hx _ N hs hr⟩
   ·simp only[FT.obi.injEq]at hf;simp only[cw,Bj.obi.injEq,HJ]at hs;obtain⟨h0,N⟩:=hs;subst h0;exact⟨id,hx _ hf N hr⟩
   ·simp only[FT.obj.injEq]at hf;simp only[cw,Bj.obi.injEq,HJ]at hs;obtain⟨rfl,rfl,N⟩:=hf;exact⟨hr.1,hx _ N hs hr.2⟩
 |obq a b x hx=>
   intro rt hf hs hr;have gen:Tt a b (eW Bp x) rt=eW Bp x rt->Ti a b (cw x) rt=.obq a a (cw x rt)->bM LP (.obq a b x) X4:=λe1 e2=>by have Yc:Bj.obq a a (cw x rt)=Bj.obq a b x:=e2.symm.trans hs;simp only[Bj.obq.injEq,HJ]at Yc;exact⟨Yc.1,hx _ (e1.symm.trans hf) Yc.2 hr⟩
   cases rt<;>first|exact gen rfl rfl|skip
   rename_i ts ds x';have sV:FT.obe a b (eW Bp x x')=FT.obe (lf ts ds []) (ln ts ds []) (mP Bp x'):=hf;have Yc:Bj.obq a b (cw x x')=Bj.obq a b x:=hs;simp only[FT.obe.injEq]at sV;simp only[Bj.obq.injEq,HJ]at Yc;obtain⟨rfl,rfl,N⟩:=sV;exact⟨hr.1,hx _ N Yc hr.2⟩
 |fail n=>intro rt hf hs hr;cases rt<;>simp only[eW,mP]at hf<;>first|(cases hf;done)|exact hr.elim
 |loop fr b e h g k hk=>
   intro rt hf hs hr;cases rt<;>simp only[eW,mP]at hf<;>first|(cases hf;done)|skip
   ·simp only[FT.loop.injEq]at hf;obtain⟨rfl,rfl,rfl,rfl,N,Q,h3,h4⟩:=hf;exact hloop _ e h hr (tO w0 N Q h3 h4)
   ·simp only[FT.loopz.injEq]at hf;obtain⟨hc,hz,oQ,rfl,rfl,rfl,rfl,N,Q,h3,h4⟩:=hf;exact hloop _ e h hr ((GJ w0 hc hz oQ).trans (tO w0 N Q h3 h4))
 |all f hf0=>
   intro rt hf hs hr;cases rt<;>simp only[eW,mP]at hf<;>first|(cases hf;done)|skip
   simp only[FT.all.injEq]at hf;simp only[cw,Bj.all.injEq]at hs;exact λl=>hf0 l _ (congrFun hf l) (congrFun hs l) (hr l)
 |und x At hx hy=>
   intro rt hf hs hr;cases rt<;>simp only[eW,mP]at hf<;>first|(cases hf;done)|skip
   simp only[FT.und.injEq]at hf;simp only[cw,Bj.und.injEq]at hs;exact⟨hx _ hf.1 hs.1 hr.1,hy _ hf.2 hs.2 hr.2⟩
 |asm p x hx=>
   intro rt hf hs hr;cases rt<;>simp only[eW,mP]at hf<;>first|(cases hf;done)|skip
   simp only[FT.asm.injEq]at hf;simp only[cw,Bj.asm.injEq,HJ]at hs;obtain⟨rfl,N⟩:=hf;exact λhp=>hx _ N hs (hr hp)
def R7 (ct:bo) (un:kZ) (j:J) (l:Lp J) (e:bV) (h:List AX) (g:Option Ex):Bj (cN J) :=
 match l.body with
 |.s body=>fQ (se (mA ct l.fr.1) (lZ ct) un l.fr 0 body e h λx e h=>.ret (x,e,h)) λr=>match r.1 with|.normal=>.ret (.head j r.2.1 r.2.2 none)|x=>l.k x r.2.1 r.2.2 none
 |.i body rd=>fQ (ml (mA ct l.fr.1) (lZ ct) un l.fr rd (Ph (mA ct l.fr.1) (lZ ct) un l.fr.1 0 rd) 0 body e h g λx e h g=>.ret (x,e,h,g)) λr=>match r.1 with|.normal=>.ret (.head j r.2.1 r.2.2.1 r.2.2.2)|x=>l.k x r.2.1 r.2.2.1 r.2.2.2
def Hi (ct:bo) (un:kZ) (Bp:LD J Uc) (s:Uc):Bj (cN J):=R7 ct un (Bp.id s) (Bp.lp (Bp.id s)) (Bp.inv s).1 (Bp.inv s).2.1 (Bp.inv s).2.2
def QN (w0:World) (Bp:LD J Uc) (step:Uc->RT Uc) (r:V) (n:Nat):cN J->Prop
 |.res v=>cP v=cP r|.head j e h g=>∃s,Bp.id s=j/\(Bp.inv s).2.2=g/\j6 w0 (Bp.lp (Bp.id s)).fr.2 e h (Bp.inv s).1 (Bp.inv s).2.1/\rh step n s r
theorem tW {w0:World} {Bp:LD J Uc} {step:Uc->RT Uc} {r:V} {n m:Nat} (hm:n<=m):∀ a,QN w0 Bp step r n a->QN w0 Bp step r m a
 |.res v,h=>h|.head j e h g,⟨s,N,Q,h3,h4⟩=>⟨s,N,Q,h3,u7 h4 hm⟩
theorem ng6 {w0:World} {Uc:A6} {fr:Nat×Nat} {body:gt} {e:bV} {h:List AX} {g:Option Ex} {P:Ex->bV->List AX->Option Ex->Prop} (hl:dq w0 Uc (fr.1,fr.2) (.s body) e h none P):dq w0 Uc fr (.s body) e h g P:=hl
theorem ad6 {ct:bo} {un:kZ} {w0:World} (hd:ou ct=true) {Bp:LD J Uc} {step:Uc->RT Uc} {r:V} (hs:∀ s,eW Bp (Hi ct un Bp s) (step s)=mP Bp (step s)) (hq:∀ s,cw (Hi ct un Bp s) (step s)=Hi ct un Bp s) :
 ∀(n:Nat) (s:Uc) (e:bV) (h:List AX),rh step n s r->j6 w0 (Bp.lp (Bp.id s)).fr.2 e h (Bp.inv s).1 (Bp.inv s).2.1 ->
 dq w0 (SV ct) (Bp.lp (Bp.id s)).fr (Bp.lp (Bp.id s)).body e h (Bp.inv s).2.2 λx e h g=>bM (dq w0 (SV ct)) ((Bp.lp (Bp.id s)).k x e h g) (QN w0 Bp step r n):=by
 intro n;induction n using Nat.strongRecOn with
 |ind n ih=>
   intro s e h hn hsub;have key:∀ (p:Nat) (s':Uc),p<=n->rh step p s' r->∃ m,p=m+1/\bM (dq w0 (SV ct)) (Hi ct un Bp s') (QN w0 Bp step r m):=by
    intro p s' hp he
    match p,hp,he with
    |0,_,he=>exact he.elim
    |m+1,hp,he=>exact⟨m,rfl,zP (w0:=w0) (Nx:=rh step m) (λv y=>y) (λs e h N Q=>⟨s,rfl,rfl,Q,N⟩) (λs e h N Q=>ih m I s e h N Q) _ _ (hs s') (hq s') he⟩
   generalize hj:Bp.id s=j at *
   match hb:(Bp.lp j).body with
   |.s body=>
     refine ng6 (aeJ (un:=un) hd 0 {p:Nat×Uc // p.1<=n/\rh step p.1 p.2 r/\Bp.id p.2=j} (λp=>((Bp.inv p.1.2).1,(Bp.inv p.1.2).2.1)) (λp=>p.1.1) ⟨⟨(n,s),Dm _,hn,hj⟩,hsub⟩ ?_);rintro⟨⟨p,s'⟩,hp,he,ZJ⟩
     let ⟨m,wU,hk⟩:=key p s' hp he
     simp only at ZJ hp wU;unfold Hi R7 at hk;rw[ZJ,hb]at hk;simp[BM]at hk;refine jY (gK _ _) (λa ha=>?_) _ hk
     let ⟨x,e',h'⟩:=a
     cases x with
     |normal=>
       let ⟨s2,g1,g2,g3,g4⟩:=ha
       rw[g1]at g3;exact⟨⟨(m,s2),I,g4,g1⟩,g3,by simp only;omega⟩
     |exit i=>exact jY (gK _ _) (tW I) _ ha|ret=>exact jY (gK _ _) (tW I) _ ha
   |.i body rd=>
     refine aag (un:=un) hd 0 0 {p:Nat×Uc // p.1<=n/\rh step p.1 p.2 r/\Bp.id p.2=j} (λp=>Bp.inv p.1.2) (λp=>p.1.1) ⟨⟨(n,s),Dm _,hn,hj⟩,rfl,hsub⟩ ?_;rintro⟨⟨p,s'⟩,hp,he,ZJ⟩
     let ⟨m,wU,hk⟩:=key p s' hp he
     simp only at ZJ hp wU;unfold Hi R7 at hk;rw[ZJ,hb]at hk;simp[BM]at hk;refine jY (gK _ _) (λa ha=>?_) _ hk
     let ⟨x,e',h',g'⟩:=a
     cases x with
     |normal=>
       let ⟨s2,g1,g2,g3,g4⟩:=ha
       rw[g1]at g3;exact⟨⟨(m,s2),I,g4,g1⟩,g2.symm,g3,by simp only;omega⟩
     |exit i=>exact jY (gK _ _) (tW I) _ ha|ret=>exact jY (gK _ _) (tW I) _ ha
def bu (J:Type) (ct:bo) (un:kZ) (sf:aU) (ds:List V):Bj (cN J):=mK (mA ct LV) (lZ ct) un LV sf ds [] λv _=>.ret (.res v)
def pS (r:V):cN J->Prop
 |.res v=>cP v=cP r|.head ..=>True
theorem hz0 {w0:World} {Bp:LD J Uc} {step:Uc->RT Uc} {r:V} {n:Nat}:∀ a,QN w0 Bp step r n a->pS r a
 |.res v,h=>h|.head ..,_=>trivial
theorem aa9 {ct:bo} {un:kZ} {w0:World} (hd:ou ct=true) {t:Bj (cN J)} (Bp:LD J Uc) (step:Uc->RT Uc) (m:RT Uc) {r:V} (N:eW Bp t m=mP Bp m) (Q:cw t m=t)
 (hs:∀s,eW Bp (Hi ct un Bp s) (step s)=mP Bp (step s)) (hq:∀s,cw (Hi ct un Bp s) (step s)=Hi ct un Bp s) (hr:bj (Ev step) m r):bM (dq w0 (SV ct)) t (pS r) :=
 zP (w0:=w0) (Nx:=Ev step) (λv y=>y) (λ_ _ _ _ _=>trivial) (λs e h ⟨n,hn⟩ hsub=>gK _ _ _ _ _ _ _ _ _ (λx e h g hk=>jY (gK _ _) hz0 _ hk) (ad6 hd hs hq n s e h hn hsub)) _ _ N Q hr
theorem zX {ts:List Ty} (h:ts.all cq=true) (n:Nat) (f:bl):HC n (λi=>lY (bU ts) (A ts f i))=true:=gD λi _=>nI h _
def lc:Bj (cN J)->Lp J
 |.loop fr b _ _ _ k=>⟨fr,b,k⟩|_=>⟨(0,0),.s .skip,λ_ _ _ _=>.fail 0⟩
def eL:LD J Empty:=⟨λs=>(Empty.elim s),λ_=>⟨(0,0),.s .skip,λ_ _ _ _=>.fail 0⟩,λs=>(Empty.elim s)⟩
def em:Empty->V->Prop:=λs=>Empty.elim s
theorem fc1 {ct:bo} {w0:World} (hd:ou ct=true) {t:Bj (cN J)} (m:RT Empty) {r:V} (N:eW eL t m=mP eL m) (Q:cw t m=t) (hr:bj em m r):bM (dq w0 (SV ct)) t (pS r) :=
 zP (w0:=w0) (Nx:=em) (λv y=>y) (λs=>(Empty.elim s)) (λs=>(Empty.elim s)) _ _ N Q hr
def eJ (Bp:LD J Uc) (t:Bj (cN J)) (m:RT Uc):Prop:=eW Bp t m=mP Bp m/\cw t m=t
def gU (ct:bo) (un:kZ) (Bp:LD J Uc) (t:Bj (cN J)) (m:RT Uc) (st:Uc->RT Uc):Prop:=eJ Bp t m/\∀s,eJ Bp (Hi ct un Bp s) (st s)
def P0 (ct:bo) (t:Bj (cN J)) (r:V):Prop:=ou ct=true->∀w0,bM (dq w0 (SV ct)) t (pS r)
theorem fb {ct:bo} {t:Bj (cN J)} {m:RT Empty} {r:V} (h:eJ eL t m) (hr:bj em m r):P0 ct t r:=λhd _=>fc1 hd m h.1 h.2 hr
theorem ra {ct:bo} {un:kZ} {Bp:LD J Uc} {t:Bj (cN J)} {m:RT Uc} {st:Uc->RT Uc} {r:V} (h:gU ct un Bp t m st) (hr:bj (Ev st) m r):P0 ct t r:=λhd _=>aa9 hd Bp st m h.1.1 h.1.2 (λs=>(h.2 s).1) (λs=>(h.2 s).2) hr
inductive Cx where|i (n:Int)|n (n:Nat)|b (b:Bool)|s (s:ByteArray)|f (f:bl)
def JB:List Cx->Nat->Int
 |.i n::_,0=>n|_::l,k+1=>JB l k|_,_=>0
def Ab:List Cx->Nat->Nat
 |.n n::_,0=>n|_::l,k+1=>Ab l k|_,_=>0
abbrev JJ:=Nat×List Cx
def Og (J:Type) (e:Nat) (ty:TypeId) (ct:bo) (un:kZ) (sf:aU) (ds:List V):Bj (cN J):=mK (mA ct LV) (lZ ct) un LV sf ds [] λv h=>.ob (HI h v) (.ret (.res (HX e ty h v)))
theorem Dd {P:Program} {BD:List TypeId} {CJ:List gX} {ct:bo} {f:FuncId} {fn:Func} {sf:aU} {un:kZ} {ts:List Ty} {pre:List V->Prop} {r:List V->V} (hT:aX P BD CJ ct) (hE:∀ t∈BD,dc P t) (hI:kG P BD CJ) (hf:P.funcs[f]? = some fn)
 (hn : (fn.name == "runtime.NumGoroutine") = false) (hc : ek P BD CJ fn = some sf) (hd : fN sf.ntmps sf.body = true) (ho : ge ts = true)
 (h:∀w0 ds,pre (aw ts ds)->bM (dq w0 (SV ct)) (bu J ct un sf (aw ts ds)) (pS (r (aw ts ds)))):(vP (cG ts pre r)).Ok P f :=
 evM (α:=cN J) (K0:=λv=>.ret (.res v)) (Q0:=pS) (λ_ _ _ h=>h) hT hE hI hf hn hc hd ho h
theorem ybb {P:Program} {BD:List TypeId} {CJ:List gX} {ct:bo} {f:FuncId} {fn:Func} {sf:aU} {un:kZ} {e:Nat} {ty:TypeId} {ts:List Ty} {pre:List V->Prop} {r:List V->V} (hT:aX P BD CJ ct) (hE:∀ t∈BD,dc P t) (hI:kG P BD CJ) (hf:P.funcs[f]? = some fn)
 (hn : (fn.name == "runtime.NumGoroutine") = false) (hc : ek P BD CJ fn = some sf) (hd : fN sf.ntmps sf.body = true) (ho : ge ts = true)
 (h:∀w0 ds,pre (aw ts ds)->bM (dq w0 (SV ct)) (Og J e ty ct un sf (aw ts ds)) (pS (r (aw ts ds)))):(vL e ty (cG ts pre r)).Ok P f :=
 akE (α:=cN J) (K0:=λv h=>.ob (HI h v) (.ret (.res (HX e ty h v)))) (Q0:=pS) (λ_ _ _ _ h=>h) hT hE hI hf hn hc hd ho h
end
end Go.Dx
namespace Go.Sx
section
variable {P:Program} {m:aJ}
theorem C80 {t:TypeId} {k:IntKind} (ht:P.underlying t=some (.int k)) {us:Array Value} {i:Nat} {v:Value} (y:us[i]? = some v) (w:World):(part t us i).run P w=.ok v w:=by
 unfold part;have hi:(isAgg t).run P w=.ok false w:=by unfold isAgg;rw[ac (aK ht w)];rfl
 rw[ac hi];simp only[JN,IG,y];rfl
end
end Go.Sx
namespace Go.Sx
def sj (P:Program) (X1:TypeId->Bool):List Field->Nat->Bool
 |[],_=>true
 |f :: fs, i => decide (f.name ≠ "_") && Nat.beq f.offset i && X1 f.type && sj P X1 fs (i + P.cellsOf f.type)
def A7 (P:Program):List Field->Nat
 |[]=>0|f::fs=>P.cellsOf f.type+A7 P fs
def lI (P:Program):Nat->TypeId->Bool
 |0,_=>false
 |d+1,t=>match P.underlying t with|some (.int _)=>Nat.beq (P.cellsOf t) 1|some (.array n e)=>Nat.beq (P.cellsOf t) (n*P.cellsOf e)&&lI P d e|some (.struct fs)=>Nat.beq (P.cellsOf t) (A7 P fs.toList)&&!P.stoodInHeld t&&sj P (lI P d) fs.toList 0|_=>false
section
variable {P:Program} {m:aJ}
theorem m9:∀ {xs ys:List ah} {b:Bool},cd xs ys=some b->ys.length=xs.length
 |[],[],_,_=>rfl|[],_::_,_,h=>by simp[cd]at h
 |x::xs,[],_,h=>by cases x<;>simp[cd]at h
 |x::xs,At::ys,_,h=>by
   cases x<;>try (simp[cd]at h;done)
   cases At<;>try (simp[cd]at h;done)
   simp only[cd]at h;split at h
   ·simp only[HG]at h;obtain⟨b',hb,_⟩:=h;simp[m9 hb]
   ·cases h
theorem kW:∀ (c:Nat) {xs ys:List ah} {b:Bool},cd xs ys=some b->∃ b1 b2,cd (xs.take c) (ys.take c)=some b1/\cd (xs.drop c) (ys.drop c)=some b2/\b=(b1&&b2)
 |0,xs,ys,b,h=>⟨true,b,by simp[cd],by simpa using h,aD⟩|c+1,[],[],b,h=>⟨true,b,by simp[cd],by simpa using h,aD⟩|c+1,[],_::_,b,h=>by simp[cd]at h
 |c+1,x::xs,[],b,h=>by cases x<;>simp[cd]at h
 |c+1,x::xs,At::ys,b,h=>by
   cases x<;>try (simp[cd]at h;done)
   cases At<;>try (simp[cd]at h;done)
   rename_i k a k' a';simp only[cd]at h;split at h
   ·rename_i hk;simp only[HG]at h;obtain⟨b',hb,rfl⟩:=h;obtain⟨b1,b2,N,Q,rfl⟩:=kW c hb;exact⟨(a==a')&&b1,b2,by simp[cd,hk,N],by simpa using Q,by rw[Bool.and_assoc]⟩
   ·cases h
def Re (P:Program) (m:aJ) (dd:Nat) (t:TypeId):Prop:=∀ (us vs:Array Value) (off:Nat) (xs ys:List ah) (b:Bool) (w:World),xs.length=P.cellsOf t->aC m xs ((us.toList.drop off).take (P.cellsOf t))->aC m ys ((vs.toList.drop off).take (P.cellsOf t))->cd xs ys=some b ->
 ∃a c,(part t us off).run P w=.ok a w/\(part t vs off).run P w=.ok c w/\(Op.equalIn dd t a c).run P w=.ok b w
theorem C45 {dd:Nat} {us vs:Array Value}:∀ (fs:List Field) (i:Nat) (xs ys:List ah) (b:Bool) (w:World),(∀ f∈fs,Re P m dd f.type)->sj P (λ_=>true) fs i=true->xs.length=A7 P fs->aC m xs ((us.toList.drop i).take (A7 P fs))->aC m ys ((vs.toList.drop i).take (A7 P fs))->cd xs ys=some b ->
 (Op.eqFields dd us vs fs).run P w=.ok b w
 |[],i,xs,ys,b,w,_,_,hl,_,_,hb=>by
   cases xs with
   |cons _ _=>simp[A7]at hl
   |nil=>cases ys with|nil=>simp[cd]at hb;subst hb;rfl|cons _ _=>simp[cd]at hb
 |f::fs,i,xs,ys,b,w,hq,hf,hl,hx,hy,hb=>by
   simp only[sj,DD,IJ]at hf;obtain⟨⟨⟨N,Q⟩,_⟩,h4⟩:=hf;have ho:=G9 Q;simp only[A7]at hl hx hy;obtain⟨b1,b2,e1,e2,rfl⟩:=kW (P.cellsOf f.type) hb;have x1:=fj (P.cellsOf f.type) hx;have x2:=fV (P.cellsOf f.type) hx;have y1:=fj (P.cellsOf f.type) hy;have y2:=fV (P.cellsOf f.type) hy;rw[Mi,PO I]at x1 y1;rw[P9,Ma,Nat.add_sub_cancel_left]at x2 y2;obtain⟨a,c,r1,r2,r3⟩:=hq f aD us vs i _ _ b1 w (by rw[Qr];omega) x1 y1 e1;simp only[Op.eqFields];rw[DL N,ho,ac r1,ac r2,ac r3];cases b1 with
   |false=>rfl|true=>exact C45 fs (i+P.cellsOf f.type) _ _ b2 w (λg hg=>hq g (by simp[hg])) h4 (by rw[PG];omega) x2 y2 e2
theorem C81 {dd:Nat} {e:TypeId} {us vs:Array Value} (hq:Re P m dd e):∀ (n i:Nat) (xs ys:List ah) (b:Bool) (w:World),xs.length=n*P.cellsOf e->aC m xs ((us.toList.drop (i*P.cellsOf e)).take (n*P.cellsOf e))->aC m ys ((vs.toList.drop (i*P.cellsOf e)).take (n*P.cellsOf e))->cd xs ys=some b ->
 (Op.eqItems dd e (P.cellsOf e) us vs (List.range' i n)).run P w=.ok b w
 |0,i,xs,ys,b,w,hl,_,_,hb=>by
   cases xs with
   |cons _ _=>simp at hl
   |nil=>cases ys with|nil=>simp[cd]at hb;subst hb;rfl|cons _ _=>simp[cd]at hb
 |n+1,i,xs,ys,b,w,hl,hx,hy,hb=>by
   have hn:(n+1)*P.cellsOf e=P.cellsOf e+n*P.cellsOf e:=by rw[Ki,Nat.one_mul,PD]
   have hi:i*P.cellsOf e+P.cellsOf e=(i+1)*P.cellsOf e:=by rw[Ki,Nat.one_mul]
   rw[hn]at hl hx hy;obtain⟨b1,b2,e1,e2,rfl⟩:=kW (P.cellsOf e) hb;have x1:=fj (P.cellsOf e) hx;have x2:=fV (P.cellsOf e) hx;have y1:=fj (P.cellsOf e) hy;have y2:=fV (P.cellsOf e) hy;rw[Mi,PO I]at x1 y1;rw[P9,Ma,Nat.add_sub_cancel_left,hi]at x2 y2;obtain⟨a,c,r1,r2,r3⟩:=hq us vs _ _ _ b1 w (by rw[Qr];omega) x1 y1 e1;rw[O5];simp only[Op.eqItems];rw[ac r1,ac r2,ac r3];cases b1 with
   |false=>rfl|true=>exact C81 hq n (i+1) _ _ b2 w (by rw[PG];omega) x2 y2 e2
theorem acQ {X1:TypeId->Bool}:∀ {fs:List Field} {i:Nat},sj P X1 fs i=true->(∀ f∈fs,X1 f.type=true)/\sj P (λ_=>true) fs i=true
 |[],_,_=>⟨aD,rfl⟩
 |f::fs,i,h=>by
   simp only[sj,DD]at h ⊢;have k:=acQ h.2;exact⟨λg hg=>by
    rcases List.mem_cons.1 hg with rfl|hg
    ·exact h.1.2
    ·exact k.1 g hg,⟨⟨h.1.1,trivial⟩,k.2⟩⟩
theorem vwW:∀ (d dd:Nat) (t:TypeId),lI P d t=true->(∀ n e,P.underlying t=some (.array n e)->True)->d<=dd->∀ (us vs:Array Value) (xs ys:List ah) (b:Bool) (w:World),(match P.underlying t with|some (.array _ _)|some (.struct _)=>true|_=>false)=true->xs.length=P.cellsOf t->aC m xs (us.toList.take (P.cellsOf t))->aC m ys (vs.toList.take (P.cellsOf t))->cd xs ys=some b ->
 (Op.equalIn dd t (.agg us) (.agg vs)).run P w=.ok b w:=by
 intro d;induction d with
 |zero=>intro dd t h;cases h
 |succ d ih=>
   intro dd t h _ hd us vs xs ys b w hw hl hx hy hb;obtain⟨dd,rfl⟩:∃ X1,dd=X1+1:=⟨dd-1,I⟩;have pt:∀ e,lI P d e=true->Re P m dd e:=by
    intro e he us vs off xs ys b w hl hx hy hb;cases hu:P.underlying e with
    |none=>cases d<;>simp[lI,hu]at he
    |some k=>
      obtain⟨yai,hie⟩:=info_of_underlying hu;have wide:(match P.underlying e with|some (.array _ _)|some (.struct _)=>true|_=>false)=true->∃ a c,(part e us off).run P w=.ok a w/\(part e vs off).run P w=.ok c w/\(Op.equalIn dd e a c).run P w=.ok b w:=by
       intro hw;have pa:∀zs:Array Value,(part e zs off).run P w=.ok (.agg (zs.extract off (off+P.cellsOf e))) w:=by intro zs;rw[hu]at hw;cases k<;>first|(cases hw;done)|simp[part,isAgg,aK hu,Go.run_sizeOf w hie]
       have ex:∀zs:Array Value,(zs.extract off (off+P.cellsOf e)).toList.take (P.cellsOf e)=(zs.toList.drop off).take (P.cellsOf e):=by intro zs;rw[Array.toList_extract];simp[List.extract,Mi]
       exact⟨_,_,pa us,pa vs,ih dd e he (λ_ _ _=>trivial) I _ _ xs ys b w hw hl (by rw[ex];exact hx) (by rw[ex];exact hy) hb⟩
      cases k with
      |array n e'=>exact wide (by rw[hu])|struct fs=>exact wide (by rw[hu])
      |int X1=>
        obtain⟨d,rfl⟩:∃r,d=r+1:=by cases d with|zero=>cases he|succ r=>exact⟨r,rfl⟩
        have hc:P.cellsOf e=1:=by simp only[lI,hu]at he;exact G9 he
        rw[hc]at hl hx hy;obtain⟨dd',rfl⟩:∃r,dd=r+1:=⟨dd-1,I⟩;have YM:=(m9 hb).trans hl;obtain⟨x,rfl⟩:=List.length_eq_one_iff.1 hl;obtain⟨At,rfl⟩:=List.length_eq_one_iff.1 YM;cases x<;>try (simp[cd]at hb;done)
        cases At<;>try (simp[cd]at hb;done)
        rename_i k a k' a';simp only[cd]at hb;split at hb
        ·rename_i hk;subst hk;simp only[Hr,H2,Bool.and_true]at hb;subst hb;simp only[aC,CL]at hx hy;obtain⟨u,us',N,Q,h3⟩:=hx;obtain⟨v,vs',g1,g2,g3⟩:=hy;subst Q;subst g2;have x32:us[off]? = some (.int k a):=getElem?_of_chunk (c:=1) (by rw[N,h3]);have yaA:vs[off]? = some (.int k a'):=getElem?_of_chunk (c:=1) (by rw[g1,g3]);exact⟨_,_,C80 hu x32 w,C80 hu yaA w,run_equalIn_int w dd' e k X1 a a' hu⟩
        ·cases hb
      |_=>cases d<;>simp[lI,hu]at he
   cases hu:P.underlying t with
   |none=>simp[hu]at hw
   |some k=>
     cases k with
     |array n e=>
       obtain⟨hc,he⟩:P.cellsOf t=n*P.cellsOf e/\lI P d e=true:=by simp only[lI,hu,DD]at h;exact⟨G9 h.1,h.2⟩
       obtain⟨yai,hi⟩:∃ i,P.info? e=some i:=by
        cases hue:P.underlying e with
        |none=>cases d<;>simp[lI,hue]at he|some k=>exact info_of_underlying hue
       rw[run_equalIn_array w _ us vs hu hi,Ql];rw[hc]at hl hx hy;exact C81 (pt e he) n 0 xs ys b w hl (by simpa using hx) (by simpa using hy) hb
     |struct fs=>
       obtain⟨⟨hc,hs⟩,hf⟩:(P.cellsOf t=A7 P fs.toList/\P.stoodInHeld t=false)/\sj P (lI P d) fs.toList 0=true:=by simp only[lI,hu,DD,LW]at h;exact⟨⟨G9 h.1.1,h.1.2⟩,h.2⟩
       have hfo:P.fieldsOf t=fs:=by unfold Program.fieldsOf;rw[hu]
       rw[run_equalIn_struct w _ t us vs (by rw[hu,hfo]) hs,hfo];rw[hc]at hl hx hy;have k:=acQ hf;exact C45 _ 0 xs ys b w (λf hf=>pt _ (k.1 f hf)) k.2 hl (by simpa using hx) (by simpa using hy) hb
     |_=>simp[hu]at hw
theorem iM {t:TypeId} (d:Nat) (h:(lI P d t&&decide (d<=10000)&&(match P.underlying t with|some (.array _ _)|some (.struct _)=>true|_=>false)&&!P.eqGuardType P.depth t&&decide ((P.info? t).map (·.size)=some (P.cellsOf t)))=true):dc P t:=by simp only[DD,IJ,LW]at h;obtain⟨⟨⟨⟨N,Q⟩,h3⟩,h4⟩,h5⟩:=h;refine⟨h4,λn hn xs ys us vs m b w hl hx hy hb=>?_⟩;rw[h5]at hn;cases hn;have evObp:=cB hx;have new7:=m9 hb;have ly:=cB hy;unfold Op.equal;exact vwW d _ t N (λ_ _ _=>trivial) Q us vs xs ys b w h3 hl (by rw[Q4 I];exact hx) (by rw[Q4 I];exact hy) hb
end
end Go.Sx
namespace Go.Dx
abbrev aE (l:List V):Int:=iv (aI l)
abbrev aW (l:List V):Int:=iv (aI (L l))
abbrev bZ (l:List V):Int:=iv (aI (L (L l)))
abbrev cU (l:List V):Int:=iv (aI (L (L (L l))))
abbrev cS (l:List V):Int:=iv (aI (L (L (L (L l)))))
abbrev bq (l:List V):Int:=iv (aI (L (L (L (L (L l))))))
theorem Cg {p:Prop} [inst:Decidable p] (h:p):decide p=true:=decide_eq_true h
theorem fB {p:Prop} [inst:Decidable p] (h:¬p):decide p=false:=decide_eq_false h
theorem Hf {a b:Int} (h:0<=a) (g:0<=b):0<=a*b:=Int.mul_nonneg h g
theorem Dw {a b c:Int} (h:a<=b) (g:0<=c):c*a<=c*b:=Int.mul_le_mul_of_nonneg_left h g
def iR:Nat->Nat->mQ->mQ
 |_,0,l=>l|k,n+1,l=>some (some k)::iR (k+1) n l
def Kb (ct:bo) (un:kZ) (j:JJ) (l:Lp JJ) (s:bV×List AX×Option Sx.Ex):Bj (cN JJ):=R7 ct un j l s.1 s.2.1 s.2.2
abbrev D (n:Int):V:=.int .i64 n
abbrev tI:Ty:=.int .i64
abbrev E (x:Int):Int:=IntKind.i64.wrap x
abbrev cO:List Ty:=[Ty.int IntKind.i64,Ty.int IntKind.i64]
abbrev lS:List Ty:=[Ty.int IntKind.i64,Ty.int IntKind.i64,Ty.int IntKind.i64,Ty.int IntKind.i64]
abbrev M:List Ty:=[Ty.int IntKind.i64]
abbrev ap:List Ty:=[Ty.str,Ty.int IntKind.i64,Ty.sl [Ty.int IntKind.i64,Ty.int IntKind.i64],Ty.int IntKind.i64]
abbrev ar:List Ty:=[Ty.int IntKind.i64,Ty.int IntKind.i64,Ty.int IntKind.i64,Ty.int IntKind.i64,Ty.sl [Ty.int IntKind.i64,Ty.int IntKind.i64,Ty.int IntKind.i64,Ty.int IntKind.i64]]
abbrev al:List Ty:=[Ty.str,Ty.int IntKind.i64,Ty.int IntKind.i64,Ty.int IntKind.i64,Ty.int IntKind.i64,Ty.int IntKind.i64]
abbrev AV:List Ty:=[Ty.int IntKind.i64,Ty.int IntKind.i64,Ty.int IntKind.i64,Ty.int IntKind.i64,Ty.int IntKind.i64]
abbrev au:List Ty:=[Ty.str,Ty.sl [Ty.int IntKind.i64],Ty.sl [Ty.int IntKind.i64],Ty.sl [Ty.sl [Ty.int IntKind.i64]],Ty.int IntKind.i64,Ty.int IntKind.i64]
abbrev ao:List Ty:=[Ty.str,Ty.int IntKind.i64,Ty.int IntKind.i64,Ty.int IntKind.i64,Ty.int IntKind.i64,Ty.int IntKind.i64,Ty.int IntKind.i64,Ty.int IntKind.i64,Ty.int IntKind.i64,Ty.int IntKind.i64,Ty.int IntKind.i64,Ty.int IntKind.i64,Ty.int IntKind.i64,Ty.int IntKind.i64]
abbrev cr:List Ty:=[Ty.int IntKind.i64,Ty.int IntKind.i64,Ty.int IntKind.i64]
abbrev Pq (H:Nat) (G:bl) (q:Nat) (W:bl) (n4:Nat) (f4:bl) (n6:Nat) (f6:bl):V:=.agg [.sl H (A ap G),.sl q (A AV W),.sl n4 (A ar f4),.sl n6 (A al f6)]
end Go.Dx
namespace Go.Dx
open Go.IntKind (i64 u64 u8)
open Go.Sx Go.Proofs
def BD:List TypeId:=[40,93,49,240,113]
noncomputable section
noncomputable def itF (n:FuncId) (f:Func):gX:=⟨n,((pW Tryz.prog BD f).getD (0,.skip)).1,((pW Tryz.prog BD f).getD (0,.skip)).2⟩
def CJ:List gX:=[itF 72 Tryz.f72,itF 121 Tryz.f121]
noncomputable def cJ (f:Func):aU:=(ek Tryz.prog BD CJ f).getD ⟨0,[],.skip⟩
def scV:aU:=cJ Tryz.f5
def ac9:aU:=cJ Tryz.f7
def aa8:aU:=cJ Tryz.f8
def abk:aU:=cJ Tryz.f9
def ab6:aU:=cJ Tryz.f11
def ne4:aU:=cJ Tryz.f14
def ajd:aU:=cJ Tryz.f15
def aa4:aU:=cJ Tryz.f16
def ajv:aU:=cJ Tryz.f17
def abL:aU:=cJ Tryz.f18
def yS:aU:=cJ Tryz.f19
def Pi:aU:=cJ Tryz.f22
def LA:aU:=cJ Tryz.f23
def ie5:aU:=cJ Tryz.f24
def krA:aU:=cJ Tryz.f25
def ac7:aU:=cJ Tryz.f26
def aav:aU:=cJ Tryz.f27
def abf:aU:=cJ Tryz.f28
def if8:aU:=cJ Tryz.f29
def aaq:aU:=cJ Tryz.f30
def It:aU:=cJ Tryz.f34
def O0:aU:=cJ Tryz.f37
def inT:aU:=cJ Tryz.f38
def agn:aU:=cJ Tryz.f39
def akG:aU:=cJ Tryz.f40
def ajt:aU:=cJ Tryz.f41
def ajw:aU:=cJ Tryz.f42
def KX:aU:=cJ Tryz.f43
def zU:aU:=cJ Tryz.f44
def Ns:aU:=cJ Tryz.f45
def Mj:aU:=cJ Tryz.f46
def IM:aU:=cJ Tryz.f47
def OG:aU:=cJ Tryz.f48
def acD:aU:=cJ Tryz.f49
def uK:aU:=cJ Tryz.f50
def inU:aU:=cJ Tryz.f51
def if6:aU:=cJ Tryz.f52
def aaP:aU:=cJ Tryz.f55
def Mo:aU:=cJ Tryz.f56
def B9:aU:=cJ Tryz.f57
def KV:aU:=cJ Tryz.f58
def lfL:aU:=cJ Tryz.f59
def LF:aU:=cJ Tryz.f60
def aau:aU:=cJ Tryz.f61
def Is:aU:=cJ Tryz.f62
def CG:aU:=cJ Tryz.f63
def acg:aU:=cJ Tryz.f64
def abn:aU:=cJ Tryz.f65
def zT:aU:=cJ Tryz.f66
def TS:aU:=cJ Tryz.f67
def LG:aU:=cJ Tryz.f68
def MD:aU:=cJ Tryz.f69
def Iy:aU:=cJ Tryz.f70
def NX:aU:=cJ Tryz.f71
def NP:aU:=cJ Tryz.f73
def nc6:aU:=cJ Tryz.f74
def nh6:aU:=cJ Tryz.f75
def aaj:aU:=cJ Tryz.f76
def ach:aU:=cJ Tryz.f77
def akL:aU:=cJ Tryz.f78
def ak4:aU:=cJ Tryz.f79
def akU:aU:=cJ Tryz.f80
def aet:aU:=cJ Tryz.f81
def acW:aU:=cJ Tryz.f82
def aaR:aU:=cJ Tryz.f83
def Nv:aU:=cJ Tryz.f84
def yaO:aU:=cJ Tryz.f85
def ne6:aU:=cJ Tryz.f86
def gW:aU:=cJ Tryz.f87
def ny:aU:=cJ Tryz.f88
def Lg:aU:=cJ Tryz.f89
def JC:aU:=cJ Tryz.f90
def Xy:aU:=cJ Tryz.f93
def acm:aU:=cJ Tryz.f94
def C6:aU:=cJ Tryz.f95
def mrg:aU:=cJ Tryz.f96
def lst:aU:=cJ Tryz.f97
def ID:aU:=cJ Tryz.f98
def E2:aU:=cJ Tryz.f99
def m63:aU:=cJ Tryz.f100
def akn:aU:=cJ Tryz.f101
def ai6:aU:=cJ Tryz.f102
def aiX:aU:=cJ Tryz.f103
def aiT:aU:=cJ Tryz.f104
def ai3:aU:=cJ Tryz.f105
def ald:aU:=cJ Tryz.f106
def aj4:aU:=cJ Tryz.f107
def ai1:aU:=cJ Tryz.f108
def ab3:aU:=cJ Tryz.f109
def aby:aU:=cJ Tryz.f110
def abS:aU:=cJ Tryz.f111
def abI:aU:=cJ Tryz.f112
def aak:aU:=cJ Tryz.f113
def aac:aU:=cJ Tryz.f114
def ac3:aU:=cJ Tryz.f115
def Ix:aU:=cJ Tryz.f116
def pB:aU:=cJ Tryz.f117
def l8:aU:=cJ Tryz.f118
def abN:aU:=cJ Tryz.f119
def ab2:aU:=cJ Tryz.f120
def akB:aU:=cJ Tryz.f122
def af9:aU:=cJ Tryz.f129
def ag1:aU:=cJ Tryz.f130
def agM:aU:=cJ Tryz.f131
def aef:aU:=cJ Tryz.f132
def ajO:aU:=cJ Tryz.f133
def af6:aU:=cJ Tryz.f134
def afh:aU:=cJ Tryz.f135
def agf:aU:=cJ Tryz.f136
def agt:aU:=cJ Tryz.f137
def ah6:aU:=cJ Tryz.f138
def afH:aU:=cJ Tryz.f139
def ae2:aU:=cJ Tryz.f140
def acC:aU:=cJ Tryz.f141
def acr:aU:=cJ Tryz.f143
def aai:aU:=cJ Tryz.f144
def hzv:aU:=cJ Tryz.f145
def aaC:aU:=cJ Tryz.f146
def abc:aU:=cJ Tryz.f147
def abK:aU:=cJ Tryz.f148
def ybk:aU:=cJ Tryz.f149
def Lw:aU:=cJ Tryz.f150
def Wk:aU:=cJ Tryz.f156
def ahb:aU:=cJ Tryz.f158
def aeQ:aU:=cJ Tryz.f159
def aeB:aU:=cJ Tryz.f160
def aeE:aU:=cJ Tryz.f161
def aaw:aU:=cJ Tryz.f162
def ih5:aU:=cJ Tryz.f163
def ix1:aU:=cJ Tryz.f164
def KC:aU:=cJ Tryz.f165
def Lj:aU:=cJ Tryz.f166
def NY:aU:=cJ Tryz.f182
end
theorem hE:∀ t∈BD,dc Tryz.prog t:=by
 intro t ht;simp only[BD,L8,Mx,or_false]at ht;rcases ht with rfl|rfl|rfl|rfl|rfl
 ·exact iM 3 BF
 ·exact iM 3 BF
 ·exact iM 3 BF
 ·exact iM 3 BF
 ·exact iM 3 BF
theorem hI:kG Tryz.prog BD CJ:=by
 intro it ht;simp only[CJ,L8,Mx,or_false]at ht;rcases ht with rfl|rfl
 ·exact⟨_,Tryz.func72,by kernel_rfl,by kernel_rfl⟩
 ·exact⟨_,Tryz.func121,by kernel_rfl,by kernel_rfl⟩
def u0:kZ:=λ_=>0
noncomputable def PW (fn : Func) (sf : aU) (ts : List Ty) : Bool × Option aU × Bool × Bool := (fn.name == "runtime.NumGoroutine", ek Tryz.prog BD CJ fn, fN sf.ntmps sf.body, ge ts)
abbrev dm {α:Sort _} {β:Sort _} (_:α) (b:β):β:=b
abbrev RT.am {Uc:Type} (n:Nat) (x:RT Uc):RT Uc:=.asm (true=true->n<=9223372036854775807) x
abbrev RT.cb {Uc:Type} (x:RT Uc):RT Uc:=.obc (.obt x)
abbrev RT.ii {Uc:Type} (x:RT Uc):RT Uc:=.obi (.obi x)
abbrev RT.iv {Uc:Type} (x:RT Uc):RT Uc:=.ii (.ii x)
abbrev nz (x:Int):Prop:=x=0->False
abbrev dI (x:Int) (n:Nat):Bool:=decide (0<=x/\x<(n:Int))
theorem ij {f : FuncId} {fn : Func} {sf : aU} {un : kZ} {ct : bo} (hf : Tryz.prog.funcs[f]? = some fn) (hk : (fn.name == "runtime.NumGoroutine", ek Tryz.prog BD CJ fn, fN sf.ntmps sf.body) = (false, some sf, true)) (hl : aX Tryz.prog BD CJ ct) : aX Tryz.prog BD CJ ((f, .inl sf un) :: ct) := .inl hf (congrArg Prod.fst hk) (congrArg (fun x => x.2.1) hk) (congrArg (fun x => x.2.2) hk) hl
theorem eP {fn : Func} {sf : aU} {ts : List Ty} (h : PW fn sf ts = (false, some sf, true, true)) : (fn.name == "runtime.NumGoroutine") = false /\ ek Tryz.prog BD CJ fn = some sf /\ fN sf.ntmps sf.body = true /\ ge ts = true := by
 have N:=congrArg Prod.fst h
 have Q:=congrArg (λx=>x.2.1) h
 have h3:=congrArg (λx=>x.2.2.1) h
 have h4:=congrArg (λx=>x.2.2.2) h
 exact⟨N,Q,h3,h4⟩
section
variable {ct:bo} {f:FuncId} {fn:Func} {sf:aU} {un:kZ} {ts:List Ty} {pre:List V->Prop} {r:List V->V}
theorem mkE (hT:aX Tryz.prog BD CJ ct) (hf:Tryz.prog.funcs[f]? = some fn) (hk:PW fn sf ts=(false,some sf,true,true)) (h:∀ ds,pre (aw ts ds)->P0 ct (bu JJ ct un sf (aw ts ds)) (r (aw ts ds))):(vP (cG ts pre r)).Ok Tryz.prog f :=
 Dd (J:=JJ) (un:=un) hT hE hI hf (eP hk).1 (eP hk).2.1 (eP hk).2.2.1 (eP hk).2.2.2 λw0 ds hp=>h ds hp hT.dst w0
abbrev dL (C:aH) (k:FuncId):Prop:=(vP C).Ok Tryz.prog k
theorem bH (hT:aX Tryz.prog BD CJ ct) (h:∀ds,pre (aw ts ds) → P0 ct (bu JJ ct un sf (aw ts ds)) (r (aw ts ds))) (hk:(Tryz.prog.funcs[f]?).map (λfn=>PW fn sf ts)=some (false,some sf,true,true):=by kernel_rfl):(vP (cG ts pre r)).Ok Tryz.prog f:=by obtain⟨fn,hf,hk⟩:=Option.map_eq_some_iff.1 hk;exact mkE hT hf hk h
theorem akW {e:Nat} {ty:TypeId} (hT:aX Tryz.prog BD CJ ct) (hf:Tryz.prog.funcs[f]? = some fn) (hk:PW fn sf ts=(false,some sf,true,true)) (h:∀ ds,pre (aw ts ds)->P0 ct (Og JJ e ty ct un sf (aw ts ds)) (r (aw ts ds))):(vL e ty (cG ts pre r)).Ok Tryz.prog f :=
 ybb (J:=JJ) (un:=un) hT hE hI hf (eP hk).1 (eP hk).2.1 (eP hk).2.2.1 (eP hk).2.2.2 λw0 ds hp=>h ds hp hT.dst w0
end
variable (x0 x1 x2 x3 x4 x5:Int)
noncomputable section
def Hj:bo:=[]
theorem Qa:aX Tryz.prog BD CJ Hj:=.nil
def m84:RT Empty:=.ret (V.agg [D (E (x0-x2)),D (E (x1-x3))])
theorem ad8:eJ eL (bu JJ Hj u0 akU [V.agg [D x0,D x1],V.agg [D x2,D x3]]) (m84 x0 x1 x2 x3):=cD
def dA:Int:=E (x0-x2)
def dz:Int:=E (x1-x3)
def RV:V:=.agg [D (dA x0 x2),D (dz x1 x3)]
theorem aiM:bj em (m84 x0 x1 x2 x3) (RV x0 x1 x2 x3):=Br (by unfold RV dA dz;rfl)
def TB:aH:=cG [.agg cO,.agg cO] (λ_=>True) λ|[.agg [.int _ x0,.int _ x1],.agg [.int _ x2,.int _ x3]]=>RV x0 x1 x2 x3|_=>.any
theorem akb:dL TB 80:=bH Qa λ_ hp=>fb (ad8 ..) (aiM _ _ _ _)
def vc:Int:=E (E (x0*x2)+E (x1*x3))
def Ub:RT Empty:=.ret (D (E (E (x0*x3)-E (x1*x2))))
theorem acs:eJ eL (bu JJ Hj u0 aet [V.agg [D x0,D x1],V.agg [D x2,D x3]]) (Ub x0 x1 x2 x3):=cD
def ji:Int:=E (E (x0*x3)-E (x1*x2))
def Rq:V:=D (ji x0 x1 x2 x3)
theorem ahK:bj em (Ub x0 x1 x2 x3) (Rq x0 x1 x2 x3):=Br (by unfold Rq ji;rfl)
def ahx:aH:=cG [.agg cO,.agg cO] (λ_=>True) λ|[.agg [.int _ x0,.int _ x1],.agg [.int _ x2,.int _ x3]]=>Rq x0 x1 x2 x3|_=>.any
theorem ahq:dL ahx 81:=bH Qa λ_ hp=>fb (acs ..) (ahK _ _ _ _)
def m86:RT Empty:=.obi (.obi (.obi (.ret (V.bool (bif decide (x0<x1) then true else decide (x2<x0))))))
theorem afV:eJ eL (bu JJ Hj u0 ak4 [D x0,D x1,D x2]) (m86 x0 x1 x2):=cD
def bG:Bool:=bif decide (x0<x1) then true else decide (x2<x0)
def RX:V:=.bool (bG x0 x1 x2)
theorem ajl:bj em (m86 x0 x1 x2) (RX x0 x1 x2):=CE (CE (CE (Br (by unfold RX bG;rfl))))
def RI:aH:=cG cr (λ_=>True) λ|[.int _ x0,.int _ x1,.int _ x2]=>RX x0 x1 x2|_=>.any
theorem ahk:dL RI 79:=bH Qa λ_ hp=>fb (afV ..) (ajl _ _ _)
def jZ:Bool:=bif decide (x1<=x0) then decide (x0<=x2) else false
def dv:Int:=E (x0-x2)
def dw:Int:=E (x1-x3)
def uY:Int:=E (E (x0*x2)+E (x1*x3))
def kq:Int:=E (E (x0*x3)-E (x1*x2))
def zp:Int:=max x0 (E (0-x0))
def rx:Int:=max (-1) (min 1 x0)
def abX:Int:=u64.wrap (u64.wrap (u64.wrap (x0.fdiv (2 ^ 32)*x1.fdiv (2 ^ 32))+(u64.wrap (u64.wrap (x0.fdiv (2 ^ 32)*bits BinOp.and u64 x1 4294967295)+(u64.wrap (bits BinOp.and u64 x0 4294967295*bits BinOp.and u64 x1 4294967295)).fdiv (2 ^ 32))).fdiv (2 ^ 32))+(u64.wrap (bits BinOp.and u64 (u64.wrap (u64.wrap (x0.fdiv (2 ^ 32)*bits BinOp.and u64 x1 4294967295)+(u64.wrap (bits BinOp.and u64 x0 4294967295*bits BinOp.and u64 x1 4294967295)).fdiv (2 ^ 32))) 4294967295+u64.wrap (bits BinOp.and u64 x0 4294967295*x1.fdiv (2 ^ 32)))).fdiv (2 ^ 32))
def ac8:Int:=u64.wrap (x0*x1)
def Tj:RT Empty:=.ret (V.bool (x0 !=x0))
theorem hvz:eJ eL (bu JJ Hj u0 NY [D x0]) (Tj x0):=cD
def Ke:Bool:=x0 !=x0
def Rf:V:=.bool (Ke x0)
theorem ah0:bj em (Tj x0) (Rf x0):=Br (by unfold Rf Ke;rfl)
def ahi:aH:=cG M (λ_=>True) λ|[.int _ x0]=>Rf x0|_=>.any
theorem agc:dL ahi 182:=bH Qa λ_ hp=>fb (hvz ..) (ah0 _)
def Tc:bo:=(80,.con TB)::(81,.con ahx)::(79,.con RI)::(182,.con ahi)::Hj
theorem Kq:aX Tryz.prog BD CJ Tc:=.con akb (.con ahq (.con ahk (.con agc (Qa))))
def IL:Int:=abX (u64.wrap x0) (u64.wrap x1)
def Pf:Int:=ac8 (u64.wrap x0) (u64.wrap x1)
def abw:Bool:=bif bif x0==x2&&(x1==x3&&true) then true else decide (x0<x2) then true else bif x0==x2 then decide (x1<x3) else false
def acP:Bool:=bif decide (x2<x0) then true else bif x0==x2 then decide (x3<x1) else false
def yaL:Int:=u64.wrap (u64.wrap (u64.wrap (u64.wrap ((u64.wrap x0).tdiv 4294967296)*u64.wrap ((u64.wrap x1).tdiv 4294967296))+u64.wrap ((u64.wrap (u64.wrap (u64.wrap ((u64.wrap x0).tdiv 4294967296)*(u64.wrap x1).tmod 4294967296)+u64.wrap ((u64.wrap ((u64.wrap x0).tmod 4294967296*(u64.wrap x1).tmod 4294967296)).tdiv 4294967296))).tdiv 4294967296))+u64.wrap ((u64.wrap (u64.wrap ((u64.wrap x0).tmod 4294967296*u64.wrap ((u64.wrap x1).tdiv 4294967296))+(u64.wrap (u64.wrap (u64.wrap ((u64.wrap x0).tdiv 4294967296)*(u64.wrap x1).tmod 4294967296)+u64.wrap ((u64.wrap ((u64.wrap x0).tmod 4294967296*(u64.wrap x1).tmod 4294967296)).tdiv 4294967296))).tmod 4294967296)).tdiv 4294967296))
def Nk:Int:=u64.wrap (u64.wrap (u64.wrap (u64.wrap ((u64.wrap x0).tmod 4294967296*u64.wrap ((u64.wrap x1).tdiv 4294967296))+(u64.wrap (u64.wrap (u64.wrap ((u64.wrap x0).tdiv 4294967296)*(u64.wrap x1).tmod 4294967296)+u64.wrap ((u64.wrap ((u64.wrap x0).tmod 4294967296*(u64.wrap x1).tmod 4294967296)).tdiv 4294967296))).tmod 4294967296)*4294967296)+(u64.wrap ((u64.wrap x0).tmod 4294967296*(u64.wrap x1).tmod 4294967296)).tmod 4294967296)
def m78:RT Empty:=.obc (.obt (.obc (.obt (.obc (.obt (.ret (D (ji (dA x2 x0) (dz x3 x1) (dA x4 x0) (dz x5 x1)))))))))
theorem afZ:eJ eL (bu JJ Tc u0 ajw [V.agg [D x0,D x1,D x2,D x3],V.agg [D x4,D x5]]) (m78 x0 x1 x2 x3 x4 x5):=cD
def xD:Int:=ji (dA x2 x0) (dz x3 x1) (dA x4 x0) (dz x5 x1)
def RQ:V:=D (xD x0 x1 x2 x3 x4 x5)
theorem ajJ:bj em (m78 x0 x1 x2 x3 x4 x5) (RQ x0 x1 x2 x3 x4 x5):=aG (AY (aG (AY (aG (AY (Br (by unfold RQ xD;rfl)))))))
def T8:aH:=cG [.agg lS,.agg cO] (λ_=>True) λ|[.agg [.int _ x0,.int _ x1,.int _ x2,.int _ x3],.agg [.int _ x4,.int _ x5]]=>RQ x0 x1 x2 x3 x4 x5|_=>.any
theorem ajm:dL T8 42:=bH Kq λ_ hp=>fb (afZ ..) (ajJ _ _ _ _ _ _)
def m81:RT Empty:=.br (decide (x0<0)) (.ob (decide (x1≠0)) (.ret (D (E (0-E ((E (E (x1-1)-x0)).tdiv x1)))))) (.ob (decide (x1≠0)) (.ret (D (E (x0.tdiv x1)))))
theorem ae0:eJ eL (bu JJ Tc u0 ajt [D x0,D x1]) (m81 x0 x1):=cD
def qK:Int:=bif decide (x0<0) then E (0-E ((E (E (x1-1)-x0)).tdiv x1)) else E (x0.tdiv x1)
def Qd:V:=D (qK x0 x1)
theorem aj8 (hp:x1≠0):bj em (m81 x0 x1) (Qd x0 x1):=Ct (λh0=>bf (by first|assumption|(simp[hp])) (Br (by unfold Qd qK;try rw[h0];rfl))) (λh0=>bf (by first|assumption|(simp[hp])) (Br (by unfold Qd qK;try rw[h0];rfl)))
def TA:aH:=cG cO (λ
 |[.int _ x0,.int _ x1]=>x1≠0|_=>False) λ
 |[.int _ x0,.int _ x1]=>Qd x0 x1|_=>.any
theorem aji:dL TA 41:=bH Kq λ_ hp=>fb (ae0 ..) (aj8 _ _ hp)
def DY:Int:=bif bif decide (x0<0) then x0.tmod x1 !=0 else false then E (E (x0.tdiv x1)-1) else E (x0.tdiv x1)
end
end Go.Dx
namespace Go.Dx
open Go.IntKind (i64 u64 u8)
open Go.Sx
theorem gG {n:Nat} {P:Nat->Prop} (h:∀ i,i<=n->(i<n->P (i+1))->P i):∀ i,i<=n->P i:=by
 have key:∀ k i,i+k=n->P i:=by
  intro k;induction k with
  |zero=>intro i e;exact h i I λh=>by omega
  |succ k ih=>intro i e;exact h i I λ_=>ih (i+1) I
 exact λi hi=>key (n-i) i I
theorem C4 {x:Int} (N:-9223372036854775808<=x) (Q:x<=9223372036854775807):E x=x:=IntWalk.i64_in _ I
theorem uV {i n:Nat} (h:i<n) (hn:n<=9223372036854775807):E ((i:Int)+1)=((i+1:Nat):Int):=by rw[C4 I I];omega
theorem rG {n:Nat} {p:Nat->Bool}:HC n p=true↔∀i,i<n->p i=true:=⟨dh,gD⟩
theorem jN {n:Nat} {p:Nat->Bool} (i:Nat) (hi:i<n) (h:p i=false):HC n p=false:=by
 cases hb:HC n p with
 |false=>rfl|true=>rw[dh hb i hi]at h;cases h
def DN (p:Nat->Bool):Nat->Nat->Int
 |0,_=>-1|k+1,i=>bif p i then(i:Int) else DN p k (i+1)
def idx (n:Nat) (p:Nat->Bool):Int:=DN p n 0
theorem acR {p:Nat->Bool}:∀ (k i:Nat),(∀ j,i<=j->j<i+k->p j=false)->DN p k i=-1
 |0,_,_=>rfl|k+1,i,h=>by simp only[DN,h i (Dm _) I,cond_false];exact acR k (i+1) λj N Q=>h j I I
theorem aaz {p:Nat->Bool} {j:Nat} (hj:p j=true):∀ (k i:Nat),i<=j->j<i+k->(∀ l,i<=l->l<j->p l=false)->DN p k i=j
 |0,i,N,Q,_=>by omega
 |k+1,i,N,Q,h=>by
   by_cases e:i=j
   ·subst e;simp only[DN,hj,cond_true]
   ·simp only[DN,h i (Dm _) I,cond_false];exact aaz hj k (i+1) I I λl h3 h4=>h l I h4
section
variable {n:Nat} {p:Nat->Bool}
include n p
theorem um (h:∀j,j<n->p j=false):idx n p=-1:=acR n 0 λj _ Q=>h j I
theorem vu {j:Nat} (hj:p j=true) (N:j<n) (h:∀l,l<j->p l=false):idx n p=j:=aaz hj n 0 I I λl _ h4=>h l h4
theorem My:(idx n p=-1/\∀ j,j<n->p j=false)∨∃ j,j<n/\idx n p=(j:Int)/\p j=true/\∀ l,l<j->p l=false:=by
 by_cases h:∀j,j<n->p j=false
 ·exact .inl ⟨um h,h⟩
 ·right
  have:∃j,j<n/\p j=true:=by simp only[Classical.not_forall]at h;obtain⟨j,hj,hp⟩:=h;exact⟨j,hj,by simpa using hp⟩
  have key:∀ m,(∃ j,j<m/\j<n/\p j=true)->∃ j,j<n/\p j=true/\∀ l,l<j->p l=false:=by
   intro m;induction m with
   |zero=>rintro⟨j,hj,_⟩;omega
   |succ m ih=>
     rintro⟨j,hj,hn,hp⟩;by_cases hm:∃j,j<m/\j<n/\p j=true
     ·exact ih hm
     ·refine⟨j,hn,hp,λl hl=>?_⟩
      cases hb:p l with
      |false=>rfl|true=>exact(hm ⟨l,I,I,hb⟩).elim
  obtain⟨j,hj,hp⟩:=this;obtain⟨j,N,Q,h3⟩:=key n ⟨j,hj,hj,hp⟩;exact⟨j,N,vu Q N h3,Q,h3⟩
end
def lq (n:Nat) (p:Nat->Bool):Bool:=!HC n λi=>!p i
theorem mi {n:Nat} {p:Nat->Bool}:decide (0<=idx n p)=lq n p:=by
 rcases My (n:=n) (p:=p) with ⟨N,Q⟩|⟨j,N,Q,h3,_⟩
 ·rw[N];unfold lq;rw[gD λi hi=>by rw[Q i hi];rfl];rfl
 ·rw[Q];unfold lq;rw[jN j N (by rw[h3];rfl)];simp
section
variable {Uc:Type} {step:Uc->RT Uc}
theorem pu {XQ : Int -> Uc} {n:Nat} {p:Nat->Bool} (hn:n<=9223372036854775807)
 (Y0:∀i:Nat,step (XQ i)=.br (decide ((i:Int)<(n:Int))) (.ob (decide (0<=(i:Int)/\(i:Int)<(n:Int))) (.obc (.obt (.br (p i) (.ret (.int .i64 i)) (.next [] (XQ (E ((i:Int)+1))) []))))) (.ret (.int .i64 (-1)))) :
 Ev step (XQ 0) (.int .i64 (idx n p)):=by
 have key:=gG (n:=n) (P:=λi=>(∀ j,j<i->p j=false)->Ev step (XQ i) (.int .i64 (idx n p))) λi hi ih hj=>by
  refine Ev.of (by rw[Y0];rfl) ?_;rw[Y0];refine Ct (λh=>?_) (λh=>?_)
  ·have XD:i<n:=by simpa using h
   refine bf (by simpa using XD) (aG (AY (Ct (λhb=>Br ?_) (λhb=>b9 ?_))))
   ·rw[vu hb XD hj]
   ·rw [uV XD hn]
    exact ih XD λj N=>by
     by_cases e:j=i
     ·subst e;exact hb
     ·exact hj j I
  ·have : i = n := by have:¬ i<n:=by simpa using h
                      omega
   subst this;refine Br ?_;rw[um hj]
 exact key 0 (Ho _) λj hj=>by omega
end
theorem yX {n:Nat} (hn:n<=9223372036854775807) (p:Nat->Bool) {P:Int->Prop} (hstep:∀ i:Nat,i<n->(∀ j,j<i->p j=false)->(p i=false->P (E ((i:Int)+1)))->P i) (hend:(∀ j,j<n->p j=false)->P n):P 0:=by
 have key:=gG (n:=n) (P:=λi=>(∀ j,j<i->p j=false)->P i) λi hi ih hj=>by
  by_cases XD:i<n
  ·refine hstep i XD hj λhp=>?_
   rw[uV XD hn];exact ih XD λj N=>by
    by_cases e:j=i
    ·subst e;exact hp
    ·exact hj j I
  ·have:i=n:=by omega
   subst this;exact hend hj
 exact key 0 (Ho _) λj hj=>by omega
theorem Tv {n:Nat} (hn:n<=9223372036854775807) {P:Int->Prop} (hstep:∀ i:Nat,i<n->P (E ((i:Int)+1))->P i) (hend:P n):P 0 :=
 yX hn (λ_=>false) (λi hi _ h=>hstep i hi (h rfl)) λ_=>hend
section
variable {Uc:Type} {Nx:Uc->V->Prop} {r:V} {x At:RT Uc} {i n:Nat}
theorem kO (h:i<n) (hx:bj Nx x r):bj Nx (.br (decide ((i:Int)<(n:Int))) x At) r:=⟨λ_=>hx,λk=>by have:=Hv k;omega⟩
theorem jW (hy:bj Nx At r):bj Nx (.br (decide ((n:Int)<(n:Int))) x At) r:=⟨(λk=>by have:=HT k;omega),λ_=>hy⟩
theorem il (h:i<n) (hx:bj Nx x r):bj Nx (.ob (decide (0<=(i:Int)/\(i:Int)<(n:Int))) x) r:=⟨decide_eq_true I,hx⟩
theorem iY {b:Bool} (h:b=true) (hx:bj Nx x r):bj Nx (.br b x At) r:=⟨λ_=>hx,λk=>by rw[h]at k;cases k⟩
theorem ib {b:Bool} (h:b=false) (hy:bj Nx At r):bj Nx (.br b x At) r:=⟨(λk=>by rw[h]at k;cases k),λ_=>hy⟩
end
end Go.Dx
namespace Go.Dx
open Go.IntKind (i64 u64 u8)
section
variable {n:Nat} {p:Nat->Bool}
include n p
theorem e7 (i:Nat) (hi:i<n) (h:p i=true):lq n p=true:=by unfold lq;rw[jN i hi (by rw[h];rfl)];rfl
theorem eV (h:∀i,i<n->p i=false):lq n p=false:=by unfold lq;rw[gD λi hi=>by rw[h i hi];rfl];rfl
theorem alw:lq n p=true↔∃ i,i<n/\p i=true:=by
 constructor
 ·intro h
  apply Classical.byContradiction;intro hn;rw[eV λi hi=>by
   cases hp:p i with
   |false=>rfl|true=>exact(hn ⟨i,hi,hp⟩).elim]at h
  cases h
 ·rintro⟨i,hi,h⟩;exact e7 i hi h
end
end Go.Dx
namespace Go.Dx
open Go.IntKind (i64 u64 u8)
open Go.Sx
def fP (n:Nat) (c:Nat->Int):Int:=bif idx n (λi=>c i !=0)==-1 then 0 else idx n λi=>c i !=0
def dP (n:Nat) (c:Nat->Int):Int:=bif idx n (λi=>c i !=0)==-1 then 0 else c (idx n λi=>c i !=0).toNat
theorem gI {n:Nat} {c:Nat->Int} (h:∀j,j<n->(c j !=0)=false):fP n c=0/\dP n c=0:=by unfold fP dP;rw[um h];exact⟨rfl,rfl⟩
theorem cM {n:Nat} {c:Nat->Int} {i:Nat} (hi:i<n) (hc:(c i != 0)=true) (h:∀ j,j<i->(c j != 0)=false):fP n c=i/\dP n c=c i:=by
 unfold fP dP;rw[vu hc hi h];have:((i:Int)==-1)=false:=by rw[Qm];omega
 rw[this];exact⟨rfl,rfl⟩
section
variable {Uc:Type} {step:Uc->RT Uc}
theorem p8 {XQ:Int->Uc} {n:Nat} {c:Nat->Int} {X4:Nat->Prop} {ρ:mQ} (XI:Nat->RT Uc->RT Uc) (hW:∀ i x r,X4 i->bj (Ev step) x r->bj (Ev step) (XI i x) r) (hWn:∀ i x,fF (XI i x)=fF x) (hn:n<=9223372036854775807) (hQ:∀ i,i<n->X4 i)
 (Y0:∀i:Nat,step (XQ i)=.br (decide ((i:Int)<(n:Int))) (.ob (decide (0<=(i:Int)/\(i:Int)<(n:Int))) (.ob (decide (0<=(i:Int)/\(i:Int)<=(n:Int))) (XI i (.br (c i !=0) (.ret (.tup [.int .i64 i,.int .i64 (c i)])) (.next ρ (XQ (E ((i:Int)+1))) []))))) (.ret (.tup [.int .i64 0,.int .i64 0]))) :
 Ev step (XQ 0) (.tup [.int .i64 (fP n c),.int .i64 (dP n c)]) :=
 yX hn (λi=>c i != 0) (P:=λi=>Ev step (XQ i) (.tup [.int .i64 (fP n c),.int .i64 (dP n c)])) (λi XD hj next=>Ev.of (by rw[Y0];simp only[fF,hWn,Q9]) (by
  rw[Y0];refine kO XD (il XD (bf (decide_eq_true I) (hW i _ _ (hQ i XD) (Ct (λhb=>Br ?_) (λhb=>b9 (next hb))))));rw[(cM XD hb hj).1,(cM XD hb hj).2])) (λhj=>Ev.of (by rw[Y0];simp only[fF,hWn,Q9]) (by
  rw[Y0];refine jW (Br ?_);rw[(gI hj).1,(gI hj).2]))
end
def aT (n:Nat) (f:bl):Prop:=∀i,i<n->(sv (aI (f i))).size<=9223372036854775807
end Go.Dx
namespace Go.Dx
open Go.IntKind (i64 u64 u8)
open Go.Sx Go.Proofs
variable (H:Nat) (G:bl) (x0:Int) (s0:ByteArray) (x1:Int) (q:Nat) (W:bl) (x2:Int) (s2:ByteArray) (x3:Int) (n4:Nat) (f4:bl) (x4 x5:Int) (s5:ByteArray) (n6:Nat) (f6:bl) (x6:Int) (s6:ByteArray) (n7:Nat) (f7:bl) (x7 x8 x9 XH XJ:Int)
noncomputable section
def Rj:bo:=(42,.con T8)::(41,.con TA)::Tc
theorem Up:aX Tryz.prog BD CJ Rj:=.con ajm (.con aji (Kq))
def na1:Bool:=bif decide (vc (dA x4 x0) (dz x5 x1) (dA x2 x0) (dz x3 x1)<=0) then decide (vc (dA x4 x0) (dz x5 x1) (dA x4 x0) (dz x5 x1)<=E (x6*x6)) else bif decide (vc (dA x2 x0) (dz x3 x1) (dA x2 x0) (dz x3 x1)<=vc (dA x4 x0) (dz x5 x1) (dA x2 x0) (dz x3 x1)) then decide (vc (dA x4 x2) (dz x5 x3) (dA x4 x2) (dz x5 x3)<=E (x6*x6)) else abw (IL (max (ji (dA x2 x0) (dz x3 x1) (dA x4 x0) (dz x5 x1)) (E (0-ji (dA x2 x0) (dz x3 x1) (dA x4 x0) (dz x5 x1)))) (max (ji (dA x2 x0) (dz x3 x1) (dA x4 x0) (dz x5 x1)) (E (0-ji (dA x2 x0) (dz x3 x1) (dA x4 x0) (dz x5 x1))))) (Pf (max (ji (dA x2 x0) (dz x3 x1) (dA x4 x0) (dz x5 x1)) (E (0-ji (dA x2 x0) (dz x3 x1) (dA x4 x0) (dz x5 x1)))) (max (ji (dA x2 x0) (dz x3 x1) (dA x4 x0) (dz x5 x1)) (E (0-ji (dA x2 x0) (dz x3 x1) (dA x4 x0) (dz x5 x1))))) (IL (E (x6*x6)) (vc (dA x2 x0) (dz x3 x1) (dA x2 x0) (dz x3 x1))) (Pf (E (x6*x6)) (vc (dA x2 x0) (dz x3 x1) (dA x2 x0) (dz x3 x1)))
def s18:Bool:=bif decide (uY (dv x0 x2) (dw x1 x3) (dv x4 x2) (dw x5 x3)<=0) then decide (uY (dv x0 x2) (dw x1 x3) (dv x0 x2) (dw x1 x3)<=E (x6*x6)) else bif decide (uY (dv x4 x2) (dw x5 x3) (dv x4 x2) (dw x5 x3)<=uY (dv x0 x2) (dw x1 x3) (dv x4 x2) (dw x5 x3)) then decide (uY (dv x0 x4) (dw x1 x5) (dv x0 x4) (dw x1 x5)<=E (x6*x6)) else !acP (yaL (zp (kq (dv x4 x2) (dw x5 x3) (dv x0 x2) (dw x1 x3))) (zp (kq (dv x4 x2) (dw x5 x3) (dv x0 x2) (dw x1 x3)))) (Nk (zp (kq (dv x4 x2) (dw x5 x3) (dv x0 x2) (dw x1 x3))) (zp (kq (dv x4 x2) (dw x5 x3) (dv x0 x2) (dw x1 x3)))) (yaL (E (x6*x6)) (uY (dv x4 x2) (dw x5 x3) (dv x4 x2) (dw x5 x3))) (Nk (E (x6*x6)) (uY (dv x4 x2) (dw x5 x3) (dv x4 x2) (dw x5 x3)))
def abE:Bool:=bif !kq (dv x4 x2) (dw x5 x3) (dv x6 x2) (dw x7 x3)==0 then bif bif bif decide (0<=rx (kq (dv x4 x2) (dw x5 x3) (dv x0 x2) (dw x1 x3))) then decide (0<=rx (kq (dv x6 x4) (dw x7 x5) (dv x0 x4) (dw x1 x5))) else false then decide (0<=rx (kq (dv x2 x6) (dw x3 x7) (dv x0 x6) (dw x1 x7))) else false then true else bif bif decide (rx (kq (dv x4 x2) (dw x5 x3) (dv x0 x2) (dw x1 x3))<=0) then decide (rx (kq (dv x6 x4) (dw x7 x5) (dv x0 x4) (dw x1 x5))<=0) else false then decide (rx (kq (dv x2 x6) (dw x3 x7) (dv x0 x6) (dw x1 x7))<=0) else false else false
def ahr:RT Empty:=.cb (.ret (V.bool (bG x0 (-100000) 100000)))
theorem okQ:eJ eL (bu JJ Rj u0 Wk [D x0]) (ahr x0):=cD
def zG:Bool:=bG x0 (-100000) 100000
def S3:V:=.bool (zG x0)
theorem ad9:bj em (ahr x0) (S3 x0):=aG (AY (Br (by unfold S3 zG;rfl)))
def aga:aH:=cG M (λ_=>True) λ|[.int _ x0]=>S3 x0|_=>.any
theorem aeq:dL aga 156:=bH Up λ_ hp=>fb (okQ ..) (ad9 _)
def Cs:bo:=(156,.con aga)::Rj
theorem AZ:aX Tryz.prog BD CJ Cs:=.con aeq (Up)
def ah5:RT Empty:=dm (x1,q,W,x4,x6,n7,f7,x9) (.ret (V.bool (s0.toList==s5.toList)))
theorem acE:eJ eL (bu JJ Cs u0 af9 [V.agg [V.str s0,D x1,V.sl q (A cO W),D x4],V.pd [V.str s5,D x6,V.sl n7 (A cO f7),D x9]]) (ah5 s0 x1 q W x4 s5 x6 n7 f7 x9):=cD
def yH:Bool:=s0.toList==s5.toList
def Zo:V:=dm (x1,q,W,x4,x6,n7,f7,x9) (.bool (yH s0 s5))
theorem aeu:bj em (ah5 s0 x1 q W x4 s5 x6 n7 f7 x9) (Zo s0 x1 q W x4 s5 x6 n7 f7 x9):=Br (by unfold Zo yH;rfl)
def agd:aH:=cG [.agg ap,.pd ap] (λ_=>True) λ|[.agg [.str s0,.int _ x1,.sl q W,.int _ x4],.pd [.str s5,.int _ x6,.sl n7 f7,.int _ x9]]=>Zo s0 x1 q W x4 s5 x6 n7 f7 x9|_=>.any
theorem agy:dL agd 129:=bH AZ λ_ hp=>fb (acE ..) (aeu _ _ _ _ _ _ _ _ _ _)
def Tr:RT Empty:=.cb (.ii (.obi (.br (!bG x1 1 1000) (.ob (!bG x1 1 1000) (.ob (!bG x1 1 1000) (.cb (.obi (.br (!bG x0 0 (E (x1-1))) (.ob (!bG x0 0 (E (x1-1))) (.cb (.ii (.obi (.br (!bG x3 1 1000) (.ob (!bG x3 1 1000) (.ob (!bG x3 1 1000) (.cb (.ret (V.bool (bG x2 0 (E (x3-1)))))))) (.ret (V.kb true))))))) (.ret (V.kb true))))))) (.ret (V.kb true)))))
theorem aaJ:eJ eL (bu JJ Cs u0 agt [V.agg [D x0,D x1,D x2,D x3]]) (Tr x0 x1 x2 x3):=cD
def kR:Bool:=bif !bG x1 1 1000 then bif !bG x0 0 (E (x1-1)) then bif !bG x3 1 1000 then bG x2 0 (E (x3-1)) else true else true else true
def H8:V:=.bool (kR x0 x1 x2 x3)
theorem agS:bj em (Tr x0 x1 x2 x3) (H8 x0 x1 x2 x3):=aG (AY (CE (CE (CE (Ct (λh0=>bf (by first|assumption|(fail)) (bf (by first|assumption|(fail)) (aG (AY (CE (Ct (λN=>bf (by first|assumption|(fail)) (aG (AY (CE (CE (CE (Ct (λQ=>bf (by first|assumption|(fail)) (bf (by first|assumption|(fail)) (aG (AY (Br (by unfold H8 kR;try rw[h0];try rw[N];try rw[Q];rfl)))))) (λQ=>Br (by unfold H8 kR;try rw[h0];try rw[N];try rw[Q];rfl))))))))) (λN=>Br (by unfold H8 kR;try rw[h0];try rw[N];rfl)))))))) (λh0=>Br (by unfold H8 kR;try rw[h0];rfl)))))))
def agv:aH:=cG [.agg lS] (λ_=>True) λ|[.agg [.int _ x0,.int _ x1,.int _ x2,.int _ x3]]=>H8 x0 x1 x2 x3|_=>.any
theorem afX:dL agv 137:=bH AZ λ_ hp=>fb (aaJ ..) (agS _ _ _ _)
def TI:RT Empty:=dm (x1,x2,x3,x4,x5,x7,x8,x9,XH,XJ) (.ret (V.bool (s0.toList==s6.toList)))
theorem aaa:eJ eL (bu JJ Cs u0 afH [V.agg [V.str s0,D x1,D x2,D x3,D x4,D x5],V.pd [V.str s6,D x7,D x8,D x9,D XH,D XJ]]) (TI s0 x1 x2 x3 x4 x5 s6 x7 x8 x9 XH XJ):=cD
def zY:Bool:=s0.toList==s6.toList
def Rm:V:=dm (x1,x2,x3,x4,x5,x7,x8,x9,XH,XJ) (.bool (zY s0 s6))
theorem ag0:bj em (TI s0 x1 x2 x3 x4 x5 s6 x7 x8 x9 XH XJ) (Rm s0 x1 x2 x3 x4 x5 s6 x7 x8 x9 XH XJ):=Br (by unfold Rm zY;rfl)
def TM:aH:=cG [.agg al,.pd al] (λ_=>True) λ|[.agg [.str s0,.int _ x1,.int _ x2,.int _ x3,.int _ x4,.int _ x5],.pd [.str s6,.int _ x7,.int _ x8,.int _ x9,.int _ XH,.int _ XJ]]=>Rm s0 x1 x2 x3 x4 x5 s6 x7 x8 x9 XH XJ|_=>.any
theorem ahH:dL TM 139:=bH AZ λ_ hp=>fb (aaa ..) (ag0 _ _ _ _ _ _ _ _ _ _ _ _)
def WG:Bool:=HC H λi=>jZ (aE (G i)) (-100000) 100000
inductive BR where|L0 (_:Int)
def acO:BR->bV×List AX×Option Ex
 |.L0 X8=>([(8,D X8),(7,D (H:Int)),(6,V.sl H (A M G)),(4,D 0),(0,V.sl H (A M G)),(1,V.fn 156 [] [])],[],none)
def ad7:BR->JJ
 |.L0 _=>(0,[])
def V7:Bj (cN JJ):=bu JJ Cs u0 E2 [V.sl H (A M G),V.fn 156 [] []]
def EC (cx:List Cx):Lp JJ:=lc (kd (V7 H G) [])
def ahO:JJ->Lp JJ
 |(0,cx)=>EC H G cx|(_,cx)=>EC H G cx
def ajH:LD JJ BR:=⟨ad7,ahO H G,acO H G⟩
def LO:BR->RT BR
 |.L0 X8=>.br (decide (X8<(H:Int))) (.ob (decide (0<=X8/\X8<(H:Int))) (.cb (.br (zG (aE (G X8.toNat))) (.ret (D X8)) (.next [] (BR.L0 (E (X8+1))) [])))) (.ret (D (-1)))
def Zu:RT BR:=dm G (.am H (.enter [] (BR.L0 0) []))
theorem ic6:gU Cs u0 (ajH H G) (V7 H G) (Zu H G) (LO H G):=⟨cD,λs=>by cases s<;>exact cD⟩
def Hm:Int  :=idx H λii=>zG (aE (G ii))
theorem yaY:bj (Ev (LO H G)) (Zu H G) (D (Hm H G)):=ce λhn=>bm (pu hn λi=>rfl)
theorem ahU:bj (Ev (LO H G)) (Zu H G) (D (Hm H (A M G))):=yaY H G
def ahB:aH:=cG [.sl M,.fn 156 [] []] (λ_=>True) λ|[.sl H G,.fn _ [] []]=>D (Hm H G)|_=>.any
theorem ae5:dL ahB 99:=bH AZ λ_ hp=>ra (ic6 ..) (ahU _ _)
def yg:bo:=(129,.con agd)::(137,.con agv)::(139,.con TM)::(99,.con ahB)::Cs
theorem By:aX Tryz.prog BD CJ yg:=.con agy (.con afX (.con ahH (.con ae5 (AZ))))
def m99:RT Empty:=.cb (.ret (V.bool (decide (0<=Hm H (A M G)))))
theorem ael:eJ eL (bu JJ yg u0 TS [V.sl H (A M G),V.fn 156 [] []]) (m99 H G):=cD
def AR:Bool:=decide (0<=Hm H (A M G))
def Ra:V:=.bool (AR H G)
theorem akK:bj em (m99 H G) (Ra H G):=aG (AY (Br (by unfold Ra AR;rfl)))
def TD:aH:=cG [.sl M,.fn 156 [] []] (λ_=>True) λ|[.sl H G,.fn _ [] []]=>Ra H G|_=>.any
theorem akw:dL TD 67:=bH By λ_ hp=>fb (ael ..) (akK _ _)
inductive BN where|L0 (_:Int)
def acp:BN->bV×List AX×Option Ex
 |.L0 X8=>([(8,D X8),(7,D (H:Int)),(6,V.sl H (A ap G)),(4,D 0),(0,V.sl H (A ap G)),(1,V.fn 129 [] [V.pd [V.str s2,D x3,V.sl n4 (A cO f4),D x6]])],[],none)
def afp:BN->JJ
 |.L0 _=>(0,[])
def VT:Bj (cN JJ):=bu JJ yg u0 ahb [V.sl H (A ap G),V.fn 129 [] [V.pd [V.str s2,D x3,V.sl n4 (A cO f4),D x6]]]
def GV (cx:List Cx):Lp JJ:=lc (kd (VT H G s2 x3 n4 f4 x6) [])
def adR:JJ->Lp JJ
 |(0,cx)=>GV H G s2 x3 n4 f4 x6 cx|(_,cx)=>GV H G s2 x3 n4 f4 x6 cx
def ak2:LD JJ BN:=⟨afp,adR H G s2 x3 n4 f4 x6,acp H G s2 x3 n4 f4 x6⟩
def JE (H:Nat) (G:bl) (s2:ByteArray) (x3:Int) (n4:Nat) (f4:bl) (x6:Int):BN->RT BN
 |.L0 X8=>.br (decide (X8<(H:Int))) (.ob (decide (0<=X8/\X8<(H:Int))) (.cb (.br (yH (sv (aI (G X8.toNat))) s2) (.ret (D X8)) (.next [] (BN.L0 (E (X8+1))) [])))) (.ret (D (-1)))
def ZG:RT BN:=dm (G,s2,x3,n4,f4,x6) (.am H (.enter [] (BN.L0 0) []))
theorem ic8:gU yg u0 (ak2 H G s2 x3 n4 f4 x6) (VT H G s2 x3 n4 f4 x6) (ZG H G s2 x3 n4 f4 x6) (JE H G s2 x3 n4 f4 x6):=⟨cD,λs=>by cases s<;>exact cD⟩
def HP:Int  :=idx H λii=>yH (sv (aI (G ii))) s2
theorem hly:bj (Ev (JE H G s2 x3 n4 f4 x6)) (ZG H G s2 x3 n4 f4 x6) (D (HP H G s2)):=ce λhn=>bm (pu hn λi=>rfl)
theorem afO:bj (Ev (JE H G s2 x3 n4 f4 x6)) (ZG H G s2 x3 n4 f4 x6) (D (HP H (A ap G) s2)):=hly H G s2 x3 n4 f4 x6
def Tw:aH:=cG [.sl ap,.fn 129 [] [.pd ap]] (λ_=>True) λ|[.sl H G,.fn _ [] [.pd [.str s2,.int _ x3,.sl n4 f4,.int _ x6]]]=>D (HP H G s2)|_=>.any
theorem adY:dL Tw 158:=bH By λ_ hp=>ra (ic8 ..) (afO _ _ _ _ _ _ _)
inductive BO where|L0 (_:Int)
def aaL:BO->bV×List AX×Option Ex
 |.L0 X8=>([(8,D X8),(7,D (H:Int)),(6,V.sl H (A lS G)),(4,D 0),(0,V.sl H (A lS G)),(1,V.fn 137 [] [])],[],none)
def aft:BO->JJ
 |.L0 _=>(0,[])
def VX:Bj (cN JJ):=bu JJ yg u0 aeB [V.sl H (A lS G),V.fn 137 [] []]
def FK (cx:List Cx):Lp JJ:=lc (kd (VX H G) [])
def aeC:JJ->Lp JJ
 |(0,cx)=>FK H G cx|(_,cx)=>FK H G cx
def ajP:LD JJ BO:=⟨aft,aeC H G,aaL H G⟩
def ND:BO->RT BO
 |.L0 X8=>.br (decide (X8<(H:Int))) (.ob (decide (0<=X8/\X8<(H:Int))) (.cb (.br (kR (aE (G X8.toNat)) (aW (G X8.toNat)) (bZ (G X8.toNat)) (cU (G X8.toNat))) (.ret (D X8)) (.next [] (BO.L0 (E (X8+1))) [])))) (.ret (D (-1)))
def S0:RT BO:=dm G (.am H (.enter [] (BO.L0 0) []))
theorem hv0:gU yg u0 (ajP H G) (VX H G) (S0 H G) (ND H G):=⟨cD,λs=>by cases s<;>exact cD⟩
def H5:Int  :=idx H λii=>kR (aE (G ii)) (aW (G ii)) (bZ (G ii)) (cU (G ii))
theorem alQ:bj (Ev (ND H G)) (S0 H G) (D (H5 H G)):=ce λhn=>bm (pu hn λi=>rfl)
theorem ahS:bj (Ev (ND H G)) (S0 H G) (D (H5 H (A lS G))):=alQ H G
def TR:aH:=cG [.sl lS,.fn 137 [] []] (λ_=>True) λ|[.sl H G,.fn _ [] []]=>D (H5 H G)|_=>.any
theorem agz:dL TR 160:=bH By λ_ hp=>ra (hv0 ..) (ahS _ _)
inductive Aw where|L0 (_:Int)
def ig9:Aw->bV×List AX×Option Ex
 |.L0 X8=>([(8,D X8),(7,D (H:Int)),(6,V.sl H (A al G)),(4,D 0),(0,V.sl H (A al G)),(1,V.fn 139 [] [V.pd [V.str s2,D x3,D x4,D x5,D x6,D x7]])],[],none)
def agq:Aw->JJ
 |.L0 _=>(0,[])
def Xi:Bj (cN JJ):=bu JJ yg u0 aeE [V.sl H (A al G),V.fn 139 [] [V.pd [V.str s2,D x3,D x4,D x5,D x6,D x7]]]
def EF (cx:List Cx):Lp JJ:=lc (kd (Xi H G s2 x3 x4 x5 x6 x7) [])
def afU:JJ->Lp JJ
 |(0,cx)=>EF H G s2 x3 x4 x5 x6 x7 cx|(_,cx)=>EF H G s2 x3 x4 x5 x6 x7 cx
def ale:LD JJ Aw:=⟨agq,afU H G s2 x3 x4 x5 x6 x7,ig9 H G s2 x3 x4 x5 x6 x7⟩
def KH (H:Nat) (G:bl) (s2:ByteArray) (x3 x4 x5 x6 x7:Int):Aw->RT Aw
 |.L0 X8=>.br (decide (X8<(H:Int))) (.ob (decide (0<=X8/\X8<(H:Int))) (.cb (.br (zY (sv (aI (G X8.toNat))) s2) (.ret (D X8)) (.next [] (Aw.L0 (E (X8+1))) [])))) (.ret (D (-1)))
def Ru:RT Aw:=dm (G,s2,x3,x4,x5,x6,x7) (.am H (.enter [] (Aw.L0 0) []))
theorem nc4:gU yg u0 (ale H G s2 x3 x4 x5 x6 x7) (Xi H G s2 x3 x4 x5 x6 x7) (Ru H G s2 x3 x4 x5 x6 x7) (KH H G s2 x3 x4 x5 x6 x7):=⟨cD,λs=>by cases s<;>exact cD⟩
def Hz:Int  :=idx H λii=>zY (sv (aI (G ii))) s2
theorem hs0:bj (Ev (KH H G s2 x3 x4 x5 x6 x7)) (Ru H G s2 x3 x4 x5 x6 x7) (D (Hz H G s2)):=ce λhn=>bm (pu hn λi=>rfl)
theorem adT:bj (Ev (KH H G s2 x3 x4 x5 x6 x7)) (Ru H G s2 x3 x4 x5 x6 x7) (D (Hz H (A al G) s2)):=hs0 H G s2 x3 x4 x5 x6 x7
def ahF:aH:=cG [.sl al,.fn 139 [] [.pd al]] (λ_=>True) λ|[.sl H G,.fn _ [] [.pd [.str s2,.int _ x3,.int _ x4,.int _ x5,.int _ x6,.int _ x7]]]=>D (Hz H G s2)|_=>.any
theorem aeG:dL ahF 161:=bH By λ_ hp=>ra (nc4 ..) (adT _ _ _ _ _ _ _ _)
def HA:bo:=(67,.con TD)::(158,.con Tw)::(160,.con TR)::(161,.con ahF)::yg
theorem Bm:aX Tryz.prog BD CJ HA:=.con akw (.con adY (.con agz (.con aeG (By))))
def m45:RT Empty:=.cb (.ret (V.bool (AR H (A M G))))
theorem ae8:eJ eL (bu JJ HA u0 agM [V.sl H (A M G)]) (m45 H G):=cD
def kr:Bool:=AR H (A M G)
def RP:V:=.bool (kr H G)
theorem ai2:bj em (m45 H G) (RP H G):=aG (AY (Br (by unfold RP kr;rfl)))
def Sq:aH:=cG [.sl M] (λ_=>True) λ|[.sl H G]=>RP H G|_=>.any
theorem aiL:dL Sq 131:=bH Bm λ_ hp=>fb (ae8 ..) (ai2 _ _)
def m90:RT Empty:=dm (x3,n4,f4,x6) (.cb (.ret (V.bool (decide (0<=HP H (A ap G) s2)))))
theorem ags:eJ eL (bu JJ HA u0 ajO [V.sl H (A ap G),V.fn 129 [] [V.pd [V.str s2,D x3,V.sl n4 (A cO f4),D x6]]]) (m90 H G s2 x3 n4 f4 x6):=cD
def sg:Bool:=decide (0<=HP H (A ap G) s2)
def RY:V:=dm (x3,n4,f4,x6) (.bool (sg H G s2))
theorem aka:bj em (m90 H G s2 x3 n4 f4 x6) (RY H G s2 x3 n4 f4 x6):=aG (AY (Br (by unfold RY sg;rfl)))
def TC:aH:=cG [.sl ap,.fn 129 [] [.pd ap]] (λ_=>True) λ|[.sl H G,.fn _ [] [.pd [.str s2,.int _ x3,.sl n4 f4,.int _ x6]]]=>RY H G s2 x3 n4 f4 x6|_=>.any
theorem akk:dL TC 133:=bH Bm λ_ hp=>fb (ags ..) (aka _ _ _ _ _ _ _)
def Ts:RT Empty:=.cb (.ret (V.bool (decide (0<=H5 H (A lS G)))))
theorem aa3:eJ eL (bu JJ HA u0 ah6 [V.sl H (A lS G),V.fn 137 [] []]) (Ts H G):=cD
def ri:Bool:=decide (0<=H5 H (A lS G))
def Rl:V:=.bool (ri H G)
theorem agV:bj em (Ts H G) (Rl H G):=aG (AY (Br (by unfold Rl ri;rfl)))
def ahv:aH:=cG [.sl lS,.fn 137 [] []] (λ_=>True) λ|[.sl H G,.fn _ [] []]=>Rl H G|_=>.any
theorem ahR:dL ahv 138:=bH Bm λ_ hp=>fb (aa3 ..) (agV _ _)
def aia:RT Empty:=dm (x3,x4,x5,x6,x7) (.cb (.ret (V.bool (decide (0<=Hz H (A al G) s2)))))
theorem nf5:eJ eL (bu JJ HA u0 ae2 [V.sl H (A al G),V.fn 139 [] [V.pd [V.str s2,D x3,D x4,D x5,D x6,D x7]]]) (aia H G s2 x3 x4 x5 x6 x7):=cD
def rm:Bool:=decide (0<=Hz H (A al G) s2)
def Rt:V:=dm (x3,x4,x5,x6,x7) (.bool (rm H G s2))
theorem agD:bj em (aia H G s2 x3 x4 x5 x6 x7) (Rt H G s2 x3 x4 x5 x6 x7):=aG (AY (Br (by unfold Rt rm;rfl)))
def Ta:aH:=cG [.sl al,.fn 139 [] [.pd al]] (λ_=>True) λ|[.sl H G,.fn _ [] [.pd [.str s2,.int _ x3,.int _ x4,.int _ x5,.int _ x6,.int _ x7]]]=>Rt H G s2 x3 x4 x5 x6 x7|_=>.any
theorem ae7:dL Ta 140:=bH Bm λ_ hp=>fb (nf5 ..) (agD _ _ _ _ _ _ _ _)
def J3:bo:=(131,.con Sq)::(133,.con TC)::(138,.con ahv)::(140,.con Ta)::HA
theorem DX:aX Tryz.prog BD CJ J3:=.con aiL (.con akk (.con ahR (.con ae7 (Bm))))
def TZ:RT Empty:=.obt (.obt (.cb (.ret (V.bool (kr 2 (A M (bE [D x0,D x1] 0 1)))))))
theorem acn:eJ eL (bu JJ J3 u0 ag1 [V.agg [D x0,D x1]]) (TZ x0 x1):=cD
def rD:Bool:=kr 2 (A M (bE [D x0,D x1] 0 1))
def ZN:V:=.bool (rD x0 x1)
theorem afB:bj em (TZ x0 x1) (ZN x0 x1):=AY (AY (aG (AY (Br (by unfold ZN rD;rfl)))))
def ah7:aH:=cG [.agg cO] (λ_=>True) λ|[.agg [.int _ x0,.int _ x1]]=>ZN x0 x1|_=>.any
theorem afe:dL ah7 130:=bH DX λ_ hp=>fb (acn ..) (afB _ _)
def m65:RT Empty:=dm (H,G) (.cb (.obi (.br (!kr 2 (A M (bE [D x2,D x3] 0 1))) (.ob (!kr 2 (A M (bE [D x2,D x3] 0 1))) (.cb (.ii (.obi (.br (!bG x4 1 20000) (.ob (!bG x4 1 20000) (.ob (!bG x4 1 20000) (.cb (.obi (.br (!bG x5 0 (E (x6-1))) (.ob (!bG x5 0 (E (x6-1))) (.cb (.br (bG x6 1 1000) (.ret (D 7)) (.ret (D 0))))) (.ret (D 7))))))) (.ret (D 7))))))) (.ret (D 7)))))
theorem aen:eJ eL (bu JJ J3 u0 aiT [V.sl H (A AV G),V.agg [D x2,D x3,D x4,D x5,D x6]]) (m65 H G x2 x3 x4 x5 x6):=cD
def ni:Int:=bif !kr 2 (A M (bE [D x2,D x3] 0 1)) then bif !bG x4 1 20000 then bif !bG x5 0 (E (x6-1)) then bif bG x6 1 1000 then 7 else 0 else 7 else 7 else 7
def Z5:V:=dm (H,G) (D (ni x2 x3 x4 x5 x6))
theorem ajf:bj em (m65 H G x2 x3 x4 x5 x6) (Z5 H G x2 x3 x4 x5 x6):=aG (AY (CE (Ct (λh0=>bf (by first|assumption|(fail)) (aG (AY (CE (CE (CE (Ct (λN=>bf (by first|assumption|(fail)) (bf (by first|assumption|(fail)) (aG (AY (CE (Ct (λQ=>bf (by first|assumption|(fail)) (aG (AY (Ct (λh3=>Br (by unfold Z5 ni;try rw[h0];try rw[N];try rw[Q];try rw[h3];rfl)) (λh3=>Br (by unfold Z5 ni;try rw[h0];try rw[N];try rw[Q];try rw[h3];rfl)))))) (λQ=>Br (by unfold Z5 ni;try rw[h0];try rw[N];try rw[Q];rfl)))))))) (λN=>Br (by unfold Z5 ni;try rw[h0];try rw[N];rfl))))))))) (λh0=>Br (by unfold Z5 ni;try rw[h0];rfl)))))
def Sz:aH:=cG [.sl AV,.agg AV] (λ_=>True) λ|[.sl H G,.agg [.int _ x2,.int _ x3,.int _ x4,.int _ x5,.int _ x6]]=>Z5 H G x2 x3 x4 x5 x6|_=>.any
theorem ajR:dL Sz 104:=bH DX λ_ hp=>fb (aen ..) (ajf _ _ _ _ _ _ _)
def m67:RT Empty:=dm (H,G) (.obt (.obt (.obt (.obt (.cb (.br (kr 4 (A M (bE [D x2,D x3,D x4,D x5] 0 1))) (.ret (D 7)) (.br (x2==x4&&(x3==x5&&true)) (.ret (D 2)) (.am n6 (.br (decide (6<(n6:Int))) (.ret (D 3)) (.cb (.br (ri n6 (A lS f6)) (.ret (D 7)) (.ret (D 0)))))))))))))
theorem ahP:eJ eL (bu JJ J3 u0 ald [V.sl H (A ar G),V.agg [D x2,D x3,D x4,D x5,V.sl n6 (A lS f6)]]) (m67 H G x2 x3 x4 x5 n6 f6):=cD
def nl:Int:=bif kr 4 (A M (bE [D x2,D x3,D x4,D x5] 0 1)) then 7 else bif x2==x4&&(x3==x5&&true) then 2 else bif decide (6<(n6:Int)) then 3 else bif ri n6 (A lS f6) then 7 else 0
def Nq:V:=dm (H,G) (D (nl x2 x3 x4 x5 n6 f6))
theorem aiN:bj em (m67 H G x2 x3 x4 x5 n6 f6) (Nq H G x2 x3 x4 x5 n6 f6):=AY (AY (AY (AY (aG (AY (Ct (λh0=>Br (by unfold Nq nl;try rw[h0];rfl)) (λh0=>Ct (λN=>Br (by unfold Nq nl;try rw[h0];try rw[N];rfl)) (λN=>H1 (λa2=>Ct (λQ=>Br (by unfold Nq nl;try rw[h0];try rw[N];try rw[Q];rfl)) (λQ=>aG (AY (Ct (λh3=>Br (by unfold Nq nl;try rw[h0];try rw[N];try rw[Q];try rw[h3];rfl)) (λh3=>Br (by unfold Nq nl;try rw[h0];try rw[N];try rw[Q];try rw[h3];rfl))))))))))))))
def T5:aH:=cG [.sl ar,.agg ar] (λ_=>True) λ|[.sl H G,.agg [.int _ x2,.int _ x3,.int _ x4,.int _ x5,.sl n6 f6]]=>Nq H G x2 x3 x4 x5 n6 f6|_=>.any
theorem akM:dL T5 106:=bH DX λ_ hp=>fb (ahP ..) (aiN _ _ _ _ _ _ _ _)
def PR (i:Nat):Bool:=bif !bif decide (97<=((s0.data.toList.getD i 0).toNat:Int)) then decide (((s0.data.toList.getD i 0).toNat:Int)<=122) else false then bif(i:Int)==0 then true else bif !bif decide (48<=((s0.data.toList.getD i 0).toNat:Int)) then decide (((s0.data.toList.getD i 0).toNat:Int)<=57) else false then((s0.data.toList.getD i 0).toNat:Int)!=45 else false else false
def T0:Bool:=HC s0.size (λi=>!PR s0 i)&&bif decide (0<(s0.size:Int)) then decide ((s0.size:Int)<=24) else false
def s9 (l:List V):Bool:=bif bif bif bif bif decide (aE l<0) then true else decide (aW l<=aE l) then true else decide (1000<aW l) then true else decide (bZ l<0) then true else decide (cU l<=bZ l) then true else decide (1000<cU l)
def RN (x0 x1 x2 x3:Int) (n4:Nat) (f4:bl):Int:=bif !WG 4 (A M (bE [D x0,D x1,D x2,D x3] 0 ((1+1+1+1-0) / 4))) then 7 else bif x0==x2&&(x1==x3&&true) then 2 else bif decide (6<(n4:Int)) then 3 else bif lq n4 (λi=>s9 (f4 i)) then 7 else 0
def BI:bo:=(130,.con ah7)::(104,.con Sz)::(106,.con T5)::J3
theorem GN:aX Tryz.prog BD CJ BI:=.con afe (.con ajR (.con akM (DX)))
inductive AB where|L0 (_:Int)
def adr:AB->bV×List AX×Option Ex
 |.L0 X8=>([(8,D X8),(7,D (H:Int)),(6,V.sl H (A cO G)),(4,D 0),(0,V.sl H (A cO G)),(1,V.fn 130 [] [])],[],none)
def aeK:AB->JJ
 |.L0 _=>(0,[])
def Wj:Bj (cN JJ):=bu JJ BI u0 aeQ [V.sl H (A cO G),V.fn 130 [] []]
def Fi (cx:List Cx):Lp JJ:=lc (kd (Wj H G) [])
def ag2:JJ->Lp JJ
 |(0,cx)=>Fi H G cx|(_,cx)=>Fi H G cx
def ajZ:LD JJ AB:=⟨aeK,ag2 H G,adr H G⟩
def N8:AB->RT AB
 |.L0 X8=>.br (decide (X8<(H:Int))) (.ob (decide (0<=X8/\X8<(H:Int))) (.cb (.br (rD (aE (G X8.toNat)) (aW (G X8.toNat))) (.ret (D X8)) (.next [] (AB.L0 (E (X8+1))) [])))) (.ret (D (-1)))
def Rv:RT AB:=dm G (.am H (.enter [] (AB.L0 0) []))
theorem if2:gU BI u0 (ajZ H G) (Wj H G) (Rv H G) (N8 H G):=⟨cD,λs=>by cases s<;>exact cD⟩
def Hb:Int  :=idx H λii=>rD (aE (G ii)) (aW (G ii))
theorem yba:bj (Ev (N8 H G)) (Rv H G) (D (Hb H G)):=ce λhn=>bm (pu hn λi=>rfl)
theorem aeX:bj (Ev (N8 H G)) (Rv H G) (D (Hb H (A cO G))):=yba H G
def ahw:aH:=cG [.sl cO,.fn 130 [] []] (λ_=>True) λ|[.sl H G,.fn _ [] []]=>D (Hb H G)|_=>.any
theorem ahy:dL ahw 159:=bH GN λ_ hp=>ra (if2 ..) (aeX _ _)
inductive UE where|L0 (_:Int)
def afK:UE->bV×List AX×Option Ex
 |.L0 X8=>([(11,D X8),(10,D (H:Int)),(9,V.sl H (A AV G)),(5,D 0),(4,D 0),(0,V.sl H (A AV G)),(1,V.fn 104 [] [])],[],none)
def ajQ:UE->JJ
 |.L0 _=>(0,[])
def agj:Bj (cN JJ):=bu JJ BI u0 aiX [V.sl H (A AV G),V.fn 104 [] []]
def OA (cx:List Cx):Lp JJ:=lc (kd (agj H G) [])
def aju:JJ->Lp JJ
 |(0,cx)=>OA H G cx|(_,cx)=>OA H G cx
def D64:LD JJ UE:=⟨ajQ,aju H G,afK H G⟩
abbrev JK:=[D 0,D 0]
def ZL:UE->RT UE
 |.L0 X8=>.br (decide (X8<(H:Int))) (.ob (decide (0<=X8/\X8<(H:Int))) (.ob (decide (0<=X8/\X8<=(H:Int))) (.cb (.br (ni (aE (G X8.toNat)) (aW (G X8.toNat)) (bZ (G X8.toNat)) (cU (G X8.toNat)) (cS (G X8.toNat))!=0) (.ret (V.tup [D X8,D (ni (aE (G X8.toNat)) (aW (G X8.toNat)) (bZ (G X8.toNat)) (cU (G X8.toNat)) (cS (G X8.toNat)))])) (.next [] (UE.L0 (E (X8+1))) []))))) (.ret (V.tup JK))
def SI:RT UE:=dm G (.am H (.enter [] (UE.L0 0) []))
theorem ae1:gU BI u0 (D64 H G) (agj H G) (SI H G) (ZL H G):=⟨cD,λs=>by cases s<;>exact cD⟩
def S8 (ii:Nat):Int:=dm H ((ni (aE (G ii)) (aW (G ii)) (bZ (G ii)) (cU (G ii)) (cS (G ii))))
def wO:Int:=fP H (S8 H G)
def oO:Int:=dP H (S8 H G)
theorem hzs:bj (Ev (ZL H G)) (SI H G) (.tup [D (wO H G),D (oO H G)]):=ce λhn=>bm (p8 (X4:=λ_=>True) (λ_ x=>.obc (.obt x)) (λi x r h hx=>aG (AY hx)) (λ_ _=>rfl) hn (λ_ _=>trivial) λi=>rfl)
theorem akz:bj (Ev (ZL H G)) (SI H G) (.tup [D (wO H (A AV G)),D (oO H (A AV G))]):=hzs H G
def Sy:aH:=cG [.sl AV,.fn 104 [] []] (λ_=>True) λ|[.sl H G,.fn _ [] []]=>.tup [D (wO H G),D (oO H G)]|_=>.any
theorem ai9:dL Sy 103:=bH GN λ_ hp=>ra (ae1 ..) (akz _ _)
inductive Uu where|L0 (_:Int)
def afL:Uu->bV×List AX×Option Ex
 |.L0 X8=>([(11,D X8),(10,D (H:Int)),(9,V.sl H (A ar G)),(5,D 0),(4,D 0),(0,V.sl H (A ar G)),(1,V.fn 106 [] [])],[],none)
def aj7:Uu->JJ
 |.L0 _=>(0,[])
def Tz:Bj (cN JJ):=bu JJ BI u0 ai3 [V.sl H (A ar G),V.fn 106 [] []]
def KS (cx:List Cx):Lp JJ:=lc (kd (Tz H G) [])
def akC:JJ->Lp JJ
 |(0,cx)=>KS H G cx|(_,cx)=>KS H G cx
def D66:LD JJ Uu:=⟨aj7,akC H G,afL H G⟩
def Rs:Uu->RT Uu
 |.L0 X8=>.br (decide (X8<(H:Int))) (.ob (decide (0<=X8/\X8<(H:Int))) (.ob (decide (0<=X8/\X8<=(H:Int))) (.cb (.br ((nl (aE (G X8.toNat)) (aW (G X8.toNat)) (bZ (G X8.toNat)) (cU (G X8.toNat)) (aL (aI (L (L (L (L (G X8.toNat))))))) λi=>aw lS (b7 (aI (L (L (L (L (G X8.toNat)))))) i))!=0) (.ret (V.tup [D X8,D (nl (aE (G X8.toNat)) (aW (G X8.toNat)) (bZ (G X8.toNat)) (cU (G X8.toNat)) (aL (aI (L (L (L (L (G X8.toNat))))))) λi=>aw lS (b7 (aI (L (L (L (L (G X8.toNat)))))) i))])) (.next [] (Uu.L0 (E (X8+1))) []))))) (.ret (V.tup JK))
def SJ:RT Uu:=dm G (.am H (.enter [] (Uu.L0 0) []))
theorem afk:gU BI u0 (D66 H G) (Tz H G) (SJ H G) (Rs H G):=⟨cD,λs=>by cases s<;>exact cD⟩
def SA (ii:Nat):Int:=dm H ((nl (aE (G ii)) (aW (G ii)) (bZ (G ii)) (cU (G ii)) (aL (aI (L (L (L (L (G ii))))))) λi=>aw lS (b7 (aI (L (L (L (L (G ii)))))) i)))
def xo:Int:=fP H (SA H G)
def oC:Int:=dP H (SA H G)
theorem ne2:bj (Ev (Rs H G)) (SJ H G) (.tup [D (xo H G),D (oC H G)]):=ce λhn=>bm (p8 (X4:=λ_=>True) (λ_ x=>.obc (.obt x)) (λi x r h hx=>aG (AY hx)) (λ_ _=>rfl) hn (λ_ _=>trivial) λi=>rfl)
theorem ajC:bj (Ev (Rs H G)) (SJ H G) (.tup [D (xo H (A ar G)),D (oC H (A ar G))]):=ne2 H G
def T4:aH:=cG [.sl ar,.fn 106 [] []] (λ_=>True) λ|[.sl H G,.fn _ [] []]=>.tup [D (xo H G),D (oC H G)]|_=>.any
theorem ajY:dL T4 105:=bH GN λ_ hp=>ra (afk ..) (ajC _ _)
end
end Go.Dx
namespace Go.Proofs
open Go.Shelf
def Tryz.lays160_ren:Go.Shelf.Ren:=⟨λ|160=>157|232=>176|231=>175|227=>177|234=>179|233=>178|236=>181|235=>180|228=>186|271=>189|151=>188|197=>187|120=>202|152=>201|260=>200|137=>208|119=>209|224=>210|225=>211|217=>213|266=>214|n=>n,λ|9=>9|4=>4|3=>3|5=>5|117=>249|116=>248|0=>0|124=>252|21=>21|105=>258|46=>237|119=>278|139=>281|138=>280|n=>n,λ|3=>0|4=>1|n=>n⟩
theorem Tryz.lays160:Go.Proofs.Lays.n160 Tryz.prog Tryz.lays160_ren:={
 mixed:=by kernel_rfl
 f119:=Tryz.func209.trans (congrArg some BF)
 f120:=Tryz.func202.trans (congrArg some BF)
 f137:=Tryz.func208.trans (congrArg some BF)
 f151:=Tryz.func188.trans (congrArg some BF)
 f152:=Tryz.func201.trans (congrArg some BF)
 f160:=Tryz.func157.trans (congrArg some BF)
 f197:=Tryz.func187.trans (congrArg some BF)
 f217:=Tryz.func213.trans (congrArg some BF)
 f224:=Tryz.func210.trans (congrArg some BF)
 f225:=Tryz.func211.trans (congrArg some BF)
 f227:=Tryz.func177.trans (congrArg some BF)
 f228:=Tryz.func186.trans (congrArg some BF)
 f231:=Tryz.func175.trans (congrArg some BF)
 f232:=Tryz.func176.trans (congrArg some BF)
 f233:=Tryz.func178.trans (congrArg some BF)
 f234:=Tryz.func179.trans (congrArg some BF)
 f235:=Tryz.func180.trans (congrArg some BF)
 f236:=Tryz.func181.trans (congrArg some BF)
 f260:=Tryz.func200.trans (congrArg some BF)
 f266:=Tryz.func214.trans (congrArg some BF)
 f271:=Tryz.func189.trans (congrArg some BF)
 t0:=Tryz.underlying0
 a0:=Tryz.isAgg0
 z0:=Tryz.sizeOf0
 v0:=Tryz.zeroValue0
 t3:=Tryz.underlying3
 a3:=Tryz.isAgg3
 z3:=Tryz.sizeOf3
 v3:=Tryz.zeroValue3
 t4:=Tryz.underlying4
 a4:=Tryz.isAgg4
 z4:=Tryz.sizeOf4
 v4:=Tryz.zeroValue4
 t5:=Tryz.underlying5
 a5:=Tryz.isAgg5
 z5:=Tryz.sizeOf5
 v5:=Tryz.zeroValue5
 t9:=Tryz.underlying9
 a9:=Tryz.isAgg9
 z9:=Tryz.sizeOf9
 v9:=Tryz.zeroValue9
 t21:=Tryz.underlying21
 a21:=Tryz.isAgg21
 z21:=Tryz.sizeOf21
 v21:=Tryz.zeroValue21
 t46:=Tryz.underlying237
 a46:=Tryz.isAgg237
 z46:=Tryz.sizeOf237
 v46:=Tryz.zeroValue237
 t105:=Tryz.underlying258
 a105:=Tryz.isAgg258
 z105:=Tryz.sizeOf258
 v105:=Tryz.zeroValue258
 t116:=Tryz.underlying248
 a116:=Tryz.isAgg248
 z116:=Tryz.sizeOf248
 t117:=Tryz.underlying249
 a117:=Tryz.isAgg249
 z117:=Tryz.sizeOf249
 v117:=Tryz.zeroValue249
 t119:=Tryz.underlying278
 a119:=Tryz.isAgg278
 z119:=Tryz.sizeOf278
 t124:=Tryz.underlying252
 a124:=Tryz.isAgg252
 z124:=Tryz.sizeOf252
 v124:=Tryz.zeroValue252
 t138:=Tryz.underlying280
 a138:=Tryz.isAgg280
 z138:=Tryz.sizeOf280
 v138:=Tryz.zeroValue280
 t139:=Tryz.underlying281
 a139:=Tryz.isAgg281
 z139:=Tryz.sizeOf281
 v139:=Tryz.zeroValue281
 g3:=by kernel_rfl
 g4:=by kernel_rfl }
end Go.Proofs
namespace Go.Dx
open Go.IntKind (i64 u64 u8)
open Go.Sx Go.Proofs Go.Shelf Go.RowKit
noncomputable section
def RL:ByteArray:=⟨#[97,98,99,100,101,102,103,104,105,106,107,108,109,110,111,112,113,114,115,116,117,118,119,120,121,122,48,49,50,51,52,53,54,55,56,57,45]⟩
def wM (s c:ByteArray):ByteArray:=⟨(Lib.trimS s.data.toList c.data.toList).toArray⟩
def Rk:aH:=cG [.str,.str] (λ
 |[.str s,.str c]=>s.size<=9223372036854775807/\c=RL|_=>False) λ
 |[.str s,.str c]=>.str (wM s c)|_=>.any
theorem aed (s:ByteArray) (w:World) (hs:s.size<=9223372036854775807):Calls Tryz.prog 157 #[.string s,.string RL] w λe w'=>e=.returned (.string (wM s RL))/\Below w.heap.size w w' :=
 Any.strings_Trim_laid Tryz.lays160 BF s RL w hs aA (ascii_of_all aA)
theorem ba.below {B:dj} {m:aJ} {lh:List av} {w w':World} (h:ba B m lh w) (hb:Below w.heap.size w w'):ba B m lh w':=by obtain⟨N,Q,h3,h4,h5⟩:=hb;have YD:B.w0.heap.size<=w'.heap.size:=Jc h.size h4;refine⟨N.trans h.os,Q.trans h.tape,h3.trans h.output,YD,λb hb=>(h5 b (LI hb h.size)).trans (h.old b hb),Jc h.fsize h4,λb hb ho=>(h5 b (LI hb h.fsize)).trans (h.kept b hb ho),λk cs ty hk=>?_,h.inj,h.dom,h.dead,λk b hk=>LI (h.rng k b hk) h4⟩;obtain⟨b,vs,g1,g2,g3,g4⟩:=h.loc k cs ty hk;exact⟨b,vs,g1,g2,(h5 b (h.rng k b g1)).trans g3,g4⟩
theorem afW:(vP Rk).Ok Tryz.prog 157:=by refine⟨λB m lh w args vs K hrel hargs YR=>?_,λ_ _ _ _ _ hk ⟨ds,d,p,r,N,Q,h3,h4,h5⟩=>⟨ds,d,p,r,N,Q,h3,h4,hk _ _ h5⟩,λ_ _ _ _ ⟨_,_,_,_,_,_,_,_,h⟩=>h⟩;obtain⟨ds,d,p,r,N,Q,⟨Yq,h3⟩,h4,h5⟩:=YR;simp only[Rk,cG,H2,Prod.mk.injEq]at Q;obtain⟨rfl,rfl,rfl⟩:=Q;have Ym:=(jj [.str,.str] ds [] [] rfl Yq).1;simp only[bF,cY]at Ym;obtain⟨e1,e2,e3,e4,e5⟩:=Ym;rw[e5]at e3;rw[e3,e2,e4]at e1;generalize sv (aI ds)=s at e1;generalize sv (aI (L ds))=c at e1;subst e1;simp only[ka,Oe]at h3 h4 h5;obtain⟨hs,rfl⟩:=h3;simp only[bp,vr]at N;obtain⟨_,_,rfl,rfl,_,_,rfl,rfl,rfl⟩:=N;simp only[aC,CL]at hargs;obtain⟨_,_,rfl,rfl,_,_,rfl,rfl,rfl⟩:=hargs;refine⟨⟨_,Tryz.func157,by kernel_rfl,by kernel_rfl⟩,(aed s w hs).mono λe w' ⟨he,hb⟩=>?_⟩;exact⟨_,_,m,lh,he,by simp only[cP,CL],iq.refl _ _,ba.below hrel hb,h5⟩
theorem F8 (s:ByteArray) (h:(!s.toList==(⟨#[]⟩:ByteArray).toList)=true):(0:Int)<(s.size:Int):=by
 have e:(⟨#[]⟩:ByteArray).toList=[]:=by decide +kernel
 by_cases hz:s.size=0
 ·have:s=⟨#[]⟩:=by
   cases s with|mk d=>
   have:d=#[]:=Array.eq_empty_of_size_eq_zero hz;rw[this]
  rw[this,e]at h;cases h
 ·omega
end
end Go.Dx
namespace Go.Dx
open Go.IntKind (i64 u64 u8)
open Go.Sx Go.Proofs
variable (H:Nat) (G:bl) (x0:Int) (s0:ByteArray) (x1:Int) (q:Nat) (W:bl) (x2:Int) (s2:ByteArray) (x3:Int) (n4:Nat) (f4:bl) (x4 x5:Int) (n6:Nat) (f6:bl) (x6 x7:Int) (n8:Nat) (f8:bl) (x8 x9:Int)
noncomputable section
def Ps:bo:=(159,.con ahw)::(103,.con Sy)::(105,.con T4)::(157,.con Rk)::BI
theorem O8:aX Tryz.prog BD CJ Ps:=.con ahy (.con ai9 (.con ajY (.con afW (GN))))
def TJ:RT Empty:=.cb (.ret (V.bool (decide (0<=Hb H (A cO G)))))
theorem aaW:eJ eL (bu JJ Ps u0 af6 [V.sl H (A cO G),V.fn 130 [] []]) (TJ H G):=cD
def ki:Bool:=decide (0<=Hb H (A cO G))
def ZR:V:=.bool (ki H G)
theorem ahn:bj em (TJ H G) (ZR H G):=aG (AY (Br (by unfold ZR ki;rfl)))
def TO:aH:=cG [.sl cO,.fn 130 [] []] (λ_=>True) λ|[.sl H G,.fn _ [] []]=>ZR H G|_=>.any
theorem ae9:dL TO 134:=bH O8 λ_ hp=>fb (aaW ..) (ahn _ _)
def TU:RT Empty:=.obp (s0.size<=(9223372036854775807:Nat)/\ByteArray.mk (Array.mk [(97:UInt8),(98:UInt8),(99:UInt8),(100:UInt8),(101:UInt8),(102:UInt8),(103:UInt8),(104:UInt8),(105:UInt8),(106:UInt8),(107:UInt8),(108:UInt8),(109:UInt8),(110:UInt8),(111:UInt8),(112:UInt8),(113:UInt8),(114:UInt8),(115:UInt8),(116:UInt8),(117:UInt8),(118:UInt8),(119:UInt8),(120:UInt8),(121:UInt8),(122:UInt8),(48:UInt8),(49:UInt8),(50:UInt8),(51:UInt8),(52:UInt8),(53:UInt8),(54:UInt8),(55:UInt8),(56:UInt8),(57:UInt8),(45:UInt8)])=ByteArray.mk (Array.mk [(97:UInt8),(98:UInt8),(99:UInt8),(100:UInt8),(101:UInt8),(102:UInt8),(103:UInt8),(104:UInt8),(105:UInt8),(106:UInt8),(107:UInt8),(108:UInt8),(109:UInt8),(110:UInt8),(111:UInt8),(112:UInt8),(113:UInt8),(114:UInt8),(115:UInt8),(116:UInt8),(117:UInt8),(118:UInt8),(119:UInt8),(120:UInt8),(121:UInt8),(122:UInt8),(48:UInt8),(49:UInt8),(50:UInt8),(51:UInt8),(52:UInt8),(53:UInt8),(54:UInt8),(55:UInt8),(56:UInt8),(57:UInt8),(45:UInt8)])) (.obt (.iv (.ii (.obj (bif bif !s0.toList==(ByteArray.mk (Array.mk [])).toList then decide ((↑s0.size:Int)<=24) else false then(wM s0 (ByteArray.mk (Array.mk [97,98,99,100,101,102,103,104,105,106,107,108,109,110,111,112,113,114,115,116,117,118,119,120,121,122,48,49,50,51,52,53,54,55,56,57,45]))).toList==(ByteArray.mk (Array.mk [])).toList else false) (decide ((0:Int)<=0/\0<(↑s0.size:Int))) (.ii (.obi (.obj (bif bif bif !s0.toList==(ByteArray.mk (Array.mk [])).toList then decide ((↑s0.size:Int)<=24) else false then(wM s0 (ByteArray.mk (Array.mk [97,98,99,100,101,102,103,104,105,106,107,108,109,110,111,112,113,114,115,116,117,118,119,120,121,122,48,49,50,51,52,53,54,55,56,57,45]))).toList==(ByteArray.mk (Array.mk [])).toList else false then decide (97<=(↑(s0.data.1.getD 0 0).toNat:Int)) else false) (decide ((0:Int)<=0/\0<(↑s0.size:Int))) (.ii (.ret (V.bool (bif bif bif bif !s0.toList==(ByteArray.mk (Array.mk [])).toList then decide ((↑s0.size:Int)<=24) else false then(wM s0 (ByteArray.mk (Array.mk [97,98,99,100,101,102,103,104,105,106,107,108,109,110,111,112,113,114,115,116,117,118,119,120,121,122,48,49,50,51,52,53,54,55,56,57,45]))).toList==(ByteArray.mk (Array.mk [])).toList else false then decide (97<=(↑(s0.data.1.getD 0 0).toNat:Int)) else false then decide ((↑(s0.data.1.getD 0 0).toNat:Int)<=122) else false)))))))))))
theorem acq:eJ eL (bu JJ Ps u0 aef [V.str s0]) (TU s0):=cD
def mR:Bool:=bif bif bif bif !s0.toList==(ByteArray.mk (Array.mk [])).toList then decide ((↑s0.size:Int)<=24) else false then(wM s0 (ByteArray.mk (Array.mk [97,98,99,100,101,102,103,104,105,106,107,108,109,110,111,112,113,114,115,116,117,118,119,120,121,122,48,49,50,51,52,53,54,55,56,57,45]))).toList==(ByteArray.mk (Array.mk [])).toList else false then decide (97<=(↑(s0.data.1.getD 0 0).toNat:Int)) else false then decide ((↑(s0.data.1.getD 0 0).toNat:Int)<=122) else false
def Rx:V:=.bool (mR s0)
theorem agT (hp:s0.size<=9223372036854775807):bj em (TU s0) (Rx s0):=Cv (by first|assumption|(exact⟨hp,rfl⟩)) (AY (CE (CE (CE (CE (CE (CE (jy (by first|assumption|(intro h;refine Cg ⟨H7 0,F8 s0 ?_⟩;cases hb:(!s0.toList==(⟨#[]⟩:ByteArray).toList) with|true=>rfl|false=>(rw[hb]at h;simp at h))) (CE (CE (CE (jy (by first|assumption|(intro h;refine Cg ⟨H7 0,F8 s0 ?_⟩;cases hb:(!s0.toList==(⟨#[]⟩:ByteArray).toList) with|true=>rfl|false=>(rw[hb]at h;simp at h))) (CE (CE (Br (by unfold Rx mR;rfl))))))))))))))))
def agJ:aH:=cG [.str] (λ
 |[.str s0]=>s0.size<=9223372036854775807|_=>False) λ
 |[.str s0]=>Rx s0|_=>.any
theorem ahs:dL agJ 132:=bH O8 λ_ hp=>fb (acq ..) (agT _ hp)
def Rn (x At h dx dy:Int):Int:=bif bif bif bif !WG 2 (A M (bE [D x,D At] 0 ((1+1-0) / 2))) then true else !jZ h 1 200 then true else !jZ dx (-1000) 1000 then true else !jZ dy (-1000) 1000 then 7 else bif bif dx==0 then dy==0 else false then 2 else 0
def RO:Int:=dm n6 (bif !T0 (sv (aI (f6 x8.toNat))) then 6 else bif lq x8.toNat (λk=>(sv (aI (f6 k))).toList==(sv (aI (f6 x8.toNat))).toList) then 5 else Rn (aW (f6 x8.toNat)) (bZ (f6 x8.toNat)) (cU (f6 x8.toNat)) (cS (f6 x8.toNat)) (bq (f6 x8.toNat)))
def qD:bo:=(136,.inl agf u0)::(135,.inl afh u0)::(134,.con TO)::(132,.con agJ)::Ps
theorem C1:aX Tryz.prog BD CJ qD:=ij Tryz.func136 BF (ij Tryz.func135 BF (.con ae9 (.con ahs (O8))))
inductive rb where|L0 (_:Int) (_:bl)|L1 (_:Int) (_:bl)|L2 (_:Int) (_:bl)|L3 (_:Int) (_:bl)|L4 (_:Int) (_ _:Nat) (_ _ _:Int) (_:Nat) (_ _ _ _:Int) (_:bl)|L5 (_:Int) (_ _:Nat) (_ _ _:Int) (_:Nat) (_ _ _ _:Int) (_:bl)|L6 (_:Int) (_ _:Nat) (_ _ _:Int) (_:Nat) (_ _ _ _:Int) (_:bl)|L7 (_:Int) (_ _:Nat) (_ _ _:Int) (_:Nat) (_ _ _ _:Int) (_:bl)
def Bh (H:Nat) (G:bl) (s2:ByteArray) (x3:Int) (n4:Nat) (f4:bl) (x6:Int):rb->bV×List AX×Option Ex
 |.L0 X8 ZP=>([(3,D X8),(8,V.kb false),(7,D (n4:Int)),(6,V.gs 2 n4),(2,V.ns),(0,V.gs 2 n4)],[AX.cells [V.str s2,D x3,V.sl n4 (A cO f4),D x6] 148,AX.hid,AX.gl 2 n4 (A cO ZP) 49],none)|.L1 YZ Z8=>([(3,D YZ),(8,V.kb false),(7,D (n4:Int)),(6,V.gs 2 n4),(2,V.ns),(0,V.gs 2 n4)],[AX.cells [V.str s2,D x3,V.sl n4 (A cO f4),D x6] 148,AX.hid,AX.gl 2 n4 (A cO Z8) 49],none)|.L2 Xz ul=>([(3,D Xz),(8,V.kb false),(7,D (n4:Int)),(6,V.gs 2 n4),(2,V.ns),(0,V.gs 2 n4)],[AX.cells [V.str s2,D x3,V.sl n4 (A cO f4),D x6] 148,AX.hid,AX.gl 2 n4 (A cO ul) 49],none)|.L3 ZO vM=>([(3,D ZO),(8,V.kb false),(7,D (n4:Int)),(6,V.gs 2 n4),(2,V.ns),(0,V.gs 2 n4)],[AX.cells [V.str s2,D x3,V.sl n4 (A cO f4),D x6] 148,AX.hid,AX.gl 2 n4 (A cO vM) 49],none)|.L4 YJ YW Zw ZW uP b3 b6 b4 b5 uS Z6 ZQ=>([(5,D YJ),(4,V.go 2 YW Zw),(28,V.go 2 YW Zw),(27,D ZW),(26,V.gs 2 n4),(25,V.kb true),(24,V.agg [D uP,D b3]),(23,V.pe 2 b6 0),(22,D b4),(21,D ZW),(20,V.gs 2 n4),(19,V.agg [D b5,D uS]),(18,V.pe 2 YW 0),(17,D ZW),(16,V.gs 2 n4),(13,V.kb true),(12,D (n4:Int)),(11,V.gs 2 n4),(10,D ZW),(3,D Z6),(8,V.kb false),(7,D (n4:Int)),(6,V.gs 2 n4),(2,V.ns),(0,V.gs 2 n4)],[AX.cells [V.str s2,D x3,V.sl n4 (A cO f4),D x6] 148,AX.hid,AX.gl 2 n4 (A cO ZQ) 49],none)|.L5 YI YT ZX ZF Yv ju n0 Zs Zt k₁ Yt Z9=>([(5,D YI),(4,V.go 2 YT ZX),(28,V.go 2 YT ZX),(27,D ZF),(26,V.gs 2 n4),(25,V.kb true),(24,V.agg [D Yv,D ju]),(23,V.pe 2 n0 0),(22,D Zs),(21,D ZF),(20,V.gs 2 n4),(19,V.agg [D Zt,D k₁]),(18,V.pe 2 YT 0),(17,D ZF),(16,V.gs 2 n4),(13,V.kb true),(12,D (n4:Int)),(11,V.gs 2 n4),(10,D ZF),(3,D Yt),(8,V.kb false),(7,D (n4:Int)),(6,V.gs 2 n4),(2,V.ns),(0,V.gs 2 n4)],[AX.cells [V.str s2,D x3,V.sl n4 (A cO f4),D x6] 148,AX.hid,AX.gl 2 n4 (A cO Z9) 49],none)|.L6 xj sJ ue l9 xl xn zg xp xt xu xk vQ=>([(5,D xj),(4,V.go 2 sJ ue),(28,V.go 2 sJ ue),(27,D l9),(26,V.gs 2 n4),(25,V.kb true),(24,V.agg [D xl,D xn]),(23,V.pe 2 zg 0),(22,D xp),(21,D l9),(20,V.gs 2 n4),(19,V.agg [D xt,D xu]),(18,V.pe 2 sJ 0),(17,D l9),(16,V.gs 2 n4),(13,V.kb true),(12,D (n4:Int)),(11,V.gs 2 n4),(10,D l9),(3,D xk),(8,V.kb false),(7,D (n4:Int)),(6,V.gs 2 n4),(2,V.ns),(0,V.gs 2 n4)],[AX.cells [V.str s2,D x3,V.sl n4 (A cO f4),D x6] 148,AX.hid,AX.gl 2 n4 (A cO vQ) 49],none)|.L7 xx sL ug lL y7 y9 zv yZ yi yq xz vR=>([(5,D xx),(4,V.go 2 sL ug),(28,V.go 2 sL ug),(27,D lL),(26,V.gs 2 n4),(25,V.kb true),(24,V.agg [D y7,D y9]),(23,V.pe 2 zv 0),(22,D yZ),(21,D lL),(20,V.gs 2 n4),(19,V.agg [D yi,D yq]),(18,V.pe 2 sL 0),(17,D lL),(16,V.gs 2 n4),(13,V.kb true),(12,D (n4:Int)),(11,V.gs 2 n4),(10,D lL),(3,D xz),(8,V.kb false),(7,D (n4:Int)),(6,V.gs 2 n4),(2,V.ns),(0,V.gs 2 n4)],[AX.cells [V.str s2,D x3,V.sl n4 (A cO f4),D x6] 148,AX.hid,AX.gl 2 n4 (A cO vR) 49],none)
def ai7:rb->JJ
 |.L0 ..=>(0,[])|.L1 ..=>(1,[])|.L2 ..=>(2,[])|.L3 ..=>(3,[])|.L4 ..=>(4,[])|.L5 ..=>(5,[])|.L6 ..=>(6,[])|.L7 ..=>(7,[])
def Kx:Bj (cN JJ):=bu JJ qD u0 ai6 [V.sl H (A ap G),V.agg [V.str s2,D x3,V.sl n4 (A cO f4),D x6]]
def DG (cx:List Cx):Lp JJ:=lc (kd (Kx H G s2 x3 n4 f4 x6) [false,false,false,false,false,true,false,true,true,false,true,false])
def J1 (cx:List Cx):Lp JJ:=lc (kd (Kx H G s2 x3 n4 f4 x6) [false,false,false,false,false,true,false,true,true,false,false,false])
def Jw (cx:List Cx):Lp JJ:=lc (kd (Kx H G s2 x3 n4 f4 x6) [false,false,false,false,false,true,false,true,false,false,false])
def KQ (cx:List Cx):Lp JJ:=lc (kd (Kx H G s2 x3 n4 f4 x6) [false,false,false,false,false,true,false,false,false,false])
abbrev N3:=[true,true]
def m62 (cx:List Cx):Lp JJ:=lc (kd (Kb qD u0 (0,[]) (DG H G s2 x3 n4 f4 x6 []) (Bh H G s2 x3 n4 f4 x6 (.L0 (0:Int) (λ_=>[])))) N3)
def adh (cx:List Cx):Lp JJ:=lc (kd (Kb qD u0 (1,[]) (J1 H G s2 x3 n4 f4 x6 []) (Bh H G s2 x3 n4 f4 x6 (.L1 (0:Int) (λ_=>[])))) N3)
def ace (cx:List Cx):Lp JJ:=lc (kd (Kb qD u0 (2,[]) (Jw H G s2 x3 n4 f4 x6 []) (Bh H G s2 x3 n4 f4 x6 (.L2 (0:Int) (λ_=>[])))) N3)
def adg (cx:List Cx):Lp JJ:=lc (kd (Kb qD u0 (3,[]) (KQ H G s2 x3 n4 f4 x6 []) (Bh H G s2 x3 n4 f4 x6 (.L3 (0:Int) (λ_=>[])))) N3)
def ak8:JJ->Lp JJ
 |(0,cx)=>DG H G s2 x3 n4 f4 x6 cx|(1,cx)=>J1 H G s2 x3 n4 f4 x6 cx|(2,cx)=>Jw H G s2 x3 n4 f4 x6 cx|(3,cx)=>KQ H G s2 x3 n4 f4 x6 cx|(4,cx)=>m62 H G s2 x3 n4 f4 x6 cx|(5,cx)=>adh H G s2 x3 n4 f4 x6 cx|(6,cx)=>ace H G s2 x3 n4 f4 x6 cx|(7,cx)=>adg H G s2 x3 n4 f4 x6 cx|(_,cx)=>DG H G s2 x3 n4 f4 x6 cx
def D63:LD JJ rb:=⟨ai7,ak8 H G s2 x3 n4 f4 x6,Bh H G s2 x3 n4 f4 x6⟩
def Ip (mk:Int->Nat->Nat->Int->Int->Int->Nat->Int->Int->Int->Int->(Nat->List V)->rb) (YI:Int) (YT:Nat) (ZX:Nat) (ZF:Int) (Yv:Int) (ju:Int) (n0:Nat) (Zs:Int) (Zt:Int) (k₁:Int) (Yt:Int) (Z9:bl):RT rb:=.br (decide (YI<(↑ZX:Int))) (.ob (decide (0<=YI/\YI<(↑ZX:Int)/\YT+ZX<=n4)) (.ob (decide (YT+YI.toNat<n4)) (.ob (decide (0<=E (YI-1)/\E (YI-1)<(↑ZX:Int)/\YT+ZX<=n4)) (.ob (decide (YT+(E (YI-1)).toNat<n4)) (.br (!(aE (Z9 (YT+YI.toNat))==aE (Z9 (YT+(E (YI-1)).toNat))&&(aW (Z9 (YT+YI.toNat))==aW (Z9 (YT+(E (YI-1)).toNat))&&true))) (.ob (decide (0<=YI/\YI<(↑ZX:Int)/\YT+ZX<=n4)) (.ob (decide (YT+YI.toNat<n4)) (.ob (decide (0<=Yt/\Yt<(n4:Int)/\n4<=n4)) (.ob (decide (Yt.toNat<n4)) (.next (iR 0 3 []) (mk (E (YI+1)) YT ZX ZF Yv ju n0 Zs Zt k₁ (E (Yt+1)) (λi'=>bif i'.beq Yt.toNat then [D (aE (Z9 (YT+YI.toNat))),D (aW (Z9 (YT+YI.toNat)))] else A cO Z9 i')) [⟨2,cO,n4,λi'=>bif i'.beq Yt.toNat then [D (aE (Z9 (YT+YI.toNat))),D (aW (Z9 (YT+YI.toNat)))] else A cO Z9 i',Nj rfl (fp rfl _ _) rfl⟩]))))) (.next (iR 0 3 []) (mk (E (YI+1)) YT ZX ZF Yv ju n0 Zs Zt k₁ Yt (A cO Z9)) [⟨2,cO,n4,A cO Z9,fp rfl _ _⟩])))))) (.ob (decide (0<=Yt/\Yt<=(n4:Int))) (.ob (decide (0<n4-Yt.toNat/\Yt.toNat+(n4-Yt.toNat)<=n4)) (.ob (decide (0<=Yt/\Yt<=(n4:Int))) (.br (decide ((↑Yt.toNat:Int)<(n4:Int))) (.ret (D 2)) (.ii (.asm ((x3==3)=true->n4<=9223372036854775807) (.ii (.br (bif x3==3 then decide (2<(n4:Int)) else false) (.ret (D 2)) (.ret (D 0))))))))))
def IZ (mk:Int->(Nat->List V)->rb) (mk2:Int->Nat->Nat->Int->Int->Int->Nat->Int->Int->Int->Int->(Nat->List V)->rb) (YZ:Int) (Z8:bl):RT rb:=.br (decide (YZ<(n4:Int))) (.ob (decide (0<=YZ/\YZ<(n4:Int)/\n4<=n4)) (.ob (decide (YZ.toNat<n4)) (.ob (decide (0<=E (YZ-1)/\E (YZ-1)<(n4:Int)/\n4<=n4)) (.ob (decide ((E (YZ-1)).toNat<n4)) (.br (aE (Z8 YZ.toNat)==aE (Z8 (E (YZ-1)).toNat)&&(aW (Z8 YZ.toNat)==aW (Z8 (E (YZ-1)).toNat)&&true)) (.ob (decide (0<=YZ/\YZ<=(n4:Int))) (.enter (iR 0 3 []) (mk2 1 (YZ.toNat) (n4-YZ.toNat) YZ (aE (Z8 (E (YZ-1)).toNat)) (aW (Z8 (E (YZ-1)).toNat)) ((E (YZ-1)).toNat) (E (YZ-1)) (aE (Z8 YZ.toNat)) (aW (Z8 YZ.toNat)) YZ (A cO Z8)) [⟨2,cO,n4,A cO Z8,fp rfl _ _⟩])) (.next (iR 0 3 []) (mk (E (YZ+1)) (A cO Z8)) [⟨2,cO,n4,A cO Z8,fp rfl _ _⟩])))))) (.br (decide ((n4:Int)<(n4:Int))) (.ret (D 2)) (.ii (.asm ((x3==3)=true->n4<=9223372036854775807) (.ii (.br (bif x3==3 then decide (2<(n4:Int)) else false) (.ret (D 2)) (.ret (D 0)))))))
def o8 (H:Nat) (G:bl) (s2:ByteArray) (x3:Int) (n4:Nat) (f4:bl) (x6:Int):rb->RT rb
 |.L0 X8 ZP=>.br (decide (X8<(n4:Int))) (.ob (decide (0<=X8/\X8<(n4:Int)/\n4<=n4)) (.ob (decide (X8.toNat<n4)) (.ob (decide (0<=E (X8-1)/\E (X8-1)<(n4:Int)/\n4<=n4)) (.ob (decide ((E (X8-1)).toNat<n4)) (.br (aE (ZP X8.toNat)==aE (ZP (E (X8-1)).toNat)&&(aW (ZP X8.toNat)==aW (ZP (E (X8-1)).toNat)&&true)) (.ob (decide (0<=X8/\X8<=(n4:Int))) (.enter (iR 0 3 []) (rb.L4 1 (X8.toNat) (n4-X8.toNat) X8 (aE (ZP (E (X8-1)).toNat)) (aW (ZP (E (X8-1)).toNat)) ((E (X8-1)).toNat) (E (X8-1)) (aE (ZP X8.toNat)) (aW (ZP X8.toNat)) X8 (A cO ZP)) [⟨2,cO,n4,A cO ZP,fp rfl _ _⟩])) (.next (iR 0 3 []) (rb.L0 (E (X8+1)) (A cO ZP)) [⟨2,cO,n4,A cO ZP,fp rfl _ _⟩])))))) (.am n4 (.br (decide ((n4:Int)<(n4:Int))) (.ret (D 2)) (.ii (.asm ((x3==3)=true->n4<=9223372036854775807) (.ii (.br (bif x3==3 then decide (2<(n4:Int)) else false) (.ret (D 2)) (.ret (D 0))))))))|.L1 YZ Z8=>IZ x3 n4 rb.L1 rb.L5 YZ Z8|.L2 Xz ul=>IZ x3 n4 rb.L2 rb.L6 Xz ul|.L3 ZO vM=>IZ x3 n4 rb.L3 rb.L7 ZO vM|.L4 YJ YW Zw ZW uP b3 b6 b4 b5 uS Z6 ZQ=>.br (decide (YJ<(↑Zw:Int))) (.ob (decide (0<=YJ/\YJ<(↑Zw:Int)/\YW+Zw<=n4)) (.ob (decide (YW+YJ.toNat<n4)) (.ob (decide (0<=E (YJ-1)/\E (YJ-1)<(↑Zw:Int)/\YW+Zw<=n4)) (.ob (decide (YW+(E (YJ-1)).toNat<n4)) (.br (!(aE (ZQ (YW+YJ.toNat))==aE (ZQ (YW+(E (YJ-1)).toNat))&&(aW (ZQ (YW+YJ.toNat))==aW (ZQ (YW+(E (YJ-1)).toNat))&&true))) (.ob (decide (0<=YJ/\YJ<(↑Zw:Int)/\YW+Zw<=n4)) (.ob (decide (YW+YJ.toNat<n4)) (.ob (decide (0<=Z6/\Z6<(n4:Int)/\n4<=n4)) (.ob (decide (Z6.toNat<n4)) (.next (iR 0 3 []) (rb.L4 (E (YJ+1)) YW Zw ZW uP b3 b6 b4 b5 uS (E (Z6+1)) (λi'=>bif i'.beq Z6.toNat then [D (aE (ZQ (YW+YJ.toNat))),D (aW (ZQ (YW+YJ.toNat)))] else A cO ZQ i')) [⟨2,cO,n4,λi'=>bif i'.beq Z6.toNat then [D (aE (ZQ (YW+YJ.toNat))),D (aW (ZQ (YW+YJ.toNat)))] else A cO ZQ i',Nj rfl (fp rfl _ _) rfl⟩]))))) (.next (iR 0 3 []) (rb.L4 (E (YJ+1)) YW Zw ZW uP b3 b6 b4 b5 uS Z6 (A cO ZQ)) [⟨2,cO,n4,A cO ZQ,fp rfl _ _⟩])))))) (.ob (decide (0<=Z6/\Z6<=(n4:Int))) (.ob (decide (0<n4-Z6.toNat/\Z6.toNat+(n4-Z6.toNat)<=n4)) (.ob (decide (0<=Z6/\Z6<=(n4:Int))) (.am n4 (.br (decide ((↑Z6.toNat:Int)<(n4:Int))) (.ret (D 2)) (.ii (.asm ((x3==3)=true->n4<=9223372036854775807) (.ii (.br (bif x3==3 then decide (2<(n4:Int)) else false) (.ret (D 2)) (.ret (D 0)))))))))))|.L5 YI YT ZX ZF Yv ju n0 Zs Zt k₁ Yt Z9=>Ip x3 n4 rb.L5 YI YT ZX ZF Yv ju n0 Zs Zt k₁ Yt Z9|.L6 xj sJ ue l9 xl xn zg xp xt xu xk vQ=>Ip x3 n4 rb.L6 xj sJ ue l9 xl xn zg xp xt xu xk vQ|.L7 xx sL ug lL y7 y9 zv yZ yi yq xz vR=>Ip x3 n4 rb.L7 xx sL ug lL y7 y9 zv yZ yi yq xz vR
def SH:RT rb:=.obp (s2.size<=(9223372036854775807:Nat)) (.obt (.br (!mR s2) (.ret (D 6)) (.cb (.br (sg H (A ap G) s2) (.ret (D 5)) (.cb (.br (bG x3 0 3) (.ret (D 2)) (.am n4 (.br (decide ((n4:Int)<2)) (.ret (D 4)) (.am n4 (.br (decide (8<(n4:Int))) (.ret (D 3)) (.cb (.obi (.br (!ki n4 (A cO f4)) (.ob (!ki n4 (A cO f4)) (.cb (.br (bG x6 100 30000) (.ret (D 7)) (.und (.und (.und (.asm (n4=0) (.und (.brt (.am n4 (.br (decide (0<(n4:Int))) (.ret (D 2)) (.ii (.asm ((x3==3)=true->n4<=9223372036854775807) (.ii (.br (bif x3==3 then decide (2<(n4:Int)) else false) (.ret (D 2)) (.ret (D 0))))))))) (.am n4 (.brt (.br (decide (0<(n4:Int))) (.ret (D 2)) (.ii (.asm ((x3==3)=true->n4<=9223372036854775807) (.ii (.br (bif x3==3 then decide (2<(n4:Int)) else false) (.ret (D 2)) (.ret (D 0))))))))))) (.obv (HC n4 λi=>lY 2 (A cO f4 i)) (zX rfl _ _) (.ob (decide (n4*16<=140737488355328)&&!Nat.beq 16 0) (.und (.br (decide ((n4:Int)<2)) (.am n4 (.br (decide ((n4:Int)<(n4:Int))) (.ret (D 2)) (.ii (.asm ((x3==3)=true->n4<=9223372036854775807) (.ii (.br (bif x3==3 then decide (2<(n4:Int)) else false) (.ret (D 2)) (.ret (D 0)))))))) (.enter (iR 0 3 []) (rb.L0 1 (A cO f4)) [⟨2,cO,n4,A cO f4,fp rfl _ _⟩])) (.am n4 (.br (decide ((n4:Int)<2)) (.br (decide ((n4:Int)<(n4:Int))) (.ret (D 2)) (.ii (.asm ((x3==3)=true->n4<=9223372036854775807) (.ii (.br (bif x3==3 then decide (2<(n4:Int)) else false) (.ret (D 2)) (.ret (D 0))))))) (.enter (iR 0 3 []) (rb.L1 1 (A cO f4)) [⟨2,cO,n4,A cO f4,fp rfl _ _⟩]))))))) (.am n4 (.und (.asm (n4=0) (.brt (.br (decide (0<(n4:Int))) (.ret (D 2)) (.ii (.asm ((x3==3)=true->n4<=9223372036854775807) (.ii (.br (bif x3==3 then decide (2<(n4:Int)) else false) (.ret (D 2)) (.ret (D 0))))))))) (.obv (HC n4 λi=>lY 2 (A cO f4 i)) (zX rfl _ _) (.ob (decide (n4*16<=140737488355328)&&!Nat.beq 16 0) (.br (decide ((n4:Int)<2)) (.br (decide ((n4:Int)<(n4:Int))) (.ret (D 2)) (.ii (.asm ((x3==3)=true->n4<=9223372036854775807) (.ii (.br (bif x3==3 then decide (2<(n4:Int)) else false) (.ret (D 2)) (.ret (D 0))))))) (.enter (iR 0 3 []) (rb.L2 1 (A cO f4)) [⟨2,cO,n4,A cO f4,fp rfl _ _⟩]))))))) (.am n4 (.und (.asm (n4=0) (.brt (.br (decide (0<(n4:Int))) (.ret (D 2)) (.ii (.asm ((x3==3)=true->n4<=9223372036854775807) (.ii (.br (bif x3==3 then decide (2<(n4:Int)) else false) (.ret (D 2)) (.ret (D 0))))))))) (.obv (HC n4 λi=>lY 2 (A cO f4 i)) (zX rfl _ _) (.ob (decide (n4*16<=140737488355328)&&!Nat.beq 16 0) (.br (decide ((n4:Int)<2)) (.br (decide ((n4:Int)<(n4:Int))) (.ret (D 2)) (.ii (.asm ((x3==3)=true->n4<=9223372036854775807) (.ii (.br (bif x3==3 then decide (2<(n4:Int)) else false) (.ret (D 2)) (.ret (D 0))))))) (.enter (iR 0 3 []) (rb.L3 1 (A cO f4)) [⟨2,cO,n4,A cO f4,fp rfl _ _⟩])))))))))) (.ret (D 7)))))))))))))))
theorem aeO:gU qD u0 (D63 H G s2 x3 n4 f4 x6) (Kx H G s2 x3 n4 f4 x6) (SH H G s2 x3 n4 f4 x6) (o8 H G s2 x3 n4 f4 x6):=⟨cD,λs=>by cases s<;>exact cD⟩
def wv (f:bl) (i j:Nat):Bool:=aE (f i)==aE (f j)&&(aW (f i)==aW (f j)&&true)
def ta (n:Nat) (f:bl):Bool:=lq n λi=>decide (0<i)&&wv f i (i-1)
def je (x3:Int) (n4:Nat):Int:=bif bif x3==3 then decide (2<(n4:Int)) else false then 2 else 0
def Vg (H:Nat) (G:bl) (s2:ByteArray) (x3:Int) (n4:Nat) (f4:bl) (x6:Int):Int:=bif !mR s2 then 6 else bif sg H G s2 then 5 else bif bG x3 0 3 then 2 else bif decide ((n4:Int)<2) then 4 else bif decide (8<(n4:Int)) then 3 else bif !!ki n4 f4 then 7 else bif bG x6 100 30000 then 7 else bif ta n4 f4 then 2 else je x3 n4
theorem afS {Uc:Type} {Nx:Uc->V->Prop} {x3:Int} {n4:Nat} {X1:Prop}:bj Nx (.obi (.obi (.asm X1 (.obi (.obi (.br (bif x3==3 then decide (2<(n4:Int)) else false) (.ret (D 2)) (.ret (D 0)))))))) (D (je x3 n4)):=by refine CE (CE (H1 λ_=>CE (CE (Ct (λh=>Br ?_) (λh=>Br ?_)))))<;>(unfold je;rw[h];rfl)
theorem ag7 (h8:n4<=8) (k0:Nat) (hk:1<=k0) (YP:k0<n4) (t1 t2 t3:Int) (t4:Nat) (t5 t6 t7:Int):(∀ k2:Nat,k2<=n4-k0->1<=k2->∀ (k:Nat) (f:bl),k+1<=k0+k2->Ev (o8 H G s2 x3 n4 f4 x6) (.L4 k2 k0 (n4-k0) t1 t2 t3 t4 t5 t6 t7 k f) (D 2))/\(∀ k2:Nat,k2<=n4-k0->1<=k2->∀ (k:Nat) (f:bl),k+1<=k0+k2->Ev (o8 H G s2 x3 n4 f4 x6) (.L5 k2 k0 (n4-k0) t1 t2 t3 t4 t5 t6 t7 k f) (D 2))/\(∀ k2:Nat,k2<=n4-k0->1<=k2->∀ (k:Nat) (f:bl),k+1<=k0+k2->Ev (o8 H G s2 x3 n4 f4 x6) (.L6 k2 k0 (n4-k0) t1 t2 t3 t4 t5 t6 t7 k f) (D 2))/\(∀ k2:Nat,k2<=n4-k0->1<=k2->∀ (k:Nat) (f:bl),k+1<=k0+k2->Ev (o8 H G s2 x3 n4 f4 x6) (.L7 k2 k0 (n4-k0) t1 t2 t3 t4 t5 t6 t7 k f) (D 2)):=by
 refine⟨?_,?_,?_,?_⟩
 all_goals
  refine gG λk2 Zb ih N k f ih10=>Ev.of rfl ?_;have w1:E ((k2:Int)-1)=((k2-1:Nat):Int):=by rw[C4 I I];omega
  have w2:E ((k2:Int)+1)=((k2+1:Nat):Int):=by rw[C4 I I];omega
  have w3:E ((k:Int)+1)=((k+1:Nat):Int):=by rw[C4 I I];omega
  refine Ct (λh=>?_) (λh=>?_)
  ·have XD:k2<n4-k0:=by have:=HT h;omega
   refine bf (Cg I) (bf (Cg I) (bf (Cg (by rw[w1];omega)) (bf (Cg (by rw[w1];omega)) (Ct (λ_=>?_) (λ_=>?_)))))
   ·refine bf (Cg I) (bf (Cg I) (bf (Cg I) (bf (Cg I) (b9 ?_))));rw[w2,w3];exact ih XD I (k+1) _ I
   ·refine b9 ?_;rw[w2];exact ih XD I k _ I
  ·have Z1:¬ k2<n4-k0:=by have:=Hv h;omega
   refine bf (Cg I) (bf (Cg I) (bf (Cg I) ?_))
   try refine H1 λ_=>?_
   exact iY (Cg I) (Br rfl)
theorem afv (h8:n4<=8) (Q:2<=n4):(∀ i:Nat,i<=n4->1<=i->(∀ j,j<i->(decide (0<j)&&wv f4 j (j-1))=false)->∀ f:bl,(∀ i j,wv f i j=wv f4 i j)->Ev (o8 H G s2 x3 n4 f4 x6) (.L0 i f) (D (bif ta n4 f4 then 2 else je x3 n4)))/\(∀ i:Nat,i<=n4->1<=i->(∀ j,j<i->(decide (0<j)&&wv f4 j (j-1))=false)->∀ f:bl,(∀ i j,wv f i j=wv f4 i j)->Ev (o8 H G s2 x3 n4 f4 x6) (.L1 i f) (D (bif ta n4 f4 then 2 else je x3 n4)))/\(∀ i:Nat,i<=n4->1<=i->(∀ j,j<i->(decide (0<j)&&wv f4 j (j-1))=false)->∀ f:bl,(∀ i j,wv f i j=wv f4 i j)->Ev (o8 H G s2 x3 n4 f4 x6) (.L2 i f) (D (bif ta n4 f4 then 2 else je x3 n4)))/\(∀ i:Nat,i<=n4->1<=i->(∀ j,j<i->(decide (0<j)&&wv f4 j (j-1))=false)->∀ f:bl,(∀ i j,wv f i j=wv f4 i j)->Ev (o8 H G s2 x3 n4 f4 x6) (.L3 i f) (D (bif ta n4 f4 then 2 else je x3 n4))):=by
 refine⟨?_,?_,?_,?_⟩
 all_goals
  refine gG λi hi ih N hj f hf=>Ev.of rfl ?_;have w1:E ((i:Int)-1)=((i-1:Nat):Int):=by rw[C4 I I];omega
  have w2:E ((i:Int)+1)=((i+1:Nat):Int):=by rw[C4 I I];omega
  refine Ct (λh=>?_) (λh=>?_)
  ·have XD:i<n4:=by have:=HT h;omega
   refine bf (Cg I) (bf (Cg I) (bf (Cg (by rw[w1];omega)) (bf (Cg (by rw[w1];omega)) (Ct (λhb=>?_) (λhb=>?_)))))
   ·have Xw:wv f4 i (i-1)=true:=by
     rw[← hf];rw[w1]at hb;simpa only[Hk,wv] using hb
    rw[show ta n4 f4=true from e7 i XD (by rw[Xw];simp;omega),cond_true];refine bf (Cg I) (bm ?_);have X1:=ag7 H G s2 x3 n4 f4 x6 h8 i N XD;simp only[Hk]
    first|exact(X1 _ _ _ _ _ _ _).1 1 I I i _ I|exact(X1 _ _ _ _ _ _ _).2.1 1 I I i _ I|exact(X1 _ _ _ _ _ _ _).2.2.1 1 I I i _ I|exact(X1 _ _ _ _ _ _ _).2.2.2 1 I I i _ I
   ·have Xw:wv f4 i (i-1)=false:=by
     rw[← hf];rw[w1]at hb;simpa only[Hk,wv] using hb
    refine b9 ?_;rw[w2];refine ih XD I (λj h3=>?_) _ (λa b=>hf a b);by_cases e:j=i
    ·subst e;rw[Xw,Bool.and_false]
    ·exact hj j I
  ·have:i=n4:=by have:=Hv h;omega
   subst this;rw[show ta i f4=false from eV hj,cond_false]
   try refine H1 λ_=>?_
   exact jW afS
theorem RF (h8:n4<=8) (Q:2<=n4) (f:bl) (hf:∀ i j,wv f i j=wv f4 i j):(Ev (o8 H G s2 x3 n4 f4 x6) (.L0 1 f) (D (bif ta n4 f4 then 2 else je x3 n4)))/\(Ev (o8 H G s2 x3 n4 f4 x6) (.L1 1 f) (D (bif ta n4 f4 then 2 else je x3 n4)))/\(Ev (o8 H G s2 x3 n4 f4 x6) (.L2 1 f) (D (bif ta n4 f4 then 2 else je x3 n4)))/\(Ev (o8 H G s2 x3 n4 f4 x6) (.L3 1 f) (D (bif ta n4 f4 then 2 else je x3 n4))):=by
 have X1:=afv H G s2 x3 n4 f4 x6 h8 Q;have h0:∀ j,j<1->(decide (0<j)&&wv f4 j (j-1))=false:=λj hj=>by
  have:j=0:=by omega
  subst this;rfl
 exact⟨X1.1 1 I (Dm _) h0 f hf,X1.2.1 1 I (Dm _) h0 f hf,X1.2.2.1 1 I (Dm _) h0 f hf,X1.2.2.2 1 I (Dm _) h0 f hf⟩
theorem nmB (hp:s2.size<=9223372036854775807):bj (Ev (o8 H G s2 x3 n4 f4 x6)) (SH H G s2 x3 n4 f4 x6) (D (Vg H G s2 x3 n4 f4 x6)):=by
 unfold Vg;refine Cv hp (AY ?_);refine Ct (λh=>Br (by rw[h];rfl)) (λh=>?_);rw[h,cond_false];refine aG (AY (Ct (λh=>Br (by rw[show sg H G s2=true from h];rfl)) (λh=>?_)));rw[show sg H G s2=false from h,cond_false];refine aG (AY (Ct (λh=>Br (by rw[h];rfl)) (λh=>?_)));rw[h,cond_false];refine ce λhn=>Ct (λh=>Br (by rw[h];rfl)) (λQ=>?_);rw[Q,cond_false];refine ce λhn=>Ct (λh=>Br (by rw[h];rfl)) (λh8=>?_);rw[h8,cond_false];have Q:2<=n4:=by have:=Hv Q;omega
 have h8:n4<=8:=by have:=Hv h8;omega
 have e2:decide ((n4:Int)<2)=false:=fB I;refine aG (AY (CE (Ct (λh=>?_) (λh=>Br (by rw[show(!!ki n4 f4)=true from by rw[show(!ki n4 f4)=false from h];rfl];rfl)))));rw[show(!!ki n4 f4)=false from by rw[show(!ki n4 f4)=true from h];rfl,cond_false];refine bf h (aG (AY (Ct (λh=>Br (by rw[h];rfl)) (λh=>?_))));rw[h,cond_false];have h16:(decide (n4*16<=140737488355328)&&!Nat.beq 16 0)=true:=by rw[Cg (show n4*16<=140737488355328 by omega)];rfl
 have Yf:n4=0->False:=by omega
 have hi:∀i j,wv (A cO f4) i j=wv f4 i j:=λ_ _=>rfl
 repeat' (first
  |exact H1 (λh0=>(Yf h0).elim)|exact bm (RF _ _ _ _ _ _ _ h8 Q _ hi).1|exact bm (RF _ _ _ _ _ _ _ h8 Q _ hi).2.1|exact bm (RF _ _ _ _ _ _ _ h8 Q _ hi).2.2.1|exact bm (RF _ _ _ _ _ _ _ h8 Q _ hi).2.2.2|refine af4 ?_ ?_
  |refine H1 (λ_=>?_)|refine afi ?_
  |refine bf h16 ?_
  |refine ib e2 ?_
  |refine ib rfl ?_
  |refine iY rfl ?_)
theorem akI (hp:s2.size<=9223372036854775807):bj (Ev (o8 H G s2 x3 n4 f4 x6)) (SH H G s2 x3 n4 f4 x6) (D (Vg H (A ap G) s2 x3 n4 (A cO f4) x6)):=nmB H G s2 x3 n4 f4 x6 hp
def Sw:aH:=cG [.sl ap,.agg ap] (λ
 |[.sl H G,.agg [.str s2,.int _ x3,.sl n4 f4,.int _ x6]]=>s2.size<=9223372036854775807|_=>False) λ
 |[.sl H G,.agg [.str s2,.int _ x3,.sl n4 f4,.int _ x6]]=>D (Vg H G s2 x3 n4 f4 x6)|_=>.any
theorem ake:dL Sw 102:=bH C1 λ_ hp=>ra (aeO ..) (akI _ _ _ _ _ _ _ hp)
def m69:RT Empty:=.obp (s2.size<=(9223372036854775807:Nat)) (.obt (.br (!mR s2) (.ret (D 6)) (.cb (.br (rm H (A al G) s2) (.ret (D 5)) (.cb (.obi (.br (!kr 2 (A M (bE [D x3,D x4] 0 1))) (.ob (!kr 2 (A M (bE [D x3,D x4] 0 1))) (.cb (.obi (.br (!bG x5 1 200) (.ob (!bG x5 1 200) (.cb (.obi (.br (!bG x6 (-1000) 1000) (.ob (!bG x6 (-1000) 1000) (.cb (.br (bG x7 (-1000) 1000) (.ret (D 7)) (.ii (.obi (.br (bif x6==0 then x7==0 else false) (.ret (D 2)) (.ret (D 0)))))))) (.ret (D 7)))))) (.ret (D 7)))))) (.ret (D 7)))))))))
theorem afd:eJ eL (bu JJ qD u0 ai1 [V.sl H (A al G),V.agg [V.str s2,D x3,D x4,D x5,D x6,D x7]]) (m69 H G s2 x3 x4 x5 x6 x7):=cD
def lg:Int:=bif !mR s2 then 6 else bif rm H (A al G) s2 then 5 else bif !kr 2 (A M (bE [D x3,D x4] 0 1)) then bif !bG x5 1 200 then bif !bG x6 (-1000) 1000 then bif bG x7 (-1000) 1000 then 7 else bif bif x6==0 then x7==0 else false then 2 else 0 else 7 else 7 else 7
def Po:V:=D (lg H G s2 x3 x4 x5 x6 x7)
theorem ajq (hp:s2.size<=9223372036854775807):bj em (m69 H G s2 x3 x4 x5 x6 x7) (Po H G s2 x3 x4 x5 x6 x7):=Cv (by first|assumption|(exact hp)) (AY (Ct (λh0=>Br (by unfold Po lg;try rw[h0];rfl)) (λh0=>aG (AY (Ct (λN=>Br (by unfold Po lg;try rw[h0];try rw[N];rfl)) (λN=>aG (AY (CE (Ct (λQ=>bf (by first|assumption|(fail)) (aG (AY (CE (Ct (λh3=>bf (by first|assumption|(fail)) (aG (AY (CE (Ct (λh4=>bf (by first|assumption|(fail)) (aG (AY (Ct (λh5=>Br (by unfold Po lg;try rw[h0];try rw[N];try rw[Q];try rw[h3];try rw[h4];try rw[h5];rfl)) (λh5=>CE (CE (CE (Ct (λh6=>Br (by unfold Po lg;try rw[h0];try rw[N];try rw[Q];try rw[h3];try rw[h4];try rw[h5];try rw[h6];rfl)) (λh6=>Br (by unfold Po lg;try rw[h0];try rw[N];try rw[Q];try rw[h3];try rw[h4];try rw[h5];try rw[h6];rfl)))))))))) (λh4=>Br (by unfold Po lg;try rw[h0];try rw[N];try rw[Q];try rw[h3];try rw[h4];rfl))))))) (λh3=>Br (by unfold Po lg;try rw[h0];try rw[N];try rw[Q];try rw[h3];rfl))))))) (λQ=>Br (by unfold Po lg;try rw[h0];try rw[N];try rw[Q];rfl)))))))))))
def T7:aH:=cG [.sl al,.agg al] (λ
 |[.sl H G,.agg [.str s2,.int _ x3,.int _ x4,.int _ x5,.int _ x6,.int _ x7]]=>s2.size<=9223372036854775807|_=>False) λ
 |[.sl H G,.agg [.str s2,.int _ x3,.int _ x4,.int _ x5,.int _ x6,.int _ x7]]=>Po H G s2 x3 x4 x5 x6 x7|_=>.any
theorem akD:dL T7 108:=bH C1 λ_ hp=>fb (afd ..) (ajq _ _ _ _ _ _ _ _ hp)
def xb:bo:=(102,.con Sw)::(108,.con T7)::qD
theorem CN:aX Tryz.prog BD CJ xb:=.con ake (.con akD (C1))
def Ca (x At:Int):Bool:=WG 2 (A M (bE [D x,D At] 0 ((1+1-0) / 2)))
def VW (k:Int) (n:Nat) (f:bl) (h:Int):Int:=bif !jZ k 0 3 then 2 else bif decide ((n:Int)<2) then 4 else bif decide (8<(n:Int)) then 3 else bif lq n (λi=>!Ca (aE (f i)) (aW (f i))) then 7 else bif !jZ h 100 30000 then 7 else bif ta n f then 2 else je k n
def TE:Int:=dm H (bif !T0 (sv (aI (G x8.toNat))) then 6 else bif lq x8.toNat (λk=>(sv (aI (G k))).toList==(sv (aI (G x8.toNat))).toList) then 5 else VW (aW (G x8.toNat)) (aL (aI (L (L (G x8.toNat))))) (b7 (aI (L (L (G x8.toNat))))) (cU (G x8.toNat)))
inductive Wz where|L0 (_:Int)
def ah4:Wz->bV×List AX×Option Ex
 |.L0 X8=>([(11,D X8),(10,D (H:Int)),(9,V.sl H (A ap G)),(5,D 0),(4,D 0),(0,V.sl H (A ap G)),(1,V.fn 102 [] [])],[],none)
def ajn:Wz->JJ
 |.L0 _=>(0,[])
def Te:Bj (cN JJ):=bu JJ xb u0 akn [V.sl H (A ap G),V.fn 102 [] []]
def LK (cx:List Cx):Lp JJ:=lc (kd (Te H G) [])
def akV:JJ->Lp JJ
 |(0,cx)=>LK H G cx|(_,cx)=>LK H G cx
def D62:LD JJ Wz:=⟨ajn,akV H G,ah4 H G⟩
def Zv:Wz->RT Wz
 |.L0 X8=>.br (decide (X8<(H:Int))) (.ob (decide (0<=X8/\X8<(H:Int))) (.ob (decide (0<=X8/\X8<=(H:Int))) (.obp ((sv (aI (G X8.toNat))).size<=(9223372036854775807:Nat)) (.obt (.br (Vg (X8.toNat-0) (λi=>A ap G (0+i)) (sv (aI (G X8.toNat))) (aW (G X8.toNat)) (aL (aI (L (L (G X8.toNat))))) (λi=>aw cO (b7 (aI (L (L (G X8.toNat)))) i)) (cU (G X8.toNat))!=0) (.ret (V.tup [D X8,D (Vg (X8.toNat-0) (λi=>A ap G (0+i)) (sv (aI (G X8.toNat))) (aW (G X8.toNat)) (aL (aI (L (L (G X8.toNat))))) (λi=>aw cO (b7 (aI (L (L (G X8.toNat)))) i)) (cU (G X8.toNat)))])) (.next [] (Wz.L0 (E (X8+1))) [])))))) (.ret (V.tup JK))
def SG:RT Wz:=dm G (.am H (.enter [] (Wz.L0 0) []))
theorem ah8:gU xb u0 (D62 H G) (Te H G) (SG H G) (Zv H G):=⟨cD,λs=>by cases s<;>exact cD⟩
def Qx (ii:Nat):Int:=dm H ((Vg (ii-0) (λi=>A ap G (0+i)) (sv (aI (G ii))) (aW (G ii)) (aL (aI (L (L (G ii))))) (λi=>aw cO (b7 (aI (L (L (G ii)))) i)) (cU (G ii))))
def xG:Int:=fP H (Qx H G)
def oT:Int:=dP H (Qx H G)
theorem aap (hp:aT H G):bj (Ev (Zv H G)) (SG H G) (.tup [D (xG H G),D (oT H G)]):=ce λhn=>bm (p8 (X4:=λi=>(sv (aI (G i))).size<=9223372036854775807) (λi x=>.obp ((sv (aI (G i))).size<=9223372036854775807) (.obt x)) (λi x r h hx=>Cv h (AY hx)) (λ_ _=>rfl) hn hp λi=>rfl)
theorem alb (hp:aT H (A ap G)):bj (Ev (Zv H G)) (SG H G) (.tup [D (xG H (A ap G)),D (oT H (A ap G))]):=aap H G hp
def Sv:aH:=cG [.sl ap,.fn 102 [] []] (λ
 |[.sl H G,.fn _ [] []]=>aT H G|_=>False) λ
 |[.sl H G,.fn _ [] []]=>.tup [D (xG H G),D (oT H G)]|_=>.any
theorem ak9:dL Sv 101:=bH CN λ_ hp=>ra (ah8 ..) (alb _ _ hp)
inductive Vk where|L0 (_:Int)
def af1:Vk->bV×List AX×Option Ex
 |.L0 X8=>([(11,D X8),(10,D (H:Int)),(9,V.sl H (A al G)),(5,D 0),(4,D 0),(0,V.sl H (A al G)),(1,V.fn 108 [] [])],[],none)
def akX:Vk->JJ
 |.L0 _=>(0,[])
def TQ:Bj (cN JJ):=bu JJ xb u0 aj4 [V.sl H (A al G),V.fn 108 [] []]
def O1 (cx:List Cx):Lp JJ:=lc (kd (TQ H G) [])
def aiZ:JJ->Lp JJ
 |(0,cx)=>O1 H G cx|(_,cx)=>O1 H G cx
def D68:LD JJ Vk:=⟨akX,aiZ H G,af1 H G⟩
def Xv:Vk->RT Vk
 |.L0 X8=>.br (decide (X8<(H:Int))) (.ob (decide (0<=X8/\X8<(H:Int))) (.ob (decide (0<=X8/\X8<=(H:Int))) (.obp ((sv (aI (G X8.toNat))).size<=(9223372036854775807:Nat)) (.obt (.br (lg (X8.toNat-0) (λi=>A al G (0+i)) (sv (aI (G X8.toNat))) (aW (G X8.toNat)) (bZ (G X8.toNat)) (cU (G X8.toNat)) (cS (G X8.toNat)) (bq (G X8.toNat))!=0) (.ret (V.tup [D X8,D (lg (X8.toNat-0) (λi=>A al G (0+i)) (sv (aI (G X8.toNat))) (aW (G X8.toNat)) (bZ (G X8.toNat)) (cU (G X8.toNat)) (cS (G X8.toNat)) (bq (G X8.toNat)))])) (.next [] (Vk.L0 (E (X8+1))) [])))))) (.ret (V.tup JK))
def SK:RT Vk:=dm G (.am H (.enter [] (Vk.L0 0) []))
theorem ahJ:gU xb u0 (D68 H G) (TQ H G) (SK H G) (Xv H G):=⟨cD,λs=>by cases s<;>exact cD⟩
def Qy (ii:Nat):Int:=dm H ((lg (ii-0) (λi=>A al G (0+i)) (sv (aI (G ii))) (aW (G ii)) (bZ (G ii)) (cU (G ii)) (cS (G ii)) (bq (G ii))))
def xM:Int:=fP H (Qy H G)
def oF:Int:=dP H (Qy H G)
theorem acN (hp:aT H G):bj (Ev (Xv H G)) (SK H G) (.tup [D (xM H G),D (oF H G)]):=ce λhn=>bm (p8 (X4:=λi=>(sv (aI (G i))).size<=9223372036854775807) (λi x=>.obp ((sv (aI (G i))).size<=9223372036854775807) (.obt x)) (λi x r h hx=>Cv h (AY hx)) (λ_ _=>rfl) hn hp λi=>rfl)
theorem ajF (hp:aT H (A al G)):bj (Ev (Xv H G)) (SK H G) (.tup [D (xM H (A al G)),D (oF H (A al G))]):=acN H G hp
def T6:aH:=cG [.sl al,.fn 108 [] []] (λ
 |[.sl H G,.fn _ [] []]=>aT H G|_=>False) λ
 |[.sl H G,.fn _ [] []]=>.tup [D (xM H G),D (oF H G)]|_=>.any
theorem akA:dL T6 107:=bH CN λ_ hp=>ra (ahJ ..) (ajF _ _ hp)
def Pk:bo:=(101,.con Sv)::(107,.con T6)::xb
theorem Ng:aX Tryz.prog BD CJ Pk:=.con ak9 (.con akA (CN))
def SX (t:Int×Int×Int):V:=.tup [D t.1,D t.2.1,D t.2.2]
def UF (x At a z w:Int):Int:=bif !!Ca x At then(bif(bif bif bif !jZ a 1 20000 then true else decide (z<0) then true else decide (w<=z) then true else decide (1000<w)) then 7 else 0) else 7
def Ac (n:Nat) (c:Nat->Int) (k:Int) (z:Int×Int×Int):Int×Int×Int:=bif dP n c !=0 then(k,fP n c,dP n c) else z
def cR (i:Nat):Int:=TE H (A ap G) (i:Int)
def cT (i:Nat):Int:=UF (aE (W i)) (aW (W i)) (bZ (W i)) (cU (W i)) (cS (W i))
def cF (i:Nat):Int:=RN (aE (f4 i)) (aW (f4 i)) (bZ (f4 i)) (cU (f4 i)) (aL (aI (L (L (L (L (f4 i))))))) λj=>aw lS (b7 (aI (L (L (L (L (f4 i)))))) j)
def cC (i:Nat):Int:=RO n6 (A al f6) (i:Int)
def z3:Int×Int×Int:=Ac n6 (cC n6 f6) 4 (0,0,0)
def z2:Int×Int×Int:=Ac n4 (cF f4) 3 (z3 n6 f6)
def z1:Int×Int×Int:=Ac q (cT W) 2 (z2 n4 f4 n6 f6)
def TT (H:Nat) (G:bl) (q:Nat) (W:bl) (n4:Nat) (f4:bl) (n6:Nat) (f6:bl):Bool:=bif bif bif decide (8<(H:Int)) then true else decide (12<(q:Int)) then true else decide (8<(n4:Int)) then true else decide (24<(n6:Int))
def Qb:Int×Int×Int:=bif TT H G q W n4 f4 n6 f6 then(0,0,3) else Ac H (cR H G) 1 (z1 q W n4 f4 n6 f6)
def gq:Int:=(Qb H G q W n4 f4 n6 f6).2.2
theorem hrc {n:Nat} {c:Nat->Int} {i:Nat} (k:Int) (z:Int×Int×Int) (hi:i<n) (hc:(c i !=0)=true) (h:∀j,j<i->(c j !=0)=false):Ac n c k z=(k,(i:Int),c i):=by unfold Ac;obtain⟨e1,e2⟩:=cM hi hc h;rw[e1,e2,hc];rfl
theorem EB {n:Nat} {c:Nat->Int} (k:Int) (z:Int×Int×Int) (h:∀j,j<n->(c j !=0)=false):Ac n c k z=z:=by unfold Ac;obtain⟨e1,e2⟩:=gI h;rw[e1,e2];rfl
abbrev P8:=[D 0,D 0,D 0]
def m23:RT Empty:=.am H (.ii (.asm ((!decide (8<(H:Int)))=true->q<=9223372036854775807) (.iv (.asm ((!bif decide (8<(H:Int)) then true else decide (12<(q:Int)))=true->n4<=9223372036854775807) (.iv (.asm ((!bif bif decide (8<(H:Int)) then true else decide (12<(q:Int)) then true else decide (8<(n4:Int)))=true->n6<=9223372036854775807) (.ii (.br (bif bif bif decide (8<(H:Int)) then true else decide (12<(q:Int)) then true else decide (8<(n4:Int)) then true else decide (24<(n6:Int))) (.ret (V.tup [D 0,D 0,D 3])) (.obp (aT H G) (.obt (.br (oT H (A ap G)!=0) (.ret (V.tup [D 1,D (xG H (A ap G)),D (oT H (A ap G))])) (.cb (.br (oO q (A AV W)!=0) (.ret (V.tup [D 2,D (wO q (A AV W)),D (oO q (A AV W))])) (.cb (.br (oC n4 (A ar f4)!=0) (.ret (V.tup [D 3,D (xo n4 (A ar f4)),D (oC n4 (A ar f4))])) (.obp (aT n6 f6) (.obt (.br (oF n6 (A al f6)!=0) (.ret (V.tup [D 4,D (xM n6 (A al f6)),D (oF n6 (A al f6))])) (.ret (V.tup P8))))))))))))))))))))
theorem aeo:eJ eL (bu JJ Pk u0 akL [Pq H G q W n4 f4 n6 f6]) (m23 H G q W n4 f4 n6 f6):=cD
def lD:Int:=bif bif bif bif decide (8<(H:Int)) then true else decide (12<(q:Int)) then true else decide (8<(n4:Int)) then true else decide (24<(n6:Int)) then 0 else bif oT H (A ap G)!=0 then 1 else bif oO q (A AV W)!=0 then 2 else bif oC n4 (A ar f4)!=0 then 3 else bif oF n6 (A al f6)!=0 then 4 else 0
def lA:Int:=bif bif bif bif decide (8<(H:Int)) then true else decide (12<(q:Int)) then true else decide (8<(n4:Int)) then true else decide (24<(n6:Int)) then 0 else bif oT H (A ap G)!=0 then xG H (A ap G) else bif oO q (A AV W)!=0 then wO q (A AV W) else bif oC n4 (A ar f4)!=0 then xo n4 (A ar f4) else bif oF n6 (A al f6)!=0 then xM n6 (A al f6) else 0
def iI:Int:=bif bif bif bif decide (8<(H:Int)) then true else decide (12<(q:Int)) then true else decide (8<(n4:Int)) then true else decide (24<(n6:Int)) then 3 else bif oT H (A ap G)!=0 then oT H (A ap G) else bif oO q (A AV W)!=0 then oO q (A AV W) else bif oC n4 (A ar f4)!=0 then oC n4 (A ar f4) else bif oF n6 (A al f6)!=0 then oF n6 (A al f6) else 0
def Mu:V:=.tup [D (lD H G q W n4 f4 n6 f6),D (lA H G q W n4 f4 n6 f6),D (iI H G q W n4 f4 n6 f6)]
theorem akh (hp:aT H G/\aT n6 f6):bj em (m23 H G q W n4 f4 n6 f6) (Mu H G q W n4 f4 n6 f6):=H1 (λa0=>CE (CE (H1 (λa0=>CE (CE (CE (CE (H1 (λa0=>CE (CE (CE (CE (H1 (λa0=>CE (CE (Ct (λh0=>Br (by unfold Mu lD lA iI;try rw[h0];rfl)) (λh0=>Cv (by first|assumption|((first|exact hp.1|exact hp.2))) (AY (Ct (λN=>Br (by unfold Mu lD lA iI;try rw[h0];try rw[N];rfl)) (λN=>aG (AY (Ct (λQ=>Br (by unfold Mu lD lA iI;try rw[h0];try rw[N];try rw[Q];rfl)) (λQ=>aG (AY (Ct (λh3=>Br (by unfold Mu lD lA iI;try rw[h0];try rw[N];try rw[Q];try rw[h3];rfl)) (λh3=>Cv (by first|assumption|((first|exact hp.1|exact hp.2))) (AY (Ct (λh4=>Br (by unfold Mu lD lA iI;try rw[h0];try rw[N];try rw[Q];try rw[h3];try rw[h4];rfl)) (λh4=>Br (by unfold Mu lD lA iI;try rw[h0];try rw[N];try rw[Q];try rw[h3];try rw[h4];rfl))))))))))))))))))))))))))))))
def Sj:aH:=cG [.agg [.sl ap,.sl AV,.sl ar,.sl al]] (λ
 |[.agg [.sl H G,.sl q W,.sl n4 f4,.sl n6 f6]]=>aT H G/\aT n6 f6|_=>False) λ
 |[.agg [.sl H G,.sl q W,.sl n4 f4,.sl n6 f6]]=>Mu H G q W n4 f4 n6 f6|_=>.any
theorem ah2:dL Sj 78:=bH Ng λ_ hp=>fb (aeo ..) (akh _ _ _ _ _ _ _ _ hp)
def F3:bo:=(78,.con Sj)::Pk
theorem OR:aX Tryz.prog BD CJ F3:=.con ah2 (Ng)
inductive Tu where|L0 (_ _:Int)
def af3:Tu->bV×List AX×Option Ex
 |.L0 X8 Y1=>([(8,D X8),(7,D Y1),(6,D (lA H (A ap G) q (A AV W) n4 (A ar f4) n6 (A al f6))),(5,D (lD H (A ap G) q (A AV W) n4 (A ar f4) n6 (A al f6))),(14,D (iI H (A ap G) q (A AV W) n4 (A ar f4) n6 (A al f6))),(13,D (lA H (A ap G) q (A AV W) n4 (A ar f4) n6 (A al f6))),(12,D (lD H (A ap G) q (A AV W) n4 (A ar f4) n6 (A al f6))),(9,V.tup [D (lD H (A ap G) q (A AV W) n4 (A ar f4) n6 (A al f6)),D (lA H (A ap G) q (A AV W) n4 (A ar f4) n6 (A al f6)),D (iI H (A ap G) q (A AV W) n4 (A ar f4) n6 (A al f6))]),(11,V.tup [D (lD H (A ap G) q (A AV W) n4 (A ar f4) n6 (A al f6)),D (lA H (A ap G) q (A AV W) n4 (A ar f4) n6 (A al f6)),D (iI H (A ap G) q (A AV W) n4 (A ar f4) n6 (A al f6))]),(10,Pq H G q W n4 f4 n6 f6),(4,D 0),(2,V.pl 0 0),(0,Pq H G q W n4 f4 n6 f6),(1,V.sl n8 (A M f8))],[AX.cells [V.sl H (A ap G),V.sl q (A AV W),V.sl n4 (A ar f4),V.sl n6 (A al f6)] 31],none)
def aja:Tu->JJ
 |.L0 ..=>(0,[])
def TX:Bj (cN JJ):=bu JJ F3 u0 agn [Pq H G q W n4 f4 n6 f6,V.sl n8 (A M f8)]
def JV (cx:List Cx):Lp JJ:=lc (kd (TX H G q W n4 f4 n6 f6 n8 f8) [])
def akp:JJ->Lp JJ
 |(0,cx)=>JV H G q W n4 f4 n6 f6 n8 f8 cx|(_,cx)=>JV H G q W n4 f4 n6 f6 n8 f8 cx
def D44:LD JJ Tu:=⟨aja,akp H G q W n4 f4 n6 f6 n8 f8,af3 H G q W n4 f4 n6 f6 n8 f8⟩
abbrev J9:=[some (some 0)]
def HK (H:Nat) (G:bl) (q:Nat) (W:bl) (n4:Nat) (f4:bl) (n6:Nat) (f6:bl) (n8:Nat) (f8:bl):Tu->RT Tu
 |.L0 X8 Y1=>.am n8 (.ii (.br (bif decide (X8<(n8:Int)) then Y1==0 else false) (.ob (decide (0<=X8/\X8<(n8:Int))) (.ob (decide (0<=E (X8+1)/\E (X8+1)<(n8:Int))) (.cb (.br (bG (aE (f8 X8.toNat)) 0 (E (aE (f8 (E (X8+1)).toNat)-1))) (.next J9 (Tu.L0 (E (X8+2)) 4) []) (.next J9 (Tu.L0 (E (X8+2)) Y1) []))))) (.ret (D Y1))))
def SF:RT Tu:=dm (n8,f8) (.obp ((aT H G)/\aT n6 f6) (.obt (.enter J9 (Tu.L0 0 (iI H (A ap G) q (A AV W) n4 (A ar f4) n6 (A al f6))) [])))
theorem ahf:gU F3 u0 (D44 H G q W n4 f4 n6 f6 n8 f8) (TX H G q W n4 f4 n6 f6 n8 f8) (SF H G q W n4 f4 n6 f6 n8 f8) (HK H G q W n4 f4 n6 f6 n8 f8):=⟨cD,λs=>by cases s<;>exact cD⟩
def zN (k:Nat):Bool:=bG (aE (f8 (2*k))) 0 (E (aE (f8 (2*k+1))-1))
def Ds (e:Int):Int:=bif e==0 then(bif lq (n8 / 2) (zN f8) then 4 else 0) else e
def kn:Int:=Ds n8 f8 (iI H (A ap G) q (A AV W) n4 (A ar f4) n6 (A al f6))
theorem Wy (i e:Int) (he:(e==0)=false):Ev (HK H G q W n4 f4 n6 f6 n8 f8) (.L0 i e) (D e):=Ev.of rfl (H1 λ_=>CE (CE (ib (by rw[he];cases decide (i<(n8:Int))<;>rfl) (Br rfl))))
theorem agC (hm:n8 % 2=0) (hn:n8<=100):∀ k:Nat,k<=n8 / 2->(∀ j,j<k->zN f8 j=false)->Ev (HK H G q W n4 f4 n6 f6 n8 f8) (.L0 ((2*k:Nat):Int) 0) (D (bif lq (n8 / 2) (zN f8) then 4 else 0)):=by
 refine gG λk hk ih hj=>Ev.of rfl (H1 λ_=>CE (CE (Ct (λh=>?_) (λh=>?_))))
 ·have XD:2*k<n8:=by
   by_cases hh:((2*k:Nat):Int)<(n8:Int)
   ·omega
   ·rw[fB hh]at h;cases h
  have w1:E (((2*k:Nat):Int)+1)=((2*k+1:Nat):Int):=by rw[C4 I I];omega
  have w2:E (((2*k:Nat):Int)+2)=((2*(k+1):Nat):Int):=by rw[C4 I I];omega
  refine bf (Cg I) (bf (Cg (by rw[w1];omega)) (aG (AY (Ct (λhb=>b9 ?_) (λhb=>b9 ?_)))))
  ·rw[w1]at hb;simp only[Hk]at hb;rw[e7 (p:=zN f8) k I hb,cond_true];exact Wy H G q W n4 f4 n6 f6 n8 f8 _ 4 rfl
  ·rw[w1]at hb
   simp only[Hk]at hb;rw[w2];refine ih I (λj h3=>?_);by_cases e:j=k
   ·subst e;exact hb
   ·exact hj j I
 ·have e:k=n8 / 2:=by
   by_cases hh:((2*k:Nat):Int)<(n8:Int)
   ·rw[Cg hh]at h;cases h
   ·omega
  rw[show lq (n8 / 2) (zN f8)=false from eV λj h=>hj j I];exact Br rfl
theorem aeU (hm:n8 % 2=0) (hn:n8<=100) (e:Int):Ev (HK H G q W n4 f4 n6 f6 n8 f8) (.L0 0 e) (D (Ds n8 f8 e)):=by
 unfold Ds;cases he:e==0 with
 |false=>exact Wy H G q W n4 f4 n6 f6 n8 f8 0 e he
 |true=>have:e=0:=Jh he;subst this;exact agC H G q W n4 f4 n6 f6 n8 f8 hm hn 0 I (λj h=>by omega)
theorem abC (hp:(aT H G/\aT n6 f6)/\n8 % 2=0/\n8<=100):bj (Ev (HK H G q W n4 f4 n6 f6 n8 f8)) (SF H G q W n4 f4 n6 f6 n8 f8) (D (kn H G q W n4 f4 n6 f6 n8 f8)):=Cv hp.1 (AY (bm (aeU H G q W n4 f4 n6 f6 n8 f8 hp.2.1 hp.2.2 _)))
theorem aiU (hp:(aT H (A ap G)/\aT n6 (A al f6))/\n8 % 2=0/\n8<=100):bj (Ev (HK H G q W n4 f4 n6 f6 n8 f8)) (SF H G q W n4 f4 n6 f6 n8 f8) (D (kn H (A ap G) q (A AV W) n4 (A ar f4) n6 (A al f6) n8 (A M f8))):=abC H G q W n4 f4 n6 f6 n8 f8 hp
def Sn:aH:=cG [.agg [.sl ap,.sl AV,.sl ar,.sl al],.sl M] (λ
 |[.agg [.sl H G,.sl q W,.sl n4 f4,.sl n6 f6],.sl n8 f8]=>(aT H G/\aT n6 f6)/\n8 % 2=0/\n8<=100|_=>False) λ
 |[.agg [.sl H G,.sl q W,.sl n4 f4,.sl n6 f6],.sl n8 f8]=>D (kn H G q W n4 f4 n6 f6 n8 f8)|_=>.any
theorem aku:dL Sn 39:=bH OR λ_ hp=>ra (ahf ..) (aiU _ _ _ _ _ _ _ _ _ _ hp)
def xe:Int:=gq H (A ap G) q (A AV W) n4 (A ar f4) n6 (A al f6)
def Pj:bo:=(39,.con Sn)::F3
theorem Mz:aX Tryz.prog BD CJ Pj:=.con aku (OR)
def eU:Int:=bif bif xe H (A ap G) q (A AV W) n4 (A ar f4) n6 (A al f6)==0 then bif decide (x8<0) then true else decide (x9<=x8) else false then 4 else xe H (A ap G) q (A AV W) n4 (A ar f4) n6 (A al f6)
def sS:Int:=DY (min (E (E (1000*x0)+E (E (x1-x0)*x2))) (E (E (1000*x0)+E (E (x1-x0)*x3)))) 1000
def sU:Int:=E (0-DY (E (0-max (E (E (1000*x0)+E (E (x1-x0)*x2))) (E (E (1000*x0)+E (E (x1-x0)*x3))))) 1000)
def m80:RT Empty:=dm (x4,x5) (.obp (nz 1000) (.obt (.obp (nz 1000) (.obt (.ret (V.tup [D (qK (min (E (E (1000*x0)+E (E (x1-x0)*x2))) (E (E (1000*x0)+E (E (x1-x0)*x3)))) 1000),D (E (0-qK (E (0-max (E (E (1000*x0)+E (E (x1-x0)*x2))) (E (E (1000*x0)+E (E (x1-x0)*x3))))) 1000))]))))))
theorem adX:eJ eL (bu JJ Pj u0 akG [D x0,D x1,V.pd [D x2,D x3,D x4,D x5]]) (m80 x0 x1 x2 x3 x4 x5):=cD
def Ku:Int:=qK (min (E (E (1000*x0)+E (E (x1-x0)*x2))) (E (E (1000*x0)+E (E (x1-x0)*x3)))) 1000
def Ky:Int:=E (0-qK (E (0-max (E (E (1000*x0)+E (E (x1-x0)*x2))) (E (E (1000*x0)+E (E (x1-x0)*x3))))) 1000)
def RU:V:=dm (x4,x5) (.tup [D (Ku x0 x1 x2 x3),D (Ky x0 x1 x2 x3)])
theorem ak1:bj em (m80 x0 x1 x2 x3 x4 x5) (RU x0 x1 x2 x3 x4 x5):=Cv (by first|assumption|((intro h;cases h))) (AY (Cv (by first|assumption|((intro h;cases h))) (AY (Br (by unfold RU Ku Ky;rfl)))))
def T9:aH:=cG [tI,tI,.pd lS] (λ_=>True) λ|[.int _ x0,.int _ x1,.pd [.int _ x2,.int _ x3,.int _ x4,.int _ x5]]=>RU x0 x1 x2 x3 x4 x5|_=>.any
theorem ajz:dL T9 40:=bH Mz λ_ hp=>fb (adX ..) (ak1 _ _ _ _ _ _)
end
end Go.Dx
namespace Go.Dx
open Go.IntKind (i64 u64 u8)
open Go.Sx
noncomputable section
theorem yL {i:Int} {m:Nat} {f8:bl} {k:Nat} (hm:m<=9223372036854775807) (N:aE (f8 (2*k))=i) (Q:aE (f8 (2*k+1))=(m:Int)) (h:zN f8 k=false):0<=i/\i<m:=by
 unfold zN bG at h;rw[N,Q,C4 I I]at h;cases hb:decide (i<0) with
 |true=>rw[hb]at h;cases h
 |false=>rw[hb,cond_false]at h;have a:=Hv hb;have b:=Hv h;omega
theorem zE {n8:Nat} {f8:bl} {e:Int} (h:Ds n8 f8 e=0):e=0/\∀ k,k<n8 / 2->zN f8 k=false:=by
 unfold Ds at h;cases he:e==0 with
 |false=>rw[he,cond_false]at h;subst h;cases he
 |true=>
   rw[he,cond_true]at h;refine⟨Jh he,λk hk=>?_⟩;cases ho:zN f8 k with
   |false=>rfl|true=>rw[e7 k hk ho]at h;cases h
section
variable {H:Nat} {G:bl} {q:Nat} {W:bl} {n4:Nat} {f4:bl} {n6:Nat} {f6:bl} {i j:Int} {m l:Nat}
theorem gi (hm:m<=9223372036854775807) (h:kn H G q W n4 f4 n6 f6 2 (A M (bE [D i,D m] 0 1))=0):0<=i/\i<m :=
 yL (k:=0) hm rfl rfl ((zE h).2 0 I)
theorem kv (hm:m<=9223372036854775807) (hl:l<=9223372036854775807) (h:kn H G q W n4 f4 n6 f6 4 (A M (bE [D i,D m,D j,D l] 0 1))=0):(0<=i/\i<m)/\(0<=j/\j<l) :=
 ⟨yL (k:=0) hm rfl rfl ((zE h).2 0 I),yL (k:=1) hl rfl rfl ((zE h).2 1 I)⟩
theorem wA (h:eU H G q W n4 f4 n6 f6 i j=0):0<=i/\i<j:=by
 unfold eU at h;generalize xe _ _ _ _ _ _ _ _=e at h;cases he:e==0 with
 |false=>rw[he]at h;simp only[cond_false]at h;subst h;cases he
 |true=>
   rw[he,cond_true]at h;cases hb:decide (i<0) with
   |true=>rw[hb]at h;cases h
   |false=>
     rw[hb,cond_false]at h;cases hc:decide (j<=i) with
     |true=>rw[hc]at h;cases h|false=>have:=Hv hb;have:=Hv hc;omega
end
end
end Go.Dx
namespace Go.Dx
open Go.IntKind (i64 u64 u8)
open Go.Sx Go.Proofs
variable (H:Nat) (G:bl) (q:Nat) (W:bl) (n4:Nat) (f4:bl) (n6:Nat) (f6:bl) (x8 x9:Int)
noncomputable section
def GX:bo:=(40,.con T9)::Pj
theorem Si:aX Tryz.prog BD CJ GX:=.con ajz (Mz)
attribute [local irreducible] kn eU xe
def m30:RT Empty:=.am n4 (.am n6 (.obp (((aT H G)/\aT n6 f6)/\(0:Nat)=(0:Nat)/\(4:Nat)<=(100:Nat)) (.obt (.br (kn H (A ap G) q (A AV W) n4 (A ar f4) n6 (A al f6) 4 (A M (bE [D x9,D (n4:Int),D x8,D (n6:Int)] 0 1))!=0) (.ret (V.tup [V.kb false,D (kn H (A ap G) q (A AV W) n4 (A ar f4) n6 (A al f6) 4 (A M (bE [D x9,D (n4:Int),D x8,D (n6:Int)] 0 1)))])) (.ob (decide (0<=x9/\x9<(n4:Int))) (.ob (decide (0<=x8/\x8<(n6:Int))) (.obt (.obt (.obt (.obt (.cb (.ret (V.tup [V.bool (decide (0<xD (aE (f4 x9.toNat)) (aW (f4 x9.toNat)) (bZ (f4 x9.toNat)) (cU (f4 x9.toNat)) (aW (f6 x8.toNat)) (bZ (f6 x8.toNat)))),D 0])))))))))))))
theorem ahG:eJ eL (bu JJ GX u0 ajv [Pq H G q W n4 f4 n6 f6,D x8,D x9]) (m30 H G q W n4 f4 n6 f6 x8 x9):=cD
def kE:Bool:=bif kn H (A ap G) q (A AV W) n4 (A ar f4) n6 (A al f6) 4 (A M (bE [D x9,D (n4:Int),D x8,D (n6:Int)] 0 1))!=0 then false else decide (0<xD (aE (f4 x9.toNat)) (aW (f4 x9.toNat)) (bZ (f4 x9.toNat)) (cU (f4 x9.toNat)) (aW (f6 x8.toNat)) (bZ (f6 x8.toNat)))
def oL:Int:=bif kn H (A ap G) q (A AV W) n4 (A ar f4) n6 (A al f6) 4 (A M (bE [D x9,D (n4:Int),D x8,D (n6:Int)] 0 1))!=0 then kn H (A ap G) q (A AV W) n4 (A ar f4) n6 (A al f6) 4 (A M (bE [D x9,D (n4:Int),D x8,D (n6:Int)] 0 1)) else 0
def Qc:V:=.tup [.bool (kE H G q W n4 f4 n6 f6 x8 x9),D (oL H G q W n4 f4 n6 f6 x8 x9)]
theorem ajx (hp:aT H G/\aT n6 f6):bj em (m30 H G q W n4 f4 n6 f6 x8 x9) (Qc H G q W n4 f4 n6 f6 x8 x9):=H1 (λa0=>H1 (λa0=>Cv (by first|assumption|((first|exact hp|exact⟨hp,rfl,aA⟩))) (AY (Ct (λh0=>Br (by unfold Qc kE oL;try rw[h0];rfl)) (λh0=>bf (by first|assumption|((simp_all [cond_eq_ite]<;>first|omega|exact(kv aF aF h0).1|exact(kv aF aF h0).2|exact gi aF h0|exact gi aF N|exact wA h0|exact wA N|exact wA hc.1|exact gi aF hc))) (bf (by first|assumption|((simp_all [cond_eq_ite]<;>first|omega|exact(kv aF aF h0).1|exact(kv aF aF h0).2|exact gi aF h0|exact gi aF N|exact wA h0|exact wA N|exact wA hc.1|exact gi aF hc))) (AY (AY (AY (AY (aG (AY (Br (by unfold Qc kE oL;try rw[h0];rfl))))))))))))))
def Sk:aH:=cG [.agg [.sl ap,.sl AV,.sl ar,.sl al],tI,tI] (λ
 |[.agg [.sl H G,.sl q W,.sl n4 f4,.sl n6 f6],.int _ x8,.int _ x9]=>aT H G/\aT n6 f6|_=>False) λ
 |[.agg [.sl H G,.sl q W,.sl n4 f4,.sl n6 f6],.int _ x8,.int _ x9]=>Qc H G q W n4 f4 n6 f6 x8 x9|_=>.any
theorem aiS:dL Sk 17:=bH Si λ_ hp=>fb (ahG ..) (ajx _ _ _ _ _ _ _ _ _ _ hp)
def KN:Bool:=bif bif eU H (A ap G) q (A AV W) n4 (A ar f4) n6 (A al f6) x9 (n4:Int)==0 then bif decide (x8<0) then true else decide ((n6:Int)<=x8) else false then false else bif eU H (A ap G) q (A AV W) n4 (A ar f4) n6 (A al f6) x9 (n4:Int)!=0 then false else decide (0<kq (E (bZ (f4 x9.toNat)-aE (f4 x9.toNat))) (E (cU (f4 x9.toNat)-aW (f4 x9.toNat))) (E (aW (f6 x8.toNat)-aE (f4 x9.toNat))) (E (bZ (f6 x8.toNat)-aW (f4 x9.toNat))))
def UB:Int:=bif bif eU H (A ap G) q (A AV W) n4 (A ar f4) n6 (A al f6) x9 (n4:Int)==0 then bif decide (x8<0) then true else decide ((n6:Int)<=x8) else false then 4 else bif eU H (A ap G) q (A AV W) n4 (A ar f4) n6 (A al f6) x9 (n4:Int)!=0 then eU H (A ap G) q (A AV W) n4 (A ar f4) n6 (A al f6) x9 (n4:Int) else 0
def m32:RT Empty:=.am n4 (.obp (((aT H G)/\aT n6 f6)/\(0:Nat)=(0:Nat)/\(2:Nat)<=(100:Nat)) (.obt (.br (kn H (A ap G) q (A AV W) n4 (A ar f4) n6 (A al f6) 2 (A M (bE [D x8,D (n4:Int)] 0 1))==0) (.ob (decide (0<=x8/\x8<(n4:Int))) (.asm (true=true->aL (aI (L (L (L (L (f4 x8.toNat))))))<=9223372036854775807) (.obp (((aT H G)/\aT n6 f6)/\(0:Nat)=(0:Nat)/\(2:Nat)<=(100:Nat)) (.obt (.br (kn H (A ap G) q (A AV W) n4 (A ar f4) n6 (A al f6) 2 (A M (bE [D x9,D (↑(aL (aI (L (L (L (L (f4 x8.toNat))))))):Int)] 0 1))!=0) (.ret (V.tup [V.agg [D 0,D 0,D 0,D 0,D 0,D 0],D (kn H (A ap G) q (A AV W) n4 (A ar f4) n6 (A al f6) 2 (A M (bE [D x9,D (↑(aL (aI (L (L (L (L (f4 x8.toNat))))))):Int)] 0 1)))])) (.ob (decide (0<=x8/\x8<(n4:Int))) (.ob (decide (0<=x9/\x9<(↑(aL (aI (L (L (L (L (f4 x8.toNat))))))):Int))) (.obt (.obt (.cb (.obt (.obt (.cb (.ret (V.tup [V.agg [D (Ku (aE (f4 x8.toNat)) (bZ (f4 x8.toNat)) (aE (b7 (aI (L (L (L (L (f4 x8.toNat)))))) x9.toNat)) (aW (b7 (aI (L (L (L (L (f4 x8.toNat)))))) x9.toNat))),D (Ku (aW (f4 x8.toNat)) (cU (f4 x8.toNat)) (aE (b7 (aI (L (L (L (L (f4 x8.toNat)))))) x9.toNat)) (aW (b7 (aI (L (L (L (L (f4 x8.toNat)))))) x9.toNat))),D (Ky (aE (f4 x8.toNat)) (bZ (f4 x8.toNat)) (aE (b7 (aI (L (L (L (L (f4 x8.toNat)))))) x9.toNat)) (aW (b7 (aI (L (L (L (L (f4 x8.toNat)))))) x9.toNat))),D (Ky (aW (f4 x8.toNat)) (cU (f4 x8.toNat)) (aE (b7 (aI (L (L (L (L (f4 x8.toNat)))))) x9.toNat)) (aW (b7 (aI (L (L (L (L (f4 x8.toNat)))))) x9.toNat))),D (bZ (b7 (aI (L (L (L (L (f4 x8.toNat)))))) x9.toNat)),D (cU (b7 (aI (L (L (L (L (f4 x8.toNat)))))) x9.toNat))],D 0]))))))))))))))) (.br (kn H (A ap G) q (A AV W) n4 (A ar f4) n6 (A al f6) 2 (A M (bE [D x8,D (n4:Int)] 0 1))!=0) (.ret (V.tup [V.agg [D 0,D 0,D 0,D 0,D 0,D 0],D (kn H (A ap G) q (A AV W) n4 (A ar f4) n6 (A al f6) 2 (A M (bE [D x8,D (n4:Int)] 0 1)))])) (.ob (decide (0<=x8/\x8<(n4:Int))) (.ob (decide (0<=x9/\x9<(↑(aL (aI (L (L (L (L (f4 x8.toNat))))))):Int))) (.obt (.obt (.cb (.obt (.obt (.cb (.ret (V.tup [V.agg [D (Ku (aE (f4 x8.toNat)) (bZ (f4 x8.toNat)) (aE (b7 (aI (L (L (L (L (f4 x8.toNat)))))) x9.toNat)) (aW (b7 (aI (L (L (L (L (f4 x8.toNat)))))) x9.toNat))),D (Ku (aW (f4 x8.toNat)) (cU (f4 x8.toNat)) (aE (b7 (aI (L (L (L (L (f4 x8.toNat)))))) x9.toNat)) (aW (b7 (aI (L (L (L (L (f4 x8.toNat)))))) x9.toNat))),D (Ky (aE (f4 x8.toNat)) (bZ (f4 x8.toNat)) (aE (b7 (aI (L (L (L (L (f4 x8.toNat)))))) x9.toNat)) (aW (b7 (aI (L (L (L (L (f4 x8.toNat)))))) x9.toNat))),D (Ky (aW (f4 x8.toNat)) (cU (f4 x8.toNat)) (aE (b7 (aI (L (L (L (L (f4 x8.toNat)))))) x9.toNat)) (aW (b7 (aI (L (L (L (L (f4 x8.toNat)))))) x9.toNat))),D (bZ (b7 (aI (L (L (L (L (f4 x8.toNat)))))) x9.toNat)),D (cU (b7 (aI (L (L (L (L (f4 x8.toNat)))))) x9.toNat))],D 0]))))))))))))))
theorem ad2:eJ eL (bu JJ GX u0 ajd [Pq H G q W n4 f4 n6 f6,D x8,D x9]) (m32 H G q W n4 f4 n6 f6 x8 x9):=cD
def aM:Int:=bif kn H (A ap G) q (A AV W) n4 (A ar f4) n6 (A al f6) 2 (A M (bE [D x8,D (n4:Int)] 0 1))==0 then bif kn H (A ap G) q (A AV W) n4 (A ar f4) n6 (A al f6) 2 (A M (bE [D x9,D (↑(aL (aI (L (L (L (L (f4 x8.toNat))))))):Int)] 0 1))!=0 then 0 else Ku (aE (f4 x8.toNat)) (bZ (f4 x8.toNat)) (aE (b7 (aI (L (L (L (L (f4 x8.toNat)))))) x9.toNat)) (aW (b7 (aI (L (L (L (L (f4 x8.toNat)))))) x9.toNat)) else bif kn H (A ap G) q (A AV W) n4 (A ar f4) n6 (A al f6) 2 (A M (bE [D x8,D (n4:Int)] 0 1))!=0 then 0 else Ku (aE (f4 x8.toNat)) (bZ (f4 x8.toNat)) (aE (b7 (aI (L (L (L (L (f4 x8.toNat)))))) x9.toNat)) (aW (b7 (aI (L (L (L (L (f4 x8.toNat)))))) x9.toNat))
def aP:Int:=bif kn H (A ap G) q (A AV W) n4 (A ar f4) n6 (A al f6) 2 (A M (bE [D x8,D (n4:Int)] 0 1))==0 then bif kn H (A ap G) q (A AV W) n4 (A ar f4) n6 (A al f6) 2 (A M (bE [D x9,D (↑(aL (aI (L (L (L (L (f4 x8.toNat))))))):Int)] 0 1))!=0 then 0 else Ku (aW (f4 x8.toNat)) (cU (f4 x8.toNat)) (aE (b7 (aI (L (L (L (L (f4 x8.toNat)))))) x9.toNat)) (aW (b7 (aI (L (L (L (L (f4 x8.toNat)))))) x9.toNat)) else bif kn H (A ap G) q (A AV W) n4 (A ar f4) n6 (A al f6) 2 (A M (bE [D x8,D (n4:Int)] 0 1))!=0 then 0 else Ku (aW (f4 x8.toNat)) (cU (f4 x8.toNat)) (aE (b7 (aI (L (L (L (L (f4 x8.toNat)))))) x9.toNat)) (aW (b7 (aI (L (L (L (L (f4 x8.toNat)))))) x9.toNat))
def aN:Int:=bif kn H (A ap G) q (A AV W) n4 (A ar f4) n6 (A al f6) 2 (A M (bE [D x8,D (n4:Int)] 0 1))==0 then bif kn H (A ap G) q (A AV W) n4 (A ar f4) n6 (A al f6) 2 (A M (bE [D x9,D (↑(aL (aI (L (L (L (L (f4 x8.toNat))))))):Int)] 0 1))!=0 then 0 else Ky (aE (f4 x8.toNat)) (bZ (f4 x8.toNat)) (aE (b7 (aI (L (L (L (L (f4 x8.toNat)))))) x9.toNat)) (aW (b7 (aI (L (L (L (L (f4 x8.toNat)))))) x9.toNat)) else bif kn H (A ap G) q (A AV W) n4 (A ar f4) n6 (A al f6) 2 (A M (bE [D x8,D (n4:Int)] 0 1))!=0 then 0 else Ky (aE (f4 x8.toNat)) (bZ (f4 x8.toNat)) (aE (b7 (aI (L (L (L (L (f4 x8.toNat)))))) x9.toNat)) (aW (b7 (aI (L (L (L (L (f4 x8.toNat)))))) x9.toNat))
def aO:Int:=bif kn H (A ap G) q (A AV W) n4 (A ar f4) n6 (A al f6) 2 (A M (bE [D x8,D (n4:Int)] 0 1))==0 then bif kn H (A ap G) q (A AV W) n4 (A ar f4) n6 (A al f6) 2 (A M (bE [D x9,D (↑(aL (aI (L (L (L (L (f4 x8.toNat))))))):Int)] 0 1))!=0 then 0 else Ky (aW (f4 x8.toNat)) (cU (f4 x8.toNat)) (aE (b7 (aI (L (L (L (L (f4 x8.toNat)))))) x9.toNat)) (aW (b7 (aI (L (L (L (L (f4 x8.toNat)))))) x9.toNat)) else bif kn H (A ap G) q (A AV W) n4 (A ar f4) n6 (A al f6) 2 (A M (bE [D x8,D (n4:Int)] 0 1))!=0 then 0 else Ky (aW (f4 x8.toNat)) (cU (f4 x8.toNat)) (aE (b7 (aI (L (L (L (L (f4 x8.toNat)))))) x9.toNat)) (aW (b7 (aI (L (L (L (L (f4 x8.toNat)))))) x9.toNat))
def ew:Int:=bif kn H (A ap G) q (A AV W) n4 (A ar f4) n6 (A al f6) 2 (A M (bE [D x8,D (n4:Int)] 0 1))==0 then bif kn H (A ap G) q (A AV W) n4 (A ar f4) n6 (A al f6) 2 (A M (bE [D x9,D (↑(aL (aI (L (L (L (L (f4 x8.toNat))))))):Int)] 0 1))!=0 then 0 else bZ (b7 (aI (L (L (L (L (f4 x8.toNat)))))) x9.toNat) else bif kn H (A ap G) q (A AV W) n4 (A ar f4) n6 (A al f6) 2 (A M (bE [D x8,D (n4:Int)] 0 1))!=0 then 0 else bZ (b7 (aI (L (L (L (L (f4 x8.toNat)))))) x9.toNat)
def eC:Int:=bif kn H (A ap G) q (A AV W) n4 (A ar f4) n6 (A al f6) 2 (A M (bE [D x8,D (n4:Int)] 0 1))==0 then bif kn H (A ap G) q (A AV W) n4 (A ar f4) n6 (A al f6) 2 (A M (bE [D x9,D (↑(aL (aI (L (L (L (L (f4 x8.toNat))))))):Int)] 0 1))!=0 then 0 else cU (b7 (aI (L (L (L (L (f4 x8.toNat)))))) x9.toNat) else bif kn H (A ap G) q (A AV W) n4 (A ar f4) n6 (A al f6) 2 (A M (bE [D x8,D (n4:Int)] 0 1))!=0 then 0 else cU (b7 (aI (L (L (L (L (f4 x8.toNat)))))) x9.toNat)
def kI:Int:=bif kn H (A ap G) q (A AV W) n4 (A ar f4) n6 (A al f6) 2 (A M (bE [D x8,D (n4:Int)] 0 1))==0 then bif kn H (A ap G) q (A AV W) n4 (A ar f4) n6 (A al f6) 2 (A M (bE [D x9,D (↑(aL (aI (L (L (L (L (f4 x8.toNat))))))):Int)] 0 1))!=0 then kn H (A ap G) q (A AV W) n4 (A ar f4) n6 (A al f6) 2 (A M (bE [D x9,D (↑(aL (aI (L (L (L (L (f4 x8.toNat))))))):Int)] 0 1)) else 0 else bif kn H (A ap G) q (A AV W) n4 (A ar f4) n6 (A al f6) 2 (A M (bE [D x8,D (n4:Int)] 0 1))!=0 then kn H (A ap G) q (A AV W) n4 (A ar f4) n6 (A al f6) 2 (A M (bE [D x8,D (n4:Int)] 0 1)) else 0
def Ox:V:=.tup [.agg [D (aM H G q W n4 f4 n6 f6 x8 x9),D (aP H G q W n4 f4 n6 f6 x8 x9),D (aN H G q W n4 f4 n6 f6 x8 x9),D (aO H G q W n4 f4 n6 f6 x8 x9),D (ew H G q W n4 f4 n6 f6 x8 x9),D (eC H G q W n4 f4 n6 f6 x8 x9)],D (kI H G q W n4 f4 n6 f6 x8 x9)]
theorem ajh (hp:aT H G/\aT n6 f6):bj em (m32 H G q W n4 f4 n6 f6 x8 x9) (Ox H G q W n4 f4 n6 f6 x8 x9):=H1 (λa0=>Cv (by first|assumption|((first|exact hp|exact⟨hp,rfl,aA⟩))) (AY (Ct (λh0=>bf (by first|assumption|((simp_all [cond_eq_ite]<;>first|omega|exact(kv aF aF h0).1|exact(kv aF aF h0).2|exact gi aF h0|exact gi aF N|exact wA h0|exact wA N|exact wA hc.1|exact gi aF hc))) (H1 (λa1=>Cv (by first|assumption|((first|exact hp|exact⟨hp,rfl,aA⟩))) (AY (Ct (λN=>Br (by unfold Ox aM aP aN aO ew eC kI;try rw[h0];try rw[N];rfl)) (λN=>bf (by first|assumption|((simp_all [cond_eq_ite]<;>first|omega|exact(kv aF aF h0).1|exact(kv aF aF h0).2|exact gi aF h0|exact gi aF N|exact wA h0|exact wA N|exact wA hc.1|exact gi aF hc))) (bf (by first|assumption|((simp_all [cond_eq_ite]<;>first|omega|exact(kv aF aF h0).1|exact(kv aF aF h0).2|exact gi aF h0|exact gi aF N|exact wA h0|exact wA N|exact wA hc.1|exact gi aF hc))) (AY (AY (aG (AY (AY (AY (aG (AY (Br (by unfold Ox aM aP aN aO ew eC kI;try rw[h0];try rw[N];rfl))))))))))))))))) (λh0=>Ct (λN=>Br (by unfold Ox aM aP aN aO ew eC kI;try rw[h0];try rw[N];rfl)) (λN=>bf (by first|assumption|((simp_all [cond_eq_ite]<;>first|omega|exact(kv aF aF h0).1|exact(kv aF aF h0).2|exact gi aF h0|exact gi aF N|exact wA h0|exact wA N|exact wA hc.1|exact gi aF hc))) (bf (by first|assumption|((simp_all [cond_eq_ite]<;>first|omega|exact(kv aF aF h0).1|exact(kv aF aF h0).2|exact gi aF h0|exact gi aF N|exact wA h0|exact wA N|exact wA hc.1|exact gi aF hc))) (AY (AY (aG (AY (AY (AY (aG (AY (Br (by unfold Ox aM aP aN aO ew eC kI;try rw[h0];try rw[N];rfl))))))))))))))))
def Sl:aH:=cG [.agg [.sl ap,.sl AV,.sl ar,.sl al],tI,tI] (λ
 |[.agg [.sl H G,.sl q W,.sl n4 f4,.sl n6 f6],.int _ x8,.int _ x9]=>aT H G/\aT n6 f6|_=>False) λ
 |[.agg [.sl H G,.sl q W,.sl n4 f4,.sl n6 f6],.int _ x8,.int _ x9]=>Ox H G q W n4 f4 n6 f6 x8 x9|_=>.any
theorem ajr:dL Sl 15:=bH Si λ_ hp=>fb (ad2 ..) (ajh _ _ _ _ _ _ _ _ _ _ hp)
def kg:Int:=bif bif eU H (A ap G) q (A AV W) n4 (A ar f4) n6 (A al f6) x8 (n4:Int)==0 then bif decide (x9<0) then true else decide ((↑(aL (aI (L (L (L (L (f4 x8.toNat))))))):Int)<=x9) else false then 0 else bif eU H (A ap G) q (A AV W) n4 (A ar f4) n6 (A al f6) x8 (n4:Int)!=0 then 0 else sS (aE (f4 x8.toNat)) (bZ (f4 x8.toNat)) (aE (b7 (aI (L (L (L (L (f4 x8.toNat)))))) x9.toNat)) (aW (b7 (aI (L (L (L (L (f4 x8.toNat)))))) x9.toNat))
def jQ:Int:=bif bif eU H (A ap G) q (A AV W) n4 (A ar f4) n6 (A al f6) x8 (n4:Int)==0 then bif decide (x9<0) then true else decide ((↑(aL (aI (L (L (L (L (f4 x8.toNat))))))):Int)<=x9) else false then 0 else bif eU H (A ap G) q (A AV W) n4 (A ar f4) n6 (A al f6) x8 (n4:Int)!=0 then 0 else sS (aW (f4 x8.toNat)) (cU (f4 x8.toNat)) (aE (b7 (aI (L (L (L (L (f4 x8.toNat)))))) x9.toNat)) (aW (b7 (aI (L (L (L (L (f4 x8.toNat)))))) x9.toNat))
def jM:Int:=bif bif eU H (A ap G) q (A AV W) n4 (A ar f4) n6 (A al f6) x8 (n4:Int)==0 then bif decide (x9<0) then true else decide ((↑(aL (aI (L (L (L (L (f4 x8.toNat))))))):Int)<=x9) else false then 0 else bif eU H (A ap G) q (A AV W) n4 (A ar f4) n6 (A al f6) x8 (n4:Int)!=0 then 0 else sU (aE (f4 x8.toNat)) (bZ (f4 x8.toNat)) (aE (b7 (aI (L (L (L (L (f4 x8.toNat)))))) x9.toNat)) (aW (b7 (aI (L (L (L (L (f4 x8.toNat)))))) x9.toNat))
def j9:Int:=bif bif eU H (A ap G) q (A AV W) n4 (A ar f4) n6 (A al f6) x8 (n4:Int)==0 then bif decide (x9<0) then true else decide ((↑(aL (aI (L (L (L (L (f4 x8.toNat))))))):Int)<=x9) else false then 0 else bif eU H (A ap G) q (A AV W) n4 (A ar f4) n6 (A al f6) x8 (n4:Int)!=0 then 0 else sU (aW (f4 x8.toNat)) (cU (f4 x8.toNat)) (aE (b7 (aI (L (L (L (L (f4 x8.toNat)))))) x9.toNat)) (aW (b7 (aI (L (L (L (L (f4 x8.toNat)))))) x9.toNat))
def ky:Int:=bif bif eU H (A ap G) q (A AV W) n4 (A ar f4) n6 (A al f6) x8 (n4:Int)==0 then bif decide (x9<0) then true else decide ((↑(aL (aI (L (L (L (L (f4 x8.toNat))))))):Int)<=x9) else false then 0 else bif eU H (A ap G) q (A AV W) n4 (A ar f4) n6 (A al f6) x8 (n4:Int)!=0 then 0 else bZ (b7 (aI (L (L (L (L (f4 x8.toNat)))))) x9.toNat)
def kD:Int:=bif bif eU H (A ap G) q (A AV W) n4 (A ar f4) n6 (A al f6) x8 (n4:Int)==0 then bif decide (x9<0) then true else decide ((↑(aL (aI (L (L (L (L (f4 x8.toNat))))))):Int)<=x9) else false then 0 else bif eU H (A ap G) q (A AV W) n4 (A ar f4) n6 (A al f6) x8 (n4:Int)!=0 then 0 else cU (b7 (aI (L (L (L (L (f4 x8.toNat)))))) x9.toNat)
def oA:Int:=bif bif eU H (A ap G) q (A AV W) n4 (A ar f4) n6 (A al f6) x8 (n4:Int)==0 then bif decide (x9<0) then true else decide ((↑(aL (aI (L (L (L (L (f4 x8.toNat))))))):Int)<=x9) else false then 4 else bif eU H (A ap G) q (A AV W) n4 (A ar f4) n6 (A al f6) x8 (n4:Int)!=0 then eU H (A ap G) q (A AV W) n4 (A ar f4) n6 (A al f6) x8 (n4:Int) else 0
end
end Go.Dx
namespace Go.Proofs
open Go.RowKit Go.Dx
def yh (b:Int) (i:Int):Bool:=bif !(bif decide (97<=b) then decide (b<=122) else false) then(bif i==0 then true else bif !(bif decide (48<=b) then decide (b<=57) else false) then b !=45 else false) else false
def js (s:ByteArray):Bool:=HC s.size (λi=>!yh ((s.data.toList.getD i 0).toNat:Int) i)&&decide (0<s.size/\s.size<=24)
theorem Ri {p:Prop} (h:p):Hid p:=h
theorem adk (w:World) (e:TypeId) (s:ByteArray):Below w.heap.size w (Lib.bytesWorld w e s):=by refine⟨rfl,rfl,rfl,?_,λb hb=>Lib.bytesWorld_at_old w e s b hb⟩;rw[Lib.bytesWorld_size];omega
theorem nn (x k:Nat):yh (x:Int) (k:Int)=true↔¬ (97<=x/\x<=122)/\(k=0∨¬ (48<=x/\x<=57)/\x≠45):=by
 have key:∀(p1 p2 p3 p4 p5 p6:Bool),(bif !(bif p1 then p2 else false) then(bif p3 then true else bif !(bif p4 then p5 else false) then p6 else false) else false)=true↔¬(p1=true/\p2=true)/\(p3=true∨¬(p4=true/\p5=true)/\p6=true):=by decide
 unfold yh;rw[key];simp only[IJ,K8,bne_iff_ne,ne_eq];omega
theorem ajV {s:ByteArray} {k x:Nat} (hk:k<s.size) (hx:(s.data.toList.getD k 0).toNat=x) (h:¬(97<=x/\x<=122)/\(k=0∨¬(48<=x/\x<=57)/\x≠45)):js s=false:=by unfold js;rw[jN k hk (by rw[hx,(nn x k).2 h];rfl)];rfl
theorem afl {s:ByteArray} {k x:Nat} (YR:∀ j:Nat,j<k->yh ((s.data.toList.getD j 0).toNat:Int) j=false) (hx:(s.data.toList.getD k 0).toNat=x) (h:¬ (¬ (97<=x/\x<=122)/\(k=0∨¬ (48<=x/\x<=57)/\x≠45))):∀ j:Nat,j<k+1->yh ((s.data.toList.getD j 0).toNat:Int) j=false:=λj hj=>by
 by_cases e:j=k
 ·subst e
  rw[hx];cases hb:yh (x:Int) j with
  |false=>rfl|true=>exact(h ((nn x j).1 hb)).elim
 ·exact YR j I
theorem aiV {s:ByteArray} (YR:∀j:Nat,j<s.size->yh ((s.data.toList.getD j 0).toNat:Int) j=false):js s=decide (0<s.size/\s.size<=24):=by unfold js;rw[gD λi hi=>by rw[YR i hi];rfl];rfl
theorem Wm (s:ByteArray):s.toList=[]↔s.size=0:=by rw[ByteArray.toList_eq];obtain⟨⟨l⟩⟩:=s;show l=[]↔l.length=0;exact List.length_eq_zero_iff.symm
set_option maxHeartbeats 4000000 in
theorem Tryz.name_calls (s:ByteArray) (w:World) (hs:s.size<=9223372036854775807):Calls Tryz.prog 142 #[.string s] w λe w'=>e=.returned (.bool (js s))/\Below w.heap.size w w':=by
 have hB:∀t,t<s.size->(Lib.bytesWorld w 5 s).cell? ⟨w.heap.size,t,none⟩=some (.int .u8 (s.data.toList.getD t 0).toNat):=λt ht=>Lib.bytesWorld_cell w 5 s t ht;have hbel:=adk w 5 s
 go_enter Tryz.func142,Tryz.ntmps142
 go_wp2
 rw[Lib.run_convert_string_bytes w 9 233 5 s (u:=.string) BF BF BF];simp only[Result.andThen];rw[Oper.upon_value];obtain⟨W1,hW1⟩:∃W1,W1=Lib.bytesWorld w 5 s:=⟨_,rfl⟩;rw[← hW1]at hB hbel ⊢;have HW:=Ri hW1;have HB:=Ri hB;clear hW1 hB
 go_wp2
 go_loop [9] (λi=>∃k:Nat,k<=s.size/\i=.int .i64 k/\Hid (∀j:Nat,j<k->yh ((s.data.toList.getD j 0).toNat:Int) j=false)) (λi=>s.size-(intOf i).toNat)
 case atStart=>exact⟨0,Ho _,rfl,λj hj=>absurd hj (Ln _)⟩
 case round=>
  obtain⟨k,hk,rfl,YR⟩:=hrel;by_cases hkn:k<s.size
  ·have Zk:=HB.out k hkn
   generalize hx:(s.data.toList.getD k 0).toNat=x at Zk;have Hx:=Ri hx;clear hx
   go_wp2
   all_goals first
    | (go_ret
       have hb:=ajV hkn Hx (by clear HB YR Hx Zk HW hbel;try simp only[LW,Bool.not_eq_false',decide_eq_false_iff_not,IJ,K8,bne_iff_ne,ne_eq,Qm,bne_eq_false_iff_eq]at *;omega);rw[hb];exact⟨rfl,hbel⟩)
    |exact⟨⟨k+1,I,by first|rfl|(congr 1;omega),afl YR Hx (by clear HB YR Hx Zk HW hbel;try simp only[LW,Bool.not_eq_false',decide_eq_false_iff_not,IJ,K8,bne_iff_ne,ne_eq,Qm,bne_eq_false_iff_eq]at *;omega)⟩,by simp[intOf];omega⟩|skip
   trace_state
  ·obtain rfl:k=s.size:=by omega
   have he:=aiV YR
   go_wp2
   ·go_ret
    rename_i h _;rw[(Wm s).1 h];exact⟨rfl,hbel⟩
   ·go_ret
    rename_i h _;refine⟨?_,hbel⟩;have h0:s.size≠0:=λe=>h ((Wm s).2 e);have e1:s.toList.isEmpty=false:=by cases hl:s.toList with|nil=>exact(h hl).elim|cons a l=>rfl
    have e2:decide (0<s.size)=true:=decide_eq_true I;have e3:decide ((s.size:Int)<=24)=decide (s.size<=24):=decide_eq_decide.2 I;rw[e2];show Ending.returned (.bool (!s.toList.isEmpty&&decide ((s.size:Int)<=24)))=_;rw[e1,e3];rfl
end Go.Proofs
namespace Go.Dx
open Go.Sx Go.Proofs
noncomputable section
def Nr:aH:=cG [.str] (λ
 |[.str s]=>s.size<=9223372036854775807|_=>False) λ
 |[.str s]=>.bool (js s)|_=>.any
theorem adf:(vP Nr).Ok Tryz.prog 142:=by refine⟨λB m lh w args vs K hrel hargs YR=>?_,λ_ _ _ _ _ hk ⟨ds,d,p,r,N,Q,h3,h4,h5⟩=>⟨ds,d,p,r,N,Q,h3,h4,hk _ _ h5⟩,λ_ _ _ _ ⟨_,_,_,_,_,_,_,_,h⟩=>h⟩;obtain⟨ds,d,p,r,N,Q,⟨Yq,h3⟩,h4,h5⟩:=YR;simp only[Nr,cG,H2,Prod.mk.injEq]at Q;obtain⟨rfl,rfl,rfl⟩:=Q;have Ym:=(jj [.str] ds [] [] rfl Yq).1;simp only[bF,cY]at Ym;obtain⟨e1,e2,e3⟩:=Ym;rw[e2,e3]at e1;generalize sv (aI ds)=s at e1;subst e1;simp only[ka,Oe]at h3 h4 h5;simp only[bp,vr]at N;obtain⟨_,_,rfl,rfl,rfl⟩:=N;simp only[aC,CL]at hargs;obtain⟨_,_,rfl,rfl,rfl⟩:=hargs;refine⟨⟨_,Tryz.func142,by kernel_rfl,by kernel_rfl⟩,(Tryz.name_calls s w h3).mono λe w' ⟨he,hb⟩=>?_⟩;exact⟨_,_,m,lh,he,by simp only[cP,CL],iq.refl _ _,ba.below hrel hb,h5⟩
end
end Go.Dx
namespace Go.Dx
open Go.IntKind (i64 u64 u8)
open Go.Sx Go.Proofs
variable (H:Nat) (G:bl) (x0:Int) (s0:ByteArray) (n1:Nat) (f1:bl) (x1 x2:Int) (s2:ByteArray) (n3:Nat) (f3:bl) (x3 x4:Int) (Z:Nat) (S:bl) (x5 x6:Int) (n7:Nat) (f7:bl) (x7 x8 x9 XH XJ XP XT:Int) (YN:Nat) (n2:bl) (sI:Nat) (n5:bl)
noncomputable section
def xY:bo:=(17,.con Sk)::(15,.con Sl)::(142,.con Nr)::GX
theorem sM:aX Tryz.prog BD CJ xY:=.con aiS (.con ajr (.con adf (Si)))
def Wx:RT Empty:=.ii (.obi (.ret (V.bool (bif decide (x1<=x0) then decide (x0<=x2) else false))))
theorem alG:eJ eL (bu JJ xY u0 aaR [D x0,D x1,D x2]) (Wx x0 x1 x2):=cD
def aB:Bool:=bif decide (x1<=x0) then decide (x0<=x2) else false
def LH:V:=.bool (aB x0 x1 x2)
theorem ih8:bj em (Wx x0 x1 x2) (LH x0 x1 x2):=CE (CE (CE (Br (by unfold LH aB;rfl))))
def JH:aH:=cG cr (λ_=>True) λ|[.int _ x0,.int _ x1,.int _ x2]=>LH x0 x1 x2|_=>.any
theorem O3:dL JH 83:=bH sM λ_ hp=>fb (alG ..) (ih8 _ _ _)
def Ui:RT Empty:=.iv (.iv (.obi (.ret (V.bool (bif bif decide (x2<=x0) then decide (x0<=x1) else false then decide (x1<=x3) else false)))))
theorem hp2:eJ eL (bu JJ xY u0 ac3 [V.agg [D x0,D x1],D x2,D x3]) (Ui x0 x1 x2 x3):=cD
def fK:Bool:=bif bif decide (x2<=x0) then decide (x0<=x1) else false then decide (x1<=x3) else false
def Ol:V:=.bool (fK x0 x1 x2 x3)
theorem ado:bj em (Ui x0 x1 x2 x3) (Ol x0 x1 x2 x3):=CE (CE (CE (CE (CE (CE (CE (CE (CE (Br (by unfold Ol fK;rfl))))))))))
def Vh:aH:=cG [.agg cO,tI,tI] (λ_=>True) λ|[.agg [.int _ x0,.int _ x1],.int _ x2,.int _ x3]=>Ol x0 x1 x2 x3|_=>.any
theorem opW:dL Vh 115:=bH sM λ_ hp=>fb (hp2 ..) (ado _ _ _ _)
def VN:RT Empty:=.ii (.obi (.ret (V.bool (bif decide (x1<=x0) then decide (x0<=x2) else false))))
theorem hC':eJ eL (bu JJ xY u0 KX [D x0,D x1,D x2]) (VN x0 x1 x2):=cD
def dV:Bool:=bif decide (x1<=x0) then decide (x0<=x2) else false
def Ks:V:=.bool (dV x0 x1 x2)
theorem ic1:bj em (VN x0 x1 x2) (Ks x0 x1 x2):=CE (CE (CE (Br (by unfold Ks dV;rfl))))
def Xm:aH:=cG cr (λ_=>True) λ|[.int _ x0,.int _ x1,.int _ x2]=>Ks x0 x1 x2|_=>.any
theorem sc3:dL Xm 43:=bH sM λ_ hp=>fb (hC' ..) (ic1 _ _ _)
def ci:Bool:=bif decide (x1<=x0) then decide (x0<=x2) else false
def bh:Bool:=bif decide (x1<=x0) then decide (x0<=x2) else false
def WP:RT Empty:=dm (n1,f1,n3,f3,Z,S,x7,x8) (.ret (V.str s0))
theorem fb1:eJ eL (bu JJ xY u0 aby [V.agg [V.str s0,V.sl n1 (A M f1),V.sl n3 (A M f3),V.sl Z (A [Ty.sl M] S),D x7,D x8]]) (WP s0 n1 f1 n3 f3 Z S x7 x8):=cD
def Mn:V:=dm (n1,f1,n3,f3,Z,S,x7,x8) (.str (s0))
theorem ic2:bj em (WP s0 n1 f1 n3 f3 Z S x7 x8) (Mn s0 n1 f1 n3 f3 Z S x7 x8):=Br (by unfold Mn ; rfl)
def W2:aH:=cG [.agg au] (λ_=>True) λ|[.agg [.str s0,.sl n1 f1,.sl n3 f3,.sl Z S,.int _ x7,.int _ x8]]=>Mn s0 n1 f1 n3 f3 Z S x7 x8|_=>.any
theorem aaX:dL W2 110:=bH sM λ_ hp=>fb (fb1 ..) (ic2 _ _ _ _ _ _ _ _ _)
def Wd:RT Empty:=dm (x1,x2,x3,x4,x5,x6,x7,x8,x9,XH,XJ,XP,XT) (.ret (V.str s0))
theorem hr':eJ eL (bu JJ xY u0 aak [V.agg [V.str s0,D x1,D x2,D x3,D x4,D x5,D x6,D x7,D x8,D x9,D XH,D XJ,D XP,D XT]]) (Wd s0 x1 x2 x3 x4 x5 x6 x7 x8 x9 XH XJ XP XT):=cD
def JR:V:=dm (x1,x2,x3,x4,x5,x6,x7,x8,x9,XH,XJ,XP,XT) (.str (s0))
theorem adb:bj em (Wd s0 x1 x2 x3 x4 x5 x6 x7 x8 x9 XH XJ XP XT) (JR s0 x1 x2 x3 x4 x5 x6 x7 x8 x9 XH XJ XP XT):=Br (by unfold JR ; rfl)
def VA:aH:=cG [.agg ao] (λ_=>True) λ|[.agg [.str s0,.int _ x1,.int _ x2,.int _ x3,.int _ x4,.int _ x5,.int _ x6,.int _ x7,.int _ x8,.int _ x9,.int _ XH,.int _ XJ,.int _ XP,.int _ XT]]=>JR s0 x1 x2 x3 x4 x5 x6 x7 x8 x9 XH XJ XP XT|_=>.any
theorem abT:dL VA 113:=bH sM λ_ hp=>fb (hr' ..) (adb _ _ _ _ _ _ _ _ _ _ _ _ _ _)
def tN:Int:=bif decide (x0.tmod x1<0) then E (E (x0.tdiv x1)-1) else E (x0.tdiv x1)
def U4:RT Empty:=.ob (decide (x1≠0)) (.ob (decide (x1≠0)) (.br (decide (x0.tmod x1<0)) (.ret (D (E (E (x0.tdiv x1)-1)))) (.ret (D (E (x0.tdiv x1))))))
theorem hne:eJ eL (bu JJ xY u0 inU [D x0,D x1]) (U4 x0 x1):=cD
def bO:Int:=bif decide (x0.tmod x1<0) then E (E (x0.tdiv x1)-1) else E (x0.tdiv x1)
def BL:V:=D (bO x0 x1)
theorem abY (hp:x1≠0):bj em (U4 x0 x1) (BL x0 x1):=bf (by first|assumption|(simp[hp])) (bf (by first|assumption|(simp[hp])) (Ct (λh0=>Br (by unfold BL bO;try rw[h0];rfl)) (λh0=>Br (by unfold BL bO;try rw[h0];rfl))))
def Wh:aH:=cG cO (λ
 |[.int _ x0,.int _ x1]=>x1≠0|_=>False) λ
 |[.int _ x0,.int _ x1]=>BL x0 x1|_=>.any
theorem OJ:dL Wh 51:=bH sM λ_ hp=>fb (hne ..) (abY _ _ hp)
def Vj:RT Empty:=.ob (decide (x1≠0)) (.ob (decide (x1≠0)) (.br (decide (x0.tmod x1<0)) (.ret (D (E (E (x0.tdiv x1)-1)))) (.ret (D (E (x0.tdiv x1))))))
theorem fnQ:eJ eL (bu JJ xY u0 lfL [V.agg [D x0,D x1]]) (Vj x0 x1):=cD
def de:Int:=bif decide (x0.tmod x1<0) then E (E (x0.tdiv x1)-1) else E (x0.tdiv x1)
def AH:V:=D (de x0 x1)
theorem hz2 (hp:x1≠0):bj em (Vj x0 x1) (AH x0 x1):=bf (by first|assumption|(simp[hp])) (bf (by first|assumption|(simp[hp])) (Ct (λh0=>Br (by unfold AH de;try rw[h0];rfl)) (λh0=>Br (by unfold AH de;try rw[h0];rfl))))
def Ve:aH:=cG [.agg cO] (λ
 |[.agg [.int _ x0,.int _ x1]]=>x1≠0|_=>False) λ
 |[.agg [.int _ x0,.int _ x1]]=>AH x0 x1|_=>.any
theorem Kv:dL Ve 59:=bH sM λ_ hp=>fb (fnQ ..) (hz2 _ _ hp)
def l7:Int:=bif decide (x0.tmod x1<0) then E (E (x0.tdiv x1)-1) else E (x0.tdiv x1)
def Dn:bo:=(83,.con JH)::(115,.con Vh)::(43,.con Xm)::(110,.con W2)::(113,.con VA)::(51,.con Wh)::(59,.con Ve)::xY
theorem AJ:aX Tryz.prog BD CJ Dn:=.con O3 (.con opW (.con sc3 (.con aaX (.con abT (.con OJ (.con Kv (sM)))))))
def yc:Int:=E (0-tN (E (0-x0)) x1)
def Ww:RT Empty:=.obp (nz x1) (.obt (.ret (D (E (0-bO (E (0-x0)) x1)))))
theorem alF:eJ eL (bu JJ Dn u0 if6 [D x0,D x1]) (Ww x0 x1):=cD
def bD:Int:=E (0-bO (E (0-x0)) x1)
def FU:V:=D (bD x0 x1)
theorem or2 (hp:x1≠0):bj em (Ww x0 x1) (FU x0 x1):=Cv (by first|assumption|(exact hp)) (AY (Br (by unfold FU bD;rfl)))
def V9:aH:=cG cO (λ
 |[.int _ x0,.int _ x1]=>x1≠0|_=>False) λ
 |[.int _ x0,.int _ x1]=>FU x0 x1|_=>.any
theorem NK:dL V9 52:=bH AJ λ_ hp=>fb (alF ..) (or2 _ _ hp)
def Ug:RT Empty:=.obp (nz x1) (.obt (.ret (D (E (0-de (E (0-x0)) x1)))))
theorem alD:eJ eL (bu JJ Dn u0 aau [V.agg [D x0,D x1]]) (Ug x0 x1):=cD
def c9:Int:=E (0-de (E (0-x0)) x1)
def Ff:V:=D (c9 x0 x1)
theorem acf (hp:x1≠0):bj em (Ug x0 x1) (Ff x0 x1):=Cv (by first|assumption|(exact hp)) (AY (Br (by unfold Ff c9;rfl)))
def Vs:aH:=cG [.agg cO] (λ
 |[.agg [.int _ x0,.int _ x1]]=>x1≠0|_=>False) λ
 |[.agg [.int _ x0,.int _ x1]]=>Ff x0 x1|_=>.any
theorem Jp:dL Vs 61:=bH AJ λ_ hp=>fb (alD ..) (acf _ _ hp)
def iz:Int:=E (0-l7 (E (0-x0)) x1)
def ol:Bool:=bif decide (x0<=x1) then bif bh x0 x2 x3 then bh x1 x2 x3 else false else false
def Xo:RT Empty:=.cb (.ret (V.bool !aB x0 x1 x2))
theorem hs2:eJ eL (bu JJ Dn u0 Ix [D x0,V.pd [D x1],V.pd [D x2]]) (Xo x0 x1 x2):=cD
def qj:Bool:=!aB x0 x1 x2
def LN:V:=.bool (qj x0 x1 x2)
theorem if9:bj em (Xo x0 x1 x2) (LN x0 x1 x2):=aG (AY (Br (by unfold LN qj;rfl)))
def W9:aH:=cG [tI,.pd M,.pd M] (λ_=>True) λ|[.int _ x0,.pd [.int _ x1],.pd [.int _ x2]]=>LN x0 x1 x2|_=>.any
theorem acJ:dL W9 116:=bH AJ λ_ hp=>fb (hs2 ..) (if9 _ _ _)
theorem adD (n:Nat) (p:Nat->Bool):HC (n+1) p=bif HC n p then p n else false:=by
 cases h:HC n p with
 |false=>
   cases Q:HC (n+1) p with
   |false=>rfl|true=>rw[gD λi hi=>dh Q i I]at h;cases h
 |true=>
   cases h3:p n with
   |false=>rw[jN n I h3];rfl
   |true=>rw[gD λi hi=>by
      by_cases e:i=n
      ·subst e;exact h3
      ·exact dh h i I];rfl
theorem Post {Uc:Type} {Nx:Uc->V->Prop} {r:V} {x:RT Uc} {c:Bool} {i n:Nat} (h:i<n) (hn:n<=9223372036854775807) (hc:c=true->((i:Int)==0)=false) (hx:bj Nx x r):bj Nx (.obj c (decide (0<=E ((i:Int)-1)/\E ((i:Int)-1)<(n:Int))) x) r:=⟨λhb=>by
 have h0:(i:Int)≠0:=by have:=hc hb;simpa using this
 exact Cg (by rw[C4 I I];omega),hx⟩
def Oq (i:Nat):Bool:=bif(i:Int)==0 then true else decide (aE (G (E ((i:Int)-1)).toNat)<aE (G (i:Int).toNat))
def rng (i:Nat):Bool:=bh (aE (G (i:Int).toNat)) (-5000) 5000
inductive sn where|L0 (_:Int)
def hrs:sn->bV×List AX×Option Ex
 |.L0 X8=>([(3,D X8),(2,V.kb false),(0,V.sl H (A M G))],[],none)
def aah:sn->JJ
 |.L0 _=>(0,[])
def yaK:Bj (cN JJ):=bu JJ Dn u0 aaC [V.sl H (A M G)]
def Bq (cx:List Cx):Lp JJ:=lc (kd (yaK H G) [])
def ig8:JJ->Lp JJ
 |(0,cx)=>Bq H G cx|(_,cx)=>Bq H G cx
def aeV:LD JJ sn:=⟨aah,ig8 H G,hrs H G⟩
def ze:sn->RT sn
 |.L0 X8=>.am H (.br (decide (X8<(H:Int))) (.ob (dI (E (X8-1)) H) (.ob (dI X8 H) (.br (decide (aE (G X8.toNat)<=aE (G (E (X8-1)).toNat))) (.ret (V.kb false)) (.next [] (sn.L0 (E (X8+1))) [])))) (.ret (V.kb true)))
def Sd:RT sn:=dm (H,G) (.enter [] (sn.L0 1) [])
theorem hlv:gU Dn u0 (aeV H G) (yaK H G) (Sd H G) (ze H G):=⟨cD,λs=>by cases s<;>exact cD⟩
def ic:Bool:=HC H (Oq G)
theorem ail:bj (Ev (ze H G)) (Sd H G) (.bool (ic H G)):=by
 have key:=gG (n:=H) (P:=λi=>1<=i->(∀ j,j<i->Oq G j=true)->Ev (ze H G) (.L0 i) (.bool (ic H G))) λi hi ih N hj=>by
  refine Ev.of rfl (ce λhn=>Ct (λh=>?_) (λh=>Br ?_))
  ·have XD:i<H:=by have:=HT h;omega
   have h0:((i:Int)==0)=false:=by simp;omega
   refine bf (Cg (by rw[C4 I I];omega)) (bf (Cg I) (Ct (λhb=>Br ?_) (λhb=>b9 ?_)))
   ·have hr:Oq G i=false:=by unfold Oq;rw[h0];exact fB (by have:=HT hb;omega)
    simp only[cP];unfold ic;rw[jN i XD hr]
   ·have hr:Oq G i=true:=by unfold Oq;rw[h0];exact Cg (by have:=Hv hb;omega)
    rw[uV XD hn];refine ih XD I λj Q=>?_;by_cases e:j=i
    ·subst e;exact hr
    ·exact hj j I
  ·have:i=H:=by have:=Hv h;omega
   subst this;simp only[cP];unfold ic;rw[gD hj]
 by_cases h0:H=0
 ·subst h0;exact bm (Ev.of rfl (ce λ_=>ib rfl (Br rfl)))
 ·exact bm (key 1 I I λj hj=>by
   have:j=0:=by omega
   subst this;rfl)
theorem ldV:bj (Ev (ze H G)) (Sd H G) (.bool (ic H (A M G))):=ail H G
def UX:aH:=cG [.sl M] (λ_=>True) λ|[.sl H G]=>.bool (ic H G)|_=>.any
theorem ic9:dL UX 146:=bH AJ λ_ hp=>ra (hlv ..) (ldV _ _)
def EI:Bool:=bif bif bif decide ((↑s0.size:Int)<1) then true else decide (24<(↑s0.size:Int)) then true else decide ((↑(s0.data.1.getD 0 0).toNat:Int)<97) then true else decide (122<(↑(s0.data.1.getD 0 0).toNat:Int))
def tE (ii:Nat):Bool:=!bif bif bif decide (97<=(↑(s0.data.1.getD ii 0).toNat:Int)) then decide ((↑(s0.data.1.getD ii 0).toNat:Int)<=122) else false then true else bif decide (48<=(↑(s0.data.1.getD ii 0).toNat:Int)) then decide ((↑(s0.data.1.getD ii 0).toNat:Int)<=57) else false then true else(↑(s0.data.1.getD ii 0).toNat:Int)==45
def EQ:Bool:=bif EI s0 then false else HC s0.size λi=>!tE s0 i
def FW:Bool:=HC H (rng G)
def PP:bo:=(52,.con V9)::(61,.con Vs)::(116,.con W9)::(146,.con UX)::Dn
theorem Uy:aX Tryz.prog BD CJ PP:=.con NK (.con Jp (.con acJ (.con ic9 (AJ))))
inductive sC where|L0 (_:Int)
def hpp:sC->bV×List AX×Option Ex
 |.L0 X8=>([(8,D X8),(7,D (H:Int)),(6,V.sl H (A M G)),(4,D 0),(0,V.sl H (A M G)),(1,V.fn 116 [] [V.pd [D x2],V.pd [D x3]])],[],none)
def abR:sC->JJ
 |.L0 _=>(0,[])
def Iz:Bj (cN JJ):=bu JJ PP u0 E2 [V.sl H (A M G),V.fn 116 [] [V.pd [D x2],V.pd [D x3]]]
def AS (cx:List Cx):Lp JJ:=lc (kd (Iz H G x2 x3) [])
def nc2:JJ->Lp JJ
 |(0,cx)=>AS H G x2 x3 cx|(_,cx)=>AS H G x2 x3 cx
def ad5:LD JJ sC:=⟨abR,nc2 H G x2 x3,hpp H G x2 x3⟩
def Cy:sC->RT sC
 |.L0 X8=>.br (decide (X8<(H:Int))) (.ob (dI X8 H) (.cb (.br (qj (aE (G X8.toNat)) x2 x3) (.ret (D X8)) (.next [] (sC.L0 (E (X8+1))) [])))) (.ret (D (-1)))
def J7:RT sC:=dm (G,x2,x3) (.am H (.enter [] (sC.L0 0) []))
theorem alz:gU PP u0 (ad5 H G x2 x3) (Iz H G x2 x3) (J7 H G x2 x3) (Cy H G x2 x3):=⟨cD,λs=>by cases s<;>exact cD⟩
def Ap:Int  :=idx H λii=>qj (aE (G ii)) x2 x3
theorem akF:bj (Ev (Cy H G x2 x3)) (J7 H G x2 x3) (D (Ap H G x2 x3)):=ce λhn=>bm (pu hn λi=>rfl)
theorem aaD:bj (Ev (Cy H G x2 x3)) (J7 H G x2 x3) (D (Ap H (A M G) x2 x3)):=akF H G x2 x3
def UC:aH:=cG [.sl M,.fn 116 [] [.pd M,.pd M]] (λ_=>True) λ|[.sl H G,.fn _ [] [.pd [.int _ x2],.pd [.int _ x3]]]=>D (Ap H G x2 x3)|_=>.any
theorem ia3:dL UC 99:=bH Uy λ_ hp=>ra (alz ..) (aaD _ _ _ _)
def Rz:bo:=(99,.con UC)::PP
theorem Ur:aX Tryz.prog BD CJ Rz:=.con ia3 (Uy)
def ahT:RT Empty:=.cb (.ret (V.bool (decide (0<=Ap H (A M G) x2 x3))))
theorem ih3:eJ eL (bu JJ Rz u0 TS [V.sl H (A M G),V.fn 116 [] [V.pd [D x2],V.pd [D x3]]]) (ahT H G x2 x3):=cD
def yy:Bool:=decide (0<=Ap H (A M G) x2 x3)
def Ry:V:=.bool (yy H G x2 x3)
theorem ad0:bj em (ahT H G x2 x3) (Ry H G x2 x3):=aG (AY (Br (by unfold Ry yy;rfl)))
def Tf:aH:=cG [.sl M,.fn 116 [] [.pd M,.pd M]] (λ_=>True) λ|[.sl H G,.fn _ [] [.pd [.int _ x2],.pd [.int _ x3]]]=>Ry H G x2 x3|_=>.any
theorem agQ:dL Tf 67:=bH Ur λ_ hp=>fb (ih3 ..) (ad0 _ _ _ _)
def ZI:bo:=(67,.con Tf)::Rz
theorem Xr:aX Tryz.prog BD CJ ZI:=.con agQ (Ur)
def WZ:RT Empty:=.cb (.ret (V.bool !yy H (A M G) x2 x3))
theorem hds:eJ eL (bu JJ ZI u0 Nv [V.sl H (A M G),D x2,D x3]) (WZ H G x2 x3):=cD
def dT:Bool:=!yy H (A M G) x2 x3
def JD:V:=.bool (dT H G x2 x3)
theorem ig5:bj em (WZ H G x2 x3) (JD H G x2 x3):=aG (AY (Br (by unfold JD dT;rfl)))
def US:aH:=cG [.sl M,tI,tI] (λ_=>True) λ|[.sl H G,.int _ x2,.int _ x3]=>JD H G x2 x3|_=>.any
theorem ab0:dL US 84:=bH Xr λ_ hp=>fb (hds ..) (ig5 _ _ _ _)
def RG:bo:=(84,.con US)::ZI
theorem I5:aX Tryz.prog BD CJ RG:=.con ab0 (Xr)
def V5:RT Empty:=dm (G,s2,n3,f3,S,n7,f7,x9,XH) (.am H (.am Z (.ret (V.bool ((H:Int)!=(Z:Int))))))
theorem ho':eJ eL (bu JJ RG u0 aai [V.sl H (A M G),V.pd [V.str s2,V.sl n3 (A M f3),V.sl Z (A M S),V.sl n7 (A [Ty.sl M] f7),D x9,D XH]]) (V5 H G s2 n3 f3 Z S n7 f7 x9 XH):=cD
def tR:Bool:=(H:Int)!=(Z:Int)
def IW:V:=dm (G,s2,n3,f3,S,n7,f7,x9,XH) (.bool (tR H Z))
theorem ab1:bj em (V5 H G s2 n3 f3 Z S n7 f7 x9 XH) (IW H G s2 n3 f3 Z S n7 f7 x9 XH):=H1 (λa0=>H1 (λa0=>Br (by unfold IW tR;rfl)))
def V6:aH:=cG [.sl M,.pd au] (λ_=>True) λ|[.sl H G,.pd [.str s2,.sl n3 f3,.sl Z S,.sl n7 f7,.int _ x9,.int _ XH]]=>IW H G s2 n3 f3 Z S n7 f7 x9 XH|_=>.any
theorem ac1:dL V6 144:=bH I5 λ_ hp=>fb (ho' ..) (ab1 _ _ _ _ _ _ _ _ _ _ _)
def Wu:RT Empty:=.cb (.ret (V.bool !dT H (A M G) 0 10000000))
theorem ha1:eJ eL (bu JJ RG u0 hzv [V.sl H (A M G)]) (Wu H G):=cD
def iC:Bool:=!dT H (A M G) 0 10000000
def Om:V:=.bool (iC H G)
theorem if7:bj em (Wu H G) (Om H G):=aG (AY (Br (by unfold Om iC;rfl)))
def Vx:aH:=cG [.sl M] (λ_=>True) λ|[.sl H G]=>Om H G|_=>.any
theorem abz:dL Vx 145:=bH I5 λ_ hp=>fb (ha1 ..) (if7 _ _)
def G8:bo:=(163,.inl ih5 u0)::(147,.inl abc u0)::(144,.con V6)::(145,.con Vx)::RG
theorem Wc:aX Tryz.prog BD CJ G8:=ij Tryz.func163 BF (ij Tryz.func147 BF (.con ac1 (.con abz (I5))))
inductive mD where|L0 (_:Int)|L2 (_ _:Int)|L3 (_ _:Int)
def yV:mD->bV×List AX×Option Ex
 |.L0 X8=>([(8,D X8),(7,D (Z:Int)),(0,V.sl Z (A [Ty.sl M] S)),(1,V.fn 144 [] [V.pl 0 0])],[AX.cells [V.str s0,V.sl n1 (A M f1),V.sl n3 (A M f3),V.sl Z (A [Ty.sl M] S),D x7,D x8] 128],none)|.L2 Xz _=>([(8,D Xz),(7,D (Z:Int)),(0,V.sl Z (A [Ty.sl M] S)),(1,V.fn 145 [] [])],[AX.cells [V.str s0,V.sl n1 (A M f1),V.sl n3 (A M f3),V.sl Z (A [Ty.sl M] S),D x7,D x8] 128],none)|.L3 ZO _=>([(8,D ZO),(7,D (Z:Int)),(0,V.sl Z (A [Ty.sl M] S)),(1,V.fn 145 [] [])],[AX.cells [V.str s0,V.sl n1 (A M f1),V.sl n3 (A M f3),V.sl Z (A [Ty.sl M] S),D x7,D x8] 128],none)
def hsr:mD->JJ
 |.L0 _=>(0,[])|.L2 _ Ze=>(2,[Cx.i Ze])|.L3 _ xi=>(3,[Cx.i xi])
def yaN:Bj (cN JJ):=bu JJ G8 u0 abS [V.agg [V.str s0,V.sl n1 (A M f1),V.sl n3 (A M f3),V.sl Z (A [Ty.sl M] S),D x7,D x8]]
def qX (cx:List Cx):Lp JJ:=lc (kd (yaN s0 n1 f1 n3 f3 Z S x7 x8) [true,false,true,false,true,false,true])
def aiu (cx:List Cx):Lp JJ:=lc (kd (Kb G8 u0 (0,[]) (qX s0 n1 f1 n3 f3 Z S x7 x8 []) (yV s0 n1 f1 n3 f3 Z S x7 x8 (.L0 (JB cx 0)))) [true,true,false])
def ait (cx:List Cx):Lp JJ:=lc (kd (Kb G8 u0 (0,[]) (qX s0 n1 f1 n3 f3 Z S x7 x8 []) (yV s0 n1 f1 n3 f3 Z S x7 x8 (.L0 (JB cx 0)))) [false,false])
def hus:JJ->Lp JJ
 |(0,cx)=>qX s0 n1 f1 n3 f3 Z S x7 x8 cx|(2,cx)=>aiu s0 n1 f1 n3 f3 Z S x7 x8 cx|(3,cx)=>ait s0 n1 f1 n3 f3 Z S x7 x8 cx|(_,cx)=>qX s0 n1 f1 n3 f3 Z S x7 x8 cx
def afI:LD JJ mD:=⟨hsr,hus s0 n1 f1 n3 f3 Z S x7 x8,yV s0 n1 f1 n3 f3 Z S x7 x8⟩
def pA (s0:ByteArray) (n1:Nat) (f1:bl) (n3:Nat) (f3:bl) (Z:Nat) (S:bl) (x7 x8:Int):mD->RT mD
 |.L0 X8=>.br (decide (X8<(Z:Int))) (.ob (dI X8 Z) (.cb (.br (tR (aL (aI (S X8.toNat))) n3) (.br (decide (0<=X8)) (.ret (D 6)) (.am Z (.enter J9 (mD.L2 0 X8) []))) (.next J9 (mD.L0 (E (X8+1))) [])))) (.brf (.am Z (.enter J9 (mD.L3 0 X8) [])))|.L2 Xz Ze=>.br (decide (Xz<(Z:Int))) (.ob (dI Xz Z) (.cb (.br (iC (aL (aI (S Xz.toNat))) λi=>aw M (b7 (aI (S Xz.toNat)) i)) (.ii (.br (!decide (0<=Xz)) (.ob (!decide (0<=Xz)) (.ob (!decide (0<=Xz)) (.ob (!decide (0<=Xz)) (.cb (.br (iC 2 (A M (bE [D x7,D x8] 0 1))) (.ret (D 7)) (.ret (D 0))))))) (.ret (D 7)))) (.next J9 (mD.L2 (E (Xz+1)) Ze) [])))) (.obt (.obt (.brt (.obt (.obt (.obt (.cb (.br (iC 2 (A M (bE [D x7,D x8] 0 1))) (.ret (D 7)) (.ret (D 0))))))))))|.L3 ZO xi=>.br (decide (ZO<(Z:Int))) (.ob (dI ZO Z) (.cb (.br (iC (aL (aI (S ZO.toNat))) λi=>aw M (b7 (aI (S ZO.toNat)) i)) (.ii (.br (!decide (0<=ZO)) (.ob (!decide (0<=ZO)) (.ob (!decide (0<=ZO)) (.ob (!decide (0<=ZO)) (.cb (.br (iC 2 (A M (bE [D x7,D x8] 0 1))) (.ret (D 7)) (.ret (D 0))))))) (.ret (D 7)))) (.next J9 (mD.L3 (E (ZO+1)) xi) [])))) (.obt (.obt (.brt (.obt (.obt (.obt (.cb (.br (iC 2 (A M (bE [D x7,D x8] 0 1))) (.ret (D 7)) (.ret (D 0))))))))))
def O7:RT mD:=dm (s0,S,x7,x8) (.am n1 (.cb (.ii (.asm ((!!aB (n1:Int) 2 12)=true->n3<=9223372036854775807) (.br (!!aB (n1:Int) 2 12) (.ob (!!aB (n1:Int) 2 12) (.cb (.br (!aB (n3:Int) 2 12) (.ret (D 3)) (.cb (.obi (.br (!!dT n1 (A M f1) (-5000) 5000) (.ob (!!dT n1 (A M f1) (-5000) 5000) (.cb (.br (!dT n3 (A M f3) (-5000) 5000) (.ret (D 7)) (.cb (.obi (.br (!!ic n1 (A M f1)) (.ob (!!ic n1 (A M f1)) (.cb (.br (!ic n3 (A M f3)) (.ret (D 2)) (.am Z (.am n1 (.obi (.br (!(Z:Int)!=(n1:Int)) (.ob (!(Z:Int)!=(n1:Int)) (.ob (!(Z:Int)!=(n1:Int)) (.am Z (.enter J9 (mD.L0 0) [])))) (.ret (D 6))))))))) (.ret (D 2)))))))) (.ret (D 7)))))))) (.ret (D 3)))))))
theorem hij:gU G8 u0 (afI s0 n1 f1 n3 f3 Z S x7 x8) (yaN s0 n1 f1 n3 f3 Z S x7 x8) (O7 s0 n1 f1 n3 f3 Z S x7 x8) (pA s0 n1 f1 n3 f3 Z S x7 x8):=⟨cD,λs=>by cases s<;>exact cD⟩
def QT (i:Nat):Bool:=tR (aL (aI (S i))) n3
def SZ (i:Nat):Bool:=iC (aL (aI (S i))) λj=>aw M (b7 (aI (S i)) j)
def Sr:Bool:=iC 2 (A M (bE [D x7,D x8] 0 1))
def qg:Int:=bif lq Z (SZ S) then 7 else bif Sr x7 x8 then 7 else 0
def mT (n1:Nat) (f1:bl) (n3:Nat) (f3:bl) (Z:Nat) (S:bl) (x7 x8:Int):Int :=
 bif !(aB (n1:Int) 2 12&&aB (n3:Int) 2 12) then 3 else bif !(dT n1 f1 (-5000) 5000&&dT n3 f3 (-5000) 5000) then 7 else bif !(ic n1 f1&&ic n3 f3) then 2 else bif(Z:Int)!=(n1:Int) then 6 else bif lq Z (QT n3 S) then 6 else qg Z S x7 x8
theorem SB {Uc:Type} {Nx:Uc->V->Prop} {c d:Bool} {v r:V} {X:RT Uc} (N:(c&&d)=false->cP v=cP r) (Q:(c&&d)=true->bj Nx X r):bj Nx (.br (!!c) (.ob (!!c) (.obc (.obt (.br (!d) (.ret v) X)))) (.ret v)) r:=by
 cases c<;>cases d
 ·exact Ct (λh=>by cases h) (λ_=>Br (N rfl))
 ·exact Ct (λh=>by cases h) (λ_=>Br (N rfl))
 ·exact Ct (λh=>bf h (aG (AY (Ct (λ_=>Br (N rfl)) (λk=>by cases k))))) (λk=>by cases k)
 ·exact Ct (λh=>bf h (aG (AY (Ct (λk=>by cases k) (λ_=>Q rfl))))) (λk=>by cases k)
theorem hfr (hn:Z<=9223372036854775807) (t:Int):Ev (pA s0 n1 f1 n3 f3 Z S x7 x8) (.L3 0 t) (D (qg Z S x7 x8)):=by
 refine yX hn (SZ S) (P:=λx=>Ev (pA s0 n1 f1 n3 f3 Z S x7 x8) (.L3 x t) (D (qg Z S x7 x8))) (λi XD hj next=>Ev.of rfl (kO XD (il XD (aG (AY (Ct (λhb=>CE (CE (ib (by rw[Cg (Qp i)];rfl) (Br ?_)))) (λhb=>b9 (next hb)))))))) (λhj=>Ev.of rfl (jW (AY (AY (ku (AY (AY (AY (aG (AY (Ct (λhb=>Br ?_) (λhb=>Br ?_))))))))))))
 ·unfold qg;rw[e7 i XD hb];rfl
 ·unfold qg;rw[eV hj,show Sr x7 x8=true from hb];rfl
 ·unfold qg;rw[eV hj,show Sr x7 x8=false from hb];rfl
theorem alL (hn:Z<=9223372036854775807):Ev (pA s0 n1 f1 n3 f3 Z S x7 x8) (.L0 0) (D (bif lq Z (QT n3 S) then 6 else qg Z S x7 x8)):=by
 refine yX hn (QT n3 S) (P:=λx=>Ev (pA s0 n1 f1 n3 f3 Z S x7 x8) (.L0 x) (D (bif lq Z (QT n3 S) then 6 else qg Z S x7 x8))) (λi XD hj next=>Ev.of rfl (kO XD (il XD (aG (AY (Ct (λhb=>iY (Cg (Qp i)) (Br ?_)) (λhb=>b9 (next hb)))))))) (λhj=>Ev.of rfl (jW (w7 (H1 λ_=>bm ?_))))
 ·rw[e7 i XD hb];rfl
 ·rw[eV hj];exact hfr s0 n1 f1 n3 f3 Z S x7 x8 hn _
theorem agK:bj (Ev (pA s0 n1 f1 n3 f3 Z S x7 x8)) (O7 s0 n1 f1 n3 f3 Z S x7 x8) (D (mT n1 f1 n3 f3 Z S x7 x8)):=by
 unfold mT;refine H1 λ_=>aG (AY (CE (CE (H1 λ_=>SB (λh=>by rw[h];rfl) (λh=>?_)))));rw[h];refine aG (AY (CE (SB (λh=>by rw[show(dT n1 f1 (-5000) 5000&&dT n3 f3 (-5000) 5000)=false from h];rfl) (λh=>?_))));rw[show(dT n1 f1 (-5000) 5000&&dT n3 f3 (-5000) 5000)=true from h];refine aG (AY (CE (SB (λh=>by rw[show(ic n1 f1&&ic n3 f3)=false from h];rfl) (λh=>?_))));rw[show(ic n1 f1&&ic n3 f3)=true from h];refine H1 λ_=>H1 λ_=>CE (Ct (λh=>bf h (bf h (ce λhn=>bm ?_))) (λh=>Br ?_))
 ·rw[Pr h];exact alL s0 n1 f1 n3 f3 Z S x7 x8 hn
 ·rw[Cr h];rfl
theorem hx':bj (Ev (pA s0 n1 f1 n3 f3 Z S x7 x8)) (O7 s0 n1 f1 n3 f3 Z S x7 x8) (D (mT n1 (A M f1) n3 (A M f3) Z (A [.sl M] S) x7 x8)):=agK s0 n1 f1 n3 f3 Z S x7 x8
def Vl:aH:=cG [.agg au] (λ_=>True) λ|[.agg [.str s0,.sl n1 f1,.sl n3 f3,.sl Z S,.int _ x7,.int _ x8]]=>D (mT n1 f1 n3 f3 Z S x7 x8)|_=>.any
theorem ne1:dL Vl 111:=bH Wc λ_ hp=>ra (hij ..) (hx' _ _ _ _ _ _ _ _ _)
def Z4:bo:=(111,.con Vl)::G8
theorem Xu:aX Tryz.prog BD CJ Z4:=.con ne1 (Wc)
def Uw:RT Empty:=dm (s0,n2,sI,n5) (.cb (.obi (.br (aB x3 1 1000000) (.ob (aB x3 1 1000000) (.cb (.ii (.br (aB x4 1 5000000) (.ob (aB x4 1 5000000) (.ob (aB x4 1 5000000) (.cb (.obi (.br (aB x5 0 x4) (.ob (aB x5 0 x4) (.cb (.obi (.br (aB x6 0 1000) (.ob (aB x6 0 1000) (.cb (.obi (.br (fK x7 x8 0 1000) (.ob (fK x7 x8 0 1000) (.cb (.obi (.br (fK x9 XH 0 1000) (.ob (fK x9 XH 0 1000) (.cb (.obi (.br (aB XJ 1 200000) (.ob (aB XJ 1 200000) (.cb (.obi (.br (aB XP 0 1000) (.ob (aB XP 0 1000) (.cb (.am YN (.cb (.br (!aB x1 0 (E ((YN:Int)-1))) (.ret (D 4)) (.cb (.br (!aB x2 1 3) (.ret (D 2)) (.br (!aB XT 0 3600) (.ret (D 7)) (.ii (.obi (.br (bif x2==1 then decide (0<XT) else false) (.ret (D 2)) (.ret (D 0))))))))))))) (.am YN (.cb (.br (!aB x1 0 (E ((YN:Int)-1))) (.ret (D 4)) (.cb (.br (!aB x2 1 3) (.ret (D 2)) (.ret (D 7))))))))))) (.am YN (.cb (.br (!aB x1 0 (E ((YN:Int)-1))) (.ret (D 4)) (.cb (.br (!aB x2 1 3) (.ret (D 2)) (.ret (D 7))))))))))) (.am YN (.cb (.br (!aB x1 0 (E ((YN:Int)-1))) (.ret (D 4)) (.cb (.br (!aB x2 1 3) (.ret (D 2)) (.ret (D 7))))))))))) (.am YN (.cb (.br (!aB x1 0 (E ((YN:Int)-1))) (.ret (D 4)) (.cb (.br (!aB x2 1 3) (.ret (D 2)) (.ret (D 7))))))))))) (.am YN (.cb (.br (!aB x1 0 (E ((YN:Int)-1))) (.ret (D 4)) (.cb (.br (!aB x2 1 3) (.ret (D 2)) (.ret (D 7))))))))))) (.am YN (.cb (.br (!aB x1 0 (E ((YN:Int)-1))) (.ret (D 4)) (.cb (.br (!aB x2 1 3) (.ret (D 2)) (.ret (D 7)))))))))))) (.am YN (.cb (.br (!aB x1 0 (E ((YN:Int)-1))) (.ret (D 4)) (.cb (.br (!aB x2 1 3) (.ret (D 2)) (.ret (D 7))))))))))) (.am YN (.cb (.br (!aB x1 0 (E ((YN:Int)-1))) (.ret (D 4)) (.cb (.br (!aB x2 1 3) (.ret (D 2)) (.ret (D 7))))))))))
theorem yaS:eJ eL (bu JJ Z4 u0 aac [V.agg [V.str s0,D x1,D x2,D x3,D x4,D x5,D x6,D x7,D x8,D x9,D XH,D XJ,D XP,D XT],V.pd [V.sl YN (A au n2),V.sl sI (A ao n5)]]) (Uw s0 x1 x2 x3 x4 x5 x6 x7 x8 x9 XH XJ XP XT YN n2 sI n5):=cD
def hpl0:Int:=bif aB x3 1 1000000 then bif aB x4 1 5000000 then bif aB x5 0 x4 then bif aB x6 0 1000 then bif fK x7 x8 0 1000 then bif fK x9 XH 0 1000 then bif aB XJ 1 200000 then bif aB XP 0 1000 then bif !aB x1 0 (E ((YN:Int)-1)) then 4 else bif !aB x2 1 3 then 2 else bif !aB XT 0 3600 then 7 else bif bif x2==1 then decide (0<XT) else false then 2 else 0 else bif !aB x1 0 (E ((YN:Int)-1)) then 4 else bif !aB x2 1 3 then 2 else 7 else bif !aB x1 0 (E ((YN:Int)-1)) then 4 else bif !aB x2 1 3 then 2 else 7 else bif !aB x1 0 (E ((YN:Int)-1)) then 4 else bif !aB x2 1 3 then 2 else 7 else bif !aB x1 0 (E ((YN:Int)-1)) then 4 else bif !aB x2 1 3 then 2 else 7 else bif !aB x1 0 (E ((YN:Int)-1)) then 4 else bif !aB x2 1 3 then 2 else 7 else bif !aB x1 0 (E ((YN:Int)-1)) then 4 else bif !aB x2 1 3 then 2 else 7 else bif !aB x1 0 (E ((YN:Int)-1)) then 4 else bif !aB x2 1 3 then 2 else 7 else bif !aB x1 0 (E ((YN:Int)-1)) then 4 else bif !aB x2 1 3 then 2 else 7
def C8 (a k num X1:Bool):Int:=bif !a then 4 else bif !k then 2 else bif !num then 7 else bif X1 then 2 else 0
def PE:Bool:=bif x2==1 then decide (0<XT) else false
def ic12:Bool:=aB x3 1 1000000&&(aB x4 1 5000000&&(aB x5 0 x4&&(aB x6 0 1000&&(fK x7 x8 0 1000&&(fK x9 XH 0 1000&&(aB XJ 1 200000&&(aB XP 0 1000&&(aB XT 0 3600))))))))
def pU (x1 x2 x3 x4 x5 x6 x7 x8 x9 XH XJ XP XT:Int) (YN:Nat):Int:=C8 (aB x1 0 (E ((YN:Int)-1))) (aB x2 1 3) (aB x3 1 1000000&&(aB x4 1 5000000&&(aB x5 0 x4&&(aB x6 0 1000&&(fK x7 x8 0 1000&&(fK x9 XH 0 1000&&(aB XJ 1 200000&&(aB XP 0 1000&&(aB XT 0 3600))))))))) (PE x2 XT)
section
variable {Uc:Type} {Nx:Uc->V->Prop} {r:V} {X Y:RT Uc} {c:Bool}
section
variable (N:c=false->bj Nx Y r) (Q:c=true->bj Nx X r)
include N Q
theorem pJ:bj Nx (.br c (.ob c X) Y) r:=Ct (λh=>bf h (Q h)) N
theorem rkB:bj Nx (.br c (.ob c (.ob c X)) Y) r:=Ct (λh=>bf h (bf h (Q h))) N
end
theorem A4 {a k X1:Bool} {p:Prop}:bj Nx (.asm p (.obc (.obt (.br (!a) (.ret (D 4)) (.obc (.obt (.br (!k) (.ret (D 2)) (.ret (D 7)))))))) ) (D (C8 a k false X1)) :=
 H1 λ_=>aG (AY (Ct (λh=>Br (by rw[Pr h];rfl)) λh=>aG (AY (Ct (λQ=>Br (by rw[Cr h,Pr Q];rfl)) λQ=>Br (by rw[Cr h,Cr Q];rfl)))))
end
theorem acY:bj em (Uw s0 x1 x2 x3 x4 x5 x6 x7 x8 x9 XH XJ XP XT YN n2 sI n5) (D (pU x1 x2 x3 x4 x5 x6 x7 x8 x9 XH XJ XP XT YN)):=by
 unfold pU;refine aG (AY ?_)
 repeat refine CE ?_
 refine pJ (λh=>by rw[h];exact A4) (λh=>?_);rw[h];refine aG (AY ?_)
 repeat refine CE ?_
 refine rkB (λh=>by rw[h];exact A4) (λh=>?_);rw[h];refine aG (AY ?_)
 repeat refine CE ?_
 refine pJ (λh=>by rw[h];exact A4) (λh=>?_);rw[h];refine aG (AY ?_)
 repeat refine CE ?_
 refine pJ (λh=>by rw[h];exact A4) (λh=>?_);rw[h];refine aG (AY ?_)
 repeat refine CE ?_
 refine pJ (λh=>by rw[h];exact A4) (λh=>?_);rw[h];refine aG (AY ?_)
 repeat refine CE ?_
 refine pJ (λh=>by rw[h];exact A4) (λh=>?_);rw[h];refine aG (AY ?_)
 repeat refine CE ?_
 refine pJ (λh=>by rw[h];exact A4) (λh=>?_);rw[h];refine aG (AY ?_)
 repeat refine CE ?_
 refine pJ (λh=>by rw[h];exact A4) (λh=>?_);rw[h];refine aG (AY ?_);exact H1 λ_=>aG (AY (Ct (λh=>Br (by rw[Pr h];rfl)) λh=>aG (AY (Ct (λQ=>Br (by rw[Cr h,Pr Q];rfl)) λQ=>Ct (λh3=>Br (by rw[Cr h,Cr Q,Pr h3];rfl)) λh3=>CE (CE (CE (Ct (λh4=>Br (by rw[Cr h,Cr Q,Cr h3,show PE x2 XT=true from h4];rfl)) λh4=>Br (by rw[Cr h,Cr Q,Cr h3,show PE x2 XT=false from h4];rfl))))))))
def WE:aH:=cG [.agg ao,.pd [.sl au,.sl ao]] (λ_=>True) λ|[.agg [.str s0,.int _ x1,.int _ x2,.int _ x3,.int _ x4,.int _ x5,.int _ x6,.int _ x7,.int _ x8,.int _ x9,.int _ XH,.int _ XJ,.int _ XP,.int _ XT],.pd [.sl YN n2,.sl sI n5]]=>D (pU x1 x2 x3 x4 x5 x6 x7 x8 x9 XH XJ XP XT YN)|_=>.any
theorem hys:dL WE 114:=bH Xu λ_ hp=>fb (yaS ..) (acY _ _ _ _ _ _ _ _ _ _ _ _ _ _ _ _ _ _)
end
end Go.Dx
