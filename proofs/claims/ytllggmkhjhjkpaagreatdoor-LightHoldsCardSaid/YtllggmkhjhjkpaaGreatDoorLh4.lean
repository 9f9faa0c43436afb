/- Part 4 of a proof. No conditions. -/
import Derived.Test.YtllggmkhjhjkpaaGreatDoorLh3
import Derived.Laws.StructEq
import Derived.ChangeKeysEq
import Derived.Test.YtllggmkhjhjkpaaGreatDoorChecked
import Derived.IntWalk
import Derived.WalkKit
import Derived.Ground.NamesProg
import Derived.Shelf.Strings.SlTrimAscii
import Derived.Lib.ConvBytes
import Derived.Lib.Walk
set_option maxRecDepth 100000
set_option linter.unusedVariables false
set_option linter.unusedSimpArgs false
theorem bw {p:Prop} (h:p:=by kernel_rfl):p:=h
theorem cG {p At:Prop} (h:p:=by kernel_rfl) (k:At:=by kernel_rfl):p∧At:=⟨h,k⟩
namespace Go.Dx
open Go.Sx
inductive cX (J:Type) where|res (v:V)|head (j:J) (e:bZ) (h:List A7) (g:Option Ex)
structure Lp (J:Type) where
 fr:Nat×Nat
 body:Al
 k:Ex->bZ->List A7->Option Ex->BO (cX J)
section
variable {α β:Type}
def gy:BO α->(α->BO β)->BO β
 |.ret a,f=>f a|.br b x y,f=>.br b (gy x f) (gy y f)|.ob b x,f=>.ob b (gy x f)|.obi c d x,f=>.obi c d (gy x f)|.obp p x,f=>.obp p (gy x f)|.obq a b x,f=>.obq a b (gy x f)|.fail n,_=>.fail n|.loop fr b e h g k,f=>.loop fr b e h g λx e h g=>gy (k x e h g) f
 |.all t,f=>.all λl=>gy (t l) f
 |.und x y,f=>.und (gy x f) (gy y f)|.asm p x,f=>.asm p (gy x f)
theorem EB {LP:fK} {Qe:β->Prop} (f:α->BO β):∀ t:BO α,bR LP (gy t f) Qe=bR LP t λa=>bR LP (f a) Qe:=by
 intro t;induction t with
 |ret a=>rfl|br b x y hx hy=>simp[gy,bR,hx,hy]|ob b x hx=>simp[gy,bR,hx]|obi c d x hx=>simp[gy,bR,hx]|obp p x hx=>simp[gy,bR,hx]|obq a b x hx=>simp[gy,bR,hx]|fail n=>rfl|loop fr b e h g k W=>simp[gy,bR,W]|all t ht=>simp[gy,bR,ht]|und x y hx hy=>simp[gy,bR,hx,hy]|asm p x hx=>simp[gy,bR,hx]
theorem lz {LP:fK} (hLP:∀ fr b e h g (P P':Ex->bZ->List A7->Option Ex->Prop),(∀ x e h g,P x e h g->P' x e h g)->LP fr b e h g P->LP fr b e h g P') {Qe Q':α->Prop} (hQ:∀ a,Qe a->Q' a):∀ t:BO α,bR LP t Qe->bR LP t Q':=by
 intro t;induction t with
 |ret a=>exact hQ a|br b x y hx hy=>exact λh=>⟨λe=>hx (h.1 e),λe=>hy (h.2 e)⟩
 |ob b x hx=>exact λh=>⟨h.1,hx h.2⟩
 |obi c d x hx=>exact λh=>⟨h.1,hx h.2⟩
 |obp p x hx=>exact λh=>⟨h.1,hx h.2⟩
 |obq a b x hx=>exact λh=>⟨h.1,hx h.2⟩
 |fail n=>exact id|loop fr b e h g k W=>exact λhs=>hLP _ _ _ _ _ _ _ (λx e h g=>W x e h g) hs
 |all t ht=>exact λh l=>ht l (h l)
 |und x y hx hy=>exact λh=>⟨hx h.1,hy h.2⟩
 |asm p x hx=>exact λh hp=>hx (h hp)
theorem iH (w0:World) (QZ:DK):∀ fr b e h g (P P':Ex->bZ->List A7->Option Ex->Prop),(∀ x e h g,P x e h g->P' x e h g)->dz w0 QZ fr b e h g P->dz w0 QZ fr b e h g P':=by
 intro fr b e h g P P' hP;cases b with
 |s body=>exact λhl Qo nbS ν nV nS sl lh QA M N h3 h4=>hl Qo nbS ν nV nS sl lh QA M N h3 λex e' h' ν' sl' lh' nV' nS' g0 g1 g2 g3=>h4 ex e' h' ν' sl' lh' nV' nS' g0 g1 g2 (hP _ _ _ _ g3)
 |i body rd=>exact λhl Qo N0 ν nV nS sl Sf lh QA M N h3 h4 h5 h6 h7 h8=>hl Qo N0 ν nV nS sl Sf lh QA M N h3 h4 h5 h6 h7 λex e' h' g' ν' sl' lh' nV' nS' g0 g1 g2 g3=>h8 ex e' h' g' ν' sl' lh' nV' nS' g0 g1 g2 (hP _ _ _ _ g3)
end
mutual
def lR (ρ:oK):V->V->V
 |.any,_=>.any|.int _ _,.int k a=>.int k a|.bool _,.bool a=>.bool a|.bool _,.kb a=>.bool a|.kb _,.kb a=>.kb a|.str _,.str a=>.str a|.agg ys,.agg xs=>.agg (mq ρ ys xs)|.tup ys,.tup xs=>.tup (mq ρ ys xs)|.fn _ us vs,.fn f xs ys=>.fn f (mq ρ us xs) (mq ρ vs ys)|.sl _ _,.sl n f=>.sl n f|.pd _,.pd cs=>.pd cs
 |.pl k1 _,.pl k o=>match d4 ρ k1 with|some (some k')=>cond (Nat.beq k' k) (.pl k1 o) .any|_=>.any
 |.pe k1 _ _,.pe k i j=>match d4 ρ k1 with|some (some k')=>cond (Nat.beq k' k) (.pe k1 i j) .any|_=>.any
 |.ss k1 _ _ _,.ss k o n c=>match d4 ρ k1 with|some (some k')=>cond (Nat.beq k' k) (.ss k1 o n c) .any|_=>.any
 |.gs k1 _,.gs k n=>match d4 ρ k1 with|some (some k')=>cond (Nat.beq k' k) (.gs k1 n) .any|_=>.any
 |.gs k1 _,.ns=>match d4 ρ k1 with|some none=>.gs k1 0|_=>.any
 |.ns,.ns=>.ns|.np,.np=>.np|.yl _,.yl l=>.yl l
 |.go k1 _ _,.go k o n=>match d4 ρ k1 with|some (some k')=>cond (Nat.beq k' k) (.go k1 o n) .any|_=>.any
 |_,_=>.any
def mq (ρ:oK):List V->List V->List V
 |[],[]=>[]|y::ys,x::xs=>lR ρ y x::mq ρ ys xs|[],_::_=>[.any]|_::_,[]=>[]
end
section
variable {ρ:oK}
theorem Mk {k k':Nat} {x y:V} (hb:cond (Nat.beq k' k) x V.any=y) (hy:y≠V.any):k'=k/\x=y:=by
 cases hc:Nat.beq k' k with
 |false=>rw[hc]at hb;exact(hy hb.symm).elim|true=>rw[hc]at hb;exact⟨FF hc,hb⟩
mutual
theorem acE:∀ (t v:V),lR ρ t v=t->cV ρ v t
 |.any,v,_=>by cases v<;>simp[cV]
 |.int k n,v,h=>by cases v<;>simp only[lR]at h<;>cases h<;>simp[cV]
 |.bool b,v,h=>by cases v<;>simp only[lR]at h<;>cases h<;>simp[cV]
 |.kb b,v,h=>by cases v<;>simp only[lR]at h<;>cases h<;>simp[cV]
 |.str b,v,h=>by cases v<;>simp only[lR]at h<;>cases h<;>simp[cV]
 |.agg ys,v,h=>by
   cases v<;>simp only[lR]at h<;>first|(cases h;done)|skip
   simp only[V.agg.injEq]at h;simp only[cV];exact gW ys _ h
 |.tup ys,v,h=>by
   cases v<;>simp only[lR]at h<;>first|(cases h;done)|skip
   simp only[V.tup.injEq]at h;simp only[cV];exact gW ys _ h
 |.fn f us vs,v,h=>by
   cases v<;>simp only[lR]at h<;>first|(cases h;done)|skip
   simp only[V.fn.injEq]at h;simp only[cV];exact⟨h.1,gW us _ h.2.1,gW vs _ h.2.2⟩
 |.sl n f,v,h=>by cases v<;>simp only[lR]at h<;>cases h<;>simp[cV]
 |.pd cs,v,h=>by cases v<;>simp only[lR]at h<;>cases h<;>simp[cV]
 |.pl k1 o1,v,h=>by
   cases v<;>simp only[lR]at h<;>first|(cases h;done)|skip
   split at h
   ·rename_i k' W
    let ⟨rfl,e⟩:=Mk h av
    simp only[V.pl.injEq,GQ]at e;simp only[cV];exact⟨W,e⟩
   ·cases h
 |.pe k1 i1 j1,v,h=>by
   cases v<;>simp only[lR]at h<;>first|(cases h;done)|skip
   split at h
   ·rename_i k' W
    let ⟨rfl,e⟩:=Mk h av
    simp only[V.pe.injEq,GQ]at e;simp only[cV];exact⟨W,e⟩
   ·cases h
 |.ss k1 i1 j1 c1,v,h=>by
   cases v<;>simp only[lR]at h<;>first|(cases h;done)|skip
   split at h
   ·rename_i k' W
    let ⟨rfl,e⟩:=Mk h av
    simp only[V.ss.injEq,GQ]at e;simp only[cV];exact⟨W,e⟩
   ·cases h
 |.gs k1 n1,v,h=>by
   cases v<;>simp only[lR]at h<;>first|(cases h;done)|skip
   ·split at h
    ·rename_i k' W
     let ⟨rfl,e⟩:=Mk h av
     simp only[V.gs.injEq,GQ]at e;simp only[cV];exact⟨W,e⟩
    ·cases h
   ·split at h
    ·rename_i W;simp only[V.gs.injEq,GQ]at h;simp only[cV];exact⟨W,h.symm⟩
    ·cases h
 |.ns,v,h=>by cases v<;>simp only[lR]at h<;>cases h<;>simp[cV]
 |.np,v,h=>by cases v<;>simp only[lR]at h<;>cases h<;>simp[cV]
 |.yl l,v,h=>by cases v<;>simp only[lR]at h<;>cases h<;>simp[cV]
 |.gd b x,v,h=>by cases v<;>simp only[lR]at h<;>cases h
 |.go k1 i1 j1,v,h=>by
   cases v<;>simp only[lR]at h<;>first|(cases h;done)|skip
   split at h
   ·rename_i k' W
    let ⟨rfl,e⟩:=Mk h av
    simp only[V.go.injEq,GQ]at e;simp only[cV];exact⟨W,e⟩
   ·cases h
 |.sq n m f,v,h=>by cases v<;>simp only[lR]at h<;>cases h
theorem gW:∀ (ts vs:List V),mq ρ ts vs=ts->fR ρ vs ts
 |[],[],_=>by simp[fR]
 |y::ys,x::xs,h=>by simp[mq,G5]at h;simp[fR];exact⟨acE y x h.1,gW ys xs h.2⟩
 |[],_::_,h=>by simp[mq]at h
 |_::_,[],h=>by simp[mq]at h
end
mutual
theorem ic5:∀ (v t:V),cV [] v t->cV ρ v t
 |.int ..,t,h=>by cases t<;>simp[cV]at h ⊢<;>exact h
 |.bool _,t,h=>by cases t<;>simp[cV]at h ⊢<;>exact h
 |.kb _,t,h=>by cases t<;>simp[cV]at h ⊢<;>exact h
 |.str _,t,h=>by cases t<;>simp[cV]at h ⊢<;>exact h
 |.agg xs,t,h=>by cases t<;>simp[cV]at h ⊢<;>first|exact kR _ _ h|exact h
 |.tup xs,t,h=>by cases t<;>simp[cV]at h ⊢<;>first|exact kR _ _ h|exact h
 |.fn f xs ys,t,h=>by cases t<;>simp[cV]at h ⊢<;>first|exact⟨h.1,kR _ _ h.2.1,kR _ _ h.2.2⟩|exact h
 |.sl ..,t,h=>by cases t<;>simp[cV]at h ⊢<;>exact h
 |.pd ..,t,h=>by cases t<;>simp[cV]at h ⊢<;>exact h
 |.pl ..,t,h=>by cases t<;>simp[cV]at h ⊢<;>first|exact h|(simp[d4,gY]at h)
 |.pe ..,t,h=>by cases t<;>simp[cV]at h ⊢<;>first|exact h|(simp[d4,gY]at h)
 |.ss ..,t,h=>by cases t<;>simp[cV]at h ⊢<;>first|exact h|(simp[d4,gY]at h)
 |.gs ..,t,h=>by cases t<;>simp[cV]at h ⊢<;>first|exact h|(simp[d4,gY]at h)
 |.ns,t,h=>by cases t<;>simp[cV]at h ⊢<;>first|exact h|(simp[d4,gY]at h)
 |.np,t,h=>by cases t<;>simp[cV]at h ⊢<;>exact h
 |.any,t,h=>by cases t<;>simp[cV]at h ⊢<;>exact h
 |.gd ..,t,h=>by cases t<;>simp[cV]at h ⊢<;>exact h
 |.yl _,t,h=>by cases t<;>simp[cV]at h ⊢<;>exact h
 |.go ..,t,h=>by cases t<;>simp[cV]at h ⊢<;>first|exact h|(simp[d4,gY]at h)
 |.sq ..,t,h=>by cases t<;>simp[cV]at h ⊢<;>exact h
theorem kR:∀ (vs ts:List V),fR [] vs ts->fR ρ vs ts
 |[],[],_=>by simp[fR]
 |v::vs,t::ts,h=>by simp[fR]at h ⊢;exact⟨ic5 v t h.1,kR vs ts h.2⟩
 |[],_::_,h=>by simp[fR]at h
 |_::_,[],h=>by simp[fR]at h
end
end
def xN (ts:List Ty) (n:Nat) (f:bk):Prop:=∀i,i<n->nM (b7 ts) (au ts (f i))=true/\fR [] (f i) (au ts (f i))
structure VF where
 k:Nat
 ts:List Ty
 n:Nat
 f:Nat->List V
 ok:xN ts n f
theorem hsp {t:Ty} (h:cz t=true) (v:V):(dk t v).one=true:=by cases t<;>first|(simp[cz]at h;done)|(simp[dk];rfl)
theorem hmm:∀ {ts:List Ty},ts.all cz=true->∀ vs,(au ts vs).all V.one=true
 |[],_,_=>by simp[au]
 |t::ts,h,vs=>by simp only[Gw,Eg]at h;simp only[au,Gw,Eg];exact⟨hsp h.1 _,hmm h.2 _⟩
theorem kQ {ts:List Ty} (h:ts.all cz=true) (vs:List V):nM (b7 ts) (au ts vs)=true:=GK (by rw[Pn,b5]) (hmm h vs)
theorem hs2 {t:Ty} (h:cz t=true) (v:V):cV [] (dk t v) (dk t v):=by cases t<;>first|(simp[cz]at h;done)|(simp[dk,cV];try simp)
theorem hie:∀ {ts:List Ty},ts.all cz=true->∀ vs,fR [] (au ts vs) (au ts vs)
 |[],_,_=>by simp[au,fR]
 |t::ts,h,vs=>by simp only[Gw,Eg]at h;simp only[au,fR];exact⟨hs2 h.1 _,hie h.2 _⟩
theorem aF {ts:List Ty} (h:ts.all cz=true) (n:Nat) (f:bk):xN ts n (A ts f):=λi _=>by simp[A,fq];exact⟨kQ h _,hie h _⟩
theorem gO {ts:List Ty} {n m:Nat} {f g:bk} (M:xN ts n f) (N:xN ts m g):xN ts (n+m) (bH n f g):=λi hi=>by
 unfold bH;by_cases Qw:i<n
 ·have hb:Nat.blt i n=true:=Hj Qw;rw[hb];exact M i Qw
 ·have hb:Nat.blt i n=false:=by
   cases hb:Nat.blt i n with
   |false=>rfl|true=>have:=G2 hb;omega
  rw[hb];exact N _ E
theorem fH {ts:List Ty} (h:ts.all cz=true) (n:Nat) {ds:List V} (hf:mq [] (au ts ds) ds=au ts ds):xN ts n λ_=>ds:=λi _=>⟨kQ h _,gW _ _ hf⟩
theorem oc {ts:List Ty} (h:ts.all cz=true) {n j:Nat} {ds:List V} {f:bk} (M:xN ts n f) (hf:mq [] (au ts ds) ds=au ts ds):xN ts n λi=>cond (Nat.beq i j) ds (f i):=λi hi=>by
 show nM _ (au ts (cond (Nat.beq i j) ds (f i)))=true/\fR [] (cond (Nat.beq i j) ds (f i)) (au ts (cond (Nat.beq i j) ds (f i)));cases Nat.beq i j with
 |true=>exact⟨kQ h _,gW _ _ hf⟩|false=>exact M i hi
def FK (ts:List Ty) (f:bk):Nat->List (List V)
 |0=>[]|n+1=>mq [] (au ts (f n)) (f n)::FK ts f n
def Bt (ts:List Ty) (f:bk):Nat->List (List V)
 |0=>[]|n+1=>au ts (f n)::Bt ts f n
theorem f11 {ts:List Ty} (h:ts.all cz=true) {f:bk}:∀ {n:Nat},FK ts f n=Bt ts f n->xN ts n f
 |0,_=>λi hi=>by omega
 |n+1,hf=>λi hi=>by
   simp[FK,Bt,G5]at hf;by_cases e:i=n
   ·subst e;exact⟨kQ h _,gW _ _ hf.1⟩
   ·exact f11 h hf.2 i E
def Dj (ρ:oK) (e:bZ):bZ->bZ
 |[]=>[]|(s,t)::l=>(s,lR ρ t (kg e s))::Dj ρ e l
theorem aiD {ρ:oK} {e:bZ}:∀ {e1:bZ},Dj ρ e e1=e1->wJ ρ e e1
 |[],_=>trivial
 |(s,t)::l,h=>by simp[Dj,G5,Prod.mk.injEq,GQ]at h;exact⟨acE _ _ h.1,aiD h.2⟩
def yX:List VF->Nat->Option VF
 |[],_=>none|v::l,k=>cond (Nat.beq k v.k) (some v) (yX l k)
def Rt (ρ:oK) (h:List A7) (vf:List VF) (k:Nat):A7->A7
 |.cells cs ty=>match d4 ρ k with
   |some (some j)=>match gY h j with|some (.cells ds ty')=>.cells (mq ρ cs ds) ty'|_=>.dead
   |_=>.dead
 |.gl e n f ty=>match d4 ρ k with
   |some none=>.gl e 0 f ty
   |some (some j)=>match gY h j with
     |some (.gl e' m g ty')=>match yX vf k with|some v=>.gl e' m (A v.ts g) ty'|none=>.dead
     |_=>.dead
   |none=>.dead
 |.dead=>.hid|.hid=>.hid
def Iz (ρ:oK) (h:List A7) (vf:List VF):Nat->List A7->List A7
 |_,[]=>[]|k,o::l=>Rt ρ h vf k o::Iz ρ h vf (k+1) l
def qE (ρ:oK) (h:List A7):List VF->List (Nat×Nat×(Nat->List V))
 |[]=>[]
 |v::l=>(match d4 ρ v.k with
   |some (some j)=>match gY h j with|some (.gl e m g _)=>(e,m,g)|_=>(0,0,λ_=>[])
   |_=>(0,0,λ_=>[]))::qE ρ h l
def qA:List VF->List (Nat×Nat×(Nat->List V))
 |[]=>[]|v::l=>(b7 v.ts,v.n,v.f)::qA l
theorem Ec {ρ:oK} {h:List A7} {k:Nat} {v:VF}:∀ {vf:List VF},yX vf k=some v->qE ρ h vf=qA vf->v.k=k/\(match d4 ρ v.k with
 |some (some j)=>match gY h j with|some (.gl e m g _)=>(e,m,g)|_=>(0,0,λ_=>[])
 |_=>(0,0,λ_=>[]))=(b7 v.ts,v.n,v.f)
 |[],M,_=>by cases M
 |x::l,M,N=>by
   simp[qE,qA,G5]at N;simp[yX]at M;cases hb:Nat.beq k x.k with
   |true=>rw[hb]at M;cases M;exact⟨(FF hb).symm,N.1⟩|false=>rw[hb]at M;exact Ec M N.2
theorem jf2 {ρ:oK} {h:List A7} {vf:List VF} {k:Nat} {o:A7} (hf:Rt ρ h vf k o=o) (hg:qE ρ h vf=qA vf):E8 ρ h k o:=by
 cases o with
 |cells cs ty=>
   simp[Rt]at hf;split at hf
   ·rename_i j hj
    split at hf
    ·rename_i ds ty' hn;simp[A7.cells.injEq]at hf;exact⟨j,ds,hj,by rw[hn,hf.2],gW _ _ hf.1⟩
    ·cases hf
   ·cases hf
 |gl e n f ty=>
   simp[Rt]at hf;split at hf
   ·rename_i hj;simp[A7.gl.injEq,GQ,and_true]at hf;exact .inl ⟨hj,hf.symm⟩
   ·rename_i j hj
    split at hf
    ·rename_i e' m g ty' hn
     split at hf
     ·rename_i v U
      let ⟨rfl,N⟩:=Ec U hg
      rw[hj]at N;simp[hn,Prod.mk.injEq]at N;simp[A7.gl.injEq]at hf
      let ⟨rfl,rfl,rfl,rfl⟩:=hf
      let ⟨h3,h4,h5⟩:=N
      refine .inr ⟨j,m,g,hj,hn,Em _,λi hi=>?_⟩;have:=v.ok i (by rw[← h4];exact hi);rw[← h5,← h3]at this;exact⟨this.1,kR _ _ this.2⟩
     ·cases hf
    ·cases hf
   ·cases hf
 |dead=>simp only[Rt]at hf;cases hf|hid=>trivial
theorem acu {ρ:oK} {h:List A7} {vf:List VF} (hg:qE ρ h vf=qA vf):∀ {l:List A7} {k:Nat},Iz ρ h vf k l=l->wE ρ h k l
 |[],_,_=>trivial
 |o::l,k,hf=>by simp[Iz,G5]at hf;exact⟨jf2 hf.1 hg,acu hg hf.2⟩
def zk (ρ:oK) (nb:Nat) (M:List A7):Bool:=Nat.beq (b7 ρ) (b7 M)&&(Gj ρ&&QL ρ nb)
theorem wq (w0:World) {ρ:oK} {nb:Nat} {e e1:bZ} {h M:List A7} {vf:List VF} (h0:zk ρ nb M=true) (he:Dj ρ e e1=e1) (hh:Iz ρ h vf 0 M=M) (hg:qE ρ h vf=qA vf):lC w0 nb e h e1 M:=by unfold zk at h0;simp only[Eg]at h0;exact lC.ren w0 ρ h0.1 h0.2.1 h0.2.2 (aiD he) (acu hg hh)
def Ox (zs:List VF) (v v':V):Prop:=v'=v∨∃k n z,v=.gs k n/\z∈zs/\z.k=k/\n<=z.n/\v'=.sl n (A z.ts z.f)
def XQ (zs:List VF):List V->List V->Prop
 |[],[]=>True|a::l,b::m=>Ox zs a b/\XQ zs l m|_,_=>False
structure FR (zs:List VF) where
 k:Nat
 n:Nat
 f:Nat->List V
 g:Nat->List V
 ok:∀i,i<n->XQ zs (f i) (g i)
section
variable {zs:List VF}
def K7:List (FR zs)->Nat->Option (FR zs)
 |[],_=>none|v::l,k=>cond (Nat.beq k v.k) (some v) (K7 l k)
def Nn (fr:List (FR zs)) (k:Nat) (o:A7):A7:=match yX zs k with
 |some _=>.hid
 |none=>match o with
   |.gl e n f ty=>match K7 fr k with|some r=>.gl e n r.g ty|none=>.gl e n f ty
   |o=>o
def HY (fr:List (FR zs)):Nat->List A7->List A7
 |_,[]=>[]|k,o::l=>Nn fr k o::HY fr (k+1) l
def Uu (zs:List VF):Bool:=zs.all λv=>v.ts.all cz
def Lf (h:List A7):List VF->List (Option (Nat×Nat×(Nat->List V)))
 |[]=>[]
 |v::l=>(match gY h v.k with|some (.gl e m g _)=>some (e,m,g)|_=>none)::Lf h l
def tW:List VF->List (Option (Nat×Nat×(Nat->List V)))
 |[]=>[]|v::l=>some (b7 v.ts,v.n,v.f)::tW l
def KX (h:List A7):List (FR zs)->List (Option (Nat×(Nat->List V)))
 |[]=>[]
 |v::l=>(match gY h v.k with|some (.gl _ m g _)=>some (m,g)|_=>none)::KX h l
def Lb:List (FR zs)->List (Option (Nat×(Nat->List V)))
 |[]=>[]|v::l=>some (v.n,v.f)::Lb l
theorem aev {h:List A7} {v:VF}:∀ {l:List VF},Lf h l=tW l->v∈l->∃ ty,h[v.k]? = some (.gl (b7 v.ts) v.n v.f ty)
 |[],_,hm=>by cases hm
 |x::l,he,hm=>by
   simp[Lf,tW,G5]at he;rcases List.mem_cons.1 hm with rfl|hm
   ·have M:=he.1
    rw[bq]at M;split at M
    ·rename_i e m g ty W
     simp[Et,Prod.mk.injEq]at M
     let ⟨rfl,rfl,rfl⟩:=M
     exact⟨ty,W⟩
    ·cases M
   ·exact aev he.2 hm
theorem Srt {h:List A7} {k:Nat} {r:FR zs}:∀ {l:List (FR zs)},KX h l=Lb l->K7 l k=some r->∃ e ty,h[k]? = some (.gl e r.n r.f ty)
 |[],_,hm=>by cases hm
 |x::l,he,hm=>by
   simp[KX,Lb,G5]at he;simp[K7]at hm;cases hb:Nat.beq k x.k with
   |true=>
     rw[hb]at hm;cases hm;have M:=he.1;rw[bq,← FF hb]at M;split at M
     ·rename_i e m g ty W
      simp[Et,Prod.mk.injEq]at M
      let ⟨rfl,rfl⟩:=M
      exact⟨e,ty,W⟩
     ·cases M
   |false=>rw[hb]at hm;exact Srt he.2 hm
theorem hlo {v:VF}:∀ {l:List VF},v∈l->yX l v.k≠none
 |x::l,hm=>by
   simp[yX];cases hb:Nat.beq v.k x.k with
   |true=>simp
   |false=>
     rcases List.mem_cons.1 hm with rfl|hm
     ·simp at hb
     ·exact hlo hm
theorem C1 (fr:List (FR zs)):∀ (l:List A7) (b k:Nat),(HY fr b l)[k]? = (l[k]?).map (Nn fr (b+k))
 |[],b,k=>by simp[HY]
 |o::l,b,0=>by simp[HY]
 |o::l,b,k+1=>by simp[HY,He];rw[C1 fr l (b+1) k,show b+1+k=b+(k+1) by omega]
theorem jf4 {v v':V} (h:Ox zs v v') (U:v.one=true):v'.one=true:=by
 rcases h with rfl|⟨k,n,z,_,_,_,_,rfl⟩
 ·exact U
 ·rfl
theorem Ee:∀ {l m:List V},XQ zs l m->l.all V.one=true->b7 m=b7 l/\m.all V.one=true
 |[],[],_,_=>⟨rfl,rfl⟩
 |a::l,b::m,h,ho=>by
   simp only[Gw,Eg]at ho ⊢
   let ⟨M,N⟩:=Ee h.2 ho.2
   exact⟨by simp[b7,M],jf4 h.1 ho.1,N⟩
 |[],_::_,h,_=>h.elim|_::_,[],h,_=>h.elim
theorem yaI (w0:World) {nb:Nat} {e:bZ} {h:List A7} {fr:List (FR zs)} (hc:Uu zs=true) (hz:Lf h zs=tW zs) (hf:KX h fr=Lb fr):lC w0 nb e h e (HY fr 0 h):=by
 classical
 intro Qo ν nV nS sl lh hs hr;have hB:∀v,v∈zs->∃ty,h[v.k]? = some (.gl (b7 v.ts) v.n v.f ty):=λv U=>aev hz U
 let Bf:Nat->Prop:=λj=>∃v x,v∈zs/\ν v.k=some (some x)/\x.1=j
 let z1:List ar:=lh.mapIdx λj o=>if isCells ν.z[j]? = true∨Bf j then o else .hid
 have z1get:∀j,z1[j]? = (lh[j]?).map λo=>if isCells ν.z[j]? = true∨Bf j then o else .hid:=λj=>by simp[z1,L8]
 have ei:wz ν.z z1:=λj az ty hj=>by rw[z1get,hr.zl j az ty hj];simp only[GU];rw[E5 (.inl (by rw[hj];rfl))]
 have eq:wz z1 lh:=λj az ty hj=>by
  rw[z1get]at hj;cases hl:lh[j]? with
  |none=>rw[hl]at hj;cases hj
  |some o=>
    rw[hl]at hj;simp[GU,Et]at hj;split at hj
    ·rw[hj]
    ·cases hj
 let ν1:Nu:=⟨ν.m,z1⟩
 have hsub:ν.sub ν1:=⟨λ_ _ h=>h,ei⟩;have YZ:∀ {v v':V} {a:af},Ox zs v v'->vr w0 ν.z ν v a->vr w0 z1 ν1 v' a:=by
  intro v v' a U hx;rcases U with rfl|⟨k,n,z,rfl,hm,rfl,hn,rfl⟩
  ·exact abi hsub _ _ hx
  ·let ⟨ty,W⟩:=hB z hm
   have Yk:z.ts.all cz=true:=by unfold Uu at hc;exact List.all_eq_true.1 hc z hm
   simp only[vr]at hx ⊢;rcases hr.blk _ _ W with ⟨M,N⟩|⟨b,c,az,M,N,h3,h4,h5⟩
   ·rcases hx with ⟨_,g2,rfl⟩|⟨b,c,e,g1,_⟩
    ·subst g2;exact⟨none,0,0,rfl,Em _,E,trivial,λi hi=>by omega⟩
    ·rw[M]at g1;cases g1
   ·rcases hx with ⟨g1,_⟩|⟨b',c',e',g1,rfl,g3⟩
    ·rw[M]at g1;cases g1
    ·rw [M]at g1
     obtain⟨rfl,rfl,rfl⟩:b=b'/\c=c'/\b7 z.ts=e':=by simpa using g1
     have hb:z1[b]? = some (.cells az ty):=by rw[z1get,N];simp only[GU];rw[E5 (.inr ⟨z,_,hm,M,rfl⟩)]
     refine⟨some (.l b 0),c,b7 z.ts,rfl,g3,E,⟨az,ty,hb,GG _⟩,λi hi=>?_⟩;have Rk:i*b7 z.ts+b7 z.ts<=az.length:=by rw[h3,← GW];exact Ga _ E
     have Tb:=z.ok i E;refine⟨_,_,rfl,?_,lB ei _ _ (iM (ν:=nn [] ν) (λk x hx=>?_) _ _ (kf _ _ _ Tb.2 (h5 i E).2)),pf _ _ Yk⟩
     ·simp only[jp.add,lds,hb,Gh];rw[E5 E]
     ·simp only[nn,d4,gY]at hx;cases hx
 have hfrs:∀ {l m:List V} {az:List af},XQ zs l m->bC w0 ν.z ν l az->bC w0 z1 ν1 m az:=by
  intro l;induction l with
  |nil=>intro m az M N;cases m with|nil=>simp[bC]at N ⊢;exact N|cons=>exact M.elim
  |cons a l ih=>
    intro m az M N;cases m with
    |nil=>exact M.elim
    |cons b m=>simp[bC]at N ⊢;obtain⟨x,xs,rfl,g1,g2⟩:=N;exact⟨x,xs,rfl,YZ M.1 g1,ih M.2 g2⟩
 have hget:∀ k o,(HY fr 0 h)[k]? = some o->o≠.hid->yX zs k=none/\∃ o',h[k]? = some o'/\o=(match o' with
  |.gl e n f ty=>match K7 fr k with|some r=>A7.gl e n r.g ty|none=>.gl e n f ty
  |o=>o):=λk o W ho=>by
  rw[C1,Gh]at W;cases hg:h[k]? with
  |none=>rw[hg]at W;cases W
  |some o'=>
    rw[hg]at W;simp[GU,Et,Nn]at W;cases U:yX zs k with
    |some v=>rw[U]at W;exact(ho W.symm).elim|none=>rw[U]at W;exact⟨rfl,o',rfl,W.symm⟩
 have hlive:∀ k,bj (HY fr 0 h) k->yX zs k=none/\bj h k:=λk W=>by
  rcases gD W with ⟨cs,ty,g⟩|⟨e,n,f,ty,g⟩
  ·let ⟨M,o',N,h3⟩:=hget k _ g av
   refine⟨M,?_⟩;cases o' with
   |cells cs' ty'=>exact eC N|gl e n f ty=>exact iw N|dead=>cases h3|hid=>cases h3
  ·let ⟨M,o',N,h3⟩:=hget k _ g av
   refine⟨M,?_⟩;cases o' with
   |cells cs' ty'=>exact eC N|gl e n f ty=>exact iw N|dead=>cases h3|hid=>cases h3
 refine⟨ν1,nV,nS,F3.of hsub _,hs.mono hsub,⟨λk o W=>?_,λk k' x x' M N=>hr.inj k k' x x' (hlive k M).2 (hlive k' N).2,λk W=>hr.dom k ?_,hr.rng,eq,λk x W hx=>?_⟩⟩
 ·by_cases ho:o=.hid
  ·subst ho;trivial
  ·let ⟨M,o',N,h3⟩:=hget k o W ho
   have hb:=hr.blk k o' N;cases o' with
   |cells cs ty=>subst h3;exact dT hsub av (λb az ty g _=>g) hb|dead=>subst h3;exact hb|hid=>subst h3;trivial
   |gl e n f ty=>
     cases sM:K7 fr k with
     |none=>rw[sM]at h3;subst h3;exact dT hsub av (λb az ty g _=>g) hb
     |some r=>
       rw[sM]at h3;subst h3
       let ⟨e',ty',g⟩:=Srt hf sM
       rw[N]at g;simp[Et,A7.gl.injEq]at g;obtain⟨_,rfl,rfl,_⟩:=g;rcases hb with ⟨k1,k2⟩|⟨b,c,az,k1,k2,k3,k4,k5⟩
       ·exact .inl ⟨k1,k2⟩
       ·refine .inr ⟨b,c,az,k1,k2,k3,k4,λi hi=>?_⟩;obtain⟨q1,q2⟩:=k5 i hi;unfold nM at q1 ⊢;simp only[Eg]at q1 ⊢;obtain⟨p1,p2⟩:=Ee (r.ok i hi) q1.2;exact⟨⟨by rw[p1];exact q1.1,p2⟩,hfrs (r.ok i hi) q2⟩
 ·have hl:(HY fr 0 h).length=h.length:=by
   have gen:∀ (l:List A7) (b:Nat),(HY fr b l).length=l.length:=λl=>by
    induction l with
    |nil=>intro b;rfl|cons o l ih=>intro b;simp[HY,ih]
   exact gen h 0
  omega
 ·let ⟨M,N⟩:=hlive k W
  have TI:ν k=some (some x):=hx;have g1:=hr.zn k x N TI;show isCells z1[x.1]? = false;rw[z1get];cases hl:lh[x.1]? with
  |none=>rfl
  |some o=>
    simp[GU];rw[DX]
    ·rfl
    ·rintro (g2|⟨v,x',U,g2,g3⟩)
     ·rw[g1]at g2;cases g2
     ·let ⟨ty,SP⟩:=hB v U
      have:=hr.inj v.k k x' x (iw SP) N g2 TI g3;rw[← this]at M;exact hlo U M
end
inductive RT (QZ:Type) where|ret (v:V)|next (ρ:oK) (s:QZ) (vf:List VF)|enter (ρ:oK) (s:QZ) (vf:List VF)|nextz (zs:List VF) (fr:List (FR zs)) (ρ:oK) (s:QZ) (vf:List VF)|enterz (zs:List VF) (fr:List (FR zs)) (ρ:oK) (s:QZ) (vf:List VF)|br (b:Bool) (x y:RT QZ)|brt (x:RT QZ)|brf (y:RT QZ)|brx (b:Bool) (x:RT QZ)|bry (b:Bool) (y:RT QZ)|ob (b:Bool) (x:RT QZ)|obt (x:RT QZ)|obv (b:Bool) (h:b=true) (x:RT QZ)|obi (x:RT QZ)|obj (c b:Bool) (x:RT QZ)|obc (x:RT QZ)|obp (p:Prop) (x:RT QZ)|obe (ts:List Ty) (ds:List V) (x:RT QZ)|und (x y:RT QZ)|asm (p:Prop) (x:RT QZ)|all (f:Nat->RT QZ)|fail
structure LD (J QZ:Type) where
 id:QZ->J
 lp:J->Lp J
 inv:QZ->bZ×List A7×Option Ex
inductive FT (J:Type) where|res (v:V)|head (j:J) (g:Option Ex) (ok:Bool) (e:bZ) (h:List A7) (vs:List (Nat×Nat×(Nat->List V)))|loop (fr:Nat×Nat) (b:Al) (k:Ex->bZ->List A7->Option Ex->BO (cX J)) (g:Option Ex) (ok:Bool) (e:bZ) (h:List A7) (vs:List (Nat×Nat×(Nat->List V)))|headz (c:Bool) (iza25:List (Option (Nat×Nat×(Nat->List V)))) (yba:List (Option (Nat×(Nat->List V)))) (j:J) (g:Option Ex) (ok:Bool) (e:bZ) (h:List A7) (vs:List (Nat×Nat×(Nat->List V)))|loopz (c:Bool) (iza25:List (Option (Nat×Nat×(Nat->List V)))) (yba:List (Option (Nat×(Nat->List V)))) (fr:Nat×Nat) (b:Al) (k:Ex->bZ->List A7->Option Ex->BO (cX J)) (g:Option Ex) (ok:Bool) (e:bZ) (h:List A7) (vs:List (Nat×Nat×(Nat->List V)))|br (b:Bool) (x y:FT J)|brt (b:Bool) (x:FT J)|brf (b:Bool) (y:FT J)|brx (b:Bool) (x:FT J)|bry (b:Bool) (y:FT J)|ob (b:Bool) (x:FT J)|obt (b:Bool) (x:FT J)|obi (x:FT J)|obj (c b:Bool) (x:FT J)|obp (p:Prop) (x:FT J)|obe (a b:List V) (x:FT J)|und (x y:FT J)|asm (p:Prop) (x:FT J)|all (f:Nat->FT J)|fail (n:Nat)
section
variable {J QZ:Type}
def amZ (a b:List V) (k:RT QZ->FT J):RT QZ->FT J
 |.obe _ _ x=>.obe a b (k x)|t=>k t
def alj (a b:List V) (k:RT QZ->BO (cX J)):RT QZ->BO (cX J)
 |.obe _ _ x=>.obq a b (k x)|t=>.obq a a (k t)
def fJ (AT:LD J QZ):BO (cX J)->RT QZ->FT J
 |.ret (.res v),.ret _=>.res v|.ret (.head j e h g),.next ρ s vf=>.head j g (zk ρ (AT.lp j).fr.2 (AT.inv s).2.1) (Dj ρ e (AT.inv s).1) (Iz ρ h vf 0 (AT.inv s).2.1) (qE ρ h vf)|.loop fr b e h g k,.enter ρ s vf=>.loop fr b k g (zk ρ fr.2 (AT.inv s).2.1) (Dj ρ e (AT.inv s).1) (Iz ρ h vf 0 (AT.inv s).2.1) (qE ρ h vf)|.ret (.head j e h g),.nextz zs fz ρ s vf=>.headz (Uu zs) (Lf h zs) (KX h fz) j g (zk ρ (AT.lp j).fr.2 (AT.inv s).2.1) (Dj ρ e (AT.inv s).1) (Iz ρ (HY fz 0 h) vf 0 (AT.inv s).2.1) (qE ρ (HY fz 0 h) vf)|.loop fr b e h g k,.enterz zs fz ρ s vf=>.loopz (Uu zs) (Lf h zs) (KX h fz) fr b k g (zk ρ fr.2 (AT.inv s).2.1) (Dj ρ e (AT.inv s).1) (Iz ρ (HY fz 0 h) vf 0 (AT.inv s).2.1) (qE ρ (HY fz 0 h) vf)|.br b x y,.br _ x' y'=>.br b (fJ AT x x') (fJ AT y y')|.br b x _,.brt x'=>.brt b (fJ AT x x')|.br b _ y,.brf y'=>.brf b (fJ AT y y')|.br b x _,.brx _ x'=>.brx b (fJ AT x x')|.br b _ y,.bry _ y'=>.bry b (fJ AT y y')|.ob b x,.ob _ x'=>.ob b (fJ AT x x')|.ob b x,.obt x'=>.obt b (fJ AT x x')|.ob b x,.obv _ _ x'=>.ob b (fJ AT x x')|.obp p x,.obc x'=>.obp p (fJ AT x x')|.obi _ d x,.obt x'=>.obt d (fJ AT x x')|.obi _ d x,.ob _ x'=>.ob d (fJ AT x x')|.obi _ d x,.obv _ _ x'=>.ob d (fJ AT x x')|.obi _ _ x,.obi x'=>.obi (fJ AT x x')|.obi c d x,.obj _ _ x'=>.obj c d (fJ AT x x')|.obp p x,.obp _ x'=>.obp p (fJ AT x x')|.obq a b x,t=>amZ a b (fJ AT x) t|.und x y,.und x' y'=>.und (fJ AT x x') (fJ AT y y')|.asm p x,.asm _ x'=>.asm p (fJ AT x x')|.all f,.all g=>.all λl=>fJ AT (f l) (g l)
 |.fail _,.fail=>.fail 1|_,_=>.fail 0
def cP:BO (cX J)->RT QZ->BO (cX J)
 |.br b x y,.br _ x' y'=>.br b (cP x x') (cP y y')|.br b x y,.brt x'=>.br b (cP x x') y|.br b x y,.brf y'=>.br b x (cP y y')|.br b x y,.brx _ x'=>.br b (cP x x') y|.br b x y,.bry _ y'=>.br b x (cP y y')|.ob b x,.ob _ x'=>.ob b (cP x x')|.ob b x,.obt x'=>.ob b (cP x x')|.ob b x,.obv _ _ x'=>.ob b (cP x x')|.obp p x,.obp _ x'=>.obp p (cP x x')|.obp p x,.obc x'=>.obp p (cP x x')|.obi c d x,.obt x'=>.obi c d (cP x x')|.obi c d x,.ob _ x'=>.obi c d (cP x x')|.obi c d x,.obv _ _ x'=>.obi c d (cP x x')|.obi c _ x,.obi x'=>.obi c c (cP x x')|.obi c d x,.obj _ _ x'=>.obi c d (cP x x')|.obq a b x,t=>alj a b (cP x) t|.und x y,.und x' y'=>.und (cP x x') (cP y y')|.asm p x,.asm _ x'=>.asm p (cP x x')|.all f,.all g=>.all λl=>cP (f l) (g l)
 |t,_=>t
def oJ (AT:LD J QZ):RT QZ->FT J
 |.ret v=>.res v|.next _ s vf=>.head (AT.id s) (AT.inv s).2.2 true (AT.inv s).1 (AT.inv s).2.1 (qA vf)|.enter _ s vf=>.loop (AT.lp (AT.id s)).fr (AT.lp (AT.id s)).body (AT.lp (AT.id s)).k (AT.inv s).2.2 true (AT.inv s).1 (AT.inv s).2.1 (qA vf)|.nextz zs fz _ s vf=>.headz true (tW zs) (Lb fz) (AT.id s) (AT.inv s).2.2 true (AT.inv s).1 (AT.inv s).2.1 (qA vf)|.enterz zs fz _ s vf=>.loopz true (tW zs) (Lb fz) (AT.lp (AT.id s)).fr (AT.lp (AT.id s)).body (AT.lp (AT.id s)).k (AT.inv s).2.2 true (AT.inv s).1 (AT.inv s).2.1 (qA vf)|.br b x y=>.br b (oJ AT x) (oJ AT y)|.brt x=>.brt true (oJ AT x)|.brf y=>.brf false (oJ AT y)|.brx b x=>.brx b (oJ AT x)|.bry b y=>.bry b (oJ AT y)|.ob b x=>.ob b (oJ AT x)|.obt x=>.obt true (oJ AT x)|.obv b _ x=>.ob b (oJ AT x)|.obi x=>.obi (oJ AT x)|.obj c b x=>.obj c b (oJ AT x)|.obc x=>.obp True (oJ AT x)|.obp p x=>.obp p (oJ AT x)|.obe ts ds x=>.obe (mQ ts ds []) (mT ts ds []) (oJ AT x)|.und x y=>.und (oJ AT x) (oJ AT y)|.asm p x=>.asm p (oJ AT x)|.all f=>.all λl=>oJ AT (f l)
 |.fail=>.fail 1
def a6 (Nx:QZ->V->Prop):RT QZ->V->Prop
 |.ret v,r=>dc v=dc r|.next _ s _,r=>Nx s r|.enter _ s _,r=>Nx s r|.nextz _ _ _ s _,r=>Nx s r|.enterz _ _ _ s _,r=>Nx s r|.br b x y,r=>(b=true->a6 Nx x r)/\(b=false->a6 Nx y r)|.brt x,r=>a6 Nx x r|.brf y,r=>a6 Nx y r|.brx b x,r=>b=true/\a6 Nx x r|.bry b y,r=>b=false/\a6 Nx y r|.ob b x,r=>b=true/\a6 Nx x r|.obt x,r=>a6 Nx x r|.obv _ _ x,r=>a6 Nx x r|.obi x,r=>a6 Nx x r|.obj c b x,r=>(c=true->b=true)/\a6 Nx x r|.obc x,r=>a6 Nx x r|.obp p x,r=>p/\a6 Nx x r|.obe ts ds x,r=>mQ ts ds []=mT ts ds []/\a6 Nx x r|.und x y,r=>a6 Nx x r/\a6 Nx y r|.asm p x,r=>p->a6 Nx x r|.all f,r=>∀l,a6 Nx (f l) r|.fail,_=>False
def tz (step:QZ->RT QZ):Nat->QZ->V->Prop
 |0,_,_=>False|n+1,s,r=>a6 (tz step n) (step s) r
def Ev (step:QZ->RT QZ) (s:QZ) (r:V):Prop:=∃n,tz step n s r
theorem yh {Nx id3:QZ->V->Prop} {r:V} (h:∀ s,Nx s r->id3 s r):∀ t:RT QZ,a6 Nx t r->a6 id3 t r:=by
 intro t;induction t with
 |ret v=>exact id|next ρ s vf=>exact h s|enter ρ s vf=>exact h s|nextz zs fz ρ s vf=>exact h s|enterz zs fz ρ s vf=>exact h s|br b x y hx hy=>exact λk=>⟨λe=>hx (k.1 e),λe=>hy (k.2 e)⟩
 |brt x hx=>exact hx|brf y hy=>exact hy|brx b x hx=>exact λk=>⟨k.1,hx k.2⟩
 |bry b y hy=>exact λk=>⟨k.1,hy k.2⟩
 |ob b x hx=>exact λk=>⟨k.1,hx k.2⟩
 |obt x hx=>exact hx|obv b h x hx=>exact hx|obi x hx=>exact hx|obj c b x hx=>exact λk=>⟨k.1,hx k.2⟩
 |obc x hx=>exact hx|obp p x hx=>exact λk=>⟨k.1,hx k.2⟩
 |obe a b x hx=>exact λk=>⟨k.1,hx k.2⟩
 |und x y hx hy=>exact λk=>⟨hx k.1,hy k.2⟩
 |asm p x hx=>exact λk hp=>hx (k hp)
 |all f hf=>exact λk l=>hf l (k l)
 |fail=>exact id
theorem C9 {step:QZ->RT QZ} {r:V}:∀ {n:Nat} {s:QZ},tz step n s r->tz step (n+1) s r
 |0,s,h=>h.elim|n+1,s,h=>yh (λs hs=>C9 hs) _ h
theorem xD {step:QZ->RT QZ} {r:V} {n m:Nat} {s:QZ} (h:tz step n s r) (hm:n<=m):tz step m s r:=by
 induction hm with
 |refl=>exact h|step _ ih=>exact C9 ih
section
variable {Nx:QZ->V->Prop} {r:V}
theorem aA {v:V} (h:dc v=dc r):a6 Nx (.ret v) r:=h
theorem E2 {b:Bool} {x y:RT QZ} (M:b=true->a6 Nx x r) (N:b=false->a6 Nx y r):a6 Nx (.br b x y) r:=⟨M,N⟩
theorem kr {x:RT QZ} (h:a6 Nx x r):a6 Nx (.brt x) r:=h
theorem r8 {x:RT QZ} (h:a6 Nx x r):a6 Nx (.brf x) r:=h
theorem amd {b:Bool} {x:RT QZ} (M:b=false) (h:a6 Nx x r):a6 Nx (.bry b x) r:=⟨M,h⟩
theorem fy12 {b:Bool} (h:b=false):(!b)=true:=by rw[h];rfl
theorem fy11 {b:Bool} (h:b=true):(!b)=false:=by rw[h];rfl
theorem ER {b:Bool} (h:(!b)=false):b=true:=by cases b;cases h;rfl
theorem Ke {b:Bool} (h:(!b)=true):b=false:=by cases b;rfl;cases h
theorem aL {b:Bool} {x:RT QZ} (M:b=true) (N:a6 Nx x r):a6 Nx (.ob b x) r:=⟨M,N⟩
theorem ak {x:RT QZ} (h:a6 Nx x r):a6 Nx (.obt x) r:=h
theorem akD {b:Bool} {hb:b=true} {x:RT QZ} (h:a6 Nx x r):a6 Nx (.obv b hb x) r:=h
theorem BK {x:RT QZ} (h:a6 Nx x r):a6 Nx (.obi x) r:=h
theorem fQ {c b:Bool} {x:RT QZ} (M:c=true->b=true) (N:a6 Nx x r):a6 Nx (.obj c b x) r:=⟨M,N⟩
theorem aC {x:RT QZ} (h:a6 Nx x r):a6 Nx (.obc x) r:=h
theorem aP {p:Prop} {x:RT QZ} (M:p) (N:a6 Nx x r):a6 Nx (.obp p x) r:=⟨M,N⟩
theorem alE {x y:RT QZ} (M:a6 Nx x r) (N:a6 Nx y r):a6 Nx (.und x y) r:=⟨M,N⟩
theorem FW {p:Prop} {x:RT QZ} (h:p->a6 Nx x r):a6 Nx (.asm p x) r:=h
theorem cg {p:Prop} {x:RT QZ} (h:p->a6 Nx x r):a6 Nx (.asm (true=true->p) x) r:=λk=>h (k rfl)
theorem zH {f:Nat->RT QZ} (h:∀l,a6 Nx (f l) r):a6 Nx (.all f) r:=h
theorem aS {ρ:oK} {s:QZ} {vf:List VF} (h:Nx s r):a6 Nx (.enter ρ s vf) r:=h
theorem bb {ρ:oK} {s:QZ} {vf:List VF} (h:Nx s r):a6 Nx (.next ρ s vf) r:=h
end
def fS:RT QZ->Bool
 |.br _ x y=>fS x&&fS y|.brt x=>fS x|.brf y=>fS y|.brx _ x=>fS x|.bry _ y=>fS y|.ob _ x=>fS x|.obt x=>fS x|.obv _ _ x=>fS x|.obi x=>fS x|.obj _ _ x=>fS x|.obc x=>fS x|.obp _ x=>fS x|.obe _ _ x=>fS x|.und x y=>fS x&&fS y|.asm _ x=>fS x|.all _=>false|_=>true
theorem adH {step:QZ->RT QZ} {r:V}:∀ t:RT QZ,fS t=true->a6 (Ev step) t r->∃ n,a6 (tz step n) t r:=by
 intro t;induction t with
 |ret v=>exact λ_ h=>⟨0,h⟩
 |next ρ s vf=>exact λ_ ⟨n,h⟩=>⟨n,h⟩
 |enter ρ s vf=>exact λ_ ⟨n,h⟩=>⟨n,h⟩
 |nextz zs fz ρ s vf=>exact λ_ ⟨n,h⟩=>⟨n,h⟩
 |enterz zs fz ρ s vf=>exact λ_ ⟨n,h⟩=>⟨n,h⟩
 |br b x y hx hy=>
   intro h0 h;simp[fS,Eg]at h0;cases b with
   |true=>let ⟨n,hn⟩:=hx h0.1 (h.1 rfl);exact⟨n,λ_=>hn,λe=>by cases e⟩
   |false=>let ⟨n,hn⟩:=hy h0.2 (h.2 rfl);exact⟨n,(λe=>by cases e),λ_=>hn⟩
 |brt x hx=>exact λh0 h=>hx h0 h
 |brf y hy=>exact λh0 h=>hy h0 h
 |brx b x hx=>exact λh0 h=>let ⟨n,hn⟩:=hx h0 h.2;⟨n,h.1,hn⟩
 |bry b y hy=>exact λh0 h=>let ⟨n,hn⟩:=hy h0 h.2;⟨n,h.1,hn⟩
 |ob b x hx=>exact λh0 h=>let ⟨n,hn⟩:=hx h0 h.2;⟨n,h.1,hn⟩
 |obt x hx=>exact λh0 h=>hx h0 h
 |obv b h x hx=>exact λh0 h=>hx h0 h
 |obi x hx=>exact λh0 h=>hx h0 h
 |obj c b x hx=>exact λh0 h=>let ⟨n,hn⟩:=hx h0 h.2;⟨n,h.1,hn⟩
 |obc x hx=>exact λh0 h=>hx h0 h
 |obp p x hx=>exact λh0 h=>let ⟨n,hn⟩:=hx h0 h.2;⟨n,h.1,hn⟩
 |obe a b x hx=>exact λh0 h=>let ⟨n,hn⟩:=hx h0 h.2;⟨n,h.1,hn⟩
 |und x y hx hy=>
   intro h0 h;simp[fS,Eg]at h0
   let ⟨n,hn⟩:=hx h0.1 h.1
   let ⟨m,hm⟩:=hy h0.2 h.2
   exact⟨max n m,yh (λs hs=>xD hs (Nat.le_max_left _ _)) _ hn,yh (λs hs=>xD hs (Nat.le_max_right _ _)) _ hm⟩
 |asm p x hx=>
   intro h0 h;by_cases hp:p
   ·let ⟨n,hn⟩:=hx h0 (h hp);exact⟨n,λ_=>hn⟩
   ·exact⟨0,λk=>(hp k).elim⟩
 |all f hf=>intro h0;cases h0|fail=>exact λ_ h=>h.elim
theorem Ev.of {step:QZ->RT QZ} {s:QZ} {r:V} (h0:fS (step s)=true) (h:a6 (Ev step) (step s) r):Ev step s r :=
 let ⟨n,hn⟩:=adH _ h0 h;⟨n+1,hn⟩
theorem Cs {w0:World} {LP:fK} {AT:LD J QZ} {Qe:cX J->Prop} {Nx:QZ->V->Prop} {r:V} (hres:∀ v,dc v=dc r->Qe (.res v))
 (hhead:∀s e h,Nx s r->lC w0 (AT.lp (AT.id s)).fr.2 e h (AT.inv s).1 (AT.inv s).2.1->Qe (.head (AT.id s) e h (AT.inv s).2.2))
 (hloop:∀s e h,Nx s r->lC w0 (AT.lp (AT.id s)).fr.2 e h (AT.inv s).1 (AT.inv s).2.1->LP (AT.lp (AT.id s)).fr (AT.lp (AT.id s)).body e h (AT.inv s).2.2 λx e h g=>bR LP ((AT.lp (AT.id s)).k x e h g) Qe) :
 ∀(t:BO (cX J)) (rt:RT QZ),fJ AT t rt=oJ AT rt->cP t rt=t->a6 Nx rt r->bR LP t Qe:=by
 intro t;induction t with
 |ret a=>
   intro rt hf _ hr;cases a with
   |res v=>cases rt<;>simp only[fJ,oJ]at hf<;>cases hf;exact hres _ hr
   |head j e h g=>
     cases rt<;>simp only[fJ,oJ]at hf<;>first|(cases hf;done)|skip
     ·simp only[FT.head.injEq]at hf;obtain⟨rfl,rfl,M,N,h3,h4⟩:=hf;exact hhead _ e h hr (wq w0 M N h3 h4)
     ·simp only[FT.headz.injEq]at hf;obtain⟨hc,hz,YZ,rfl,rfl,M,N,h3,h4⟩:=hf;exact hhead _ e h hr ((yaI w0 hc hz YZ).trans (wq w0 M N h3 h4))
 |br b x y hx hy=>
   intro rt hf hs hr;cases rt<;>simp only[fJ,oJ]at hf<;>first|(cases hf;done)|skip
   ·simp only[FT.br.injEq]at hf;simp only[cP,BO.br.injEq,GQ]at hs;obtain⟨rfl,M,N⟩:=hf;exact⟨λe=>hx _ M hs.1 (hr.1 e),λe=>hy _ N hs.2 (hr.2 e)⟩
   ·simp only[FT.brt.injEq]at hf;simp only[cP,BO.br.injEq,GQ]at hs;obtain⟨rfl,M⟩:=hf;exact⟨λe=>hx _ M hs.1 hr,λe=>by cases e⟩
   ·simp only[FT.brf.injEq]at hf;simp only[cP,BO.br.injEq,GQ]at hs;obtain⟨rfl,M⟩:=hf;exact⟨(λe=>by cases e),λe=>hy _ M hs hr⟩
   ·simp only[FT.brx.injEq]at hf;simp only[cP,BO.br.injEq,GQ]at hs;obtain⟨rfl,M⟩:=hf;exact⟨λe=>hx _ M hs.1 hr.2,λe=>by rw[hr.1]at e;cases e⟩
   ·simp only[FT.bry.injEq]at hf;simp only[cP,BO.br.injEq,GQ]at hs;obtain⟨rfl,M⟩:=hf;exact⟨(λe=>by rw[hr.1]at e;cases e),λe=>hy _ M hs hr.2⟩
 |ob b x hx=>
   intro rt hf hs hr;cases rt<;>simp only[fJ,oJ]at hf<;>first|(cases hf;done)|skip
   ·simp only[FT.ob.injEq]at hf;simp only[cP,BO.ob.injEq,GQ]at hs;obtain⟨rfl,M⟩:=hf;exact⟨hr.1,hx _ M hs hr.2⟩
   ·simp only[FT.obt.injEq]at hf;simp only[cP,BO.ob.injEq,GQ]at hs;obtain⟨rfl,M⟩:=hf;exact⟨rfl,hx _ M hs hr⟩
   ·rename_i b' RQ x';simp only[FT.ob.injEq]at hf;simp only[cP,BO.ob.injEq,GQ]at hs;obtain⟨rfl,M⟩:=hf;exact⟨RQ,hx _ M hs hr⟩
 |obp p x hx=>
   intro rt hf hs hr;cases rt<;>simp only[fJ,oJ]at hf<;>first|(cases hf;done)|skip
   ·simp only[FT.obp.injEq]at hf;simp only[cP,BO.obp.injEq,GQ]at hs;obtain⟨rfl,M⟩:=hf;exact⟨trivial,hx _ M hs hr⟩
   ·simp only[FT.obp.injEq]at hf;simp only[cP,BO.obp.injEq,GQ]at hs;obtain⟨rfl,M⟩:=hf;exact⟨hr.1,hx _ M hs hr.2⟩
 |obi c d x hx=>
   intro rt hf hs hr;cases rt<;>simp only[fJ,oJ]at hf<;>first|(cases hf;done)|skip
   ·simp only[FT.ob.injEq]at hf;simp only[cP,BO.obi.injEq,GQ]at hs;obtain⟨rfl,M⟩:=hf;exact⟨λ_=>hr.1,hx _ M hs hr.2⟩
   ·simp only[FT.obt.injEq]at hf;simp only[cP,BO.obi.injEq,GQ]at hs;obtain⟨rfl,M⟩:=hf;exact⟨λ_=>rfl,hx _ M hs hr⟩
   ·rename_i b' RQ x';simp only[FT.ob.injEq]at hf;simp only[cP,BO.obi.injEq,GQ]at hs;obtain⟨rfl,M⟩:=hf;exact⟨λ_=>RQ,hx _ M hs hr⟩
   ·simp only[FT.obi.injEq]at hf;simp only[cP,BO.obi.injEq,GQ]at hs;obtain⟨h0,M⟩:=hs;subst h0;exact⟨id,hx _ hf M hr⟩
   ·simp only[FT.obj.injEq]at hf;simp only[cP,BO.obi.injEq,GQ]at hs;obtain⟨rfl,rfl,M⟩:=hf;exact⟨hr.1,hx _ M hs hr.2⟩
 |obq a b x hx=>
   intro rt hf hs hr;have gen:amZ a b (fJ AT x) rt=fJ AT x rt->alj a b (cP x) rt=.obq a a (cP x rt)->bR LP (.obq a b x) Qe:=λe1 e2=>by have SS:BO.obq a a (cP x rt)=BO.obq a b x:=e2.symm.trans hs;simp only[BO.obq.injEq,GQ]at SS;exact⟨SS.1,hx _ (e1.symm.trans hf) SS.2 hr⟩
   cases rt<;>first|exact gen rfl rfl|skip
   rename_i ts ds x';have cn:FT.obe a b (fJ AT x x')=FT.obe (mQ ts ds []) (mT ts ds []) (oJ AT x'):=hf;have SS:BO.obq a b (cP x x')=BO.obq a b x:=hs;simp only[FT.obe.injEq]at cn;simp only[BO.obq.injEq,GQ]at SS;obtain⟨rfl,rfl,M⟩:=cn;exact⟨hr.1,hx _ M SS hr.2⟩
 |fail n=>intro rt hf hs hr;cases rt<;>simp only[fJ,oJ]at hf<;>first|(cases hf;done)|exact hr.elim
 |loop fr b e h g k W=>
   intro rt hf hs hr;cases rt<;>simp only[fJ,oJ]at hf<;>first|(cases hf;done)|skip
   ·simp only[FT.loop.injEq]at hf;obtain⟨rfl,rfl,rfl,rfl,M,N,h3,h4⟩:=hf;exact hloop _ e h hr (wq w0 M N h3 h4)
   ·simp only[FT.loopz.injEq]at hf;obtain⟨hc,hz,YZ,rfl,rfl,rfl,rfl,M,N,h3,h4⟩:=hf;exact hloop _ e h hr ((yaI w0 hc hz YZ).trans (wq w0 M N h3 h4))
 |all f ip15=>
   intro rt hf hs hr;cases rt<;>simp only[fJ,oJ]at hf<;>first|(cases hf;done)|skip
   simp only[FT.all.injEq]at hf;simp only[cP,BO.all.injEq]at hs;exact λl=>ip15 l _ (congrFun hf l) (congrFun hs l) (hr l)
 |und x y hx hy=>
   intro rt hf hs hr;cases rt<;>simp only[fJ,oJ]at hf<;>first|(cases hf;done)|skip
   simp only[FT.und.injEq]at hf;simp only[cP,BO.und.injEq]at hs;exact⟨hx _ hf.1 hs.1 hr.1,hy _ hf.2 hs.2 hr.2⟩
 |asm p x hx=>
   intro rt hf hs hr;cases rt<;>simp only[fJ,oJ]at hf<;>first|(cases hf;done)|skip
   simp only[FT.asm.injEq]at hf;simp only[cP,BO.asm.injEq,GQ]at hs;obtain⟨rfl,M⟩:=hf;exact λhp=>hx _ M hs (hr hp)
def N3 (ct:bm) (un:l8) (j:J) (l:Lp J) (e:bZ) (h:List A7) (g:Option Ex):BO (cX J) :=
 match l.body with
 |.s body=>gy (uL (oy ct l.fr.1) (nN ct) un l.fr 0 body e h λx e h=>.ret (x,e,h)) λr=>match r.1 with|.normal=>.ret (.head j r.2.1 r.2.2 none)|x=>l.k x r.2.1 r.2.2 none
 |.i body rd=>gy (oa (oy ct l.fr.1) (nN ct) un l.fr rd (Ka (oy ct l.fr.1) (nN ct) un l.fr.1 0 rd) 0 body e h g λx e h g=>.ret (x,e,h,g)) λr=>match r.1 with|.normal=>.ret (.head j r.2.1 r.2.2.1 r.2.2.2)|x=>l.k x r.2.1 r.2.2.1 r.2.2.2
def Kt (ct:bm) (un:l8) (AT:LD J QZ) (s:QZ):BO (cX J):=N3 ct un (AT.id s) (AT.lp (AT.id s)) (AT.inv s).1 (AT.inv s).2.1 (AT.inv s).2.2
def QN (w0:World) (AT:LD J QZ) (step:QZ->RT QZ) (r:V) (n:Nat):cX J->Prop
 |.res v=>dc v=dc r|.head j e h g=>∃s,AT.id s=j/\(AT.inv s).2.2=g/\lC w0 (AT.lp (AT.id s)).fr.2 e h (AT.inv s).1 (AT.inv s).2.1/\tz step n s r
theorem wD {w0:World} {AT:LD J QZ} {step:QZ->RT QZ} {r:V} {n m:Nat} (hm:n<=m):∀ a,QN w0 AT step r n a->QN w0 AT step r m a
 |.res v,h=>h|.head j e h g,⟨s,M,N,h3,h4⟩=>⟨s,M,N,h3,xD h4 hm⟩
theorem aeW {w0:World} {QZ:DK} {fr:Nat×Nat} {body:il} {e:bZ} {h:List A7} {g:Option Ex} {P:Ex->bZ->List A7->Option Ex->Prop} (hl:dz w0 QZ (fr.1,fr.2) (.s body) e h none P):dz w0 QZ fr (.s body) e h g P:=hl
theorem ajc {ct:bm} {un:l8} {w0:World} (hd:qq ct=true) {AT:LD J QZ} {step:QZ->RT QZ} {r:V} (hs:∀ s,fJ AT (Kt ct un AT s) (step s)=oJ AT (step s)) (hq:∀ s,cP (Kt ct un AT s) (step s)=Kt ct un AT s) :
 ∀(n:Nat) (s:QZ) (e:bZ) (h:List A7),tz step n s r->lC w0 (AT.lp (AT.id s)).fr.2 e h (AT.inv s).1 (AT.inv s).2.1 ->
 dz w0 (SV ct) (AT.lp (AT.id s)).fr (AT.lp (AT.id s)).body e h (AT.inv s).2.2 λx e h g=>bR (dz w0 (SV ct)) ((AT.lp (AT.id s)).k x e h g) (QN w0 AT step r n):=by
 intro n;induction n using Nat.strongRecOn with
 |ind n ih=>
   intro s e h hn hsub;have key:∀ (p:Nat) (s':QZ),p<=n->tz step p s' r->∃ m,p=m+1/\bR (dz w0 (SV ct)) (Kt ct un AT s') (QN w0 AT step r m):=by
    intro p s' hp he
    match p,hp,he with
    |0,_,he=>exact he.elim
    |m+1,hp,he=>exact⟨m,rfl,Cs (w0:=w0) (Nx:=tz step m) (λv U=>U) (λs e h M N=>⟨s,rfl,rfl,N,M⟩) (λs e h M N=>ih m E s e h M N) _ _ (hs s') (hq s') he⟩
   generalize hj:AT.id s=j at *
   match hb:(AT.lp j).body with
   |.s body=>
     refine aeW (ajZ (un:=un) hd 0 {p:Nat×QZ // p.1<=n/\tz step p.1 p.2 r/\AT.id p.2=j} (λp=>((AT.inv p.1.2).1,(AT.inv p.1.2).2.1)) (λp=>p.1.1) ⟨⟨(n,s),Em _,hn,hj⟩,hsub⟩ ?_);rintro⟨⟨p,s'⟩,hp,he,U6⟩
     let ⟨m,uJ,W⟩:=key p s' hp he
     simp only at U6 hp uJ;unfold Kt N3 at W;rw[U6,hb]at W;simp[EB]at W;refine lz (iH _ _) (λa ha=>?_) _ W
     let ⟨x,e',h'⟩:=a
     cases x with
     |normal=>
       let ⟨s2,g1,g2,g3,g4⟩:=ha
       rw[g1]at g3;exact⟨⟨(m,s2),E,g4,g1⟩,g3,by simp only;omega⟩
     |exit i=>exact lz (iH _ _) (wD E) _ ha|ret=>exact lz (iH _ _) (wD E) _ ha
   |.i body rd=>
     refine afe (un:=un) hd 0 0 {p:Nat×QZ // p.1<=n/\tz step p.1 p.2 r/\AT.id p.2=j} (λp=>AT.inv p.1.2) (λp=>p.1.1) ⟨⟨(n,s),Em _,hn,hj⟩,rfl,hsub⟩ ?_;rintro⟨⟨p,s'⟩,hp,he,U6⟩
     let ⟨m,uJ,W⟩:=key p s' hp he
     simp only at U6 hp uJ;unfold Kt N3 at W;rw[U6,hb]at W;simp[EB]at W;refine lz (iH _ _) (λa ha=>?_) _ W
     let ⟨x,e',h',g'⟩:=a
     cases x with
     |normal=>
       let ⟨s2,g1,g2,g3,g4⟩:=ha
       rw[g1]at g3;exact⟨⟨(m,s2),E,g4,g1⟩,g2.symm,g3,by simp only;omega⟩
     |exit i=>exact lz (iH _ _) (wD E) _ ha|ret=>exact lz (iH _ _) (wD E) _ ha
def ba (J:Type) (ct:bm) (un:l8) (sf:aO) (ds:List V):BO (cX J):=oE (oy ct LV) (nN ct) un LV sf ds [] λv _=>.ret (.res v)
def qS (r:V):cX J->Prop
 |.res v=>dc v=dc r|.head ..=>True
theorem acQ {w0:World} {AT:LD J QZ} {step:QZ->RT QZ} {r:V} {n:Nat}:∀ a,QN w0 AT step r n a->qS r a
 |.res v,h=>h|.head ..,_=>trivial
theorem af8 {ct:bm} {un:l8} {w0:World} (hd:qq ct=true) {t:BO (cX J)} (AT:LD J QZ) (step:QZ->RT QZ) (m:RT QZ) {r:V} (M:fJ AT t m=oJ AT m) (N:cP t m=t)
 (hs:∀s,fJ AT (Kt ct un AT s) (step s)=oJ AT (step s)) (hq:∀s,cP (Kt ct un AT s) (step s)=Kt ct un AT s) (hr:a6 (Ev step) m r):bR (dz w0 (SV ct)) t (qS r) :=
 Cs (w0:=w0) (Nx:=Ev step) (λv U=>U) (λ_ _ _ _ _=>trivial) (λs e h ⟨n,hn⟩ hsub=>iH _ _ _ _ _ _ _ _ _ (λx e h g W=>lz (iH _ _) acQ _ W) (ajc hd hs hq n s e h hn hsub)) _ _ M N hr
theorem Pp {ts:List Ty} (h:ts.all cz=true) (n:Nat) (f:bk):fM n (λi=>nM (b7 ts) (A ts f i))=true:=gN λi _=>kQ h _
def iZ:BO (cX J)->Lp J
 |.loop fr b _ _ _ k=>⟨fr,b,k⟩|_=>⟨(0,0),.s .skip,λ_ _ _ _=>.fail 0⟩
def d7:LD J Empty:=⟨λs=>(Empty.elim s),λ_=>⟨(0,0),.s .skip,λ_ _ _ _=>.fail 0⟩,λs=>(Empty.elim s)⟩
def dK:Empty->V->Prop:=λs=>Empty.elim s
theorem inT {ct:bm} {w0:World} (hd:qq ct=true) {t:BO (cX J)} (m:RT Empty) {r:V} (M:fJ d7 t m=oJ d7 m) (N:cP t m=t) (hr:a6 dK m r):bR (dz w0 (SV ct)) t (qS r) :=
 Cs (w0:=w0) (Nx:=dK) (λv U=>U) (λs=>(Empty.elim s)) (λs=>(Empty.elim s)) _ _ M N hr
def dZ (AT:LD J QZ) (t:BO (cX J)) (m:RT QZ):Prop:=fJ AT t m=oJ AT m/\cP t m=t
def ig (ct:bm) (un:l8) (AT:LD J QZ) (t:BO (cX J)) (m:RT QZ) (st:QZ->RT QZ):Prop:=dZ AT t m/\∀s,dZ AT (Kt ct un AT s) (st s)
def Jd (ct:bm) (t:BO (cX J)) (r:V):Prop:=qq ct=true->∀w0,bR (dz w0 (SV ct)) t (qS r)
theorem er {ct:bm} {t:BO (cX J)} {m:RT Empty} {r:V} (h:dZ d7 t m) (hr:a6 dK m r):Jd ct t r:=λhd _=>inT hd m h.1 h.2 hr
theorem qV {ct:bm} {un:l8} {AT:LD J QZ} {t:BO (cX J)} {m:RT QZ} {st:QZ->RT QZ} {r:V} (h:ig ct un AT t m st) (hr:a6 (Ev st) m r):Jd ct t r:=λhd _=>af8 hd AT st m h.1.1 h.1.2 (λs=>(h.2 s).1) (λs=>(h.2 s).2) hr
inductive Cx where|i (n:Int)|n (n:Nat)|b (b:Bool)|s (s:ByteArray)|f (f:bk)
def c8:List Cx->Nat->Int
 |.i n::_,0=>n|_::l,k+1=>c8 l k|_,_=>0
def ge:List Cx->Nat->Nat
 |.n n::_,0=>n|_::l,k+1=>ge l k|_,_=>0
def lF:List Cx->Nat->Nat->List V
 |.f n::_,0=>n|_::l,k+1=>lF l k|_,_=>λ_=>[]
abbrev JJ:=Nat×List Cx
def R9 (J:Type) (e:Nat) (ty:TypeId) (ct:bm) (un:l8) (sf:aO) (ds:List V):BO (cX J):=oE (oy ct LV) (nN ct) un LV sf ds [] λv h=>.ob (KY h v) (.ret (.res (Ll e ty h v)))
theorem F8 {P:Program} {BN:List TypeId} {D7:List jc} {ct:bm} {f:FuncId} {fn:Func} {sf:aO} {un:l8} {ts:List Ty} {pre:List V->Prop} {r:List V->V} (hT:aV P BN D7 ct) (hE:∀ t∈BN,dw P t) (hI:mi P BN D7) (hf:P.funcs[f]? = some fn)
 (hn : (fn.name == "runtime.NumGoroutine") = false) (hc : eN P BN D7 fn = some sf) (hd : gr sf.ntmps sf.body = true) (ho : gS ts = true)
 (h:∀w0 ds,pre (au ts ds)->bR (dz w0 (SV ct)) (ba J ct un sf (au ts ds)) (qS (r (au ts ds)))):(vP (cK ts pre r)).Ok P f :=
 mrg (α:=cX J) (K0:=λv=>.ret (.res v)) (Q0:=qS) (λ_ _ _ h=>h) hT hE hI hf hn hc hd ho h
theorem no7 {P:Program} {BN:List TypeId} {D7:List jc} {ct:bm} {f:FuncId} {fn:Func} {sf:aO} {un:l8} {e:Nat} {ty:TypeId} {ts:List Ty} {pre:List V->Prop} {r:List V->V} (hT:aV P BN D7 ct) (hE:∀ t∈BN,dw P t) (hI:mi P BN D7) (hf:P.funcs[f]? = some fn)
 (hn : (fn.name == "runtime.NumGoroutine") = false) (hc : eN P BN D7 fn = some sf) (hd : gr sf.ntmps sf.body = true) (ho : gS ts = true)
 (h:∀w0 ds,pre (au ts ds)->bR (dz w0 (SV ct)) (R9 J e ty ct un sf (au ts ds)) (qS (r (au ts ds)))):(vL e ty (cK ts pre r)).Ok P f :=
 id7 (α:=cX J) (K0:=λv h=>.ob (KY h v) (.ret (.res (Ll e ty h v)))) (Q0:=qS) (λ_ _ _ _ h=>h) hT hE hI hf hn hc hd ho h
end
end Go.Dx
namespace Go.Sx
section
variable {P:Program} {m:aH}
theorem hfk {t:TypeId} {k:IntKind} (ht:P.underlying t=some (.int k)) {us:Array Value} {i:Nat} {v:Value} (U:us[i]? = some v) (w:World):(part t us i).run P w=.ok v w:=by
 unfold part;have hi:(isAgg t).run P w=.ok false w:=by unfold isAgg;rw[ae (aJ ht w)];rfl
 rw[ae hi];simp only[HH,Gq,U];rfl
end
end Go.Sx
namespace Go.Sx
def uN (P:Program) (At:TypeId->Bool):List Field->Nat->Bool
 |[],_=>true
 |f :: fs, i => decide (f.name ≠ "_") && Nat.beq f.offset i && At f.type && uN P At fs (i + P.cellsOf f.type)
def DL (P:Program):List Field->Nat
 |[]=>0|f::fs=>P.cellsOf f.type+DL P fs
def nk (P:Program):Nat->TypeId->Bool
 |0,_=>false
 |d+1,t=>match P.underlying t with|some (.int _)=>Nat.beq (P.cellsOf t) 1|some (.array n e)=>Nat.beq (P.cellsOf t) (n*P.cellsOf e)&&nk P d e|some (.struct fs)=>Nat.beq (P.cellsOf t) (DL P fs.toList)&&!P.stoodInHeld t&&uN P (nk P d) fs.toList 0|_=>false
section
variable {P:Program} {m:aH}
theorem o5:∀ {xs ys:List af} {b:Bool},cm xs ys=some b->ys.length=xs.length
 |[],[],_,_=>rfl|[],_::_,_,h=>by simp[cm]at h
 |x::xs,[],_,h=>by cases x<;>simp[cm]at h
 |x::xs,y::ys,_,h=>by
   cases x<;>try (simp[cm]at h;done)
   cases y<;>try (simp[cm]at h;done)
   simp only[cm]at h;split at h
   ·simp only[Fy]at h;obtain⟨b',hb,_⟩:=h;simp[o5 hb]
   ·cases h
theorem mO:∀ (c:Nat) {xs ys:List af} {b:Bool},cm xs ys=some b->∃ b1 b2,cm (xs.take c) (ys.take c)=some b1/\cm (xs.drop c) (ys.drop c)=some b2/\b=(b1&&b2)
 |0,xs,ys,b,h=>⟨true,b,by simp[cm],by simpa using h,av⟩|c+1,[],[],b,h=>⟨true,b,by simp[cm],by simpa using h,av⟩|c+1,[],_::_,b,h=>by simp[cm]at h
 |c+1,x::xs,[],b,h=>by cases x<;>simp[cm]at h
 |c+1,x::xs,y::ys,b,h=>by
   cases x<;>try (simp[cm]at h;done)
   cases y<;>try (simp[cm]at h;done)
   rename_i k a k' a';simp only[cm]at h;split at h
   ·rename_i W;simp only[Fy]at h;obtain⟨b',hb,rfl⟩:=h;obtain⟨b1,b2,M,N,rfl⟩:=mO c hb;exact⟨(a==a')&&b1,b2,by simp[cm,W,M],by simpa using N,by rw[Bool.and_assoc]⟩
   ·cases h
def OD (P:Program) (m:aH) (dd:Nat) (t:TypeId):Prop:=∀ (us vs:Array Value) (off:Nat) (xs ys:List af) (b:Bool) (w:World),xs.length=P.cellsOf t->aB m xs ((us.toList.drop off).take (P.cellsOf t))->aB m ys ((vs.toList.drop off).take (P.cellsOf t))->cm xs ys=some b ->
 ∃a c,(part t us off).run P w=.ok a w/\(part t vs off).run P w=.ok c w/\(Op.equalIn dd t a c).run P w=.ok b w
theorem hf2 {dd:Nat} {us vs:Array Value}:∀ (fs:List Field) (i:Nat) (xs ys:List af) (b:Bool) (w:World),(∀ f∈fs,OD P m dd f.type)->uN P (λ_=>true) fs i=true->xs.length=DL P fs->aB m xs ((us.toList.drop i).take (DL P fs))->aB m ys ((vs.toList.drop i).take (DL P fs))->cm xs ys=some b ->
 (Op.eqFields dd us vs fs).run P w=.ok b w
 |[],i,xs,ys,b,w,_,_,hl,_,_,hb=>by
   cases xs with
   |cons _ _=>simp[DL]at hl
   |nil=>cases ys with|nil=>simp[cm]at hb;subst hb;rfl|cons _ _=>simp[cm]at hb
 |f::fs,i,xs,ys,b,w,hq,hf,hl,hx,hy,hb=>by
   simp only[uN,Eg,GV]at hf;obtain⟨⟨⟨M,N⟩,_⟩,h4⟩:=hf;have ho:=FF N;simp only[DL]at hl hx hy;obtain⟨b1,b2,e1,e2,rfl⟩:=mO (P.cellsOf f.type) hb;have S:=fT (P.cellsOf f.type) hx;have Z:=gG (P.cellsOf f.type) hx;have y1:=fT (P.cellsOf f.type) hy;have y2:=gG (P.cellsOf f.type) hy;rw[IW,JG E]at S y1;rw[KH,IK,Nat.add_sub_cancel_left]at Z y2;obtain⟨a,c,r1,r2,r3⟩:=hq f av us vs i _ _ b1 w (by rw[MV];omega) S y1 e1;simp only[Op.eqFields];rw[E5 M,ho,ae r1,ae r2,ae r3];cases b1 with
   |false=>rfl|true=>exact hf2 fs (i+P.cellsOf f.type) _ _ b2 w (λg hg=>hq g (by simp[hg])) h4 (by rw[Jx];omega) Z y2 e2
theorem hfn {dd:Nat} {e:TypeId} {us vs:Array Value} (hq:OD P m dd e):∀ (n i:Nat) (xs ys:List af) (b:Bool) (w:World),xs.length=n*P.cellsOf e->aB m xs ((us.toList.drop (i*P.cellsOf e)).take (n*P.cellsOf e))->aB m ys ((vs.toList.drop (i*P.cellsOf e)).take (n*P.cellsOf e))->cm xs ys=some b ->
 (Op.eqItems dd e (P.cellsOf e) us vs (List.range' i n)).run P w=.ok b w
 |0,i,xs,ys,b,w,hl,_,_,hb=>by
   cases xs with
   |cons _ _=>simp at hl
   |nil=>cases ys with|nil=>simp[cm]at hb;subst hb;rfl|cons _ _=>simp[cm]at hb
 |n+1,i,xs,ys,b,w,hl,hx,hy,hb=>by
   have hn:(n+1)*P.cellsOf e=P.cellsOf e+n*P.cellsOf e:=by rw[Hm,Nat.one_mul,Js]
   have hi:i*P.cellsOf e+P.cellsOf e=(i+1)*P.cellsOf e:=by rw[Hm,Nat.one_mul]
   rw[hn]at hl hx hy;obtain⟨b1,b2,e1,e2,rfl⟩:=mO (P.cellsOf e) hb;have S:=fT (P.cellsOf e) hx;have Z:=gG (P.cellsOf e) hx;have y1:=fT (P.cellsOf e) hy;have y2:=gG (P.cellsOf e) hy;rw[IW,JG E]at S y1;rw[KH,IK,Nat.add_sub_cancel_left,hi]at Z y2;obtain⟨a,c,r1,r2,r3⟩:=hq us vs _ _ _ b1 w (by rw[MV];omega) S y1 e1;rw[JC];simp only[Op.eqItems];rw[ae r1,ae r2,ae r3];cases b1 with
   |false=>rfl|true=>exact hfn hq n (i+1) _ _ b2 w (by rw[Jx];omega) Z y2 e2
theorem Ay {At:TypeId->Bool}:∀ {fs:List Field} {i:Nat},uN P At fs i=true->(∀ f∈fs,At f.type=true)/\uN P (λ_=>true) fs i=true
 |[],_,_=>⟨av,rfl⟩
 |f::fs,i,h=>by
   simp only[uN,Eg]at h ⊢;have k:=Ay h.2;exact⟨λg hg=>by
    rcases List.mem_cons.1 hg with rfl|hg
    ·exact h.1.2
    ·exact k.1 g hg,⟨⟨h.1.1,trivial⟩,k.2⟩⟩
theorem hne:∀ (d dd:Nat) (t:TypeId),nk P d t=true->(∀ n e,P.underlying t=some (.array n e)->True)->d<=dd->∀ (us vs:Array Value) (xs ys:List af) (b:Bool) (w:World),(match P.underlying t with|some (.array _ _)|some (.struct _)=>true|_=>false)=true->xs.length=P.cellsOf t->aB m xs (us.toList.take (P.cellsOf t))->aB m ys (vs.toList.take (P.cellsOf t))->cm xs ys=some b ->
 (Op.equalIn dd t (.agg us) (.agg vs)).run P w=.ok b w:=by
 intro d;induction d with
 |zero=>intro dd t h;cases h
 |succ d ih=>
   intro dd t h _ hd us vs xs ys b w hw hl hx hy hb;obtain⟨dd,rfl⟩:∃ At,dd=At+1:=⟨dd-1,E⟩;have pt:∀ e,nk P d e=true->OD P m dd e:=by
    intro e he us vs off xs ys b w hl hx hy hb;cases hu:P.underlying e with
    |none=>cases d<;>simp[nk,hu]at he
    |some k=>
      obtain⟨ie,iy13⟩:=info_of_underlying hu;have wide:(match P.underlying e with|some (.array _ _)|some (.struct _)=>true|_=>false)=true->∃ a c,(part e us off).run P w=.ok a w/\(part e vs off).run P w=.ok c w/\(Op.equalIn dd e a c).run P w=.ok b w:=by
       intro hw;have pa:∀zs:Array Value,(part e zs off).run P w=.ok (.agg (zs.extract off (off+P.cellsOf e))) w:=by intro zs;rw[hu]at hw;cases k<;>first|(cases hw;done)|simp[part,isAgg,aJ hu,Go.run_sizeOf w iy13]
       have ex:∀zs:Array Value,(zs.extract off (off+P.cellsOf e)).toList.take (P.cellsOf e)=(zs.toList.drop off).take (P.cellsOf e):=by intro zs;rw[Array.toList_extract];simp[List.extract,IW]
       exact⟨_,_,pa us,pa vs,ih dd e he (λ_ _ _=>trivial) E _ _ xs ys b w hw hl (by rw[ex];exact hx) (by rw[ex];exact hy) hb⟩
      cases k with
      |array n e'=>exact wide (by rw[hu])|struct fs=>exact wide (by rw[hu])
      |int At=>
        obtain⟨d,rfl⟩:∃r,d=r+1:=by cases d with|zero=>cases he|succ r=>exact⟨r,rfl⟩
        have hc:P.cellsOf e=1:=by simp only[nk,hu]at he;exact FF he
        rw[hc]at hl hx hy;obtain⟨dd',rfl⟩:∃r,dd=r+1:=⟨dd-1,E⟩;have SJ:=(o5 hb).trans hl;obtain⟨x,rfl⟩:=List.length_eq_one_iff.1 hl;obtain⟨y,rfl⟩:=List.length_eq_one_iff.1 SJ;cases x<;>try (simp[cm]at hb;done)
        cases y<;>try (simp[cm]at hb;done)
        rename_i k a k' a';simp only[cm]at hb;split at hb
        ·rename_i W;subst W;simp only[GU,Et,Bool.and_true]at hb;subst hb;simp only[aB,Dy]at hx hy;obtain⟨u,us',M,N,h3⟩:=hx;obtain⟨v,vs',g1,g2,g3⟩:=hy;subst N;subst g2;have ybe:us[off]? = some (.int k a):=getElem?_of_chunk (c:=1) (by rw[M,h3]);have ybf:vs[off]? = some (.int k a'):=getElem?_of_chunk (c:=1) (by rw[g1,g3]);exact⟨_,_,hfk hu ybe w,hfk hu ybf w,run_equalIn_int w dd' e k At a a' hu⟩
        ·cases hb
      |_=>cases d<;>simp[nk,hu]at he
   cases hu:P.underlying t with
   |none=>simp[hu]at hw
   |some k=>
     cases k with
     |array n e=>
       obtain⟨hc,he⟩:P.cellsOf t=n*P.cellsOf e/\nk P d e=true:=by simp only[nk,hu,Eg]at h;exact⟨FF h.1,h.2⟩
       obtain⟨ie,hi⟩:∃ i,P.info? e=some i:=by
        cases hue:P.underlying e with
        |none=>cases d<;>simp[nk,hue]at he|some k=>exact info_of_underlying hue
       rw[run_equalIn_array w _ us vs hu hi,MZ];rw[hc]at hl hx hy;exact hfn (pt e he) n 0 xs ys b w hl (by simpa using hx) (by simpa using hy) hb
     |struct fs=>
       obtain⟨⟨hc,hs⟩,hf⟩:(P.cellsOf t=DL P fs.toList/\P.stoodInHeld t=false)/\uN P (nk P d) fs.toList 0=true:=by simp only[nk,hu,Eg,Hu]at h;exact⟨⟨FF h.1.1,h.1.2⟩,h.2⟩
       have XW:P.fieldsOf t=fs:=by unfold Program.fieldsOf;rw[hu]
       rw[run_equalIn_struct w _ t us vs (by rw[hu,XW]) hs,XW];rw[hc]at hl hx hy;have k:=Ay hf;exact hf2 _ 0 xs ys b w (λf hf=>pt _ (k.1 f hf)) k.2 hl (by simpa using hx) (by simpa using hy) hb
     |_=>simp[hu]at hw
theorem jU {t:TypeId} (d:Nat) (h:(nk P d t&&decide (d<=10000)&&(match P.underlying t with|some (.array _ _)|some (.struct _)=>true|_=>false)&&!P.eqGuardType P.depth t&&decide ((P.info? t).map (·.size)=some (P.cellsOf t)))=true):dw P t:=by simp only[Eg,GV,Hu]at h;obtain⟨⟨⟨⟨M,N⟩,h3⟩,h4⟩,h5⟩:=h;refine⟨h4,λn hn xs ys us vs m b w hl hx hy hb=>?_⟩;rw[h5]at hn;cases hn;have lx:=cU hx;have izb25:=o5 hb;have ly:=cU hy;unfold Op.equal;exact hne d _ t M (λ_ _ _=>trivial) N us vs xs ys b w h3 hl (by rw[J7 E];exact hx) (by rw[J7 E];exact hy) hb
end
end Go.Sx
namespace Go.Dx
abbrev aE (l:List V):Int:=iv (aM l)
abbrev bM (l:List V):Int:=iv (aM (ap l))
abbrev d9 (l:List V):Int:=iv (aM (ap (ap l)))
abbrev cH (l:List V):Int:=iv (aM (ap (ap (ap l))))
abbrev eV (l:List V):Int:=iv (aM (ap (ap (ap (ap l)))))
abbrev ck (l:List V):Int:=iv (aM (ap (ap (ap (ap (ap l))))))
theorem BH {p:Prop} [inst:Decidable p] (h:p):decide p=true:=LL h
theorem eZ {p:Prop} [inst:Decidable p] (h:¬p):decide p=false:=decide_eq_false h
theorem fW {a b:Int} (h:0<=a) (g:0<=b):0<=a*b:=Int.mul_nonneg h g
theorem oo {a b c:Int} (h:a<=b) (g:0<=c):c*a<=c*b:=Int.mul_le_mul_of_nonneg_left h g
def iR:Nat->Nat->oK->oK
 |_,0,l=>l|k,n+1,l=>some (some k)::iR (k+1) n l
def vE (ct:bm) (un:l8) (j:JJ) (l:Lp JJ) (s:bZ×List A7×Option Sx.Ex):BO (cX JJ):=N3 ct un j l s.1 s.2.1 s.2.2
abbrev D (n:Int):V:=.int .i64 n
abbrev tI:Ty:=.int .i64
abbrev I (x:Int):Int:=IntKind.i64.wrap x
abbrev aK:List Ty:=[Ty.int IntKind.i64,Ty.int IntKind.i64]
abbrev kp:List Ty:=[Ty.int IntKind.i64,Ty.int IntKind.i64,Ty.int IntKind.i64,Ty.int IntKind.i64]
abbrev L:List Ty:=[Ty.int IntKind.i64]
abbrev aN:List Ty:=[Ty.str,Ty.int IntKind.i64,Ty.sl [Ty.int IntKind.i64,Ty.int IntKind.i64],Ty.int IntKind.i64]
abbrev aY:List Ty:=[Ty.int IntKind.i64,Ty.int IntKind.i64,Ty.int IntKind.i64,Ty.int IntKind.i64,Ty.sl [Ty.int IntKind.i64,Ty.int IntKind.i64,Ty.int IntKind.i64,Ty.int IntKind.i64]]
abbrev aG:List Ty:=[Ty.str,Ty.int IntKind.i64,Ty.int IntKind.i64,Ty.int IntKind.i64,Ty.int IntKind.i64,Ty.int IntKind.i64]
abbrev aX:List Ty:=[Ty.int IntKind.i64,Ty.int IntKind.i64,Ty.int IntKind.i64,Ty.int IntKind.i64,Ty.int IntKind.i64]
abbrev ao:List Ty:=[Ty.str,Ty.sl [Ty.int IntKind.i64],Ty.sl [Ty.int IntKind.i64],Ty.sl [Ty.sl [Ty.int IntKind.i64]],Ty.int IntKind.i64,Ty.int IntKind.i64]
abbrev al:List Ty:=[Ty.str,Ty.int IntKind.i64,Ty.int IntKind.i64,Ty.int IntKind.i64,Ty.int IntKind.i64,Ty.int IntKind.i64,Ty.int IntKind.i64,Ty.int IntKind.i64,Ty.int IntKind.i64,Ty.int IntKind.i64,Ty.int IntKind.i64,Ty.int IntKind.i64,Ty.int IntKind.i64,Ty.int IntKind.i64]
abbrev CE:List Ty:=[Ty.int IntKind.i64,Ty.int IntKind.i64,Ty.int IntKind.i64]
abbrev M0 (H:Nat) (G:bk) (T:Nat) (Q:bk) (n4:Nat) (f4:bk) (n6:Nat) (f6:bk):V:=.agg [.sl H (A aN G),.sl T (A aX Q),.sl n4 (A aY f4),.sl n6 (A aG f6)]
end Go.Dx
namespace Go.Dx
open Go.IntKind (i64 u64 u8)
open Go.Sx Go.Proofs
def BN:List TypeId:=[40,93,49,240,113]
noncomputable section
noncomputable def itF (n:FuncId) (f:Func):jc:=⟨n,((rT Tryz.prog BN f).getD (0,.skip)).1,((rT Tryz.prog BN f).getD (0,.skip)).2⟩
def D7:List jc:=[itF 72 Tryz.f72,itF 121 Tryz.f121]
noncomputable def cQ (f:Func):aO:=(eN Tryz.prog BN D7 f).getD ⟨0,[],.skip⟩
def agC:aO:=cQ Tryz.f3
def frR:aO:=cQ Tryz.f7
def af7:aO:=cQ Tryz.f8
def agj:aO:=cQ Tryz.f9
def acN:aO:=cQ Tryz.f10
def fb1:aO:=cQ Tryz.f11
def Bz:aO:=cQ Tryz.f19
def fx7:aO:=cQ Tryz.f22
def aso:aO:=cQ Tryz.f23
def Fe:aO:=cQ Tryz.f24
def ao9:aO:=cQ Tryz.f25
def fp4:aO:=cQ Tryz.f26
def aft:aO:=cQ Tryz.f27
def btw:aO:=cQ Tryz.f28
def ap9:aO:=cQ Tryz.f29
def asP:aO:=cQ Tryz.f30
def ang:aO:=cQ Tryz.f34
def ybb:aO:=cQ Tryz.f37
def al3:aO:=cQ Tryz.f39
def apI:aO:=cQ Tryz.f42
def aqu:aO:=cQ Tryz.f43
def Cy:aO:=cQ Tryz.f44
def fe1:aO:=cQ Tryz.f45
def asJ:aO:=cQ Tryz.f46
def aoT:aO:=cQ Tryz.f47
def fu4:aO:=cQ Tryz.f48
def ahG:aO:=cQ Tryz.f49
def xh:aO:=cQ Tryz.f50
def adp:aO:=cQ Tryz.f51
def adS:aO:=cQ Tryz.f52
def afN:aO:=cQ Tryz.f55
def c62:aO:=cQ Tryz.f56
def AC:aO:=cQ Tryz.f57
def aqd:aO:=cQ Tryz.f58
def adz:aO:=cQ Tryz.f59
def asq:aO:=cQ Tryz.f60
def afs:aO:=cQ Tryz.f61
def yaJ:aO:=cQ Tryz.f62
def Bv:aO:=cQ Tryz.f63
def ahk:aO:=cQ Tryz.f64
def asu:aO:=cQ Tryz.f65
def Cw:aO:=cQ Tryz.f66
def Yr:aO:=cQ Tryz.f67
def asr:aO:=cQ Tryz.f68
def eqs:aO:=cQ Tryz.f69
def amG:aO:=cQ Tryz.f70
def fa2:aO:=cQ Tryz.f71
def f14:aO:=cQ Tryz.f73
def afi:aO:=cQ Tryz.f76
def arn:aO:=cQ Tryz.f78
def arP:aO:=cQ Tryz.f79
def arA:aO:=cQ Tryz.f80
def ajG:aO:=cQ Tryz.f81
def ah2:aO:=cQ Tryz.f82
def afP:aO:=cQ Tryz.f83
def fe3:aO:=cQ Tryz.f84
def fw6:aO:=cQ Tryz.f85
def aeM:aO:=cQ Tryz.f86
def jb:aO:=cQ Tryz.f87
def pD:aO:=cQ Tryz.f88
def aqJ:aO:=cQ Tryz.f89
def yaL:aO:=cQ Tryz.f90
def Tw:aO:=cQ Tryz.f93
def evM:aO:=cQ Tryz.f94
def FY:aO:=cQ Tryz.f95
def ae6:aO:=cQ Tryz.f96
def adA:aO:=cQ Tryz.f97
def aoN:aO:=cQ Tryz.f98
def H8:aO:=cQ Tryz.f99
def aqR:aO:=cQ Tryz.f101
def apj:aO:=cQ Tryz.f102
def apb:aO:=cQ Tryz.f103
def ao6:aO:=cQ Tryz.f104
def aph:aO:=cQ Tryz.f105
def arZ:aO:=cQ Tryz.f106
def aqr:aO:=cQ Tryz.f107
def ape:aO:=cQ Tryz.f108
def ag3:aO:=cQ Tryz.f109
def agw:aO:=cQ Tryz.f110
def agO:aO:=cQ Tryz.f111
def agF:aO:=cQ Tryz.f112
def afj:aO:=cQ Tryz.f113
def afb:aO:=cQ Tryz.f114
def ah8:aO:=cQ Tryz.f115
def anp:aO:=cQ Tryz.f116
def rr:aO:=cQ Tryz.f117
def nO:aO:=cQ Tryz.f118
def agK:aO:=cQ Tryz.f119
def ag2:aO:=cQ Tryz.f120
def amY:aO:=cQ Tryz.f122
def arO:aO:=cQ Tryz.f123
def aoY:aO:=cQ Tryz.f124
def aqa:aO:=cQ Tryz.f125
def arJ:aO:=cQ Tryz.f126
def arj:aO:=cQ Tryz.f127
def apk:aO:=cQ Tryz.f128
def alL:aO:=cQ Tryz.f129
def amS:aO:=cQ Tryz.f130
def amy:aO:=cQ Tryz.f131
def ajn:aO:=cQ Tryz.f132
def ap2:aO:=cQ Tryz.f133
def alI:aO:=cQ Tryz.f134
def akC:aO:=cQ Tryz.f135
def alU:aO:=cQ Tryz.f136
def amc:aO:=cQ Tryz.f137
def aon:aO:=cQ Tryz.f138
def ak6:aO:=cQ Tryz.f139
def akk:aO:=cQ Tryz.f140
def ahF:aO:=cQ Tryz.f141
def ahu:aO:=cQ Tryz.f143
def afh:aO:=cQ Tryz.f144
def acW:aO:=cQ Tryz.f145
def afB:aO:=cQ Tryz.f146
def agb:aO:=cQ Tryz.f147
def agH:aO:=cQ Tryz.f148
def ahw:aO:=cQ Tryz.f149
def asi:aO:=cQ Tryz.f150
def anW:aO:=cQ Tryz.f151
def ajH:aO:=cQ Tryz.f152
def anI:aO:=cQ Tryz.f153
def alX:aO:=cQ Tryz.f154
def ajv:aO:=cQ Tryz.f155
def aa9:aO:=cQ Tryz.f156
def am6:aO:=cQ Tryz.f158
def aj6:aO:=cQ Tryz.f159
def ajR:aO:=cQ Tryz.f160
def ajU:aO:=cQ Tryz.f161
def afv:aO:=cQ Tryz.f162
def adl:aO:=cQ Tryz.f163
def adv:aO:=cQ Tryz.f164
def arf:aO:=cQ Tryz.f165
def aqL:aO:=cQ Tryz.f166
def aq1:aO:=cQ Tryz.f167
def akb:aO:=cQ Tryz.f168
def alN:aO:=cQ Tryz.f169
def aog:aO:=cQ Tryz.f170
def alk:aO:=cQ Tryz.f171
def ak8:aO:=cQ Tryz.f172
def akm:aO:=cQ Tryz.f173
def amW:aO:=cQ Tryz.f174
def Pj:aO:=cQ Tryz.f182
def ai2:aO:=cQ Tryz.f183
def aj4:aO:=cQ Tryz.f184
def hdy:aO:=cQ Tryz.f185
def amt:aO:=cQ Tryz.f190
def alo:aO:=cQ Tryz.f199
end
theorem hE:∀ t∈BN,dw Tryz.prog t:=by
 intro t ht;simp only[BN,HD,IP,or_false]at ht;rcases ht with rfl|rfl|rfl|rfl|rfl
 ·exact jU 3 bw
 ·exact jU 3 bw
 ·exact jU 3 bw
 ·exact jU 3 bw
 ·exact jU 3 bw
theorem hI:mi Tryz.prog BN D7:=by
 intro it ht;simp only[D7,HD,IP,or_false]at ht;rcases ht with rfl|rfl
 ·exact⟨_,Tryz.func72,by kernel_rfl,by kernel_rfl⟩
 ·exact⟨_,Tryz.func121,by kernel_rfl,by kernel_rfl⟩
def u0:l8:=λ_=>0
noncomputable def KL (fn : Func) (sf : aO) (ts : List Ty) : Bool × Option aO × Bool × Bool := (fn.name == "runtime.NumGoroutine", eN Tryz.prog BN D7 fn, gr sf.ntmps sf.body, gS ts)
abbrev dm {α:Sort _} {β:Sort _} (_:α) (b:β):β:=b
abbrev RT.am {QZ:Type} (n:Nat) (x:RT QZ):RT QZ:=.asm (true=true->n<=9223372036854775807) x
abbrev RT.cb {QZ:Type} (x:RT QZ):RT QZ:=.obc (.obt x)
abbrev RT.ii {QZ:Type} (x:RT QZ):RT QZ:=.obi (.obi x)
abbrev RT.iv {QZ:Type} (x:RT QZ):RT QZ:=.ii (.ii x)
abbrev nz (x:Int):Prop:=x=0->False
abbrev dI (x:Int) (n:Nat):Bool:=decide (0<=x/\x<(n:Int))
theorem iB {f : FuncId} {fn : Func} {sf : aO} {un : l8} {ct : bm} (hf : Tryz.prog.funcs[f]? = some fn) (W : (fn.name == "runtime.NumGoroutine", eN Tryz.prog BN D7 fn, gr sf.ntmps sf.body) = (false, some sf, true)) (hl : aV Tryz.prog BN D7 ct) : aV Tryz.prog BN D7 ((f, .inl sf un) :: ct) := .inl hf (congrArg Prod.fst W) (congrArg (fun x => x.2.1) W) (congrArg (fun x => x.2.2) W) hl
theorem fE {fn : Func} {sf : aO} {ts : List Ty} (h : KL fn sf ts = (false, some sf, true, true)) : (fn.name == "runtime.NumGoroutine") = false /\ eN Tryz.prog BN D7 fn = some sf /\ gr sf.ntmps sf.body = true /\ gS ts = true := by
 have M:=congrArg Prod.fst h
 have N:=congrArg (λx=>x.2.1) h
 have h3:=congrArg (λx=>x.2.2.1) h
 have h4:=congrArg (λx=>x.2.2.2) h
 exact⟨M,N,h3,h4⟩
section
variable {ct:bm} {f:FuncId} {fn:Func} {sf:aO} {un:l8} {ts:List Ty} {pre:List V->Prop} {r:List V->V}
theorem PK (hT:aV Tryz.prog BN D7 ct) (hf:Tryz.prog.funcs[f]? = some fn) (W:KL fn sf ts=(false,some sf,true,true)) (h:∀ ds,pre (au ts ds)->Jd ct (ba JJ ct un sf (au ts ds)) (r (au ts ds))):(vP (cK ts pre r)).Ok Tryz.prog f :=
 F8 (J:=JJ) (un:=un) hT hE hI hf (fE W).1 (fE W).2.1 (fE W).2.2.1 (fE W).2.2.2 λw0 ds hp=>h ds hp hT.dst w0
abbrev c7 (C:aD) (k:FuncId):Prop:=(vP C).Ok Tryz.prog k
theorem bo (hT:aV Tryz.prog BN D7 ct) (h:∀ds,pre (au ts ds) → Jd ct (ba JJ ct un sf (au ts ds)) (r (au ts ds))) (W:(Tryz.prog.funcs[f]?).map (λfn=>KL fn sf ts)=some (false,some sf,true,true):=by kernel_rfl):(vP (cK ts pre r)).Ok Tryz.prog f:=by obtain⟨fn,hf,W⟩:=Option.map_eq_some_iff.1 W;exact PK hT hf W h
theorem arE {e:Nat} {ty:TypeId} (hT:aV Tryz.prog BN D7 ct) (hf:Tryz.prog.funcs[f]? = some fn) (W:KL fn sf ts=(false,some sf,true,true)) (h:∀ ds,pre (au ts ds)->Jd ct (R9 JJ e ty ct un sf (au ts ds)) (r (au ts ds))):(vL e ty (cK ts pre r)).Ok Tryz.prog f :=
 no7 (J:=JJ) (un:=un) hT hE hI hf (fE W).1 (fE W).2.1 (fE W).2.2.1 (fE W).2.2.2 λw0 ds hp=>h ds hp hT.dst w0
end
variable (R:Int) (s0:ByteArray) (S Z x3 O x5 x6 x7 x8:Int) (b8:Bool) (x9 Ql Qn:Int)
noncomputable section
def A5:bm:=[]
theorem vz:aV Tryz.prog BN D7 A5:=.nil
def m84:RT Empty:=.ret (V.agg [D (I (R-Z)),D (I (S-x3))])
theorem ajf:dZ d7 (ba JJ A5 u0 arA [V.agg [D R,D S],V.agg [D Z,D x3]]) (m84 R S Z x3):=cG
def bL:Int:=I (R-Z)
def bJ:Int:=I (S-x3)
def NP:V:=.agg [D (bL R Z),D (bJ S x3)]
theorem ao0:a6 dK (m84 R S Z x3) (NP R S Z x3):=aA (by unfold NP bL bJ;rfl)
def QS:aD:=cK [.agg aK,.agg aK] (λ_=>True) λ|[.agg [.int _ R,.int _ S],.agg [.int _ Z,.int _ x3]]=>NP R S Z x3|_=>.any
theorem aqB:c7 QS 80:=bo vz λ_ hp=>er (ajf ..) (ao0 _ _ _ _)
def m85:RT Empty:=.ret (D (I (I (R*Z)+I (S*x3))))
theorem alb:dZ d7 (ba JJ A5 u0 aq1 [V.agg [D R,D S],V.agg [D Z,D x3]]) (m85 R S Z x3):=cG
def js:Int:=I (I (R*Z)+I (S*x3))
def NQ:V:=D (js R S Z x3)
theorem ars:a6 dK (m85 R S Z x3) (NQ R S Z x3):=aA (by unfold NQ js;rfl)
def QU:aD:=cK [.agg aK,.agg aK] (λ_=>True) λ|[.agg [.int _ R,.int _ S],.agg [.int _ Z,.int _ x3]]=>NQ R S Z x3|_=>.any
theorem apw:c7 QU 167:=bo vz λ_ hp=>er (alb ..) (ars _ _ _ _)
def amu:RT Empty:=.ret (D (I (I (R*x3)-I (S*Z))))
theorem ahv:dZ d7 (ba JJ A5 u0 ajG [V.agg [D R,D S],V.agg [D Z,D x3]]) (amu R S Z x3):=cG
def eh:Int:=I (I (R*x3)-I (S*Z))
def OJ:V:=D (eh R S Z x3)
theorem anM:a6 dK (amu R S Z x3) (OJ R S Z x3):=aA (by unfold OJ eh;rfl)
def anA:aD:=cK [.agg aK,.agg aK] (λ_=>True) λ|[.agg [.int _ R,.int _ S],.agg [.int _ Z,.int _ x3]]=>OJ R S Z x3|_=>.any
theorem anq:c7 anA 81:=bo vz λ_ hp=>er (ahv ..) (anM _ _ _ _)
def ali:RT Empty:=.ret (V.agg [D (I (Z*R)),D (I (Z*S))])
theorem aeh:dZ d7 (ba JJ A5 u0 anW [V.agg [D R,D S],D Z]) (ali R S Z):=cG
def xg:Int:=I (Z*R)
def yC:Int:=I (Z*S)
def Oe:V:=.agg [D (xg R Z),D (yC S Z)]
theorem al7:a6 dK (ali R S Z) (Oe R S Z):=aA (by unfold Oe xg yC;rfl)
def am9:aD:=cK [.agg aK,tI] (λ_=>True) λ|[.agg [.int _ R,.int _ S],.int _ Z]=>Oe R S Z|_=>.any
theorem ajs:c7 am9 151:=bo vz λ_ hp=>er (aeh ..) (al7 _ _ _)
def m86:RT Empty:=.obi (.obi (.obi (.ret (V.bool (bif decide (R<S) then true else decide (Z<R))))))
theorem alu:dZ d7 (ba JJ A5 u0 arP [D R,D S,D Z]) (m86 R S Z):=cG
def bT:Bool:=bif decide (R<S) then true else decide (Z<R)
def NT:V:=.bool (bT R S Z)
theorem apz:a6 dK (m86 R S Z) (NT R S Z):=BK (BK (BK (aA (by unfold NT bT;rfl))))
def N8:aD:=cK CE (λ_=>True) λ|[.int _ R,.int _ S,.int _ Z]=>NT R S Z|_=>.any
theorem anh:c7 N8 79:=bo vz λ_ hp=>er (alu ..) (apz _ _ _)
def gR:Bool:=bif decide (S<=R) then decide (R<=Z) else false
def dD:Int:=I (R-Z)
def dE:Int:=I (S-x3)
def xx:Int:=I (I (R*Z)+I (S*x3))
def oN:Int:=I (I (R*x3)-I (S*Z))
def B3:Int:=max R (I (0-R))
def tM:Int:=max (-1) (min 1 R)
def aoq:RT Empty:=.obt (.obt (.obt (.obt (.obt (.ret (V.tup [V.int u64 (u64.wrap (u64.wrap (u64.wrap (R.fdiv (2 ^ 32)*S.fdiv (2 ^ 32))+(u64.wrap (u64.wrap (R.fdiv (2 ^ 32)*bits BinOp.and u64 S 4294967295)+(u64.wrap (bits BinOp.and u64 R 4294967295*bits BinOp.and u64 S 4294967295)).fdiv (2 ^ 32))).fdiv (2 ^ 32))+(u64.wrap (bits BinOp.and u64 (u64.wrap (u64.wrap (R.fdiv (2 ^ 32)*bits BinOp.and u64 S 4294967295)+(u64.wrap (bits BinOp.and u64 R 4294967295*bits BinOp.and u64 S 4294967295)).fdiv (2 ^ 32))) 4294967295+u64.wrap (bits BinOp.and u64 R 4294967295*S.fdiv (2 ^ 32)))).fdiv (2 ^ 32))),V.int u64 (u64.wrap (R*S))]))))))
theorem afZ:dZ d7 (ba JJ A5 u0 ai2 [V.int u64 R,V.int u64 S]) (aoq R S):=cG
def um:Int:=u64.wrap (u64.wrap (u64.wrap (R.fdiv (2 ^ 32)*S.fdiv (2 ^ 32))+(u64.wrap (u64.wrap (R.fdiv (2 ^ 32)*bits BinOp.and u64 S 4294967295)+(u64.wrap (bits BinOp.and u64 R 4294967295*bits BinOp.and u64 S 4294967295)).fdiv (2 ^ 32))).fdiv (2 ^ 32))+(u64.wrap (bits BinOp.and u64 (u64.wrap (u64.wrap (R.fdiv (2 ^ 32)*bits BinOp.and u64 S 4294967295)+(u64.wrap (bits BinOp.and u64 R 4294967295*bits BinOp.and u64 S 4294967295)).fdiv (2 ^ 32))) 4294967295+u64.wrap (bits BinOp.and u64 R 4294967295*S.fdiv (2 ^ 32)))).fdiv (2 ^ 32))
def uD:Int:=u64.wrap (R*S)
def Nl:V:=.tup [.int u64 (um R S),.int u64 (uD R S)]
theorem amQ:a6 dK (aoq R S) (Nl R S):=ak (ak (ak (ak (ak (aA (by unfold Nl um uD;rfl))))))
def aji:aD:=cK [.int .u64,.int .u64] (λ_=>True) λ|[.int _ R,.int _ S]=>Nl R S|_=>.any
theorem ajg:c7 aji 183:=bo vz λ_ hp=>er (afZ ..) (amQ _ _)
def alr:RT Empty:=.ret (V.bool (R !=R))
theorem acF:dZ d7 (ba JJ A5 u0 Pj [D R]) (alr R):=cG
def apC:Bool:=R !=R
def OE:V:=.bool (apC R)
theorem aob:a6 dK (alr R) (OE R):=aA (by unfold OE apC;rfl)
def ane:aD:=cK L (λ_=>True) λ|[.int _ R]=>OE R|_=>.any
theorem alP:c7 ane 182:=bo vz λ_ hp=>er (acF ..) (aob _)
def Eo:bm:=(80,.con QS)::(167,.con QU)::(81,.con anA)::(151,.con am9)::(79,.con N8)::(183,.con aji)::(182,.con ane)::A5
theorem xm:aV Tryz.prog BN D7 Eo:=.con aqB (.con apw (.con anq (.con ajs (.con anh (.con ajg (.con alP (vz)))))))
def anj:RT Empty:=.obc (.obt (.ret (V.agg [V.int u64 (um (u64.wrap R) (u64.wrap S)),V.int u64 (uD (u64.wrap R) (u64.wrap S))])))
theorem aeF:dZ d7 (ba JJ Eo u0 akb [D R,D S]) (anj R S):=cG
def nu:Int:=um (u64.wrap R) (u64.wrap S)
def ox:Int:=uD (u64.wrap R) (u64.wrap S)
def Nm:V:=.agg [.int u64 (nu R S),.int u64 (ox R S)]
theorem aof:a6 dK (anj R S) (Nm R S):=aC (ak (aA (by unfold Nm nu ox;rfl)))
def aol:aD:=cK aK (λ_=>True) λ|[.int _ R,.int _ S]=>Nm R S|_=>.any
theorem alF:c7 aol 168:=bo xm λ_ hp=>er (aeF ..) (aof _ _)
def akU:RT Empty:=.obi (.obi (.obi (.obi (.obi (.obi (.obi (.obi (.obi (.obi (.obi (.obi (.obi (.obi (.obi (.obi (.obi (.ret (V.bool (bif bif R==Z&&(S==x3&&true) then true else decide (R<Z) then true else bif R==Z then decide (S<x3) else false)))))))))))))))))))
theorem afM:dZ d7 (ba JJ Eo u0 alN [V.agg [V.int u64 R,V.int u64 S],V.agg [V.int u64 Z,V.int u64 x3]]) (akU R S Z x3):=cG
def ug:Bool:=bif bif R==Z&&(S==x3&&true) then true else decide (R<Z) then true else bif R==Z then decide (S<x3) else false
def NZ:V:=.bool (ug R S Z x3)
theorem alJ:a6 dK (akU R S Z x3) (NZ R S Z x3):=BK (BK (BK (BK (BK (BK (BK (BK (BK (BK (BK (BK (BK (BK (BK (BK (BK (aA (by unfold NZ ug;rfl))))))))))))))))))
def aiQ:aD:=cK [.agg [.int .u64,.int .u64],.agg [.int .u64,.int .u64]] (λ_=>True) λ|[.agg [.int _ R,.int _ S],.agg [.int _ Z,.int _ x3]]=>NZ R S Z x3|_=>.any
theorem am1:c7 aiQ 169:=bo xm λ_ hp=>er (afM ..) (alJ _ _ _ _)
def ahV:Bool:=bif decide (Z<R) then true else bif R==Z then decide (x3<S) else false
def asN:Int:=u64.wrap (u64.wrap (u64.wrap (u64.wrap ((u64.wrap R).tdiv 4294967296)*u64.wrap ((u64.wrap S).tdiv 4294967296))+u64.wrap ((u64.wrap (u64.wrap (u64.wrap ((u64.wrap R).tdiv 4294967296)*(u64.wrap S).tmod 4294967296)+u64.wrap ((u64.wrap ((u64.wrap R).tmod 4294967296*(u64.wrap S).tmod 4294967296)).tdiv 4294967296))).tdiv 4294967296))+u64.wrap ((u64.wrap (u64.wrap ((u64.wrap R).tmod 4294967296*u64.wrap ((u64.wrap S).tdiv 4294967296))+(u64.wrap (u64.wrap (u64.wrap ((u64.wrap R).tdiv 4294967296)*(u64.wrap S).tmod 4294967296)+u64.wrap ((u64.wrap ((u64.wrap R).tmod 4294967296*(u64.wrap S).tmod 4294967296)).tdiv 4294967296))).tmod 4294967296)).tdiv 4294967296))
def fd1:Int:=u64.wrap (u64.wrap (u64.wrap (u64.wrap ((u64.wrap R).tmod 4294967296*u64.wrap ((u64.wrap S).tdiv 4294967296))+(u64.wrap (u64.wrap (u64.wrap ((u64.wrap R).tdiv 4294967296)*(u64.wrap S).tmod 4294967296)+u64.wrap ((u64.wrap ((u64.wrap R).tmod 4294967296*(u64.wrap S).tmod 4294967296)).tdiv 4294967296))).tmod 4294967296)*4294967296)+(u64.wrap ((u64.wrap R).tmod 4294967296*(u64.wrap S).tmod 4294967296)).tmod 4294967296)
def m78:RT Empty:=.obc (.obt (.obc (.obt (.obc (.obt (.ret (D (eh (bL Z R) (bJ x3 S) (bL O R) (bJ x5 S)))))))))
theorem aly:dZ d7 (ba JJ Eo u0 apI [V.agg [D R,D S,D Z,D x3],V.agg [D O,D x5]]) (m78 R S Z x3 O x5):=cG
def kC:Int:=eh (bL Z R) (bJ x3 S) (bL O R) (bJ x5 S)
def NO:V:=D (kC R S Z x3 O x5)
theorem apV:a6 dK (m78 R S Z x3 O x5) (NO R S Z x3 O x5):=aC (ak (aC (ak (aC (ak (aA (by unfold NO kC;rfl)))))))
def QR:aD:=cK [.agg kp,.agg aK] (λ_=>True) λ|[.agg [.int _ R,.int _ S,.int _ Z,.int _ x3],.agg [.int _ O,.int _ x5]]=>NO R S Z x3 O x5|_=>.any
theorem apA:c7 QR 42:=bo xm λ_ hp=>er (aly ..) (apV _ _ _ _ _ _)
def m54:RT Empty:=.ret (V.agg [D R,D S,D Z,D S,D Z,D x3,D R,D x3])
theorem aoo:dZ d7 (ba JJ Eo u0 aoY [V.agg [D R,D S,D Z,D x3]]) (m54 R S Z x3):=cG
def NE:V:=.agg [D R,D S,D Z,D S,D Z,D x3,D R,D x3]
theorem aqe:a6 dK (m54 R S Z x3) (NE R S Z x3):=aA (by unfold NE ; rfl)
def Q4:aD:=cK [.agg kp] (λ_=>True) λ|[.agg [.int _ R,.int _ S,.int _ Z,.int _ x3]]=>NE R S Z x3|_=>.any
theorem apW:c7 Q4 124:=bo xm λ_ hp=>er (aoo ..) (aqe _ _ _ _)
def m48:RT Empty:=dm (s0,O,x5) (.obc (.obt (.ret (V.agg [D S,D Z,D x3,D (max 0 (I (x3-Ql))),D (I (x3-x9)),D (xg x6 x3),D (yC x7 x3),D (I (x8*x3)),V.bool (decide (x3<x9))]))))
theorem alH:dZ d7 (ba JJ Eo u0 arO [V.agg [V.str s0,D S,D Z,D x3,D O,D x5],V.agg [D x6,D x7,D x8,D x9,D Ql]]) (m48 s0 S Z x3 O x5 x6 x7 x8 x9 Ql):=cG
def mz:Int:=max 0 (I (x3-Ql))
def ma:Int:=I (x3-x9)
def mr:Int:=xg x6 x3
def lZ:Int:=yC x7 x3
def lU:Int:=I (x8*x3)
def jT:Bool:=decide (x3<x9)
def NC:V:=dm (s0,O,x5) (.agg [D S,D Z,D x3,D (mz x3 Ql),D (ma x3 x9),D (mr x3 x6),D (lZ x3 x7),D (lU x3 x8),.bool (jT x3 x9)])
theorem ard:a6 dK (m48 s0 S Z x3 O x5 x6 x7 x8 x9 Ql) (NC s0 S Z x3 O x5 x6 x7 x8 x9 Ql):=aC (ak (aA (by unfold NC mz ma mr lZ lU jT;rfl)))
def Q1:aD:=cK [.agg aG,.agg aX] (λ_=>True) λ|[.agg [.str s0,.int _ S,.int _ Z,.int _ x3,.int _ O,.int _ x5],.agg [.int _ x6,.int _ x7,.int _ x8,.int _ x9,.int _ Ql]]=>NC s0 S Z x3 O x5 x6 x7 x8 x9 Ql|_=>.any
theorem arL:c7 Q1 123:=bo xm λ_ hp=>er (alH ..) (ard _ _ _ _ _ _ _ _ _ _ _)
def aju:RT Empty:=dm (x3,O,x5,x6,x7,b8) (.obc (.obt (.ret (V.agg [D (I (I (Z*R)+I (Qn*bL x9 R))),D (I (I (Z*S)+I (Qn*bJ Ql S)))]))))
theorem afp:dZ d7 (ba JJ Eo u0 anI [V.agg [D R,D S,D Z,D x3,D O,D x5,D x6,D x7,V.bool b8],V.agg [D x9,D Ql],D Qn]) (aju R S Z x3 O x5 x6 x7 b8 x9 Ql Qn):=cG
def b9:Int:=I (I (Z*R)+I (Qn*bL x9 R))
def ci:Int:=I (I (Z*S)+I (Qn*bJ Ql S))
def OY:V:=dm (x3,O,x5,x6,x7,b8) (.agg [D (b9 R Z x9 Qn),D (ci S Z Ql Qn)])
theorem alp:a6 dK (aju R S Z x3 O x5 x6 x7 b8 x9 Ql Qn) (OY R S Z x3 O x5 x6 x7 b8 x9 Ql Qn):=aC (ak (aA (by unfold OY b9 ci;rfl)))
def alM:aD:=cK [.agg [tI,tI,tI,tI,tI,tI,tI,tI,.bool],.agg aK,tI] (λ_=>True) λ|[.agg [.int _ R,.int _ S,.int _ Z,.int _ x3,.int _ O,.int _ x5,.int _ x6,.int _ x7,.bool b8],.agg [.int _ x9,.int _ Ql],.int _ Qn]=>OY R S Z x3 O x5 x6 x7 b8 x9 Ql Qn|_=>.any
theorem amM:c7 alM 153:=bo xm λ_ hp=>er (afp ..) (alp _ _ _ _ _ _ _ _ _ _ _ _)
def aoA:Int:=I (x3-min Ql x3)
def fn5:Int:=I (x3-x9)
def aoy:Int:=I (x3*x6)
def c66:Int:=I (x3*x7)
def fy6:Int:=I (x3*x8)
end
end Go.Dx
namespace Go.Dx
open Go.IntKind (i64 u64 u8)
open Go.Sx
theorem gE {n:Nat} {P:Nat->Prop} (h:∀ i,i<=n->(i<n->P (i+1))->P i):∀ i,i<=n->P i:=by
 have key:∀ k i,i+k=n->P i:=by
  intro k;induction k with
  |zero=>intro i e;exact h i E λh=>by omega
  |succ k ih=>intro i e;exact h i E λ_=>ih (i+1) E
 exact λi hi=>key (n-i) i E
theorem D5 {x:Int} (M:-9223372036854775808<=x) (N:x<=9223372036854775807):I x=x:=IntWalk.i64_in _ E
theorem uY {i n:Nat} (h:i<n) (hn:n<=9223372036854775807):I ((i:Int)+1)=((i+1:Nat):Int):=by rw[D5 E E];omega
theorem tX {n:Nat} {p:Nat->Bool}:fM n p=true↔∀i,i<n->p i=true:=⟨dh,gN⟩
theorem kW {n:Nat} {p:Nat->Bool} (i:Nat) (hi:i<n) (h:p i=false):fM n p=false:=by
 cases hb:fM n p with
 |false=>rfl|true=>rw[dh hb i hi]at h;cases h
def GH (p:Nat->Bool):Nat->Nat->Int
 |0,_=>-1|k+1,i=>bif p i then(i:Int) else GH p k (i+1)
def idx (n:Nat) (p:Nat->Bool):Int:=GH p n 0
theorem Az {p:Nat->Bool}:∀ (k i:Nat),(∀ j,i<=j->j<i+k->p j=false)->GH p k i=-1
 |0,_,_=>rfl|k+1,i,h=>by simp only[GH,h i (Em _) E,cond_false];exact Az k (i+1) λj M N=>h j E E
theorem hn' {p:Nat->Bool} {j:Nat} (hj:p j=true):∀ (k i:Nat),i<=j->j<i+k->(∀ l,i<=l->l<j->p l=false)->GH p k i=j
 |0,i,M,N,_=>by omega
 |k+1,i,M,N,h=>by
   by_cases e:i=j
   ·subst e;simp only[GH,hj,cond_true]
   ·simp only[GH,h i (Em _) E,cond_false];exact hn' hj k (i+1) E E λl h3 h4=>h l E h4
section
variable {n:Nat} {p:Nat->Bool}
include n p
theorem wR (h:∀j,j<n->p j=false):idx n p=-1:=Az n 0 λj _ N=>h j E
theorem xY {j:Nat} (hj:p j=true) (M:j<n) (h:∀l,l<j->p l=false):idx n p=j:=hn' hj n 0 E E λl _ h4=>h l h4
theorem dqt:(idx n p=-1/\∀ j,j<n->p j=false)∨∃ j,j<n/\idx n p=(j:Int)/\p j=true/\∀ l,l<j->p l=false:=by
 by_cases h:∀j,j<n->p j=false
 ·exact .inl ⟨wR h,h⟩
 ·right
  have:∃j,j<n/\p j=true:=by simp only[Classical.not_forall]at h;obtain⟨j,hj,hp⟩:=h;exact⟨j,hj,by simpa using hp⟩
  have key:∀ m,(∃ j,j<m/\j<n/\p j=true)->∃ j,j<n/\p j=true/\∀ l,l<j->p l=false:=by
   intro m;induction m with
   |zero=>rintro⟨j,hj,_⟩;omega
   |succ m ih=>
     rintro⟨j,hj,hn,hp⟩;by_cases hm:∃j,j<m/\j<n/\p j=true
     ·exact ih hm
     ·refine⟨j,hn,hp,λl hl=>?_⟩
      cases hb:p l with
      |false=>rfl|true=>exact(hm ⟨l,E,E,hb⟩).elim
  obtain⟨j,hj,hp⟩:=this;obtain⟨j,M,N,h3⟩:=key n ⟨j,hj,hj,hp⟩;exact⟨j,M,xY N M h3,N,h3⟩
end
def jl (n:Nat) (p:Nat->Bool):Bool:=!fM n λi=>!p i
theorem mb {n:Nat} {p:Nat->Bool}:decide (0<=idx n p)=jl n p:=by
 rcases dqt (n:=n) (p:=p) with ⟨M,N⟩|⟨j,M,N,h3,_⟩
 ·rw[M];unfold jl;rw[gN λi hi=>by rw[N i hi];rfl];rfl
 ·rw[N];unfold jl;rw[kW j M (by rw[h3];rfl)];simp
section
variable {QZ:Type} {step:QZ->RT QZ} {r:V}
theorem Ev.st {s:QZ} (h0:fS (step s)=true) (h:a6 (Ev step) (step s) r):Ev step s r:=Ev.of h0 h
end
section
variable {QZ:Type} {step:QZ->RT QZ}
theorem pj {RG : Int -> QZ} {n:Nat} {p:Nat->Bool} (hn:n<=9223372036854775807)
 (RX:∀i:Nat,step (RG i)=.br (decide ((i:Int)<(n:Int))) (.ob (decide (0<=(i:Int)/\(i:Int)<(n:Int))) (.obc (.obt (.br (p i) (.ret (.int .i64 i)) (.next [] (RG (I ((i:Int)+1))) []))))) (.ret (.int .i64 (-1)))) :
 Ev step (RG 0) (.int .i64 (idx n p)):=by
 have key:=gE (n:=n) (P:=λi=>(∀ j,j<i->p j=false)->Ev step (RG i) (.int .i64 (idx n p))) λi hi ih hj=>by
  refine Ev.of (by rw[RX];rfl) ?_;rw[RX];refine E2 (λh=>?_) (λh=>?_)
  ·have Qw:i<n:=by simpa using h
   refine aL (by simpa using Qw) (aC (ak (E2 (λhb=>aA ?_) (λhb=>bb ?_))))
   ·rw[xY hb Qw hj]
   ·rw [uY Qw hn]
    exact ih Qw λj M=>by
     by_cases e:j=i
     ·subst e;exact hb
     ·exact hj j E
  ·have : i = n := by have:¬ i<n:=by simpa using h
                      omega
   subst this;refine aA ?_;rw[wR hj]
 exact key 0 (GG _) λj hj=>by omega
end
theorem BE {n:Nat} (hn:n<=9223372036854775807) (p:Nat->Bool) {P:Int->Prop} (hstep:∀ i:Nat,i<n->(∀ j,j<i->p j=false)->(p i=false->P (I ((i:Int)+1)))->P i) (hend:(∀ j,j<n->p j=false)->P n):P 0:=by
 have key:=gE (n:=n) (P:=λi=>(∀ j,j<i->p j=false)->P i) λi hi ih hj=>by
  by_cases Qw:i<n
  ·refine hstep i Qw hj λhp=>?_
   rw[uY Qw hn];exact ih Qw λj M=>by
    by_cases e:j=i
    ·subst e;exact hp
    ·exact hj j E
  ·have:i=n:=by omega
   subst this;exact hend hj
 exact key 0 (GG _) λj hj=>by omega
theorem am3 {n:Nat} (hn:n<=9223372036854775807) {P:Int->Prop} (hstep:∀ i:Nat,i<n->P (I ((i:Int)+1))->P i) (hend:P n):P 0 :=
 BE hn (λ_=>false) (λi hi _ h=>hstep i hi (h rfl)) λ_=>hend
section
variable {QZ:Type} {Nx:QZ->V->Prop} {r:V} {x y:RT QZ} {i n:Nat}
theorem mC (h:i<n) (hx:a6 Nx x r):a6 Nx (.br (decide ((i:Int)<(n:Int))) x y) r:=⟨λ_=>hx,λk=>by have:=H3 k;omega⟩
theorem lr (hy:a6 Nx y r):a6 Nx (.br (decide ((n:Int)<(n:Int))) x y) r:=⟨(λk=>by have:=Fv k;omega),λ_=>hy⟩
theorem jw (h:i<n) (hx:a6 Nx x r):a6 Nx (.ob (decide (0<=(i:Int)/\(i:Int)<(n:Int))) x) r:=⟨LL E,hx⟩
theorem c9 {b:Bool} (h:b=true) (hx:a6 Nx x r):a6 Nx (.br b x y) r:=⟨λ_=>hx,λk=>by rw[h]at k;cases k⟩
theorem d5 {b:Bool} (h:b=false) (hy:a6 Nx y r):a6 Nx (.br b x y) r:=⟨(λk=>by rw[h]at k;cases k),λ_=>hy⟩
end
end Go.Dx
namespace Go.Dx
open Go.IntKind (i64 u64 u8)
section
variable {n:Nat} {p:Nat->Bool}
include n p
theorem eF (i:Nat) (hi:i<n) (h:p i=true):jl n p=true:=by unfold jl;rw[kW i hi (by rw[h];rfl)];rfl
theorem fI (h:∀i,i<n->p i=false):jl n p=false:=by unfold jl;rw[gN λi hi=>by rw[h i hi];rfl];rfl
theorem wi:jl n p=true↔∃ i,i<n/\p i=true:=by
 constructor
 ·intro h
  apply Classical.byContradiction;intro hn;rw[fI λi hi=>by
   cases hp:p i with
   |false=>rfl|true=>exact(hn ⟨i,hi,hp⟩).elim]at h
  cases h
 ·rintro⟨i,hi,h⟩;exact eF i hi h
end
end Go.Dx
namespace Go.Dx
open Go.IntKind (i64 u64 u8)
open Go.Sx
def gx (n:Nat) (c:Nat->Int):Int:=bif idx n (λi=>c i !=0)==-1 then 0 else idx n λi=>c i !=0
def dW (n:Nat) (c:Nat->Int):Int:=bif idx n (λi=>c i !=0)==-1 then 0 else c (idx n λi=>c i !=0).toNat
theorem iE {n:Nat} {c:Nat->Int} (h:∀j,j<n->(c j !=0)=false):gx n c=0/\dW n c=0:=by unfold gx dW;rw[wR h];exact⟨rfl,rfl⟩
theorem cZ {n:Nat} {c:Nat->Int} {i:Nat} (hi:i<n) (hc:(c i != 0)=true) (h:∀ j,j<i->(c j != 0)=false):gx n c=i/\dW n c=c i:=by
 unfold gx dW;rw[xY hc hi h];have:((i:Int)==-1)=false:=by rw[MN];omega
 rw[this];exact⟨rfl,rfl⟩
section
variable {QZ:Type} {step:QZ->RT QZ}
theorem rW {RG:Int->QZ} {n:Nat} {c:Nat->Int} {Qe:Nat->Prop} {ρ:oK} (R2:Nat->RT QZ->RT QZ) (hW:∀ i x r,Qe i->a6 (Ev step) x r->a6 (Ev step) (R2 i x) r) (hWn:∀ i x,fS (R2 i x)=fS x) (hn:n<=9223372036854775807) (hQ:∀ i,i<n->Qe i)
 (RX:∀i:Nat,step (RG i)=.br (decide ((i:Int)<(n:Int))) (.ob (decide (0<=(i:Int)/\(i:Int)<(n:Int))) (.ob (decide (0<=(i:Int)/\(i:Int)<=(n:Int))) (R2 i (.br (c i !=0) (.ret (.tup [.int .i64 i,.int .i64 (c i)])) (.next ρ (RG (I ((i:Int)+1))) []))))) (.ret (.tup [.int .i64 0,.int .i64 0]))) :
 Ev step (RG 0) (.tup [.int .i64 (gx n c),.int .i64 (dW n c)]) :=
 BE hn (λi=>c i != 0) (P:=λi=>Ev step (RG i) (.tup [.int .i64 (gx n c),.int .i64 (dW n c)])) (λi Qw hj next=>Ev.of (by rw[RX];simp only[fS,hWn,Bool.and_self]) (by
  rw[RX];refine mC Qw (jw Qw (aL (LL E) (hW i _ _ (hQ i Qw) (E2 (λhb=>aA ?_) (λhb=>bb (next hb))))));rw[(cZ Qw hb hj).1,(cZ Qw hb hj).2])) (λhj=>Ev.of (by rw[RX];simp only[fS,hWn,Bool.and_self]) (by
  rw[RX];refine lr (aA ?_);rw[(iE hj).1,(iE hj).2]))
end
def aI (n:Nat) (f:bk):Prop:=∀i,i<n->(sv (aM (f i))).size<=9223372036854775807
end Go.Dx
namespace Go.Dx
open Go.IntKind (i64 u64 u8)
open Go.Sx Go.Proofs
variable (H:Nat) (G:bk) (R:Int) (s0:ByteArray) (S:Int) (T:Nat) (Q:bk) (Z:Int) (s2:ByteArray) (x3:Int) (n4:Nat) (f4:bk) (O x5:Int) (s5:ByteArray) (n6:Nat) (f6:bk) (x6:Int) (s6:ByteArray) (n7:Nat) (f7:bk) (x7 x8 x9 Ql Qn:Int)
noncomputable section
def V1:bm:=(168,.con aol)::(169,.con aiQ)::(42,.con QR)::(124,.con Q4)::(123,.con Q1)::(153,.con alM)::Eo
theorem L9:aV Tryz.prog BN D7 V1:=.con alF (.con am1 (.con apA (.con apW (.con arL (.con amM (xm))))))
def amT:RT Empty:=.cb (.cb (.cb (.cb (.br (decide (js (bL O R) (bJ x5 S) (bL Z R) (bJ x3 S)<=0)) (.cb (.ret (V.bool (decide (js (bL O R) (bJ x5 S) (bL O R) (bJ x5 S)<=I (x6*x6)))))) (.br (decide (js (bL Z R) (bJ x3 S) (bL Z R) (bJ x3 S)<=js (bL O R) (bJ x5 S) (bL Z R) (bJ x3 S))) (.cb (.cb (.ret (V.bool (decide (js (bL O Z) (bJ x5 x3) (bL O Z) (bJ x5 x3)<=I (x6*x6))))))) (.cb (.cb (.cb (.cb (.ret (V.bool (ug (nu (max (eh (bL Z R) (bJ x3 S) (bL O R) (bJ x5 S)) (I (0-eh (bL Z R) (bJ x3 S) (bL O R) (bJ x5 S)))) (max (eh (bL Z R) (bJ x3 S) (bL O R) (bJ x5 S)) (I (0-eh (bL Z R) (bJ x3 S) (bL O R) (bJ x5 S))))) (ox (max (eh (bL Z R) (bJ x3 S) (bL O R) (bJ x5 S)) (I (0-eh (bL Z R) (bJ x3 S) (bL O R) (bJ x5 S)))) (max (eh (bL Z R) (bJ x3 S) (bL O R) (bJ x5 S)) (I (0-eh (bL Z R) (bJ x3 S) (bL O R) (bJ x5 S))))) (nu (I (x6*x6)) (js (bL Z R) (bJ x3 S) (bL Z R) (bJ x3 S))) (ox (I (x6*x6)) (js (bL Z R) (bJ x3 S) (bL Z R) (bJ x3 S)))))))))))))))
theorem aed:dZ d7 (ba JJ V1 u0 alX [V.agg [D R,D S,D Z,D x3],V.agg [D O,D x5],D x6]) (amT R S Z x3 O x5 x6):=cG
def kk:Bool:=bif decide (js (bL O R) (bJ x5 S) (bL Z R) (bJ x3 S)<=0) then decide (js (bL O R) (bJ x5 S) (bL O R) (bJ x5 S)<=I (x6*x6)) else bif decide (js (bL Z R) (bJ x3 S) (bL Z R) (bJ x3 S)<=js (bL O R) (bJ x5 S) (bL Z R) (bJ x3 S)) then decide (js (bL O Z) (bJ x5 x3) (bL O Z) (bJ x5 x3)<=I (x6*x6)) else ug (nu (max (eh (bL Z R) (bJ x3 S) (bL O R) (bJ x5 S)) (I (0-eh (bL Z R) (bJ x3 S) (bL O R) (bJ x5 S)))) (max (eh (bL Z R) (bJ x3 S) (bL O R) (bJ x5 S)) (I (0-eh (bL Z R) (bJ x3 S) (bL O R) (bJ x5 S))))) (ox (max (eh (bL Z R) (bJ x3 S) (bL O R) (bJ x5 S)) (I (0-eh (bL Z R) (bJ x3 S) (bL O R) (bJ x5 S)))) (max (eh (bL Z R) (bJ x3 S) (bL O R) (bJ x5 S)) (I (0-eh (bL Z R) (bJ x3 S) (bL O R) (bJ x5 S))))) (nu (I (x6*x6)) (js (bL Z R) (bJ x3 S) (bL Z R) (bJ x3 S))) (ox (I (x6*x6)) (js (bL Z R) (bJ x3 S) (bL Z R) (bJ x3 S)))
def Me:V:=.bool (kk R S Z x3 O x5 x6)
theorem anr:a6 dK (amT R S Z x3 O x5 x6) (Me R S Z x3 O x5 x6):=aC (ak (aC (ak (aC (ak (aC (ak (E2 (λh0=>aC (ak (aA (by unfold Me kk;try rw[h0];rfl)))) (λh0=>E2 (λM=>aC (ak (aC (ak (aA (by unfold Me kk;try rw[h0];try rw[M];rfl)))))) (λM=>aC (ak (aC (ak (aC (ak (aC (ak (aA (by unfold Me kk;try rw[h0];try rw[M];rfl)))))))))))))))))))
def amf:aD:=cK [.agg kp,.agg aK,tI] (λ_=>True) λ|[.agg [.int _ R,.int _ S,.int _ Z,.int _ x3],.agg [.int _ O,.int _ x5],.int _ x6]=>Me R S Z x3 O x5 x6|_=>.any
theorem aiP:c7 amf 154:=bo L9 λ_ hp=>er (aed ..) (anr _ _ _ _ _ _ _)
def aew:Bool:=bif decide (xx (dD R Z) (dE S x3) (dD O Z) (dE x5 x3)<=0) then decide (xx (dD R Z) (dE S x3) (dD R Z) (dE S x3)<=I (x6*x6)) else bif decide (xx (dD O Z) (dE x5 x3) (dD O Z) (dE x5 x3)<=xx (dD R Z) (dE S x3) (dD O Z) (dE x5 x3)) then decide (xx (dD R O) (dE S x5) (dD R O) (dE S x5)<=I (x6*x6)) else !ahV (asN (B3 (oN (dD O Z) (dE x5 x3) (dD R Z) (dE S x3))) (B3 (oN (dD O Z) (dE x5 x3) (dD R Z) (dE S x3)))) (fd1 (B3 (oN (dD O Z) (dE x5 x3) (dD R Z) (dE S x3))) (B3 (oN (dD O Z) (dE x5 x3) (dD R Z) (dE S x3)))) (asN (I (x6*x6)) (xx (dD O Z) (dE x5 x3) (dD O Z) (dE x5 x3))) (fd1 (I (x6*x6)) (xx (dD O Z) (dE x5 x3) (dD O Z) (dE x5 x3)))
def agB:Bool:=bif !oN (dD O Z) (dE x5 x3) (dD x6 Z) (dE x7 x3)==0 then bif bif bif decide (0<=tM (oN (dD O Z) (dE x5 x3) (dD R Z) (dE S x3))) then decide (0<=tM (oN (dD x6 O) (dE x7 x5) (dD R O) (dE S x5))) else false then decide (0<=tM (oN (dD Z x6) (dE x3 x7) (dD R x6) (dE S x7))) else false then true else bif bif decide (tM (oN (dD O Z) (dE x5 x3) (dD R Z) (dE S x3))<=0) then decide (tM (oN (dD x6 O) (dE x7 x5) (dD R O) (dE S x5))<=0) else false then decide (tM (oN (dD Z x6) (dE x3 x7) (dD R x6) (dE S x7))<=0) else false else false
def ant:RT Empty:=.cb (.ret (V.bool (bT R (-100000) 100000)))
theorem aec:dZ d7 (ba JJ V1 u0 aa9 [D R]) (ant R):=cG
def Ck:Bool:=bT R (-100000) 100000
def Od:V:=.bool (Ck R)
theorem ajh:a6 dK (ant R) (Od R):=aC (ak (aA (by unfold Od Ck;rfl)))
def alO:aD:=cK L (λ_=>True) λ|[.int _ R]=>Od R|_=>.any
theorem ajE:c7 alO 156:=bo L9 λ_ hp=>er (aec ..) (ajh _)
def Ff:bm:=(154,.con amf)::(156,.con alO)::V1
theorem MA:aV Tryz.prog BN D7 Ff:=.con aiP (.con ajE (L9))
def aom:RT Empty:=dm (S,T,Q,O,x6,n7,f7,x9) (.ret (V.bool (s0.toList==s5.toList)))
theorem ahH:dZ d7 (ba JJ Ff u0 alL [V.agg [V.str s0,D S,V.sl T (A aK Q),D O],V.pd [V.str s5,D x6,V.sl n7 (A aK f7),D x9]]) (aom s0 S T Q O s5 x6 n7 f7 x9):=cG
def Bm:Bool:=s0.toList==s5.toList
def OA:V:=dm (S,T,Q,O,x6,n7,f7,x9) (.bool (Bm s0 s5))
theorem ajK:a6 dK (aom s0 S T Q O s5 x6 n7 f7 x9) (OA s0 S T Q O s5 x6 n7 f7 x9):=aA (by unfold OA Bm;rfl)
def alR:aD:=cK [.agg aN,.pd aN] (λ_=>True) λ|[.agg [.str s0,.int _ S,.sl T Q,.int _ O],.pd [.str s5,.int _ x6,.sl n7 f7,.int _ x9]]=>OA s0 S T Q O s5 x6 n7 f7 x9|_=>.any
theorem ami:c7 alR 129:=bo MA λ_ hp=>er (ahH ..) (ajK _ _ _ _ _ _ _ _ _ _)
def akW:RT Empty:=.cb (.ii (.obi (.br (!bT S 1 1000) (.ob (!bT S 1 1000) (.ob (!bT S 1 1000) (.cb (.obi (.br (!bT R 0 (I (S-1))) (.ob (!bT R 0 (I (S-1))) (.cb (.ii (.obi (.br (!bT x3 1 1000) (.ob (!bT x3 1 1000) (.ob (!bT x3 1 1000) (.cb (.ret (V.bool (bT Z 0 (I (x3-1)))))))) (.ret (V.kb true))))))) (.ret (V.kb true))))))) (.ret (V.kb true)))))
theorem afI:dZ d7 (ba JJ Ff u0 amc [V.agg [D R,D S,D Z,D x3]]) (akW R S Z x3):=cG
def mF:Bool:=bif !bT S 1 1000 then bif !bT R 0 (I (S-1)) then bif !bT x3 1 1000 then bT Z 0 (I (x3-1)) else true else true else true
def Lv:V:=.bool (mF R S Z x3)
theorem amH:a6 dK (akW R S Z x3) (Lv R S Z x3):=aC (ak (BK (BK (BK (E2 (λh0=>aL (by first|assumption|(fail)) (aL (by first|assumption|(fail)) (aC (ak (BK (E2 (λM=>aL (by first|assumption|(fail)) (aC (ak (BK (BK (BK (E2 (λN=>aL (by first|assumption|(fail)) (aL (by first|assumption|(fail)) (aC (ak (aA (by unfold Lv mF;try rw[h0];try rw[M];try rw[N];rfl)))))) (λN=>aA (by unfold Lv mF;try rw[h0];try rw[M];try rw[N];rfl))))))))) (λM=>aA (by unfold Lv mF;try rw[h0];try rw[M];rfl)))))))) (λh0=>aA (by unfold Lv mF;try rw[h0];rfl)))))))
def ame:aD:=cK [.agg kp] (λ_=>True) λ|[.agg [.int _ R,.int _ S,.int _ Z,.int _ x3]]=>Lv R S Z x3|_=>.any
theorem alw:c7 ame 137:=bo MA λ_ hp=>er (afI ..) (amH _ _ _ _)
def ai0:RT Empty:=dm (S,Z,x3,O,x5,x7,x8,x9,Ql,Qn) (.ret (V.bool (s0.toList==s6.toList)))
theorem afa:dZ d7 (ba JJ Ff u0 ak6 [V.agg [V.str s0,D S,D Z,D x3,D O,D x5],V.pd [V.str s6,D x7,D x8,D x9,D Ql,D Qn]]) (ai0 s0 S Z x3 O x5 s6 x7 x8 x9 Ql Qn):=cG
def CB:Bool:=s0.toList==s6.toList
def OP:V:=dm (S,Z,x3,O,x5,x7,x8,x9,Ql,Qn) (.bool (CB s0 s6))
theorem amR:a6 dK (ai0 s0 S Z x3 O x5 s6 x7 x8 x9 Ql Qn) (OP s0 S Z x3 O x5 s6 x7 x8 x9 Ql Qn):=aA (by unfold OP CB;rfl)
def akq:aD:=cK [.agg aG,.pd aG] (λ_=>True) λ|[.agg [.str s0,.int _ S,.int _ Z,.int _ x3,.int _ O,.int _ x5],.pd [.str s6,.int _ x7,.int _ x8,.int _ x9,.int _ Ql,.int _ Qn]]=>OP s0 S Z x3 O x5 s6 x7 x8 x9 Ql Qn|_=>.any
theorem anJ:c7 akq 139:=bo MA λ_ hp=>er (afa ..) (amR _ _ _ _ _ _ _ _ _ _ _ _)
def Lh:Bool:=fM H λi=>gR (aE (G i)) (-100000) 100000
inductive EI where|L0 (_:Int)
def ahU:EI->bZ×List A7×Option Ex
 |.L0 Qg=>([(8,D Qg),(7,D (H:Int)),(6,V.sl H (A L G)),(4,D 0),(0,V.sl H (A L G)),(1,V.fn 156 [] [])],[],none)
def ajd:EI->JJ
 |.L0 _=>(0,[])
def aaQ:BO (cX JJ):=ba JJ Ff u0 H8 [V.sl H (A L G),V.fn 156 [] []]
def abv (cx:List Cx):Lp JJ:=iZ (ik (aaQ H G) [])
def anQ:JJ->Lp JJ
 |(0,cx)=>abv H G cx|(_,cx)=>abv H G cx
def apT:LD JJ EI:=⟨ajd,anQ H G,ahU H G⟩
def PE:EI->RT EI
 |.L0 Qg=>.br (decide (Qg<(H:Int))) (.ob (decide (0<=Qg/\Qg<(H:Int))) (.cb (.br (Ck (aE (G Qg.toNat))) (.ret (D Qg)) (.next [] (EI.L0 (I (Qg+1))) [])))) (.ret (D (-1)))
def OB:RT EI:=dm G (.am H (.enter [] (EI.L0 0) []))
theorem ad4:ig Ff u0 (apT H G) (aaQ H G) (OB H G) (PE H G):=⟨cG,λs=>by cases s<;>exact cG⟩
def KC:Int  :=idx H λii=>Ck (aE (G ii))
theorem nu2:a6 (Ev (PE H G)) (OB H G) (D (KC H G)):=cg λhn=>aS (pj hn λi=>rfl)
theorem an3:a6 (Ev (PE H G)) (OB H G) (D (KC H (A L G))):=nu2 H G
def anE:aD:=cK [.sl L,.fn 156 [] []] (λ_=>True) λ|[.sl H G,.fn _ [] []]=>D (KC H G)|_=>.any
theorem ako:c7 anE 99:=bo MA λ_ hp=>qV (ad4 ..) (an3 _ _)
def AQ:bm:=(129,.con alR)::(137,.con ame)::(139,.con akq)::(99,.con anE)::Ff
theorem Ei:aV Tryz.prog BN D7 AQ:=.con ami (.con alw (.con anJ (.con ako (MA))))
def m99:RT Empty:=.cb (.ret (V.bool (decide (0<=KC H (A L G)))))
theorem ajw:dZ d7 (ba JJ AQ u0 Yr [V.sl H (A L G),V.fn 156 [] []]) (m99 H G):=cG
def Dt:Bool:=decide (0<=KC H (A L G))
def NW:V:=.bool (Dt H G)
theorem arm:a6 dK (m99 H G) (NW H G):=aC (ak (aA (by unfold NW Dt;rfl)))
def QW:aD:=cK [.sl L,.fn 156 [] []] (λ_=>True) λ|[.sl H G,.fn _ [] []]=>NW H G|_=>.any
theorem aq0:c7 QW 67:=bo Ei λ_ hp=>er (ajw ..) (arm _ _)
inductive EC where|L0 (_:Int)
def ahr:EC->bZ×List A7×Option Ex
 |.L0 Qg=>([(8,D Qg),(7,D (H:Int)),(6,V.sl H (A aN G)),(4,D 0),(0,V.sl H (A aN G)),(1,V.fn 129 [] [V.pd [V.str s2,D x3,V.sl n4 (A aK f4),D x6]])],[],none)
def akN:EC->JJ
 |.L0 _=>(0,[])
def aaF:BO (cX JJ):=ba JJ AQ u0 am6 [V.sl H (A aN G),V.fn 129 [] [V.pd [V.str s2,D x3,V.sl n4 (A aK f4),D x6]]]
def agd (cx:List Cx):Lp JJ:=iZ (ik (aaF H G s2 x3 n4 f4 x6) [])
def aiV:JJ->Lp JJ
 |(0,cx)=>agd H G s2 x3 n4 f4 x6 cx|(_,cx)=>agd H G s2 x3 n4 f4 x6 cx
def arM:LD JJ EC:=⟨akN,aiV H G s2 x3 n4 f4 x6,ahr H G s2 x3 n4 f4 x6⟩
def Nh (H:Nat) (G:bk) (s2:ByteArray) (x3:Int) (n4:Nat) (f4:bk) (x6:Int):EC->RT EC
 |.L0 Qg=>.br (decide (Qg<(H:Int))) (.ob (decide (0<=Qg/\Qg<(H:Int))) (.cb (.br (Bm (sv (aM (G Qg.toNat))) s2) (.ret (D Qg)) (.next [] (EC.L0 (I (Qg+1))) [])))) (.ret (D (-1)))
def O0:RT EC:=dm (G,s2,x3,n4,f4,x6) (.am H (.enter [] (EC.L0 0) []))
theorem ad6:ig AQ u0 (arM H G s2 x3 n4 f4 x6) (aaF H G s2 x3 n4 f4 x6) (O0 H G s2 x3 n4 f4 x6) (Nh H G s2 x3 n4 f4 x6):=⟨cG,λs=>by cases s<;>exact cG⟩
def Ld:Int  :=idx H λii=>Bm (sv (aM (G ii))) s2
theorem np3:a6 (Ev (Nh H G s2 x3 n4 f4 x6)) (O0 H G s2 x3 n4 f4 x6) (D (Ld H G s2)):=cg λhn=>aS (pj hn λi=>rfl)
theorem alh:a6 (Ev (Nh H G s2 x3 n4 f4 x6)) (O0 H G s2 x3 n4 f4 x6) (D (Ld H (A aN G) s2)):=np3 H G s2 x3 n4 f4 x6
def amm:aD:=cK [.sl aN,.fn 129 [] [.pd aN]] (λ_=>True) λ|[.sl H G,.fn _ [] [.pd [.str s2,.int _ x3,.sl n4 f4,.int _ x6]]]=>D (Ld H G s2)|_=>.any
theorem ai3:c7 amm 158:=bo Ei λ_ hp=>qV (ad6 ..) (alh _ _ _ _ _ _ _)
inductive ED where|L0 (_:Int)
def afK:ED->bZ×List A7×Option Ex
 |.L0 Qg=>([(8,D Qg),(7,D (H:Int)),(6,V.sl H (A kp G)),(4,D 0),(0,V.sl H (A kp G)),(1,V.fn 137 [] [])],[],none)
def akQ:ED->JJ
 |.L0 _=>(0,[])
def aaH:BO (cX JJ):=ba JJ AQ u0 ajR [V.sl H (A kp G),V.fn 137 [] []]
def adF (cx:List Cx):Lp JJ:=iZ (ik (aaH H G) [])
def ajS:JJ->Lp JJ
 |(0,cx)=>adF H G cx|(_,cx)=>adF H G cx
def ap4:LD JJ ED:=⟨akQ,ajS H G,afK H G⟩
def Rr:ED->RT ED
 |.L0 Qg=>.br (decide (Qg<(H:Int))) (.ob (decide (0<=Qg/\Qg<(H:Int))) (.cb (.br (mF (aE (G Qg.toNat)) (bM (G Qg.toNat)) (d9 (G Qg.toNat)) (cH (G Qg.toNat))) (.ret (D Qg)) (.next [] (ED.L0 (I (Qg+1))) [])))) (.ret (D (-1)))
def Oc:RT ED:=dm G (.am H (.enter [] (ED.L0 0) []))
theorem acy:ig AQ u0 (ap4 H G) (aaH H G) (Oc H G) (Rr H G):=⟨cG,λs=>by cases s<;>exact cG⟩
def Ls:Int  :=idx H λii=>mF (aE (G ii)) (bM (G ii)) (d9 (G ii)) (cH (G ii))
theorem ie0:a6 (Ev (Rr H G)) (Oc H G) (D (Ls H G)):=cg λhn=>aS (pj hn λi=>rfl)
theorem anZ:a6 (Ev (Rr H G)) (Oc H G) (D (Ls H (A kp G))):=ie0 H G
def ajt:aD:=cK [.sl kp,.fn 137 [] []] (λ_=>True) λ|[.sl H G,.fn _ [] []]=>D (Ls H G)|_=>.any
theorem amj:c7 ajt 160:=bo Ei λ_ hp=>qV (acy ..) (anZ _ _)
inductive Da where|L0 (_:Int)
def adh:Da->bZ×List A7×Option Ex
 |.L0 Qg=>([(8,D Qg),(7,D (H:Int)),(6,V.sl H (A aG G)),(4,D 0),(0,V.sl H (A aG G)),(1,V.fn 139 [] [V.pd [V.str s2,D x3,D O,D x5,D x6,D x7]])],[],none)
def al9:Da->JJ
 |.L0 _=>(0,[])
def ace:BO (cX JJ):=ba JJ AQ u0 ajU [V.sl H (A aG G),V.fn 139 [] [V.pd [V.str s2,D x3,D O,D x5,D x6,D x7]]]
def Ent (cx:List Cx):Lp JJ:=iZ (ik (ace H G s2 x3 O x5 x6 x7) [])
def als:JJ->Lp JJ
 |(0,cx)=>Ent H G s2 x3 O x5 x6 x7 cx|(_,cx)=>Ent H G s2 x3 O x5 x6 x7 cx
def ar0:LD JJ Da:=⟨al9,als H G s2 x3 O x5 x6 x7,adh H G s2 x3 O x5 x6 x7⟩
def Ow (H:Nat) (G:bk) (s2:ByteArray) (x3 O x5 x6 x7:Int):Da->RT Da
 |.L0 Qg=>.br (decide (Qg<(H:Int))) (.ob (decide (0<=Qg/\Qg<(H:Int))) (.cb (.br (CB (sv (aM (G Qg.toNat))) s2) (.ret (D Qg)) (.next [] (Da.L0 (I (Qg+1))) [])))) (.ret (D (-1)))
def ON:RT Da:=dm (G,s2,x3,O,x5,x6,x7) (.am H (.enter [] (Da.L0 0) []))
theorem aeB:ig AQ u0 (ar0 H G s2 x3 O x5 x6 x7) (ace H G s2 x3 O x5 x6 x7) (ON H G s2 x3 O x5 x6 x7) (Ow H G s2 x3 O x5 x6 x7):=⟨cG,λs=>by cases s<;>exact cG⟩
def KO:Int  :=idx H λii=>CB (sv (aM (G ii))) s2
theorem sdX:a6 (Ev (Ow H G s2 x3 O x5 x6 x7)) (ON H G s2 x3 O x5 x6 x7) (D (KO H G s2)):=cg λhn=>aS (pj hn λi=>rfl)
theorem aiX:a6 (Ev (Ow H G s2 x3 O x5 x6 x7)) (ON H G s2 x3 O x5 x6 x7) (D (KO H (A aG G) s2)):=sdX H G s2 x3 O x5 x6 x7
def anH:aD:=cK [.sl aG,.fn 139 [] [.pd aG]] (λ_=>True) λ|[.sl H G,.fn _ [] [.pd [.str s2,.int _ x3,.int _ O,.int _ x5,.int _ x6,.int _ x7]]]=>D (KO H G s2)|_=>.any
theorem ajX:c7 anH 161:=bo Ei λ_ hp=>qV (aeB ..) (aiX _ _ _ _ _ _ _ _)
def KR:bm:=(67,.con QW)::(158,.con amm)::(160,.con ajt)::(161,.con anH)::AQ
theorem D2:aV Tryz.prog BN D7 KR:=.con aq0 (.con ai3 (.con amj (.con ajX (Ei))))
def m45:RT Empty:=.cb (.ret (V.bool (Dt H (A L G))))
theorem aks:dZ d7 (ba JJ KR u0 amy [V.sl H (A L G)]) (m45 H G):=cG
def kn:Bool:=Dt H (A L G)
def NB:V:=.bool (kn H G)
theorem apg:a6 dK (m45 H G) (NB H G):=aC (ak (aA (by unfold NB kn;rfl)))
def Py:aD:=cK [.sl L] (λ_=>True) λ|[.sl H G]=>NB H G|_=>.any
theorem aoZ:c7 Py 131:=bo D2 λ_ hp=>er (aks ..) (apg _ _)
def m90:RT Empty:=dm (x3,n4,f4,x6) (.cb (.ret (V.bool (decide (0<=Ld H (A aN G) s2)))))
theorem amb:dZ d7 (ba JJ KR u0 ap2 [V.sl H (A aN G),V.fn 129 [] [V.pd [V.str s2,D x3,V.sl n4 (A aK f4),D x6]]]) (m90 H G s2 x3 n4 f4 x6):=cG
def uM:Bool:=decide (0<=Ld H (A aN G) s2)
def NU:V:=dm (x3,n4,f4,x6) (.bool (uM H G s2))
theorem aqz:a6 dK (m90 H G s2 x3 n4 f4 x6) (NU H G s2 x3 n4 f4 x6):=aC (ak (aA (by unfold NU uM;rfl)))
def QV:aD:=cK [.sl aN,.fn 129 [] [.pd aN]] (λ_=>True) λ|[.sl H G,.fn _ [] [.pd [.str s2,.int _ x3,.sl n4 f4,.int _ x6]]]=>NU H G s2 x3 n4 f4 x6|_=>.any
theorem aqO:c7 QV 133:=bo D2 λ_ hp=>er (amb ..) (aqz _ _ _ _ _ _ _)
def amV:RT Empty:=.cb (.ret (V.bool (decide (0<=Ls H (A kp G)))))
theorem af4:dZ d7 (ba JJ KR u0 aon [V.sl H (A kp G),V.fn 137 [] []]) (amV H G):=cG
def tC:Bool:=decide (0<=Ls H (A kp G))
def OH:V:=.bool (tC H G)
theorem amN:a6 dK (amV H G) (OH H G):=aC (ak (aA (by unfold OH tC;rfl)))
def anw:aD:=cK [.sl kp,.fn 137 [] []] (λ_=>True) λ|[.sl H G,.fn _ [] []]=>OH H G|_=>.any
theorem anU:c7 anw 138:=bo D2 λ_ hp=>er (af4 ..) (amN _ _)
def aou:RT Empty:=dm (x3,O,x5,x6,x7) (.cb (.ret (V.bool (decide (0<=KO H (A aG G) s2)))))
theorem aeR:dZ d7 (ba JJ KR u0 akk [V.sl H (A aG G),V.fn 139 [] [V.pd [V.str s2,D x3,D O,D x5,D x6,D x7]]]) (aou H G s2 x3 O x5 x6 x7):=cG
def tE:Bool:=decide (0<=KO H (A aG G) s2)
def OM:V:=dm (x3,O,x5,x6,x7) (.bool (tE H G s2))
theorem amo:a6 dK (aou H G s2 x3 O x5 x6 x7) (OM H G s2 x3 O x5 x6 x7):=aC (ak (aA (by unfold OM tE;rfl)))
def ajO:aD:=cK [.sl aG,.fn 139 [] [.pd aG]] (λ_=>True) λ|[.sl H G,.fn _ [] [.pd [.str s2,.int _ x3,.int _ O,.int _ x5,.int _ x6,.int _ x7]]]=>OM H G s2 x3 O x5 x6 x7|_=>.any
theorem akr:c7 ajO 140:=bo D2 λ_ hp=>er (aeR ..) (amo _ _ _ _ _ _ _ _)
def Kx:bm:=(131,.con Py)::(133,.con QV)::(138,.con anw)::(140,.con ajO)::KR
theorem CS:aV Tryz.prog BN D7 Kx:=.con aoZ (.con aqO (.con anU (.con akr (D2))))
def ajN:RT Empty:=.obt (.obt (.cb (.ret (V.bool (kn 2 (A L (cq [D R,D S] 0 1)))))))
theorem ahp:dZ d7 (ba JJ Kx u0 amS [V.agg [D R,D S]]) (ajN R S):=cG
def tS:Bool:=kn 2 (A L (cq [D R,D S] 0 1))
def O6:V:=.bool (tS R S)
theorem akY:a6 dK (ajN R S) (O6 R S):=ak (ak (aC (ak (aA (by unfold O6 tS;rfl)))))
def aor:aD:=cK [.agg aK] (λ_=>True) λ|[.agg [.int _ R,.int _ S]]=>O6 R S|_=>.any
theorem aky:c7 aor 130:=bo CS λ_ hp=>er (ahp ..) (akY _ _)
def m65:RT Empty:=dm (H,G) (.cb (.obi (.br (!kn 2 (A L (cq [D Z,D x3] 0 1))) (.ob (!kn 2 (A L (cq [D Z,D x3] 0 1))) (.cb (.ii (.obi (.br (!bT O 1 20000) (.ob (!bT O 1 20000) (.ob (!bT O 1 20000) (.cb (.obi (.br (!bT x5 0 (I (x6-1))) (.ob (!bT x5 0 (I (x6-1))) (.cb (.br (bT x6 1 1000) (.ret (D 7)) (.ret (D 0))))) (.ret (D 7))))))) (.ret (D 7))))))) (.ret (D 7)))))
theorem ajz:dZ d7 (ba JJ Kx u0 ao6 [V.sl H (A aX G),V.agg [D Z,D x3,D O,D x5,D x6]]) (m65 H G Z x3 O x5 x6):=cG
def pk:Int:=bif !kn 2 (A L (cq [D Z,D x3] 0 1)) then bif !bT O 1 20000 then bif !bT x5 0 (I (x6-1)) then bif bT x6 1 1000 then 7 else 0 else 7 else 7 else 7
def J5:V:=dm (H,G) (D (pk Z x3 O x5 x6))
theorem apt:a6 dK (m65 H G Z x3 O x5 x6) (J5 H G Z x3 O x5 x6):=aC (ak (BK (E2 (λh0=>aL (by first|assumption|(fail)) (aC (ak (BK (BK (BK (E2 (λM=>aL (by first|assumption|(fail)) (aL (by first|assumption|(fail)) (aC (ak (BK (E2 (λN=>aL (by first|assumption|(fail)) (aC (ak (E2 (λh3=>aA (by unfold J5 pk;try rw[h0];try rw[M];try rw[N];try rw[h3];rfl)) (λh3=>aA (by unfold J5 pk;try rw[h0];try rw[M];try rw[N];try rw[h3];rfl)))))) (λN=>aA (by unfold J5 pk;try rw[h0];try rw[M];try rw[N];rfl)))))))) (λM=>aA (by unfold J5 pk;try rw[h0];try rw[M];rfl))))))))) (λh0=>aA (by unfold J5 pk;try rw[h0];rfl)))))
def QJ:aD:=cK [.sl aX,.agg aX] (λ_=>True) λ|[.sl H G,.agg [.int _ Z,.int _ x3,.int _ O,.int _ x5,.int _ x6]]=>J5 H G Z x3 O x5 x6|_=>.any
theorem ap7:c7 QJ 104:=bo CS λ_ hp=>er (ajz ..) (apt _ _ _ _ _ _ _)
def m67:RT Empty:=dm (H,G) (.obt (.obt (.obt (.obt (.cb (.br (kn 4 (A L (cq [D Z,D x3,D O,D x5] 0 1))) (.ret (D 7)) (.br (Z==O&&(x3==x5&&true)) (.ret (D 2)) (.am n6 (.br (decide (6<(n6:Int))) (.ret (D 3)) (.cb (.br (tC n6 (A kp f6)) (.ret (D 7)) (.ret (D 0)))))))))))))
theorem anS:dZ d7 (ba JJ Kx u0 arZ [V.sl H (A aY G),V.agg [D Z,D x3,D O,D x5,V.sl n6 (A kp f6)]]) (m67 H G Z x3 O x5 n6 f6):=cG
def pp:Int:=bif kn 4 (A L (cq [D Z,D x3,D O,D x5] 0 1)) then 7 else bif Z==O&&(x3==x5&&true) then 2 else bif decide (6<(n6:Int)) then 3 else bif tC n6 (A kp f6) then 7 else 0
def J6:V:=dm (H,G) (D (pp Z x3 O x5 n6 f6))
theorem ao1:a6 dK (m67 H G Z x3 O x5 n6 f6) (J6 H G Z x3 O x5 n6 f6):=ak (ak (ak (ak (aC (ak (E2 (λh0=>aA (by unfold J6 pp;try rw[h0];rfl)) (λh0=>E2 (λM=>aA (by unfold J6 pp;try rw[h0];try rw[M];rfl)) (λM=>FW (λa2=>E2 (λN=>aA (by unfold J6 pp;try rw[h0];try rw[M];try rw[N];rfl)) (λN=>aC (ak (E2 (λh3=>aA (by unfold J6 pp;try rw[h0];try rw[M];try rw[N];try rw[h3];rfl)) (λh3=>aA (by unfold J6 pp;try rw[h0];try rw[M];try rw[N];try rw[h3];rfl))))))))))))))
def QM:aD:=cK [.sl aY,.agg aY] (λ_=>True) λ|[.sl H G,.agg [.int _ Z,.int _ x3,.int _ O,.int _ x5,.sl n6 f6]]=>J6 H G Z x3 O x5 n6 f6|_=>.any
theorem aro:c7 QM 106:=bo CS λ_ hp=>er (anS ..) (ao1 _ _ _ _ _ _ _ _)
def m53:RT Empty:=.cb (.iv (.iv (.ii (.ret (V.bool (bif bif kn 4 (A L (cq [D R,D S,D Z,D x3] 0 1)) then true else decide (Z<R) then true else decide (x3<S)))))))
theorem ai7:dZ d7 (ba JJ Kx u0 amY [V.agg [D R,D S,D Z,D x3]]) (m53 R S Z x3):=cG
def ve:Bool:=bif bif kn 4 (A L (cq [D R,D S,D Z,D x3] 0 1)) then true else decide (Z<R) then true else decide (x3<S)
def ND:V:=.bool (ve R S Z x3)
theorem aqw:a6 dK (m53 R S Z x3) (ND R S Z x3):=aC (ak (BK (BK (BK (BK (BK (BK (BK (BK (BK (BK (aA (by unfold ND ve;rfl)))))))))))))
def Q3:aD:=cK [.agg kp] (λ_=>True) λ|[.agg [.int _ R,.int _ S,.int _ Z,.int _ x3]]=>ND R S Z x3|_=>.any
theorem apE:c7 Q3 122:=bo CS λ_ hp=>er (ai7 ..) (aqw _ _ _ _)
def tg:Bool:=bif bif Lh 4 (A L (cq [D R,D S,D Z,D x3] 0 1)) then decide (R<=Z) else false then decide (S<=x3) else false
def T6 (i:Nat):Bool:=bif !bif decide (97<=((s0.data.toList.getD i 0).toNat:Int)) then decide (((s0.data.toList.getD i 0).toNat:Int)<=122) else false then bif(i:Int)==0 then true else bif !bif decide (48<=((s0.data.toList.getD i 0).toNat:Int)) then decide (((s0.data.toList.getD i 0).toNat:Int)<=57) else false then((s0.data.toList.getD i 0).toNat:Int)!=45 else false else false
def S0:Bool:=fM s0.size (λi=>!T6 s0 i)&&bif decide (0<(s0.size:Int)) then decide ((s0.size:Int)<=24) else false
def ajP (l:List V):Bool:=bif bif bif bif bif decide (aE l<0) then true else decide (bM l<=aE l) then true else decide (1000<bM l) then true else decide (d9 l<0) then true else decide (cH l<=d9 l) then true else decide (1000<cH l)
def F72 (R S Z x3:Int) (n4:Nat) (f4:bk):Int:=bif !Lh 4 (A L (cq [D R,D S,D Z,D x3] 0 ((1+1+1+1-0) / 4))) then 7 else bif R==Z&&(S==x3&&true) then 2 else bif decide (6<(n4:Int)) then 3 else bif jl n4 (λi=>ajP (f4 i)) then 7 else 0
def Ew:bm:=(130,.con aor)::(104,.con QJ)::(106,.con QM)::(122,.con Q3)::Kx
theorem JW:aV Tryz.prog BN D7 Ew:=.con aky (.con ap7 (.con aro (.con apE (CS))))
inductive Dd where|L0 (_:Int)
def aiv:Dd->bZ×List A7×Option Ex
 |.L0 Qg=>([(8,D Qg),(7,D (H:Int)),(6,V.sl H (A aK G)),(4,D 0),(0,V.sl H (A aK G)),(1,V.fn 130 [] [])],[],none)
def aj0:Dd->JJ
 |.L0 _=>(0,[])
def aa7:BO (cX JJ):=ba JJ Ew u0 aj6 [V.sl H (A aK G),V.fn 130 [] []]
def aeo (cx:List Cx):Lp JJ:=iZ (ik (aa7 H G) [])
def amU:JJ->Lp JJ
 |(0,cx)=>aeo H G cx|(_,cx)=>aeo H G cx
def aqi:LD JJ Dd:=⟨aj0,amU H G,aiv H G⟩
def Pk:Dd->RT Dd
 |.L0 Qg=>.br (decide (Qg<(H:Int))) (.ob (decide (0<=Qg/\Qg<(H:Int))) (.cb (.br (tS (aE (G Qg.toNat)) (bM (G Qg.toNat))) (.ret (D Qg)) (.next [] (Dd.L0 (I (Qg+1))) [])))) (.ret (D (-1)))
def OO:RT Dd:=dm G (.am H (.enter [] (Dd.L0 0) []))
theorem adO:ig Ew u0 (aqi H G) (aa7 H G) (OO H G) (Pk H G):=⟨cG,λs=>by cases s<;>exact cG⟩
def Kl:Int  :=idx H λii=>tS (aE (G ii)) (bM (G ii))
theorem no4:a6 (Ev (Pk H G)) (OO H G) (D (Kl H G)):=cg λhn=>aS (pj hn λi=>rfl)
theorem akf:a6 (Ev (Pk H G)) (OO H G) (D (Kl H (A aK G))):=no4 H G
def anx:aD:=cK [.sl aK,.fn 130 [] []] (λ_=>True) λ|[.sl H G,.fn _ [] []]=>D (Kl H G)|_=>.any
theorem anB:c7 anx 159:=bo JW λ_ hp=>qV (adO ..) (akf _ _)
inductive Zg where|L0 (_:Int)
def alc:Zg->bZ×List A7×Option Ex
 |.L0 Qg=>([(11,D Qg),(10,D (H:Int)),(9,V.sl H (A aX G)),(5,D 0),(4,D 0),(0,V.sl H (A aX G)),(1,V.fn 104 [] [])],[],none)
def ap6:Zg->JJ
 |.L0 _=>(0,[])
def alZ:BO (cX JJ):=ba JJ Ew u0 apb [V.sl H (A aX G),V.fn 104 [] []]
def yaX (cx:List Cx):Lp JJ:=iZ (ik (alZ H G) [])
def apH:JJ->Lp JJ
 |(0,cx)=>yaX H G cx|(_,cx)=>yaX H G cx
def D64:LD JJ Zg:=⟨ap6,apH H G,alc H G⟩
abbrev G7:=[D 0,D 0]
def O4:Zg->RT Zg
 |.L0 Qg=>.br (decide (Qg<(H:Int))) (.ob (decide (0<=Qg/\Qg<(H:Int))) (.ob (decide (0<=Qg/\Qg<=(H:Int))) (.cb (.br (pk (aE (G Qg.toNat)) (bM (G Qg.toNat)) (d9 (G Qg.toNat)) (cH (G Qg.toNat)) (eV (G Qg.toNat))!=0) (.ret (V.tup [D Qg,D (pk (aE (G Qg.toNat)) (bM (G Qg.toNat)) (d9 (G Qg.toNat)) (cH (G Qg.toNat)) (eV (G Qg.toNat)))])) (.next [] (Zg.L0 (I (Qg+1))) []))))) (.ret (V.tup G7))
def PD:RT Zg:=dm G (.am H (.enter [] (Zg.L0 0) []))
theorem akh:ig Ew u0 (D64 H G) (alZ H G) (PD H G) (O4 H G):=⟨cG,λs=>by cases s<;>exact cG⟩
def Oo (ii:Nat):Int:=dm H ((pk (aE (G ii)) (bM (G ii)) (d9 (G ii)) (cH (G ii)) (eV (G ii))))
def zj:Int:=gx H (Oo H G)
def qH:Int:=dW H (Oo H G)
theorem acV:a6 (Ev (O4 H G)) (PD H G) (.tup [D (zj H G),D (qH H G)]):=cg λhn=>aS (rW (Qe:=λ_=>True) (λ_ x=>.obc (.obt x)) (λi x r h hx=>aC (ak hx)) (λ_ _=>rfl) hn (λ_ _=>trivial) λi=>rfl)
theorem aq6:a6 (Ev (O4 H G)) (PD H G) (.tup [D (zj H (A aX G)),D (qH H (A aX G))]):=acV H G
def QF:aD:=cK [.sl aX,.fn 104 [] []] (λ_=>True) λ|[.sl H G,.fn _ [] []]=>.tup [D (zj H G),D (qH H G)]|_=>.any
theorem apm:c7 QF 103:=bo JW λ_ hp=>qV (akh ..) (aq6 _ _)
inductive Y3 where|L0 (_:Int)
def ald:Y3->bZ×List A7×Option Ex
 |.L0 Qg=>([(11,D Qg),(10,D (H:Int)),(9,V.sl H (A aY G)),(5,D 0),(4,D 0),(0,V.sl H (A aY G)),(1,V.fn 106 [] [])],[],none)
def aqx:Y3->JJ
 |.L0 _=>(0,[])
def amq:BO (cX JJ):=ba JJ Ew u0 aph [V.sl H (A aY G),V.fn 106 [] []]
def aqb (cx:List Cx):Lp JJ:=iZ (ik (amq H G) [])
def aq8:JJ->Lp JJ
 |(0,cx)=>aqb H G cx|(_,cx)=>aqb H G cx
def D66:LD JJ Y3:=⟨aqx,aq8 H G,ald H G⟩
def OK:Y3->RT Y3
 |.L0 Qg=>.br (decide (Qg<(H:Int))) (.ob (decide (0<=Qg/\Qg<(H:Int))) (.ob (decide (0<=Qg/\Qg<=(H:Int))) (.cb (.br ((pp (aE (G Qg.toNat)) (bM (G Qg.toNat)) (d9 (G Qg.toNat)) (cH (G Qg.toNat)) (aU (aM (ap (ap (ap (ap (G Qg.toNat))))))) λi=>au kp (du (aM (ap (ap (ap (ap (G Qg.toNat)))))) i))!=0) (.ret (V.tup [D Qg,D (pp (aE (G Qg.toNat)) (bM (G Qg.toNat)) (d9 (G Qg.toNat)) (cH (G Qg.toNat)) (aU (aM (ap (ap (ap (ap (G Qg.toNat))))))) λi=>au kp (du (aM (ap (ap (ap (ap (G Qg.toNat)))))) i))])) (.next [] (Y3.L0 (I (Qg+1))) []))))) (.ret (V.tup G7))
def PG:RT Y3:=dm G (.am H (.enter [] (Y3.L0 0) []))
theorem akF:ig Ew u0 (D66 H G) (amq H G) (PG H G) (OK H G):=⟨cG,λs=>by cases s<;>exact cG⟩
def Oq (ii:Nat):Int:=dm H ((pp (aE (G ii)) (bM (G ii)) (d9 (G ii)) (cH (G ii)) (aU (aM (ap (ap (ap (ap (G ii))))))) λi=>au kp (du (aM (ap (ap (ap (ap (G ii)))))) i)))
def zX:Int:=gx H (Oq H G)
def qv:Int:=dW H (Oq H G)
theorem aeK:a6 (Ev (OK H G)) (PG H G) (.tup [D (zX H G),D (qv H G)]):=cg λhn=>aS (rW (Qe:=λ_=>True) (λ_ x=>.obc (.obt x)) (λi x r h hx=>aC (ak hx)) (λ_ _=>rfl) hn (λ_ _=>trivial) λi=>rfl)
theorem apO:a6 (Ev (OK H G)) (PG H G) (.tup [D (zX H (A aY G)),D (qv H (A aY G))]):=aeK H G
def QK:aD:=cK [.sl aY,.fn 106 [] []] (λ_=>True) λ|[.sl H G,.fn _ [] []]=>.tup [D (zX H G),D (qv H G)]|_=>.any
theorem aqg:c7 QK 105:=bo JW λ_ hp=>qV (akF ..) (apO _ _)
end
end Go.Dx
namespace Go.Proofs
open Go.Shelf
def Tryz.lays160_ren:Go.Shelf.Ren:=⟨λ|160=>157|232=>176|231=>175|227=>177|234=>179|233=>178|236=>181|235=>180|228=>186|271=>189|151=>188|197=>187|120=>202|152=>201|260=>200|137=>208|119=>209|224=>210|225=>211|217=>213|266=>214|n=>n,λ|9=>9|4=>4|3=>3|5=>5|117=>249|116=>248|0=>0|124=>252|21=>21|105=>258|46=>237|119=>278|139=>281|138=>280|n=>n,λ|3=>0|4=>1|n=>n⟩
theorem Tryz.lays160:Go.Proofs.Lays.n160 Tryz.prog Tryz.lays160_ren:={
 mixed:=by kernel_rfl
 f119:=Tryz.func209.trans (congrArg some bw)
 f120:=Tryz.func202.trans (congrArg some bw)
 f137:=Tryz.func208.trans (congrArg some bw)
 f151:=Tryz.func188.trans (congrArg some bw)
 f152:=Tryz.func201.trans (congrArg some bw)
 f160:=Tryz.func157.trans (congrArg some bw)
 f197:=Tryz.func187.trans (congrArg some bw)
 f217:=Tryz.func213.trans (congrArg some bw)
 f224:=Tryz.func210.trans (congrArg some bw)
 f225:=Tryz.func211.trans (congrArg some bw)
 f227:=Tryz.func177.trans (congrArg some bw)
 f228:=Tryz.func186.trans (congrArg some bw)
 f231:=Tryz.func175.trans (congrArg some bw)
 f232:=Tryz.func176.trans (congrArg some bw)
 f233:=Tryz.func178.trans (congrArg some bw)
 f234:=Tryz.func179.trans (congrArg some bw)
 f235:=Tryz.func180.trans (congrArg some bw)
 f236:=Tryz.func181.trans (congrArg some bw)
 f260:=Tryz.func200.trans (congrArg some bw)
 f266:=Tryz.func214.trans (congrArg some bw)
 f271:=Tryz.func189.trans (congrArg some bw)
 t0:=Tryz.underlying0
 a0:=Tryz.isAgg0
 z0:=Tryz.sizeOf0
 v0:=Tryz.zeroValue0
 t3:=Tryz.underlying3
 a3:=Tryz.isAgg3
 z3:=Tryz.sizeOf3
 v3:=Tryz.zeroValue3
 t4:=Tryz.underlying4
 a4:=Tryz.isAgg4
 z4:=Tryz.sizeOf4
 v4:=Tryz.zeroValue4
 t5:=Tryz.underlying5
 a5:=Tryz.isAgg5
 z5:=Tryz.sizeOf5
 v5:=Tryz.zeroValue5
 t9:=Tryz.underlying9
 a9:=Tryz.isAgg9
 z9:=Tryz.sizeOf9
 v9:=Tryz.zeroValue9
 t21:=Tryz.underlying21
 a21:=Tryz.isAgg21
 z21:=Tryz.sizeOf21
 v21:=Tryz.zeroValue21
 t46:=Tryz.underlying237
 a46:=Tryz.isAgg237
 z46:=Tryz.sizeOf237
 v46:=Tryz.zeroValue237
 t105:=Tryz.underlying258
 a105:=Tryz.isAgg258
 z105:=Tryz.sizeOf258
 v105:=Tryz.zeroValue258
 t116:=Tryz.underlying248
 a116:=Tryz.isAgg248
 z116:=Tryz.sizeOf248
 t117:=Tryz.underlying249
 a117:=Tryz.isAgg249
 z117:=Tryz.sizeOf249
 v117:=Tryz.zeroValue249
 t119:=Tryz.underlying278
 a119:=Tryz.isAgg278
 z119:=Tryz.sizeOf278
 t124:=Tryz.underlying252
 a124:=Tryz.isAgg252
 z124:=Tryz.sizeOf252
 v124:=Tryz.zeroValue252
 t138:=Tryz.underlying280
 a138:=Tryz.isAgg280
 z138:=Tryz.sizeOf280
 v138:=Tryz.zeroValue280
 t139:=Tryz.underlying281
 a139:=Tryz.isAgg281
 z139:=Tryz.sizeOf281
 v139:=Tryz.zeroValue281
 g3:=by kernel_rfl
 g4:=by kernel_rfl }
end Go.Proofs
namespace Go.Dx
open Go.IntKind (i64 u64 u8)
open Go.Sx Go.Proofs Go.Shelf Go.RowKit
noncomputable section
def Wd:ByteArray:=⟨#[97,98,99,100,101,102,103,104,105,106,107,108,109,110,111,112,113,114,115,116,117,118,119,120,121,122,48,49,50,51,52,53,54,55,56,57,45]⟩
def zh (s c:ByteArray):ByteArray:=⟨(Lib.trimS s.data.toList c.data.toList).toArray⟩
def OG:aD:=cK [.str,.str] (λ
 |[.str s,.str c]=>s.size<=9223372036854775807/\c=Wd|_=>False) λ
 |[.str s,.str c]=>.str (zh s c)|_=>.any
theorem hpa (s:ByteArray) (w:World) (hs:s.size<=9223372036854775807):Calls Tryz.prog 157 #[.string s,.string Wd] w λe w'=>e=.returned (.string (zh s Wd))/\Below w.heap.size w w' :=
 Any.strings_Trim_laid Tryz.lays160 bw s Wd w hs Ej (ascii_of_all Ej)
theorem bf.below {B:dB} {m:aH} {lh:List ar} {w w':World} (h:bf B m lh w) (hb:Below w.heap.size w w'):bf B m lh w':=by obtain⟨M,N,h3,h4,h5⟩:=hb;have Rs:B.w0.heap.size<=w'.heap.size:=HQ h.size h4;refine⟨M.trans h.os,N.trans h.tape,h3.trans h.output,Rs,λb hb=>(h5 b (Ho hb h.size)).trans (h.old b hb),HQ h.fsize h4,λb hb ho=>(h5 b (Ho hb h.fsize)).trans (h.kept b hb ho),λk cs ty W=>?_,h.inj,h.dom,h.dead,λk b W=>Ho (h.rng k b W) h4⟩;obtain⟨b,vs,g1,g2,g3,g4⟩:=h.loc k cs ty W;exact⟨b,vs,g1,g2,(h5 b (h.rng k b g1)).trans g3,g4⟩
theorem alv:(vP OG).Ok Tryz.prog 157:=by refine⟨λB m lh w args vs K hrel hargs SY=>?_,λ_ _ _ _ _ W ⟨ds,d,p,r,M,N,h3,h4,h5⟩=>⟨ds,d,p,r,M,N,h3,h4,W _ _ h5⟩,λ_ _ _ _ ⟨_,_,_,_,_,_,_,_,h⟩=>h⟩;obtain⟨ds,d,p,r,M,N,⟨TK,h3⟩,h4,h5⟩:=SY;simp only[OG,cK,Et,Prod.mk.injEq]at N;obtain⟨rfl,rfl,rfl⟩:=N;have TG:=(kl [.str,.str] ds [] [] rfl TK).1;simp only[bN,dp]at TG;obtain⟨e1,e2,e3,e4,e5⟩:=TG;rw[e5]at e3;rw[e3,e2,e4]at e1;generalize sv (aM ds)=s at e1;generalize sv (aM (ap ds))=c at e1;subst e1;simp only[lD,R7]at h3 h4 h5;obtain⟨hs,rfl⟩:=h3;simp only[bC,vr]at M;obtain⟨_,_,rfl,rfl,_,_,rfl,rfl,rfl⟩:=M;simp only[aB,Dy]at hargs;obtain⟨_,_,rfl,rfl,_,_,rfl,rfl,rfl⟩:=hargs;refine⟨⟨_,Tryz.func157,by kernel_rfl,by kernel_rfl⟩,(hpa s w hs).mono λe w' ⟨he,hb⟩=>?_⟩;exact⟨_,_,m,lh,he,by simp only[dc,Dy],jB.refl _ _,bf.below hrel hb,h5⟩
theorem aiL (s:ByteArray) (h:(!s.toList==(⟨#[]⟩:ByteArray).toList)=true):(0:Int)<(s.size:Int):=by
 have e:(⟨#[]⟩:ByteArray).toList=[]:=by decide +kernel
 by_cases hz:s.size=0
 ·have:s=⟨#[]⟩:=by
   cases s with|mk d=>
   have:d=#[]:=Array.eq_empty_of_size_eq_zero hz;rw[this]
  rw[this,e]at h;cases h
 ·omega
end
end Go.Dx
namespace Go.Dx
open Go.IntKind (i64 u64 u8)
open Go.Sx Go.Proofs
variable (H:Nat) (G:bk) (s0:ByteArray) (T:Nat) (Q:bk) (s2:ByteArray) (x3:Int) (n4:Nat) (f4:bk) (O x5:Int) (n6:Nat) (f6:bk) (x6 x7:Int) (n8:Nat) (f8:bk) (x8 x9:Int)
noncomputable section
def Tx:bm:=(159,.con anx)::(103,.con QF)::(105,.con QK)::(157,.con OG)::Ew
theorem S9:aV Tryz.prog BN D7 Tx:=.con anB (.con apm (.con aqg (.con alv (JW))))
def ai1:RT Empty:=.cb (.ret (V.bool (decide (0<=Kl H (A aK G)))))
theorem afV:dZ d7 (ba JJ Tx u0 alI [V.sl H (A aK G),V.fn 130 [] []]) (ai1 H G):=cG
def lK:Bool:=decide (0<=Kl H (A aK G))
def O8:V:=.bool (lK H G)
theorem anm:a6 dK (ai1 H G) (O8 H G):=aC (ak (aA (by unfold O8 lK;rfl)))
def aj5:aD:=cK [.sl aK,.fn 130 [] []] (λ_=>True) λ|[.sl H G,.fn _ [] []]=>O8 H G|_=>.any
theorem akt:c7 aj5 134:=bo S9 λ_ hp=>er (afV ..) (anm _ _)
def ajC:RT Empty:=.obp (s0.size<=(9223372036854775807:Nat)/\ByteArray.mk (Array.mk [(97:UInt8),(98:UInt8),(99:UInt8),(100:UInt8),(101:UInt8),(102:UInt8),(103:UInt8),(104:UInt8),(105:UInt8),(106:UInt8),(107:UInt8),(108:UInt8),(109:UInt8),(110:UInt8),(111:UInt8),(112:UInt8),(113:UInt8),(114:UInt8),(115:UInt8),(116:UInt8),(117:UInt8),(118:UInt8),(119:UInt8),(120:UInt8),(121:UInt8),(122:UInt8),(48:UInt8),(49:UInt8),(50:UInt8),(51:UInt8),(52:UInt8),(53:UInt8),(54:UInt8),(55:UInt8),(56:UInt8),(57:UInt8),(45:UInt8)])=ByteArray.mk (Array.mk [(97:UInt8),(98:UInt8),(99:UInt8),(100:UInt8),(101:UInt8),(102:UInt8),(103:UInt8),(104:UInt8),(105:UInt8),(106:UInt8),(107:UInt8),(108:UInt8),(109:UInt8),(110:UInt8),(111:UInt8),(112:UInt8),(113:UInt8),(114:UInt8),(115:UInt8),(116:UInt8),(117:UInt8),(118:UInt8),(119:UInt8),(120:UInt8),(121:UInt8),(122:UInt8),(48:UInt8),(49:UInt8),(50:UInt8),(51:UInt8),(52:UInt8),(53:UInt8),(54:UInt8),(55:UInt8),(56:UInt8),(57:UInt8),(45:UInt8)])) (.obt (.iv (.ii (.obj (bif bif !s0.toList==(ByteArray.mk (Array.mk [])).toList then decide ((↑s0.size:Int)<=24) else false then(zh s0 (ByteArray.mk (Array.mk [97,98,99,100,101,102,103,104,105,106,107,108,109,110,111,112,113,114,115,116,117,118,119,120,121,122,48,49,50,51,52,53,54,55,56,57,45]))).toList==(ByteArray.mk (Array.mk [])).toList else false) (decide ((0:Int)<=0/\0<(↑s0.size:Int))) (.ii (.obi (.obj (bif bif bif !s0.toList==(ByteArray.mk (Array.mk [])).toList then decide ((↑s0.size:Int)<=24) else false then(zh s0 (ByteArray.mk (Array.mk [97,98,99,100,101,102,103,104,105,106,107,108,109,110,111,112,113,114,115,116,117,118,119,120,121,122,48,49,50,51,52,53,54,55,56,57,45]))).toList==(ByteArray.mk (Array.mk [])).toList else false then decide (97<=(↑(s0.data.1.getD 0 0).toNat:Int)) else false) (decide ((0:Int)<=0/\0<(↑s0.size:Int))) (.ii (.ret (V.bool (bif bif bif bif !s0.toList==(ByteArray.mk (Array.mk [])).toList then decide ((↑s0.size:Int)<=24) else false then(zh s0 (ByteArray.mk (Array.mk [97,98,99,100,101,102,103,104,105,106,107,108,109,110,111,112,113,114,115,116,117,118,119,120,121,122,48,49,50,51,52,53,54,55,56,57,45]))).toList==(ByteArray.mk (Array.mk [])).toList else false then decide (97<=(↑(s0.data.1.getD 0 0).toNat:Int)) else false then decide ((↑(s0.data.1.getD 0 0).toNat:Int)<=122) else false)))))))))))
theorem aht:dZ d7 (ba JJ Tx u0 ajn [V.str s0]) (ajC s0):=cG
def oM:Bool:=bif bif bif bif !s0.toList==(ByteArray.mk (Array.mk [])).toList then decide ((↑s0.size:Int)<=24) else false then(zh s0 (ByteArray.mk (Array.mk [97,98,99,100,101,102,103,104,105,106,107,108,109,110,111,112,113,114,115,116,117,118,119,120,121,122,48,49,50,51,52,53,54,55,56,57,45]))).toList==(ByteArray.mk (Array.mk [])).toList else false then decide (97<=(↑(s0.data.1.getD 0 0).toNat:Int)) else false then decide ((↑(s0.data.1.getD 0 0).toNat:Int)<=122) else false
def OX:V:=.bool (oM s0)
theorem amI (hp:s0.size<=9223372036854775807):a6 dK (ajC s0) (OX s0):=aP (by first|assumption|(exact⟨hp,rfl⟩)) (ak (BK (BK (BK (BK (BK (BK (fQ (by first|assumption|(intro h;refine BH ⟨Ep 0,aiL s0 ?_⟩;cases hb:(!s0.toList==(⟨#[]⟩:ByteArray).toList) with|true=>rfl|false=>(rw[hb]at h;simp at h))) (BK (BK (BK (fQ (by first|assumption|(intro h;refine BH ⟨Ep 0,aiL s0 ?_⟩;cases hb:(!s0.toList==(⟨#[]⟩:ByteArray).toList) with|true=>rfl|false=>(rw[hb]at h;simp at h))) (BK (BK (aA (by unfold OX oM;rfl))))))))))))))))
def amv:aD:=cK [.str] (λ
 |[.str s0]=>s0.size<=9223372036854775807|_=>False) λ
 |[.str s0]=>OX s0|_=>.any
theorem anu:c7 amv 132:=bo S9 λ_ hp=>er (aht ..) (amI _ hp)
def RP (x y h dx dy:Int):Int:=bif bif bif bif !Lh 2 (A L (cq [D x,D y] 0 ((1+1-0) / 2))) then true else !gR h 1 200 then true else !gR dx (-1000) 1000 then true else !gR dy (-1000) 1000 then 7 else bif bif dx==0 then dy==0 else false then 2 else 0
def Kh:Int:=dm n6 (bif !S0 (sv (aM (f6 x8.toNat))) then 6 else bif jl x8.toNat (λk=>(sv (aM (f6 k))).toList==(sv (aM (f6 x8.toNat))).toList) then 5 else RP (bM (f6 x8.toNat)) (d9 (f6 x8.toNat)) (cH (f6 x8.toNat)) (eV (f6 x8.toNat)) (ck (f6 x8.toNat)))
def sR:bm:=(136,.inl alU u0)::(135,.inl akC u0)::(134,.con aj5)::(132,.con amv)::Tx
theorem FP:aV Tryz.prog BN D7 sR:=iB Tryz.func136 bw (iB Tryz.func135 bw (.con akt (.con anu (S9))))
inductive tq where|L0 (_:Int) (_:bk)|L1 (_:Int) (_:bk)|L2 (_:Int) (_:bk)|L3 (_:Int) (_:bk)|L4 (_:Int) (_ _:Nat) (_ _ _:Int) (_:Nat) (_ _ _ _:Int) (_:bk)|L5 (_:Int) (_ _:Nat) (_ _ _:Int) (_:Nat) (_ _ _ _:Int) (_:bk)|L6 (_:Int) (_ _:Nat) (_ _ _:Int) (_:Nat) (_ _ _ _:Int) (_:bk)|L7 (_:Int) (_ _:Nat) (_ _ _:Int) (_:Nat) (_ _ _ _:Int) (_:bk)
def DV (H:Nat) (G:bk) (s2:ByteArray) (x3:Int) (n4:Nat) (f4:bk) (x6:Int):tq->bZ×List A7×Option Ex
 |.L0 Qg TD=>([(3,D Qg),(8,V.kb false),(7,D (n4:Int)),(6,V.gs 2 n4),(2,V.ns),(0,V.gs 2 n4)],[A7.cells [V.str s2,D x3,V.sl n4 (A aK f4),D x6] 148,A7.hid,A7.gl 2 n4 (A aK TD) 49],none)|.L1 RS Tu=>([(3,D RS),(8,V.kb false),(7,D (n4:Int)),(6,V.gs 2 n4),(2,V.ns),(0,V.gs 2 n4)],[A7.cells [V.str s2,D x3,V.sl n4 (A aK f4),D x6] 148,A7.hid,A7.gl 2 n4 (A aK Tu) 49],none)|.L2 RN TN=>([(3,D RN),(8,V.kb false),(7,D (n4:Int)),(6,V.gs 2 n4),(2,V.ns),(0,V.gs 2 n4)],[A7.cells [V.str s2,D x3,V.sl n4 (A aK f4),D x6] 148,A7.hid,A7.gl 2 n4 (A aK TN) 49],none)|.L3 Rz k₁=>([(3,D Rz),(8,V.kb false),(7,D (n4:Int)),(6,V.gs 2 n4),(2,V.ns),(0,V.gs 2 n4)],[A7.cells [V.str s2,D x3,V.sl n4 (A aK f4),D x6] 148,A7.hid,A7.gl 2 n4 (A aK k₁) 49],none)|.L4 Rj Si Sw UN W5 VY Vl VZ Va f2 Tg UF=>([(5,D Rj),(4,V.go 2 Si Sw),(28,V.go 2 Si Sw),(27,D UN),(26,V.gs 2 n4),(25,V.kb true),(24,V.agg [D W5,D VY]),(23,V.pe 2 Vl 0),(22,D VZ),(21,D UN),(20,V.gs 2 n4),(19,V.agg [D Va,D f2]),(18,V.pe 2 Si 0),(17,D UN),(16,V.gs 2 n4),(13,V.kb true),(12,D (n4:Int)),(11,V.gs 2 n4),(10,D UN),(3,D Tg),(8,V.kb false),(7,D (n4:Int)),(6,V.gs 2 n4),(2,V.ns),(0,V.gs 2 n4)],[A7.cells [V.str s2,D x3,V.sl n4 (A aK f4),D x6] 148,A7.hid,A7.gl 2 n4 (A aK UF) 49],none)|.L5 RY SZ Sc Tz TW Xk Xs Ut Uw Xm TT Tv=>([(5,D RY),(4,V.go 2 SZ Sc),(28,V.go 2 SZ Sc),(27,D Tz),(26,V.gs 2 n4),(25,V.kb true),(24,V.agg [D TW,D Xk]),(23,V.pe 2 Xs 0),(22,D Ut),(21,D Tz),(20,V.gs 2 n4),(19,V.agg [D Uw,D Xm]),(18,V.pe 2 SZ 0),(17,D Tz),(16,V.gs 2 n4),(13,V.kb true),(12,D (n4:Int)),(11,V.gs 2 n4),(10,D Tz),(3,D TT),(8,V.kb false),(7,D (n4:Int)),(6,V.gs 2 n4),(2,V.ns),(0,V.gs 2 n4)],[A7.cells [V.str s2,D x3,V.sl n4 (A aK f4),D x6] 148,A7.hid,A7.gl 2 n4 (A aK Tv) 49],none)|.L6 wt Zd h₀ Xn x0 x1 zY x2 x4 xC w₂ mn=>([(5,D wt),(4,V.go 2 Zd h₀),(28,V.go 2 Zd h₀),(27,D Xn),(26,V.gs 2 n4),(25,V.kb true),(24,V.agg [D x0,D x1]),(23,V.pe 2 zY 0),(22,D x2),(21,D Xn),(20,V.gs 2 n4),(19,V.agg [D x4,D xC]),(18,V.pe 2 Zd 0),(17,D Xn),(16,V.gs 2 n4),(13,V.kb true),(12,D (n4:Int)),(11,V.gs 2 n4),(10,D Xn),(3,D w₂),(8,V.kb false),(7,D (n4:Int)),(6,V.gs 2 n4),(2,V.ns),(0,V.gs 2 n4)],[A7.cells [V.str s2,D x3,V.sl n4 (A aK f4),D x6] 148,A7.hid,A7.gl 2 n4 (A aK mn) 49],none)|.L7 W6 Ze Rw UC Ux xW zb W7 xi xn xK n0=>([(5,D W6),(4,V.go 2 Ze Rw),(28,V.go 2 Ze Rw),(27,D UC),(26,V.gs 2 n4),(25,V.kb true),(24,V.agg [D Ux,D xW]),(23,V.pe 2 zb 0),(22,D W7),(21,D UC),(20,V.gs 2 n4),(19,V.agg [D xi,D xn]),(18,V.pe 2 Ze 0),(17,D UC),(16,V.gs 2 n4),(13,V.kb true),(12,D (n4:Int)),(11,V.gs 2 n4),(10,D UC),(3,D xK),(8,V.kb false),(7,D (n4:Int)),(6,V.gs 2 n4),(2,V.ns),(0,V.gs 2 n4)],[A7.cells [V.str s2,D x3,V.sl n4 (A aK f4),D x6] 148,A7.hid,A7.gl 2 n4 (A aK n0) 49],none)
def apl:tq->JJ
 |.L0 ..=>(0,[])|.L1 ..=>(1,[])|.L2 ..=>(2,[])|.L3 ..=>(3,[])|.L4 ..=>(4,[])|.L5 ..=>(5,[])|.L6 ..=>(6,[])|.L7 ..=>(7,[])
def Oh:BO (cX JJ):=ba JJ sR u0 apj [V.sl H (A aN G),V.agg [V.str s2,D x3,V.sl n4 (A aK f4),D x6]]
def Gy (cx:List Cx):Lp JJ:=iZ (ik (Oh H G s2 x3 n4 f4 x6) [false,false,false,false,false,true,false,true,true,false,true,false])
def ap0 (cx:List Cx):Lp JJ:=iZ (ik (Oh H G s2 x3 n4 f4 x6) [false,false,false,false,false,true,false,true,true,false,false,false])
def ao3 (cx:List Cx):Lp JJ:=iZ (ik (Oh H G s2 x3 n4 f4 x6) [false,false,false,false,false,true,false,true,false,false,false])
def aqQ (cx:List Cx):Lp JJ:=iZ (ik (Oh H G s2 x3 n4 f4 x6) [false,false,false,false,false,true,false,false,false,false])
abbrev IN:=[true,true]
def adD (cx:List Cx):Lp JJ:=iZ (ik (vE sR u0 (0,[]) (Gy H G s2 x3 n4 f4 x6 []) (DV H G s2 x3 n4 f4 x6 (.L0 (0:Int) (λ_=>[])))) IN)
def aim (cx:List Cx):Lp JJ:=iZ (ik (vE sR u0 (1,[]) (ap0 H G s2 x3 n4 f4 x6 []) (DV H G s2 x3 n4 f4 x6 (.L1 (0:Int) (λ_=>[])))) IN)
def ahh (cx:List Cx):Lp JJ:=iZ (ik (vE sR u0 (2,[]) (ao3 H G s2 x3 n4 f4 x6 []) (DV H G s2 x3 n4 f4 x6 (.L2 (0:Int) (λ_=>[])))) IN)
def aij (cx:List Cx):Lp JJ:=iZ (ik (vE sR u0 (3,[]) (aqQ H G s2 x3 n4 f4 x6 []) (DV H G s2 x3 n4 f4 x6 (.L3 (0:Int) (λ_=>[])))) IN)
def arV:JJ->Lp JJ
 |(0,cx)=>Gy H G s2 x3 n4 f4 x6 cx|(1,cx)=>ap0 H G s2 x3 n4 f4 x6 cx|(2,cx)=>ao3 H G s2 x3 n4 f4 x6 cx|(3,cx)=>aqQ H G s2 x3 n4 f4 x6 cx|(4,cx)=>adD H G s2 x3 n4 f4 x6 cx|(5,cx)=>aim H G s2 x3 n4 f4 x6 cx|(6,cx)=>ahh H G s2 x3 n4 f4 x6 cx|(7,cx)=>aij H G s2 x3 n4 f4 x6 cx|(_,cx)=>Gy H G s2 x3 n4 f4 x6 cx
def D63:LD JJ tq:=⟨apl,arV H G s2 x3 n4 f4 x6,DV H G s2 x3 n4 f4 x6⟩
def LO (mk:Int->Nat->Nat->Int->Int->Int->Nat->Int->Int->Int->Int->(Nat->List V)->tq) (RY:Int) (SZ:Nat) (Sc:Nat) (Tz:Int) (TW:Int) (Xk:Int) (Xs:Nat) (Ut:Int) (Uw:Int) (Xm:Int) (TT:Int) (Tv:bk):RT tq:=.br (decide (RY<(↑Sc:Int))) (.ob (decide (0<=RY/\RY<(↑Sc:Int)/\SZ+Sc<=n4)) (.ob (decide (SZ+RY.toNat<n4)) (.ob (decide (0<=I (RY-1)/\I (RY-1)<(↑Sc:Int)/\SZ+Sc<=n4)) (.ob (decide (SZ+(I (RY-1)).toNat<n4)) (.br (!(aE (Tv (SZ+RY.toNat))==aE (Tv (SZ+(I (RY-1)).toNat))&&(bM (Tv (SZ+RY.toNat))==bM (Tv (SZ+(I (RY-1)).toNat))&&true))) (.ob (decide (0<=RY/\RY<(↑Sc:Int)/\SZ+Sc<=n4)) (.ob (decide (SZ+RY.toNat<n4)) (.ob (decide (0<=TT/\TT<(n4:Int)/\n4<=n4)) (.ob (decide (TT.toNat<n4)) (.next (iR 0 3 []) (mk (I (RY+1)) SZ Sc Tz TW Xk Xs Ut Uw Xm (I (TT+1)) (λi'=>bif i'.beq TT.toNat then [D (aE (Tv (SZ+RY.toNat))),D (bM (Tv (SZ+RY.toNat)))] else A aK Tv i')) [⟨2,aK,n4,λi'=>bif i'.beq TT.toNat then [D (aE (Tv (SZ+RY.toNat))),D (bM (Tv (SZ+RY.toNat)))] else A aK Tv i',oc rfl (aF rfl _ _) rfl⟩]))))) (.next (iR 0 3 []) (mk (I (RY+1)) SZ Sc Tz TW Xk Xs Ut Uw Xm TT (A aK Tv)) [⟨2,aK,n4,A aK Tv,aF rfl _ _⟩])))))) (.ob (decide (0<=TT/\TT<=(n4:Int))) (.ob (decide (0<n4-TT.toNat/\TT.toNat+(n4-TT.toNat)<=n4)) (.ob (decide (0<=TT/\TT<=(n4:Int))) (.br (decide ((↑TT.toNat:Int)<(n4:Int))) (.ret (D 2)) (.ii (.asm ((x3==3)=true->n4<=9223372036854775807) (.ii (.br (bif x3==3 then decide (2<(n4:Int)) else false) (.ret (D 2)) (.ret (D 0))))))))))
def Mz (mk:Int->(Nat->List V)->tq) (mk2:Int->Nat->Nat->Int->Int->Int->Nat->Int->Int->Int->Int->(Nat->List V)->tq) (RS:Int) (Tu:bk):RT tq:=.br (decide (RS<(n4:Int))) (.ob (decide (0<=RS/\RS<(n4:Int)/\n4<=n4)) (.ob (decide (RS.toNat<n4)) (.ob (decide (0<=I (RS-1)/\I (RS-1)<(n4:Int)/\n4<=n4)) (.ob (decide ((I (RS-1)).toNat<n4)) (.br (aE (Tu RS.toNat)==aE (Tu (I (RS-1)).toNat)&&(bM (Tu RS.toNat)==bM (Tu (I (RS-1)).toNat)&&true)) (.ob (decide (0<=RS/\RS<=(n4:Int))) (.enter (iR 0 3 []) (mk2 1 (RS.toNat) (n4-RS.toNat) RS (aE (Tu (I (RS-1)).toNat)) (bM (Tu (I (RS-1)).toNat)) ((I (RS-1)).toNat) (I (RS-1)) (aE (Tu RS.toNat)) (bM (Tu RS.toNat)) RS (A aK Tu)) [⟨2,aK,n4,A aK Tu,aF rfl _ _⟩])) (.next (iR 0 3 []) (mk (I (RS+1)) (A aK Tu)) [⟨2,aK,n4,A aK Tu,aF rfl _ _⟩])))))) (.br (decide ((n4:Int)<(n4:Int))) (.ret (D 2)) (.ii (.asm ((x3==3)=true->n4<=9223372036854775807) (.ii (.br (bif x3==3 then decide (2<(n4:Int)) else false) (.ret (D 2)) (.ret (D 0)))))))
def qY (H:Nat) (G:bk) (s2:ByteArray) (x3:Int) (n4:Nat) (f4:bk) (x6:Int):tq->RT tq
 |.L0 Qg TD=>.br (decide (Qg<(n4:Int))) (.ob (decide (0<=Qg/\Qg<(n4:Int)/\n4<=n4)) (.ob (decide (Qg.toNat<n4)) (.ob (decide (0<=I (Qg-1)/\I (Qg-1)<(n4:Int)/\n4<=n4)) (.ob (decide ((I (Qg-1)).toNat<n4)) (.br (aE (TD Qg.toNat)==aE (TD (I (Qg-1)).toNat)&&(bM (TD Qg.toNat)==bM (TD (I (Qg-1)).toNat)&&true)) (.ob (decide (0<=Qg/\Qg<=(n4:Int))) (.enter (iR 0 3 []) (tq.L4 1 (Qg.toNat) (n4-Qg.toNat) Qg (aE (TD (I (Qg-1)).toNat)) (bM (TD (I (Qg-1)).toNat)) ((I (Qg-1)).toNat) (I (Qg-1)) (aE (TD Qg.toNat)) (bM (TD Qg.toNat)) Qg (A aK TD)) [⟨2,aK,n4,A aK TD,aF rfl _ _⟩])) (.next (iR 0 3 []) (tq.L0 (I (Qg+1)) (A aK TD)) [⟨2,aK,n4,A aK TD,aF rfl _ _⟩])))))) (.am n4 (.br (decide ((n4:Int)<(n4:Int))) (.ret (D 2)) (.ii (.asm ((x3==3)=true->n4<=9223372036854775807) (.ii (.br (bif x3==3 then decide (2<(n4:Int)) else false) (.ret (D 2)) (.ret (D 0))))))))|.L1 RS Tu=>Mz x3 n4 tq.L1 tq.L5 RS Tu|.L2 RN TN=>Mz x3 n4 tq.L2 tq.L6 RN TN|.L3 Rz k₁=>Mz x3 n4 tq.L3 tq.L7 Rz k₁|.L4 Rj Si Sw UN W5 VY Vl VZ Va f2 Tg UF=>.br (decide (Rj<(↑Sw:Int))) (.ob (decide (0<=Rj/\Rj<(↑Sw:Int)/\Si+Sw<=n4)) (.ob (decide (Si+Rj.toNat<n4)) (.ob (decide (0<=I (Rj-1)/\I (Rj-1)<(↑Sw:Int)/\Si+Sw<=n4)) (.ob (decide (Si+(I (Rj-1)).toNat<n4)) (.br (!(aE (UF (Si+Rj.toNat))==aE (UF (Si+(I (Rj-1)).toNat))&&(bM (UF (Si+Rj.toNat))==bM (UF (Si+(I (Rj-1)).toNat))&&true))) (.ob (decide (0<=Rj/\Rj<(↑Sw:Int)/\Si+Sw<=n4)) (.ob (decide (Si+Rj.toNat<n4)) (.ob (decide (0<=Tg/\Tg<(n4:Int)/\n4<=n4)) (.ob (decide (Tg.toNat<n4)) (.next (iR 0 3 []) (tq.L4 (I (Rj+1)) Si Sw UN W5 VY Vl VZ Va f2 (I (Tg+1)) (λi'=>bif i'.beq Tg.toNat then [D (aE (UF (Si+Rj.toNat))),D (bM (UF (Si+Rj.toNat)))] else A aK UF i')) [⟨2,aK,n4,λi'=>bif i'.beq Tg.toNat then [D (aE (UF (Si+Rj.toNat))),D (bM (UF (Si+Rj.toNat)))] else A aK UF i',oc rfl (aF rfl _ _) rfl⟩]))))) (.next (iR 0 3 []) (tq.L4 (I (Rj+1)) Si Sw UN W5 VY Vl VZ Va f2 Tg (A aK UF)) [⟨2,aK,n4,A aK UF,aF rfl _ _⟩])))))) (.ob (decide (0<=Tg/\Tg<=(n4:Int))) (.ob (decide (0<n4-Tg.toNat/\Tg.toNat+(n4-Tg.toNat)<=n4)) (.ob (decide (0<=Tg/\Tg<=(n4:Int))) (.am n4 (.br (decide ((↑Tg.toNat:Int)<(n4:Int))) (.ret (D 2)) (.ii (.asm ((x3==3)=true->n4<=9223372036854775807) (.ii (.br (bif x3==3 then decide (2<(n4:Int)) else false) (.ret (D 2)) (.ret (D 0)))))))))))|.L5 RY SZ Sc Tz TW Xk Xs Ut Uw Xm TT Tv=>LO x3 n4 tq.L5 RY SZ Sc Tz TW Xk Xs Ut Uw Xm TT Tv|.L6 wt Zd h₀ Xn x0 x1 zY x2 x4 xC w₂ mn=>LO x3 n4 tq.L6 wt Zd h₀ Xn x0 x1 zY x2 x4 xC w₂ mn|.L7 W6 Ze Rw UC Ux xW zb W7 xi xn xK n0=>LO x3 n4 tq.L7 W6 Ze Rw UC Ux xW zb W7 xi xn xK n0
def P8:RT tq:=.obp (s2.size<=(9223372036854775807:Nat)) (.obt (.br (!oM s2) (.ret (D 6)) (.cb (.br (uM H (A aN G) s2) (.ret (D 5)) (.cb (.br (bT x3 0 3) (.ret (D 2)) (.am n4 (.br (decide ((n4:Int)<2)) (.ret (D 4)) (.am n4 (.br (decide (8<(n4:Int))) (.ret (D 3)) (.cb (.obi (.br (!lK n4 (A aK f4)) (.ob (!lK n4 (A aK f4)) (.cb (.br (bT x6 100 30000) (.ret (D 7)) (.und (.und (.und (.asm (n4=0) (.und (.brt (.am n4 (.br (decide (0<(n4:Int))) (.ret (D 2)) (.ii (.asm ((x3==3)=true->n4<=9223372036854775807) (.ii (.br (bif x3==3 then decide (2<(n4:Int)) else false) (.ret (D 2)) (.ret (D 0))))))))) (.am n4 (.brt (.br (decide (0<(n4:Int))) (.ret (D 2)) (.ii (.asm ((x3==3)=true->n4<=9223372036854775807) (.ii (.br (bif x3==3 then decide (2<(n4:Int)) else false) (.ret (D 2)) (.ret (D 0))))))))))) (.obv (fM n4 λi=>nM 2 (A aK f4 i)) (Pp rfl _ _) (.ob (decide (n4*16<=140737488355328)&&!Nat.beq 16 0) (.und (.br (decide ((n4:Int)<2)) (.am n4 (.br (decide ((n4:Int)<(n4:Int))) (.ret (D 2)) (.ii (.asm ((x3==3)=true->n4<=9223372036854775807) (.ii (.br (bif x3==3 then decide (2<(n4:Int)) else false) (.ret (D 2)) (.ret (D 0)))))))) (.enter (iR 0 3 []) (tq.L0 1 (A aK f4)) [⟨2,aK,n4,A aK f4,aF rfl _ _⟩])) (.am n4 (.br (decide ((n4:Int)<2)) (.br (decide ((n4:Int)<(n4:Int))) (.ret (D 2)) (.ii (.asm ((x3==3)=true->n4<=9223372036854775807) (.ii (.br (bif x3==3 then decide (2<(n4:Int)) else false) (.ret (D 2)) (.ret (D 0))))))) (.enter (iR 0 3 []) (tq.L1 1 (A aK f4)) [⟨2,aK,n4,A aK f4,aF rfl _ _⟩]))))))) (.am n4 (.und (.asm (n4=0) (.brt (.br (decide (0<(n4:Int))) (.ret (D 2)) (.ii (.asm ((x3==3)=true->n4<=9223372036854775807) (.ii (.br (bif x3==3 then decide (2<(n4:Int)) else false) (.ret (D 2)) (.ret (D 0))))))))) (.obv (fM n4 λi=>nM 2 (A aK f4 i)) (Pp rfl _ _) (.ob (decide (n4*16<=140737488355328)&&!Nat.beq 16 0) (.br (decide ((n4:Int)<2)) (.br (decide ((n4:Int)<(n4:Int))) (.ret (D 2)) (.ii (.asm ((x3==3)=true->n4<=9223372036854775807) (.ii (.br (bif x3==3 then decide (2<(n4:Int)) else false) (.ret (D 2)) (.ret (D 0))))))) (.enter (iR 0 3 []) (tq.L2 1 (A aK f4)) [⟨2,aK,n4,A aK f4,aF rfl _ _⟩]))))))) (.am n4 (.und (.asm (n4=0) (.brt (.br (decide (0<(n4:Int))) (.ret (D 2)) (.ii (.asm ((x3==3)=true->n4<=9223372036854775807) (.ii (.br (bif x3==3 then decide (2<(n4:Int)) else false) (.ret (D 2)) (.ret (D 0))))))))) (.obv (fM n4 λi=>nM 2 (A aK f4 i)) (Pp rfl _ _) (.ob (decide (n4*16<=140737488355328)&&!Nat.beq 16 0) (.br (decide ((n4:Int)<2)) (.br (decide ((n4:Int)<(n4:Int))) (.ret (D 2)) (.ii (.asm ((x3==3)=true->n4<=9223372036854775807) (.ii (.br (bif x3==3 then decide (2<(n4:Int)) else false) (.ret (D 2)) (.ret (D 0))))))) (.enter (iR 0 3 []) (tq.L3 1 (A aK f4)) [⟨2,aK,n4,A aK f4,aF rfl _ _⟩])))))))))) (.ret (D 7)))))))))))))))
theorem aj3:ig sR u0 (D63 H G s2 x3 n4 f4 x6) (Oh H G s2 x3 n4 f4 x6) (P8 H G s2 x3 n4 f4 x6) (qY H G s2 x3 n4 f4 x6):=⟨cG,λs=>by cases s<;>exact cG⟩
def yT (f:bk) (i j:Nat):Bool:=aE (f i)==aE (f j)&&(bM (f i)==bM (f j)&&true)
def vD (n:Nat) (f:bk):Bool:=jl n λi=>decide (0<i)&&yT f i (i-1)
def ki (x3:Int) (n4:Nat):Int:=bif bif x3==3 then decide (2<(n4:Int)) else false then 2 else 0
def ZX (H:Nat) (G:bk) (s2:ByteArray) (x3:Int) (n4:Nat) (f4:bk) (x6:Int):Int:=bif !oM s2 then 6 else bif uM H G s2 then 5 else bif bT x3 0 3 then 2 else bif decide ((n4:Int)<2) then 4 else bif decide (8<(n4:Int)) then 3 else bif !!lK n4 f4 then 7 else bif bT x6 100 30000 then 7 else bif vD n4 f4 then 2 else ki x3 n4
theorem hrd {QZ:Type} {Nx:QZ->V->Prop} {x3:Int} {n4:Nat} {At:Prop}:a6 Nx (.obi (.obi (.asm At (.obi (.obi (.br (bif x3==3 then decide (2<(n4:Int)) else false) (.ret (D 2)) (.ret (D 0)))))))) (D (ki x3 n4)):=by refine BK (BK (FW λ_=>BK (BK (E2 (λh=>aA ?_) (λh=>aA ?_)))))<;>(unfold ki;rw[h];rfl)
theorem am2 (h8:n4<=8) (k0:Nat) (W:1<=k0) (SP:k0<n4) (t1 t2 t3:Int) (t4:Nat) (t5 t6 t7:Int):(∀ k2:Nat,k2<=n4-k0->1<=k2->∀ (k:Nat) (f:bk),k+1<=k0+k2->Ev (qY H G s2 x3 n4 f4 x6) (.L4 k2 k0 (n4-k0) t1 t2 t3 t4 t5 t6 t7 k f) (D 2))/\(∀ k2:Nat,k2<=n4-k0->1<=k2->∀ (k:Nat) (f:bk),k+1<=k0+k2->Ev (qY H G s2 x3 n4 f4 x6) (.L5 k2 k0 (n4-k0) t1 t2 t3 t4 t5 t6 t7 k f) (D 2))/\(∀ k2:Nat,k2<=n4-k0->1<=k2->∀ (k:Nat) (f:bk),k+1<=k0+k2->Ev (qY H G s2 x3 n4 f4 x6) (.L6 k2 k0 (n4-k0) t1 t2 t3 t4 t5 t6 t7 k f) (D 2))/\(∀ k2:Nat,k2<=n4-k0->1<=k2->∀ (k:Nat) (f:bk),k+1<=k0+k2->Ev (qY H G s2 x3 n4 f4 x6) (.L7 k2 k0 (n4-k0) t1 t2 t3 t4 t5 t6 t7 k f) (D 2)):=by
 refine⟨?_,?_,?_,?_⟩
 all_goals
  refine gE λk2 UU ih M k f izb22=>Ev.of rfl ?_;have w1:I ((k2:Int)-1)=((k2-1:Nat):Int):=by rw[D5 E E];omega
  have w2:I ((k2:Int)+1)=((k2+1:Nat):Int):=by rw[D5 E E];omega
  have w3:I ((k:Int)+1)=((k+1:Nat):Int):=by rw[D5 E E];omega
  refine E2 (λh=>?_) (λh=>?_)
  ·have Qw:k2<n4-k0:=by have:=Fv h;omega
   refine aL (BH E) (aL (BH E) (aL (BH (by rw[w1];omega)) (aL (BH (by rw[w1];omega)) (E2 (λ_=>?_) (λ_=>?_)))))
   ·refine aL (BH E) (aL (BH E) (aL (BH E) (aL (BH E) (bb ?_))));rw[w2,w3];exact ih Qw E (k+1) _ E
   ·refine bb ?_;rw[w2];exact ih Qw E k _ E
  ·have Ta:¬ k2<n4-k0:=by have:=H3 h;omega
   refine aL (BH E) (aL (BH E) (aL (BH E) ?_))
   try refine FW λ_=>?_
   exact c9 (BH E) (aA rfl)
theorem akS (h8:n4<=8) (N:2<=n4):(∀ i:Nat,i<=n4->1<=i->(∀ j,j<i->(decide (0<j)&&yT f4 j (j-1))=false)->∀ f:bk,(∀ i j,yT f i j=yT f4 i j)->Ev (qY H G s2 x3 n4 f4 x6) (.L0 i f) (D (bif vD n4 f4 then 2 else ki x3 n4)))/\(∀ i:Nat,i<=n4->1<=i->(∀ j,j<i->(decide (0<j)&&yT f4 j (j-1))=false)->∀ f:bk,(∀ i j,yT f i j=yT f4 i j)->Ev (qY H G s2 x3 n4 f4 x6) (.L1 i f) (D (bif vD n4 f4 then 2 else ki x3 n4)))/\(∀ i:Nat,i<=n4->1<=i->(∀ j,j<i->(decide (0<j)&&yT f4 j (j-1))=false)->∀ f:bk,(∀ i j,yT f i j=yT f4 i j)->Ev (qY H G s2 x3 n4 f4 x6) (.L2 i f) (D (bif vD n4 f4 then 2 else ki x3 n4)))/\(∀ i:Nat,i<=n4->1<=i->(∀ j,j<i->(decide (0<j)&&yT f4 j (j-1))=false)->∀ f:bk,(∀ i j,yT f i j=yT f4 i j)->Ev (qY H G s2 x3 n4 f4 x6) (.L3 i f) (D (bif vD n4 f4 then 2 else ki x3 n4))):=by
 refine⟨?_,?_,?_,?_⟩
 all_goals
  refine gE λi hi ih M hj f hf=>Ev.of rfl ?_;have w1:I ((i:Int)-1)=((i-1:Nat):Int):=by rw[D5 E E];omega
  have w2:I ((i:Int)+1)=((i+1:Nat):Int):=by rw[D5 E E];omega
  refine E2 (λh=>?_) (λh=>?_)
  ·have Qw:i<n4:=by have:=Fv h;omega
   refine aL (BH E) (aL (BH E) (aL (BH (by rw[w1];omega)) (aL (BH (by rw[w1];omega)) (E2 (λhb=>?_) (λhb=>?_)))))
   ·have RQ:yT f4 i (i-1)=true:=by
     rw[← hf];rw[w1]at hb;simpa only[GR,yT] using hb
    rw[show vD n4 f4=true from eF i Qw (by rw[RQ];simp;omega),cond_true];refine aL (BH E) (aS ?_);have At:=am2 H G s2 x3 n4 f4 x6 h8 i M Qw;simp only[GR]
    first|exact(At _ _ _ _ _ _ _).1 1 E E i _ E|exact(At _ _ _ _ _ _ _).2.1 1 E E i _ E|exact(At _ _ _ _ _ _ _).2.2.1 1 E E i _ E|exact(At _ _ _ _ _ _ _).2.2.2 1 E E i _ E
   ·have RQ:yT f4 i (i-1)=false:=by
     rw[← hf];rw[w1]at hb;simpa only[GR,yT] using hb
    refine bb ?_;rw[w2];refine ih Qw E (λj h3=>?_) _ (λa b=>hf a b);by_cases e:j=i
    ·subst e;rw[RQ,Bool.and_false]
    ·exact hj j E
  ·have:i=n4:=by have:=H3 h;omega
   subst this;rw[show vD i f4=false from fI hj,cond_false]
   try refine FW λ_=>?_
   exact lr hrd
theorem Ir (h8:n4<=8) (N:2<=n4) (f:bk) (hf:∀ i j,yT f i j=yT f4 i j):(Ev (qY H G s2 x3 n4 f4 x6) (.L0 1 f) (D (bif vD n4 f4 then 2 else ki x3 n4)))/\(Ev (qY H G s2 x3 n4 f4 x6) (.L1 1 f) (D (bif vD n4 f4 then 2 else ki x3 n4)))/\(Ev (qY H G s2 x3 n4 f4 x6) (.L2 1 f) (D (bif vD n4 f4 then 2 else ki x3 n4)))/\(Ev (qY H G s2 x3 n4 f4 x6) (.L3 1 f) (D (bif vD n4 f4 then 2 else ki x3 n4))):=by
 have At:=akS H G s2 x3 n4 f4 x6 h8 N;have h0:∀ j,j<1->(decide (0<j)&&yT f4 j (j-1))=false:=λj hj=>by
  have:j=0:=by omega
  subst this;rfl
 exact⟨At.1 1 E (Em _) h0 f hf,At.2.1 1 E (Em _) h0 f hf,At.2.2.1 1 E (Em _) h0 f hf,At.2.2.2 1 E (Em _) h0 f hf⟩
theorem ae0 (hp:s2.size<=9223372036854775807):a6 (Ev (qY H G s2 x3 n4 f4 x6)) (P8 H G s2 x3 n4 f4 x6) (D (ZX H G s2 x3 n4 f4 x6)):=by
 unfold ZX;refine aP hp (ak ?_);refine E2 (λh=>aA (by rw[h];rfl)) (λh=>?_);rw[h,cond_false];refine aC (ak (E2 (λh=>aA (by rw[show uM H G s2=true from h];rfl)) (λh=>?_)));rw[show uM H G s2=false from h,cond_false];refine aC (ak (E2 (λh=>aA (by rw[h];rfl)) (λh=>?_)));rw[h,cond_false];refine cg λhn=>E2 (λh=>aA (by rw[h];rfl)) (λN=>?_);rw[N,cond_false];refine cg λhn=>E2 (λh=>aA (by rw[h];rfl)) (λh8=>?_);rw[h8,cond_false];have N:2<=n4:=by have:=H3 N;omega
 have h8:n4<=8:=by have:=H3 h8;omega
 have e2:decide ((n4:Int)<2)=false:=eZ E;refine aC (ak (BK (E2 (λh=>?_) (λh=>aA (by rw[show(!!lK n4 f4)=true from by rw[show(!lK n4 f4)=false from h];rfl];rfl)))));rw[show(!!lK n4 f4)=false from by rw[show(!lK n4 f4)=true from h];rfl,cond_false];refine aL h (aC (ak (E2 (λh=>aA (by rw[h];rfl)) (λh=>?_))));rw[h,cond_false];have h16:(decide (n4*16<=140737488355328)&&!Nat.beq 16 0)=true:=by rw[BH (show n4*16<=140737488355328 by omega)];rfl
 have SQ:n4=0->False:=by omega
 have hi:∀i j,yT (A aK f4) i j=yT f4 i j:=λ_ _=>rfl
 repeat' (first
  |exact FW (λh0=>(SQ h0).elim)|exact aS (Ir _ _ _ _ _ _ _ h8 N _ hi).1|exact aS (Ir _ _ _ _ _ _ _ h8 N _ hi).2.1|exact aS (Ir _ _ _ _ _ _ _ h8 N _ hi).2.2.1|exact aS (Ir _ _ _ _ _ _ _ h8 N _ hi).2.2.2|refine alE ?_ ?_
  |refine FW (λ_=>?_)|refine akD ?_
  |refine aL h16 ?_
  |refine d5 e2 ?_
  |refine d5 rfl ?_
  |refine c9 rfl ?_)
theorem ark (hp:s2.size<=9223372036854775807):a6 (Ev (qY H G s2 x3 n4 f4 x6)) (P8 H G s2 x3 n4 f4 x6) (D (ZX H (A aN G) s2 x3 n4 (A aK f4) x6)):=ae0 H G s2 x3 n4 f4 x6 hp
def QE:aD:=cK [.sl aN,.agg aN] (λ
 |[.sl H G,.agg [.str s2,.int _ x3,.sl n4 f4,.int _ x6]]=>s2.size<=9223372036854775807|_=>False) λ
 |[.sl H G,.agg [.str s2,.int _ x3,.sl n4 f4,.int _ x6]]=>D (ZX H G s2 x3 n4 f4 x6)|_=>.any
theorem aqI:c7 QE 102:=bo FP λ_ hp=>qV (aj3 ..) (ark _ _ _ _ _ _ _ hp)
def m69:RT Empty:=.obp (s2.size<=(9223372036854775807:Nat)) (.obt (.br (!oM s2) (.ret (D 6)) (.cb (.br (tE H (A aG G) s2) (.ret (D 5)) (.cb (.obi (.br (!kn 2 (A L (cq [D x3,D O] 0 1))) (.ob (!kn 2 (A L (cq [D x3,D O] 0 1))) (.cb (.obi (.br (!bT x5 1 200) (.ob (!bT x5 1 200) (.cb (.obi (.br (!bT x6 (-1000) 1000) (.ob (!bT x6 (-1000) 1000) (.cb (.br (bT x7 (-1000) 1000) (.ret (D 7)) (.ii (.obi (.br (bif x6==0 then x7==0 else false) (.ret (D 2)) (.ret (D 0)))))))) (.ret (D 7)))))) (.ret (D 7)))))) (.ret (D 7)))))))))
theorem akx:dZ d7 (ba JJ sR u0 ape [V.sl H (A aG G),V.agg [V.str s2,D x3,D O,D x5,D x6,D x7]]) (m69 H G s2 x3 O x5 x6 x7):=cG
def mR:Int:=bif !oM s2 then 6 else bif tE H (A aG G) s2 then 5 else bif !kn 2 (A L (cq [D x3,D O] 0 1)) then bif !bT x5 1 200 then bif !bT x6 (-1000) 1000 then bif bT x7 (-1000) 1000 then 7 else bif bif x6==0 then x7==0 else false then 2 else 0 else 7 else 7 else 7
def Tr:V:=D (mR H G s2 x3 O x5 x6 x7)
theorem apD (hp:s2.size<=9223372036854775807):a6 dK (m69 H G s2 x3 O x5 x6 x7) (Tr H G s2 x3 O x5 x6 x7):=aP (by first|assumption|(exact hp)) (ak (E2 (λh0=>aA (by unfold Tr mR;try rw[h0];rfl)) (λh0=>aC (ak (E2 (λM=>aA (by unfold Tr mR;try rw[h0];try rw[M];rfl)) (λM=>aC (ak (BK (E2 (λN=>aL (by first|assumption|(fail)) (aC (ak (BK (E2 (λh3=>aL (by first|assumption|(fail)) (aC (ak (BK (E2 (λh4=>aL (by first|assumption|(fail)) (aC (ak (E2 (λh5=>aA (by unfold Tr mR;try rw[h0];try rw[M];try rw[N];try rw[h3];try rw[h4];try rw[h5];rfl)) (λh5=>BK (BK (BK (E2 (λh6=>aA (by unfold Tr mR;try rw[h0];try rw[M];try rw[N];try rw[h3];try rw[h4];try rw[h5];try rw[h6];rfl)) (λh6=>aA (by unfold Tr mR;try rw[h0];try rw[M];try rw[N];try rw[h3];try rw[h4];try rw[h5];try rw[h6];rfl)))))))))) (λh4=>aA (by unfold Tr mR;try rw[h0];try rw[M];try rw[N];try rw[h3];try rw[h4];rfl))))))) (λh3=>aA (by unfold Tr mR;try rw[h0];try rw[M];try rw[N];try rw[h3];rfl))))))) (λN=>aA (by unfold Tr mR;try rw[h0];try rw[M];try rw[N];rfl)))))))))))
def QQ:aD:=cK [.sl aG,.agg aG] (λ
 |[.sl H G,.agg [.str s2,.int _ x3,.int _ O,.int _ x5,.int _ x6,.int _ x7]]=>s2.size<=9223372036854775807|_=>False) λ
 |[.sl H G,.agg [.str s2,.int _ x3,.int _ O,.int _ x5,.int _ x6,.int _ x7]]=>Tr H G s2 x3 O x5 x6 x7|_=>.any
theorem aq9:c7 QQ 108:=bo FP λ_ hp=>er (akx ..) (apD _ _ _ _ _ _ _ _ hp)
def zG:bm:=(102,.con QE)::(108,.con QQ)::sR
theorem Fz:aV Tryz.prog BN D7 zG:=.con aqI (.con aq9 (FP))
def vA (x y:Int):Bool:=Lh 2 (A L (cq [D x,D y] 0 ((1+1-0) / 2)))
def aaG (k:Int) (n:Nat) (f:bk) (h:Int):Int:=bif !gR k 0 3 then 2 else bif decide ((n:Int)<2) then 4 else bif decide (8<(n:Int)) then 3 else bif jl n (λi=>!vA (aE (f i)) (bM (f i))) then 7 else bif !gR h 100 30000 then 7 else bif vD n f then 2 else ki k n
def F70:Int:=dm H (bif !S0 (sv (aM (G x8.toNat))) then 6 else bif jl x8.toNat (λk=>(sv (aM (G k))).toList==(sv (aM (G x8.toNat))).toList) then 5 else aaG (bM (G x8.toNat)) (aU (aM (ap (ap (G x8.toNat))))) (du (aM (ap (ap (G x8.toNat))))) (cH (G x8.toNat)))
inductive If where|L0 (_:Int)
def aok:If->bZ×List A7×Option Ex
 |.L0 Qg=>([(11,D Qg),(10,D (H:Int)),(9,V.sl H (A aN G)),(5,D 0),(4,D 0),(0,V.sl H (A aN G)),(1,V.fn 102 [] [])],[],none)
def apB:If->JJ
 |.L0 _=>(0,[])
def alG:BO (cX JJ):=ba JJ zG u0 aqR [V.sl H (A aN G),V.fn 102 [] []]
def yaO (cx:List Cx):Lp JJ:=iZ (ik (alG H G) [])
def arB:JJ->Lp JJ
 |(0,cx)=>yaO H G cx|(_,cx)=>yaO H G cx
def D62:LD JJ If:=⟨apB,arB H G,aok H G⟩
def OC:If->RT If
 |.L0 Qg=>.br (decide (Qg<(H:Int))) (.ob (decide (0<=Qg/\Qg<(H:Int))) (.ob (decide (0<=Qg/\Qg<=(H:Int))) (.obp ((sv (aM (G Qg.toNat))).size<=(9223372036854775807:Nat)) (.obt (.br (ZX (Qg.toNat-0) (λi=>A aN G (0+i)) (sv (aM (G Qg.toNat))) (bM (G Qg.toNat)) (aU (aM (ap (ap (G Qg.toNat))))) (λi=>au aK (du (aM (ap (ap (G Qg.toNat)))) i)) (cH (G Qg.toNat))!=0) (.ret (V.tup [D Qg,D (ZX (Qg.toNat-0) (λi=>A aN G (0+i)) (sv (aM (G Qg.toNat))) (bM (G Qg.toNat)) (aU (aM (ap (ap (G Qg.toNat))))) (λi=>au aK (du (aM (ap (ap (G Qg.toNat)))) i)) (cH (G Qg.toNat)))])) (.next [] (If.L0 (I (Qg+1))) [])))))) (.ret (V.tup G7))
def P7:RT If:=dm G (.am H (.enter [] (If.L0 0) []))
theorem aos:ig zG u0 (D62 H G) (alG H G) (P7 H G) (OC H G):=⟨cG,λs=>by cases s<;>exact cG⟩
def Mg (ii:Nat):Int:=dm H ((ZX (ii-0) (λi=>A aN G (0+i)) (sv (aM (G ii))) (bM (G ii)) (aU (aM (ap (ap (G ii))))) (λi=>au aK (du (aM (ap (ap (G ii)))) i)) (cH (G ii))))
def An:Int:=gx H (Mg H G)
def qM:Int:=dW H (Mg H G)
theorem afn (hp:aI H G):a6 (Ev (OC H G)) (P7 H G) (.tup [D (An H G),D (qM H G)]):=cg λhn=>aS (rW (Qe:=λi=>(sv (aM (G i))).size<=9223372036854775807) (λi x=>.obp ((sv (aM (G i))).size<=9223372036854775807) (.obt x)) (λi x r h hx=>aP h (ak hx)) (λ_ _=>rfl) hn hp λi=>rfl)
theorem arY (hp:aI H (A aN G)):a6 (Ev (OC H G)) (P7 H G) (.tup [D (An H (A aN G)),D (qM H (A aN G))]):=afn H G hp
def QD:aD:=cK [.sl aN,.fn 102 [] []] (λ
 |[.sl H G,.fn _ [] []]=>aI H G|_=>False) λ
 |[.sl H G,.fn _ [] []]=>.tup [D (An H G),D (qM H G)]|_=>.any
theorem arW:c7 QD 101:=bo Fz λ_ hp=>qV (aos ..) (arY _ _ hp)
inductive Z4 where|L0 (_:Int)
def alA:Z4->bZ×List A7×Option Ex
 |.L0 Qg=>([(11,D Qg),(10,D (H:Int)),(9,V.sl H (A aG G)),(5,D 0),(4,D 0),(0,V.sl H (A aG G)),(1,V.fn 108 [] [])],[],none)
def arF:Z4->JJ
 |.L0 _=>(0,[])
def ajj:BO (cX JJ):=ba JJ zG u0 aqr [V.sl H (A aG G),V.fn 108 [] []]
def fs1 (cx:List Cx):Lp JJ:=iZ (ik (ajj H G) [])
def apd:JJ->Lp JJ
 |(0,cx)=>fs1 H G cx|(_,cx)=>fs1 H G cx
def D68:LD JJ Z4:=⟨arF,apd H G,alA H G⟩
def Nb:Z4->RT Z4
 |.L0 Qg=>.br (decide (Qg<(H:Int))) (.ob (decide (0<=Qg/\Qg<(H:Int))) (.ob (decide (0<=Qg/\Qg<=(H:Int))) (.obp ((sv (aM (G Qg.toNat))).size<=(9223372036854775807:Nat)) (.obt (.br (mR (Qg.toNat-0) (λi=>A aG G (0+i)) (sv (aM (G Qg.toNat))) (bM (G Qg.toNat)) (d9 (G Qg.toNat)) (cH (G Qg.toNat)) (eV (G Qg.toNat)) (ck (G Qg.toNat))!=0) (.ret (V.tup [D Qg,D (mR (Qg.toNat-0) (λi=>A aG G (0+i)) (sv (aM (G Qg.toNat))) (bM (G Qg.toNat)) (d9 (G Qg.toNat)) (cH (G Qg.toNat)) (eV (G Qg.toNat)) (ck (G Qg.toNat)))])) (.next [] (Z4.L0 (I (Qg+1))) [])))))) (.ret (V.tup G7))
def PH:RT Z4:=dm G (.am H (.enter [] (Z4.L0 0) []))
theorem anK:ig zG u0 (D68 H G) (ajj H G) (PH H G) (Nb H G):=⟨cG,λs=>by cases s<;>exact cG⟩
def Mi (ii:Nat):Int:=dm H ((mR (ii-0) (λi=>A aG G (0+i)) (sv (aM (G ii))) (bM (G ii)) (d9 (G ii)) (cH (G ii)) (eV (G ii)) (ck (G ii))))
def As:Int:=gx H (Mi H G)
def qz:Int:=dW H (Mi H G)
theorem ahT (hp:aI H G):a6 (Ev (Nb H G)) (PH H G) (.tup [D (As H G),D (qz H G)]):=cg λhn=>aS (rW (Qe:=λi=>(sv (aM (G i))).size<=9223372036854775807) (λi x=>.obp ((sv (aM (G i))).size<=9223372036854775807) (.obt x)) (λi x r h hx=>aP h (ak hx)) (λ_ _=>rfl) hn hp λi=>rfl)
theorem apQ (hp:aI H (A aG G)):a6 (Ev (Nb H G)) (PH H G) (.tup [D (As H (A aG G)),D (qz H (A aG G))]):=ahT H G hp
def QO:aD:=cK [.sl aG,.fn 108 [] []] (λ
 |[.sl H G,.fn _ [] []]=>aI H G|_=>False) λ
 |[.sl H G,.fn _ [] []]=>.tup [D (As H G),D (qz H G)]|_=>.any
theorem aq7:c7 QO 107:=bo Fz λ_ hp=>qV (anK ..) (apQ _ _ hp)
def Tk:bm:=(101,.con QD)::(107,.con QO)::zG
theorem asx:aV Tryz.prog BN D7 Tk:=.con arW (.con aq7 (Fz))
def PX (t:Int×Int×Int):V:=.tup [D t.1,D t.2.1,D t.2.2]
def G9 (x y a z w:Int):Int:=bif !!vA x y then(bif(bif bif bif !gR a 1 20000 then true else decide (z<0) then true else decide (w<=z) then true else decide (1000<w)) then 7 else 0) else 7
def Df (n:Nat) (c:Nat->Int) (k:Int) (z:Int×Int×Int):Int×Int×Int:=bif dW n c !=0 then(k,gx n c,dW n c) else z
def cR (i:Nat):Int:=F70 H (A aN G) (i:Int)
def cT (i:Nat):Int:=G9 (aE (Q i)) (bM (Q i)) (d9 (Q i)) (cH (Q i)) (eV (Q i))
def cF (i:Nat):Int:=F72 (aE (f4 i)) (bM (f4 i)) (d9 (f4 i)) (cH (f4 i)) (aU (aM (ap (ap (ap (ap (f4 i))))))) λj=>au kp (du (aM (ap (ap (ap (ap (f4 i)))))) j)
def cC (i:Nat):Int:=Kh n6 (A aG f6) (i:Int)
def z3:Int×Int×Int:=Df n6 (cC n6 f6) 4 (0,0,0)
def z2:Int×Int×Int:=Df n4 (cF f4) 3 (z3 n6 f6)
def z1:Int×Int×Int:=Df T (cT Q) 2 (z2 n4 f4 n6 f6)
def Yt (H:Nat) (G:bk) (T:Nat) (Q:bk) (n4:Nat) (f4:bk) (n6:Nat) (f6:bk):Bool:=bif bif bif decide (8<(H:Int)) then true else decide (12<(T:Int)) then true else decide (8<(n4:Int)) then true else decide (24<(n6:Int))
def ME:Int×Int×Int:=bif Yt H G T Q n4 f4 n6 f6 then(0,0,3) else Df H (cR H G) 1 (z1 T Q n4 f4 n6 f6)
def m5:Int:=(ME H G T Q n4 f4 n6 f6).2.2
theorem rkB {n:Nat} {c:Nat->Int} {i:Nat} (k:Int) (z:Int×Int×Int) (hi:i<n) (hc:(c i !=0)=true) (h:∀j,j<i->(c j !=0)=false):Df n c k z=(k,(i:Int),c i):=by unfold Df;obtain⟨e1,e2⟩:=cZ hi hc h;rw[e1,e2,hc];rfl
theorem in6 {n:Nat} {c:Nat->Int} (k:Int) (z:Int×Int×Int) (h:∀j,j<n->(c j !=0)=false):Df n c k z=z:=by unfold Df;obtain⟨e1,e2⟩:=iE h;rw[e1,e2];rfl
abbrev Jl:=[D 0,D 0,D 0]
def m23:RT Empty:=.am H (.ii (.asm ((!decide (8<(H:Int)))=true->T<=9223372036854775807) (.iv (.asm ((!bif decide (8<(H:Int)) then true else decide (12<(T:Int)))=true->n4<=9223372036854775807) (.iv (.asm ((!bif bif decide (8<(H:Int)) then true else decide (12<(T:Int)) then true else decide (8<(n4:Int)))=true->n6<=9223372036854775807) (.ii (.br (bif bif bif decide (8<(H:Int)) then true else decide (12<(T:Int)) then true else decide (8<(n4:Int)) then true else decide (24<(n6:Int))) (.ret (V.tup [D 0,D 0,D 3])) (.obp (aI H G) (.obt (.br (qM H (A aN G)!=0) (.ret (V.tup [D 1,D (An H (A aN G)),D (qM H (A aN G))])) (.cb (.br (qH T (A aX Q)!=0) (.ret (V.tup [D 2,D (zj T (A aX Q)),D (qH T (A aX Q))])) (.cb (.br (qv n4 (A aY f4)!=0) (.ret (V.tup [D 3,D (zX n4 (A aY f4)),D (qv n4 (A aY f4))])) (.obp (aI n6 f6) (.obt (.br (qz n6 (A aG f6)!=0) (.ret (V.tup [D 4,D (As n6 (A aG f6)),D (qz n6 (A aG f6))])) (.ret (V.tup Jl))))))))))))))))))))
theorem ajB:dZ d7 (ba JJ Tk u0 arn [M0 H G T Q n4 f4 n6 f6]) (m23 H G T Q n4 f4 n6 f6):=cG
def m8:Int:=bif bif bif bif decide (8<(H:Int)) then true else decide (12<(T:Int)) then true else decide (8<(n4:Int)) then true else decide (24<(n6:Int)) then 0 else bif qM H (A aN G)!=0 then 1 else bif qH T (A aX Q)!=0 then 2 else bif qv n4 (A aY f4)!=0 then 3 else bif qz n6 (A aG f6)!=0 then 4 else 0
def mZ:Int:=bif bif bif bif decide (8<(H:Int)) then true else decide (12<(T:Int)) then true else decide (8<(n4:Int)) then true else decide (24<(n6:Int)) then 0 else bif qM H (A aN G)!=0 then An H (A aN G) else bif qH T (A aX Q)!=0 then zj T (A aX Q) else bif qv n4 (A aY f4)!=0 then zX n4 (A aY f4) else bif qz n6 (A aG f6)!=0 then As n6 (A aG f6) else 0
def jQ:Int:=bif bif bif bif decide (8<(H:Int)) then true else decide (12<(T:Int)) then true else decide (8<(n4:Int)) then true else decide (24<(n6:Int)) then 3 else bif qM H (A aN G)!=0 then qM H (A aN G) else bif qH T (A aX Q)!=0 then qH T (A aX Q) else bif qv n4 (A aY f4)!=0 then qv n4 (A aY f4) else bif qz n6 (A aG f6)!=0 then qz n6 (A aG f6) else 0
def Ie:V:=.tup [D (m8 H G T Q n4 f4 n6 f6),D (mZ H G T Q n4 f4 n6 f6),D (jQ H G T Q n4 f4 n6 f6)]
theorem aqK (hp:aI H G/\aI n6 f6):a6 dK (m23 H G T Q n4 f4 n6 f6) (Ie H G T Q n4 f4 n6 f6):=FW (λa0=>BK (BK (FW (λa0=>BK (BK (BK (BK (FW (λa0=>BK (BK (BK (BK (FW (λa0=>BK (BK (E2 (λh0=>aA (by unfold Ie m8 mZ jQ;try rw[h0];rfl)) (λh0=>aP (by first|assumption|((first|exact hp.1|exact hp.2))) (ak (E2 (λM=>aA (by unfold Ie m8 mZ jQ;try rw[h0];try rw[M];rfl)) (λM=>aC (ak (E2 (λN=>aA (by unfold Ie m8 mZ jQ;try rw[h0];try rw[M];try rw[N];rfl)) (λN=>aC (ak (E2 (λh3=>aA (by unfold Ie m8 mZ jQ;try rw[h0];try rw[M];try rw[N];try rw[h3];rfl)) (λh3=>aP (by first|assumption|((first|exact hp.1|exact hp.2))) (ak (E2 (λh4=>aA (by unfold Ie m8 mZ jQ;try rw[h0];try rw[M];try rw[N];try rw[h3];try rw[h4];rfl)) (λh4=>aA (by unfold Ie m8 mZ jQ;try rw[h0];try rw[M];try rw[N];try rw[h3];try rw[h4];rfl))))))))))))))))))))))))))))))
def Pu:aD:=cK [.agg [.sl aN,.sl aX,.sl aY,.sl aG]] (λ
 |[.agg [.sl H G,.sl T Q,.sl n4 f4,.sl n6 f6]]=>aI H G/\aI n6 f6|_=>False) λ
 |[.agg [.sl H G,.sl T Q,.sl n4 f4,.sl n6 f6]]=>Ie H G T Q n4 f4 n6 f6|_=>.any
theorem aoe:c7 Pu 78:=bo asx λ_ hp=>er (ajB ..) (aqK _ _ _ _ _ _ _ _ hp)
def I8:bm:=(78,.con Pu)::Tk
theorem fnQ:aV Tryz.prog BN D7 I8:=.con aoe (asx)
inductive XZ where|L0 (_ _:Int)
def alD:XZ->bZ×List A7×Option Ex
 |.L0 Qg RU=>([(8,D Qg),(7,D RU),(6,D (mZ H (A aN G) T (A aX Q) n4 (A aY f4) n6 (A aG f6))),(5,D (m8 H (A aN G) T (A aX Q) n4 (A aY f4) n6 (A aG f6))),(14,D (jQ H (A aN G) T (A aX Q) n4 (A aY f4) n6 (A aG f6))),(13,D (mZ H (A aN G) T (A aX Q) n4 (A aY f4) n6 (A aG f6))),(12,D (m8 H (A aN G) T (A aX Q) n4 (A aY f4) n6 (A aG f6))),(9,V.tup [D (m8 H (A aN G) T (A aX Q) n4 (A aY f4) n6 (A aG f6)),D (mZ H (A aN G) T (A aX Q) n4 (A aY f4) n6 (A aG f6)),D (jQ H (A aN G) T (A aX Q) n4 (A aY f4) n6 (A aG f6))]),(11,V.tup [D (m8 H (A aN G) T (A aX Q) n4 (A aY f4) n6 (A aG f6)),D (mZ H (A aN G) T (A aX Q) n4 (A aY f4) n6 (A aG f6)),D (jQ H (A aN G) T (A aX Q) n4 (A aY f4) n6 (A aG f6))]),(10,M0 H G T Q n4 f4 n6 f6),(4,D 0),(2,V.pl 0 0),(0,M0 H G T Q n4 f4 n6 f6),(1,V.sl n8 (A L f8))],[A7.cells [V.sl H (A aN G),V.sl T (A aX Q),V.sl n4 (A aY f4),V.sl n6 (A aG f6)] 31],none)
def apq:XZ->JJ
 |.L0 ..=>(0,[])
def ajM:BO (cX JJ):=ba JJ I8 u0 al3 [M0 H G T Q n4 f4 n6 f6,V.sl n8 (A L f8)]
def aow (cx:List Cx):Lp JJ:=iZ (ik (ajM H G T Q n4 f4 n6 f6 n8 f8) [])
def aqU:JJ->Lp JJ
 |(0,cx)=>aow H G T Q n4 f4 n6 f6 n8 f8 cx|(_,cx)=>aow H G T Q n4 f4 n6 f6 n8 f8 cx
def D44:LD JJ XZ:=⟨apq,aqU H G T Q n4 f4 n6 f6 n8 f8,alD H G T Q n4 f4 n6 f6 n8 f8⟩
abbrev H7:=[some (some 0)]
def K6 (H:Nat) (G:bk) (T:Nat) (Q:bk) (n4:Nat) (f4:bk) (n6:Nat) (f6:bk) (n8:Nat) (f8:bk):XZ->RT XZ
 |.L0 Qg RU=>.am n8 (.ii (.br (bif decide (Qg<(n8:Int)) then RU==0 else false) (.ob (decide (0<=Qg/\Qg<(n8:Int))) (.ob (decide (0<=I (Qg+1)/\I (Qg+1)<(n8:Int))) (.cb (.br (bT (aE (f8 Qg.toNat)) 0 (I (aE (f8 (I (Qg+1)).toNat)-1))) (.next H7 (XZ.L0 (I (Qg+2)) 4) []) (.next H7 (XZ.L0 (I (Qg+2)) RU) []))))) (.ret (D RU))))
def P6:RT XZ:=dm (n8,f8) (.obp ((aI H G)/\aI n6 f6) (.obt (.enter H7 (XZ.L0 0 (jQ H (A aN G) T (A aX Q) n4 (A aY f4) n6 (A aG f6))) [])))
theorem ana:ig I8 u0 (D44 H G T Q n4 f4 n6 f6 n8 f8) (ajM H G T Q n4 f4 n6 f6 n8 f8) (P6 H G T Q n4 f4 n6 f6 n8 f8) (K6 H G T Q n4 f4 n6 f6 n8 f8):=⟨cG,λs=>by cases s<;>exact cG⟩
def SD (k:Nat):Bool:=bT (aE (f8 (2*k))) 0 (I (aE (f8 (2*k+1))-1))
def XN (e:Int):Int:=bif e==0 then(bif jl (n8 / 2) (SD f8) then 4 else 0) else e
def Lz:Int:=XN n8 f8 (jQ H (A aN G) T (A aX Q) n4 (A aY f4) n6 (A aG f6))
theorem abp (i e:Int) (he:(e==0)=false):Ev (K6 H G T Q n4 f4 n6 f6 n8 f8) (.L0 i e) (D e):=Ev.of rfl (FW λ_=>BK (BK (d5 (by rw[he];cases decide (i<(n8:Int))<;>rfl) (aA rfl))))
theorem amn (hm:n8 % 2=0) (hn:n8<=100):∀ k:Nat,k<=n8 / 2->(∀ j,j<k->SD f8 j=false)->Ev (K6 H G T Q n4 f4 n6 f6 n8 f8) (.L0 ((2*k:Nat):Int) 0) (D (bif jl (n8 / 2) (SD f8) then 4 else 0)):=by
 refine gE λk W ih hj=>Ev.of rfl (FW λ_=>BK (BK (E2 (λh=>?_) (λh=>?_))))
 ·have Qw:2*k<n8:=by
   by_cases hh:((2*k:Nat):Int)<(n8:Int)
   ·omega
   ·rw[eZ hh]at h;cases h
  have w1:I (((2*k:Nat):Int)+1)=((2*k+1:Nat):Int):=by rw[D5 E E];omega
  have w2:I (((2*k:Nat):Int)+2)=((2*(k+1):Nat):Int):=by rw[D5 E E];omega
  refine aL (BH E) (aL (BH (by rw[w1];omega)) (aC (ak (E2 (λhb=>bb ?_) (λhb=>bb ?_)))))
  ·rw[w1]at hb;simp only[GR]at hb;rw[eF (p:=SD f8) k E hb,cond_true];exact abp H G T Q n4 f4 n6 f6 n8 f8 _ 4 rfl
  ·rw[w1]at hb
   simp only[GR]at hb;rw[w2];refine ih E (λj h3=>?_);by_cases e:j=k
   ·subst e;exact hb
   ·exact hj j E
 ·have e:k=n8 / 2:=by
   by_cases hh:((2*k:Nat):Int)<(n8:Int)
   ·rw[BH hh]at h;cases h
   ·omega
  rw[show jl (n8 / 2) (SD f8)=false from fI λj h=>hj j E];exact aA rfl
theorem akc (hm:n8 % 2=0) (hn:n8<=100) (e:Int):Ev (K6 H G T Q n4 f4 n6 f6 n8 f8) (.L0 0 e) (D (XN n8 f8 e)):=by
 unfold XN;cases he:e==0 with
 |false=>exact abp H G T Q n4 f4 n6 f6 n8 f8 0 e he
 |true=>have:e=0:=HK he;subst this;exact amn H G T Q n4 f4 n6 f6 n8 f8 hm hn 0 E (λj h=>by omega)
theorem agz (hp:(aI H G/\aI n6 f6)/\n8 % 2=0/\n8<=100):a6 (Ev (K6 H G T Q n4 f4 n6 f6 n8 f8)) (P6 H G T Q n4 f4 n6 f6 n8 f8) (D (Lz H G T Q n4 f4 n6 f6 n8 f8)):=aP hp.1 (ak (aS (akc H G T Q n4 f4 n6 f6 n8 f8 hp.2.1 hp.2.2 _)))
theorem ao7 (hp:(aI H (A aN G)/\aI n6 (A aG f6))/\n8 % 2=0/\n8<=100):a6 (Ev (K6 H G T Q n4 f4 n6 f6 n8 f8)) (P6 H G T Q n4 f4 n6 f6 n8 f8) (D (Lz H (A aN G) T (A aX Q) n4 (A aY f4) n6 (A aG f6) n8 (A L f8))):=agz H G T Q n4 f4 n6 f6 n8 f8 hp
def Pw:aD:=cK [.agg [.sl aN,.sl aX,.sl aY,.sl aG],.sl L] (λ
 |[.agg [.sl H G,.sl T Q,.sl n4 f4,.sl n6 f6],.sl n8 f8]=>(aI H G/\aI n6 f6)/\n8 % 2=0/\n8<=100|_=>False) λ
 |[.agg [.sl H G,.sl T Q,.sl n4 f4,.sl n6 f6],.sl n8 f8]=>D (Lz H G T Q n4 f4 n6 f6 n8 f8)|_=>.any
theorem aqY:c7 Pw 39:=bo fnQ λ_ hp=>qV (ana ..) (ao7 _ _ _ _ _ _ _ _ _ _ hp)
def HI:Int:=m5 H (A aN G) T (A aX Q) n4 (A aY f4) n6 (A aG f6)
def hdj:Int:=bif bif HI H (A aN G) T (A aX Q) n4 (A aY f4) n6 (A aG f6)==0 then bif decide (x8<0) then true else decide (x9<=x8) else false then 4 else HI H (A aN G) T (A aX Q) n4 (A aY f4) n6 (A aG f6)
end
end Go.Dx
namespace Go.Dx
open Go.IntKind (i64 u64 u8)
open Go.Sx Go.Proofs
noncomputable section
attribute [local irreducible] Lz hdj HI
end
end Go.Dx
namespace Go.Proofs
open Go.RowKit Go.Dx
def AS (b:Int) (i:Int):Bool:=bif !(bif decide (97<=b) then decide (b<=122) else false) then(bif i==0 then true else bif !(bif decide (48<=b) then decide (b<=57) else false) then b !=45 else false) else false
def ku (s:ByteArray):Bool:=fM s.size (λi=>!AS ((s.data.toList.getD i 0).toNat:Int) i)&&decide (0<s.size/\s.size<=24)
theorem OF {p:Prop} (h:p):Hid p:=h
theorem ho1 (w:World) (e:TypeId) (s:ByteArray):Below w.heap.size w (Lib.bytesWorld w e s):=by refine⟨rfl,rfl,rfl,?_,λb hb=>Lib.bytesWorld_at_old w e s b hb⟩;rw[Lib.bytesWorld_size];omega
theorem pu (x k:Nat):AS (x:Int) (k:Int)=true↔¬ (97<=x/\x<=122)/\(k=0∨¬ (48<=x/\x<=57)/\x≠45):=by
 have key:∀(p1 p2 p3 p4 p5 p6:Bool),(bif !(bif p1 then p2 else false) then(bif p3 then true else bif !(bif p4 then p5 else false) then p6 else false) else false)=true↔¬(p1=true/\p2=true)/\(p3=true∨¬(p4=true/\p5=true)/\p6=true):=by decide
 unfold AS;rw[key];simp only[GV,HX,bne_iff_ne,ne_eq];omega
theorem ic0 {s:ByteArray} {k x:Nat} (W:k<s.size) (hx:(s.data.toList.getD k 0).toNat=x) (h:¬(97<=x/\x<=122)/\(k=0∨¬(48<=x/\x<=57)/\x≠45)):ku s=false:=by unfold ku;rw[kW k W (by rw[hx,(pu x k).2 h];rfl)];rfl
theorem hps {s:ByteArray} {k x:Nat} (SY:∀ j:Nat,j<k->AS ((s.data.toList.getD j 0).toNat:Int) j=false) (hx:(s.data.toList.getD k 0).toNat=x) (h:¬ (¬ (97<=x/\x<=122)/\(k=0∨¬ (48<=x/\x<=57)/\x≠45))):∀ j:Nat,j<k+1->AS ((s.data.toList.getD j 0).toNat:Int) j=false:=λj hj=>by
 by_cases e:j=k
 ·subst e
  rw[hx];cases hb:AS (x:Int) j with
  |false=>rfl|true=>exact(h ((pu x j).1 hb)).elim
 ·exact SY j E
theorem hu' {s:ByteArray} (SY:∀j:Nat,j<s.size->AS ((s.data.toList.getD j 0).toNat:Int) j=false):ku s=decide (0<s.size/\s.size<=24):=by unfold ku;rw[gN λi hi=>by rw[SY i hi];rfl];rfl
theorem abc (s:ByteArray):s.toList=[]↔s.size=0:=by rw[ByteArray.toList_eq];obtain⟨⟨l⟩⟩:=s;show l=[]↔l.length=0;exact List.length_eq_zero_iff.symm
set_option maxHeartbeats 4000000 in
theorem Tryz.name_calls (s:ByteArray) (w:World) (hs:s.size<=9223372036854775807):Calls Tryz.prog 142 #[.string s] w λe w'=>e=.returned (.bool (ku s))/\Below w.heap.size w w':=by
 have hB:∀t,t<s.size->(Lib.bytesWorld w 5 s).cell? ⟨w.heap.size,t,none⟩=some (.int .u8 (s.data.toList.getD t 0).toNat):=λt ht=>Lib.bytesWorld_cell w 5 s t ht;have hbel:=ho1 w 5 s
 go_enter Tryz.func142,Tryz.ntmps142
 go_wp2
 rw[Lib.run_convert_string_bytes w 9 233 5 s (u:=.string) bw bw bw];simp only[Result.andThen];rw[Oper.upon_value];obtain⟨W1,hW1⟩:∃W1,W1=Lib.bytesWorld w 5 s:=⟨_,rfl⟩;rw[← hW1]at hB hbel ⊢;have Big:=OF hW1;have HB:=OF hB;clear hW1 hB
 go_wp2
 go_loop [9] (λi=>∃k:Nat,k<=s.size/\i=.int .i64 k/\Hid (∀j:Nat,j<k->AS ((s.data.toList.getD j 0).toNat:Int) j=false)) (λi=>s.size-(intOf i).toNat)
 case atStart=>exact⟨0,GG _,rfl,λj hj=>absurd hj (IG _)⟩
 case round=>
  obtain⟨k,W,rfl,SY⟩:=hrel;by_cases hkn:k<s.size
  ·have UH:=HB.out k hkn
   generalize hx:(s.data.toList.getD k 0).toNat=x at UH;have Hx:=OF hx;clear hx
   go_wp2
   all_goals first
    | (go_ret
       have hb:=ic0 hkn Hx (by clear HB SY Hx UH Big hbel;try simp only[Hu,Bool.not_eq_false',decide_eq_false_iff_not,GV,HX,bne_iff_ne,ne_eq,MN,bne_eq_false_iff_eq]at *;omega);rw[hb];exact⟨rfl,hbel⟩)
    |exact⟨⟨k+1,E,by first|rfl|(congr 1;omega),hps SY Hx (by clear HB SY Hx UH Big hbel;try simp only[Hu,Bool.not_eq_false',decide_eq_false_iff_not,GV,HX,bne_iff_ne,ne_eq,MN,bne_eq_false_iff_eq]at *;omega)⟩,by simp[intOf];omega⟩|skip
   trace_state
  ·obtain rfl:k=s.size:=by omega
   have he:=hu' SY
   go_wp2
   ·go_ret
    rename_i h _;rw[(abc s).1 h];exact⟨rfl,hbel⟩
   ·go_ret
    rename_i h _;refine⟨?_,hbel⟩;have h0:s.size≠0:=λe=>h ((abc s).2 e);have e1:s.toList.isEmpty=false:=by cases hl:s.toList with|nil=>exact(h hl).elim|cons a l=>rfl
    have e2:decide (0<s.size)=true:=LL E;have e3:decide ((s.size:Int)<=24)=decide (s.size<=24):=decide_eq_decide.2 E;rw[e2];show Ending.returned (.bool (!s.toList.isEmpty&&decide ((s.size:Int)<=24)))=_;rw[e1,e3];rfl
end Go.Proofs
namespace Go.Dx
open Go.Sx Go.Proofs
noncomputable section
def Rh:aD:=cK [.str] (λ
 |[.str s]=>s.size<=9223372036854775807|_=>False) λ
 |[.str s]=>.bool (ku s)|_=>.any
theorem aig:(vP Rh).Ok Tryz.prog 142:=by refine⟨λB m lh w args vs K hrel hargs SY=>?_,λ_ _ _ _ _ W ⟨ds,d,p,r,M,N,h3,h4,h5⟩=>⟨ds,d,p,r,M,N,h3,h4,W _ _ h5⟩,λ_ _ _ _ ⟨_,_,_,_,_,_,_,_,h⟩=>h⟩;obtain⟨ds,d,p,r,M,N,⟨TK,h3⟩,h4,h5⟩:=SY;simp only[Rh,cK,Et,Prod.mk.injEq]at N;obtain⟨rfl,rfl,rfl⟩:=N;have TG:=(kl [.str] ds [] [] rfl TK).1;simp only[bN,dp]at TG;obtain⟨e1,e2,e3⟩:=TG;rw[e2,e3]at e1;generalize sv (aM ds)=s at e1;subst e1;simp only[lD,R7]at h3 h4 h5;simp only[bC,vr]at M;obtain⟨_,_,rfl,rfl,rfl⟩:=M;simp only[aB,Dy]at hargs;obtain⟨_,_,rfl,rfl,rfl⟩:=hargs;refine⟨⟨_,Tryz.func142,by kernel_rfl,by kernel_rfl⟩,(Tryz.name_calls s w h3).mono λe w' ⟨he,hb⟩=>?_⟩;exact⟨_,_,m,lh,he,by simp only[dc,Dy],jB.refl _ _,bf.below hrel hb,h5⟩
end
end Go.Dx
namespace Go.Dx
open Go.IntKind (i64 u64 u8)
open Go.Sx Go.Proofs
variable (H:Nat) (G:bk) (R:Int) (s0:ByteArray) (n1:Nat) (f1:bk) (S Z:Int) (s2:ByteArray) (n3:Nat) (f3:bk) (x3 O:Int) (n5:Nat) (f5:bk) (x5 x6:Int) (n7:Nat) (f7:bk) (x7 x8 x9 Ql Qn Qp RI:Int) (Rn:Nat) (UD:bk) (Zb:Nat) (UE:bk)
noncomputable section
def AJ:bm:=(39,.con Pw)::(142,.con Rh)::I8
theorem vc:aV Tryz.prog BN D7 AJ:=.con aqY (.con aig (fnQ))
def abn:RT Empty:=.ii (.obi (.ret (V.bool (bif decide (S<=R) then decide (R<=Z) else false))))
theorem ix5:dZ d7 (ba JJ AJ u0 afP [D R,D S,D Z]) (abn R S Z):=cG
def aw:Bool:=bif decide (S<=R) then decide (R<=Z) else false
def Px:V:=.bool (aw R S Z)
theorem adn:a6 dK (abn R S Z) (Px R S Z):=BK (BK (BK (aA (by unfold Px aw;rfl))))
def Nj:aD:=cK CE (λ_=>True) λ|[.int _ R,.int _ S,.int _ Z]=>Px R S Z|_=>.any
theorem fm5:c7 Nj 83:=bo vc λ_ hp=>er (ix5 ..) (adn _ _ _)
def h30:RT Empty:=.iv (.iv (.obi (.ret (V.bool (bif bif decide (Z<=R) then decide (R<=S) else false then decide (S<=x3) else false)))))
theorem yaM:dZ d7 (ba JJ AJ u0 ah8 [V.agg [D R,D S],D Z,D x3]) (h30 R S Z x3):=cG
def gn:Bool:=bif bif decide (Z<=R) then decide (R<=S) else false then decide (S<=x3) else false
def Sd:V:=.bool (gn R S Z x3)
theorem ais:a6 dK (h30 R S Z x3) (Sd R S Z x3):=BK (BK (BK (BK (BK (BK (BK (BK (BK (aA (by unfold Sd gn;rfl))))))))))
def hcd:aD:=cK [.agg aK,tI,tI] (λ_=>True) λ|[.agg [.int _ R,.int _ S],.int _ Z,.int _ x3]=>Sd R S Z x3|_=>.any
theorem aee:c7 hcd 115:=bo vc λ_ hp=>er (yaM ..) (ais _ _ _ _)
def aaw:RT Empty:=.ii (.obi (.ret (V.bool (bif decide (S<=R) then decide (R<=Z) else false))))
theorem ny4:dZ d7 (ba JJ AJ u0 aqu [D R,D S,D Z]) (aaw R S Z):=cG
def eJ:Bool:=bif decide (S<=R) then decide (R<=Z) else false
def Ob:V:=.bool (eJ R S Z)
theorem acx:a6 dK (aaw R S Z) (Ob R S Z):=BK (BK (BK (aA (by unfold Ob eJ;rfl))))
def ach:aD:=cK CE (λ_=>True) λ|[.int _ R,.int _ S,.int _ Z]=>Ob R S Z|_=>.any
theorem aex:c7 ach 43:=bo vc λ_ hp=>er (ny4 ..) (acx _ _ _)
def cM:Bool:=bif decide (S<=R) then decide (R<=Z) else false
def bz:Bool:=bif decide (S<=R) then decide (R<=Z) else false
def abK:RT Empty:=dm (n1,f1,n3,f3,n5,f5,x7,x8) (.ret (V.str s0))
theorem in1:dZ d7 (ba JJ AJ u0 agw [V.agg [V.str s0,V.sl n1 (A L f1),V.sl n3 (A L f3),V.sl n5 (A [Ty.sl L] f5),D x7,D x8]]) (abK s0 n1 f1 n3 f3 n5 f5 x7 x8):=cG
def Qc:V:=dm (n1,f1,n3,f3,n5,f5,x7,x8) (.str (s0))
theorem adX:a6 dK (abK s0 n1 f1 n3 f3 n5 f5 x7 x8) (Qc s0 n1 f1 n3 f3 n5 f5 x7 x8):=aA (by unfold Qc ; rfl)
def abX:aD:=cK [.agg ao] (λ_=>True) λ|[.agg [.str s0,.sl n1 f1,.sl n3 f3,.sl n5 f5,.int _ x7,.int _ x8]]=>Qc s0 n1 f1 n3 f3 n5 f5 x7 x8|_=>.any
theorem afW:c7 abX 110:=bo vc λ_ hp=>er (in1 ..) (adX _ _ _ _ _ _ _ _ _)
def aaX:RT Empty:=dm (S,Z,x3,O,x5,x6,x7,x8,x9,Ql,Qn,Qp,RI) (.ret (V.str s0))
theorem rdL:dZ d7 (ba JJ AJ u0 afj [V.agg [V.str s0,D S,D Z,D x3,D O,D x5,D x6,D x7,D x8,D x9,D Ql,D Qn,D Qp,D RI]]) (aaX s0 S Z x3 O x5 x6 x7 x8 x9 Ql Qn Qp RI):=cG
def Nt:V:=dm (S,Z,x3,O,x5,x6,x7,x8,x9,Ql,Qn,Qp,RI) (.str (s0))
theorem aid:a6 dK (aaX s0 S Z x3 O x5 x6 x7 x8 x9 Ql Qn Qp RI) (Nt s0 S Z x3 O x5 x6 x7 x8 x9 Ql Qn Qp RI):=aA (by unfold Nt ; rfl)
def aai:aD:=cK [.agg al] (λ_=>True) λ|[.agg [.str s0,.int _ S,.int _ Z,.int _ x3,.int _ O,.int _ x5,.int _ x6,.int _ x7,.int _ x8,.int _ x9,.int _ Ql,.int _ Qn,.int _ Qp,.int _ RI]]=>Nt s0 S Z x3 O x5 x6 x7 x8 x9 Ql Qn Qp RI|_=>.any
theorem agQ:c7 aai 113:=bo vc λ_ hp=>er (rdL ..) (aid _ _ _ _ _ _ _ _ _ _ _ _ _ _)
def hbi:RT Empty:=.ob (decide (S≠0)) (.ob (decide (S≠0)) (.br (decide (R.tmod S<0)) (.ret (D (I (I (R.tdiv S)-1)))) (.ret (D (I (R.tdiv S))))))
theorem x12:dZ d7 (ba JJ AJ u0 adp [D R,D S]) (hbi R S):=cG
def bE:Int:=bif decide (R.tmod S<0) then I (I (R.tdiv S)-1) else I (R.tdiv S)
def EA:V:=D (bE R S)
theorem agX (hp:S≠0):a6 dK (hbi R S) (EA R S):=aL (by first|assumption|(simp[hp])) (aL (by first|assumption|(simp[hp])) (E2 (λh0=>aA (by unfold EA bE;try rw[h0];rfl)) (λh0=>aA (by unfold EA bE;try rw[h0];rfl))))
def aa4:aD:=cK aK (λ
 |[.int _ R,.int _ S]=>S≠0|_=>False) λ
 |[.int _ R,.int _ S]=>EA R S|_=>.any
theorem fu9:c7 aa4 51:=bo vc λ_ hp=>er (x12 ..) (agX _ _ hp)
def ha2:RT Empty:=.ob (decide (S≠0)) (.ob (decide (S≠0)) (.br (decide (R.tmod S<0)) (.ret (D (I (I (R.tdiv S)-1)))) (.ret (D (I (R.tdiv S))))))
theorem ip2:dZ d7 (ba JJ AJ u0 adz [V.agg [D R,D S]]) (ha2 R S):=cG
def dq:Int:=bif decide (R.tmod S<0) then I (I (R.tdiv S)-1) else I (R.tdiv S)
def Dk:V:=D (dq R S)
theorem acR (hp:S≠0):a6 dK (ha2 R S) (Dk R S):=aL (by first|assumption|(simp[hp])) (aL (by first|assumption|(simp[hp])) (E2 (λh0=>aA (by unfold Dk dq;try rw[h0];rfl)) (λh0=>aA (by unfold Dk dq;try rw[h0];rfl))))
def hcM:aD:=cK [.agg aK] (λ
 |[.agg [.int _ R,.int _ S]]=>S≠0|_=>False) λ
 |[.agg [.int _ R,.int _ S]]=>Dk R S|_=>.any
theorem ara:c7 hcM 59:=bo vc λ_ hp=>er (ip2 ..) (acR _ _ hp)
def cL:Int:=bif decide (R.tmod S<0) then I (I (R.tdiv S)-1) else I (R.tdiv S)
def Gi:bm:=(83,.con Nj)::(115,.con hcd)::(43,.con ach)::(110,.con abX)::(113,.con aai)::(51,.con aa4)::(59,.con hcM)::AJ
theorem Dm:aV Tryz.prog BN D7 Gi:=.con fm5 (.con aee (.con aex (.con afW (.con agQ (.con fu9 (.con ara (vc)))))))
def abl:RT Empty:=.obp (nz S) (.obt (.ret (D (I (0-bE (I (0-R)) S)))))
theorem ix4:dZ d7 (ba JJ Gi u0 adS [D R,D S]) (abl R S):=cG
def bF:Int:=I (0-bE (I (0-R)) S)
def IV:V:=D (bF R S)
theorem aef (hp:S≠0):a6 dK (abl R S) (IV R S):=aP (by first|assumption|(exact hp)) (ak (aA (by unfold IV bF;rfl)))
def aaS:aD:=cK aK (λ
 |[.int _ R,.int _ S]=>S≠0|_=>False) λ
 |[.int _ R,.int _ S]=>IV R S|_=>.any
theorem fm3:c7 aaS 52:=bo Dm λ_ hp=>er (ix4 ..) (aef _ _ hp)
def h24:RT Empty:=.obp (nz S) (.obt (.ret (D (I (0-dq (I (0-R)) S)))))
theorem ix0:dZ d7 (ba JJ Gi u0 afs [V.agg [D R,D S]]) (h24 R S):=cG
def dU:Int:=I (0-dq (I (0-R)) S)
def Im:V:=D (dU R S)
theorem ahi (hp:S≠0):a6 dK (h24 R S) (Im R S):=aP (by first|assumption|(exact hp)) (ak (aA (by unfold Im dU;rfl)))
def aaa:aD:=cK [.agg aK] (λ
 |[.agg [.int _ R,.int _ S]]=>S≠0|_=>False) λ
 |[.agg [.int _ R,.int _ S]]=>Im R S|_=>.any
theorem aoI:c7 aaa 61:=bo Dm λ_ hp=>er (ix0 ..) (ahi _ _ hp)
def cN:Int:=I (0-cL (I (0-R)) S)
def qn:Bool:=bif decide (R<=S) then bif bz R Z x3 then bz S Z x3 else false else false
def acl:RT Empty:=.cb (.ret (V.bool !aw R S Z))
theorem nz4:dZ d7 (ba JJ Gi u0 anp [D R,V.pd [D S],V.pd [D Z]]) (acl R S Z):=cG
def sn:Bool:=!aw R S Z
def PF:V:=.bool (sn R S Z)
theorem adU:a6 dK (acl R S Z) (PF R S Z):=aC (ak (aA (by unfold PF sn;rfl)))
def ab4:aD:=cK [tI,.pd L,.pd L] (λ_=>True) λ|[.int _ R,.pd [.int _ S],.pd [.int _ Z]]=>PF R S Z|_=>.any
theorem ahO:c7 ab4 116:=bo Dm λ_ hp=>er (nz4 ..) (adU _ _ _)
theorem evObi (n:Nat) (p:Nat->Bool):fM (n+1) p=bif fM n p then p n else false:=by
 cases h:fM n p with
 |false=>
   cases N:fM (n+1) p with
   |false=>rfl|true=>rw[gN λi hi=>dh N i E]at h;cases h
 |true=>
   cases h3:p n with
   |false=>rw[kW n E h3];rfl
   |true=>rw[gN λi hi=>by
      by_cases e:i=n
      ·subst e;exact h3
      ·exact dh h i E];rfl
theorem fza13 {QZ:Type} {Nx:QZ->V->Prop} {r:V} {x:RT QZ} {c:Bool} {i n:Nat} (h:i<n) (hn:n<=9223372036854775807) (hc:c=true->((i:Int)==0)=false) (hx:a6 Nx x r):a6 Nx (.obj c (decide (0<=I ((i:Int)-1)/\I ((i:Int)-1)<(n:Int))) x) r:=⟨λhb=>by
 have h0:(i:Int)≠0:=by have:=hc hb;simpa using this
 exact BH (by rw[D5 E E];omega),hx⟩
def Ja (i:Nat):Bool:=bif(i:Int)==0 then true else decide (aE (G (I ((i:Int)-1)).toNat)<aE (G (i:Int).toNat))
def rng (i:Nat):Bool:=bz (aE (G (i:Int).toNat)) (-5000) 5000
inductive uR where|L0 (_:Int)
def s18:uR->bZ×List A7×Option Ex
 |.L0 Qg=>([(3,D Qg),(2,V.kb false),(0,V.sl H (A L G))],[],none)
def afg:uR->JJ
 |.L0 _=>(0,[])
def apf:BO (cX JJ):=ba JJ Gi u0 afB [V.sl H (A L G)]
def D6 (cx:List Cx):Lp JJ:=iZ (ik (apf H G) [])
def adg:JJ->Lp JJ
 |(0,cx)=>D6 H G cx|(_,cx)=>D6 H G cx
def akd:LD JJ uR:=⟨afg,adg H G,s18 H G⟩
def BP:uR->RT uR
 |.L0 Qg=>.am H (.br (decide (Qg<(H:Int))) (.ob (dI (I (Qg-1)) H) (.ob (dI Qg H) (.br (decide (aE (G Qg.toNat)<=aE (G (I (Qg-1)).toNat))) (.ret (V.kb false)) (.next [] (uR.L0 (I (Qg+1))) [])))) (.ret (V.kb true)))
def LM:RT uR:=dm (H,G) (.enter [] (uR.L0 1) [])
theorem no2:ig Gi u0 (akd H G) (apf H G) (LM H G) (BP H G):=⟨cG,λs=>by cases s<;>exact cG⟩
def jt:Bool:=fM H (Ja G)
theorem hza:a6 (Ev (BP H G)) (LM H G) (.bool (jt H G)):=by
 have key:=gE (n:=H) (P:=λi=>1<=i->(∀ j,j<i->Ja G j=true)->Ev (BP H G) (.L0 i) (.bool (jt H G))) λi hi ih M hj=>by
  refine Ev.of rfl (cg λhn=>E2 (λh=>?_) (λh=>aA ?_))
  ·have Qw:i<H:=by have:=Fv h;omega
   have h0:((i:Int)==0)=false:=by simp;omega
   refine aL (BH (by rw[D5 E E];omega)) (aL (BH E) (E2 (λhb=>aA ?_) (λhb=>bb ?_)))
   ·have hr:Ja G i=false:=by unfold Ja;rw[h0];exact eZ (by have:=Fv hb;omega)
    simp only[dc];unfold jt;rw[kW i Qw hr]
   ·have hr:Ja G i=true:=by unfold Ja;rw[h0];exact BH (by have:=H3 hb;omega)
    rw[uY Qw hn];refine ih Qw E λj N=>?_;by_cases e:j=i
    ·subst e;exact hr
    ·exact hj j E
  ·have:i=H:=by have:=H3 h;omega
   subst this;simp only[dc];unfold jt;rw[gN hj]
 by_cases h0:H=0
 ·subst h0;exact aS (Ev.of rfl (cg λ_=>d5 rfl (aA rfl)))
 ·exact aS (key 1 E E λj hj=>by
   have:j=0:=by omega
   subst this;rfl)
theorem adx:a6 (Ev (BP H G)) (LM H G) (.bool (jt H (A L G))):=hza H G
def hat:aD:=cK [.sl L] (λ_=>True) λ|[.sl H G]=>.bool (jt H G)|_=>.any
theorem ad7:c7 hat 146:=bo Dm λ_ hp=>qV (no2 ..) (adx _ _)
def HF:Bool:=bif bif bif decide ((↑s0.size:Int)<1) then true else decide (24<(↑s0.size:Int)) then true else decide ((↑(s0.data.1.getD 0 0).toNat:Int)<97) then true else decide (122<(↑(s0.data.1.getD 0 0).toNat:Int))
def wg (ii:Nat):Bool:=!bif bif bif decide (97<=(↑(s0.data.1.getD ii 0).toNat:Int)) then decide ((↑(s0.data.1.getD ii 0).toNat:Int)<=122) else false then true else bif decide (48<=(↑(s0.data.1.getD ii 0).toNat:Int)) then decide ((↑(s0.data.1.getD ii 0).toNat:Int)<=57) else false then true else(↑(s0.data.1.getD ii 0).toNat:Int)==45
def HS:Bool:=bif HF s0 then false else fM s0.size λi=>!wg s0 i
def IX:Bool:=fM H (rng G)
def MD:bm:=(52,.con aaS)::(61,.con aaa)::(116,.con ab4)::(146,.con hat)::Gi
theorem Mt:aV Tryz.prog BN D7 MD:=.con fm3 (.con aoI (.con ahO (.con ad7 (Dm))))
inductive uX where|L0 (_:Int)
def ovH:uX->bZ×List A7×Option Ex
 |.L0 Qg=>([(8,D Qg),(7,D (H:Int)),(6,V.sl H (A L G)),(4,D 0),(0,V.sl H (A L G)),(1,V.fn 116 [] [V.pd [D Z],V.pd [D x3]])],[],none)
def agN:uX->JJ
 |.L0 _=>(0,[])
def aoL:BO (cX JJ):=ba JJ MD u0 H8 [V.sl H (A L G),V.fn 116 [] [V.pd [D Z],V.pd [D x3]]]
def Du (cx:List Cx):Lp JJ:=iZ (ik (aoL H G Z x3) [])
def aez:JJ->Lp JJ
 |(0,cx)=>Du H G Z x3 cx|(_,cx)=>Du H G Z x3 cx
def ajb:LD JJ uX:=⟨agN,aez H G Z x3,ovH H G Z x3⟩
def Fo:uX->RT uX
 |.L0 Qg=>.br (decide (Qg<(H:Int))) (.ob (dI Qg H) (.cb (.br (sn (aE (G Qg.toNat)) Z x3) (.ret (D Qg)) (.next [] (uX.L0 (I (Qg+1))) [])))) (.ret (D (-1)))
def NM:RT uX:=dm (G,Z,x3) (.am H (.enter [] (uX.L0 0) []))
theorem isq:ig MD u0 (ajb H G Z x3) (aoL H G Z x3) (NM H G Z x3) (Fo H G Z x3):=⟨cG,λs=>by cases s<;>exact cG⟩
def C0:Int  :=idx H λii=>sn (aE (G ii)) Z x3
theorem id8:a6 (Ev (Fo H G Z x3)) (NM H G Z x3) (D (C0 H G Z x3)):=cg λhn=>aS (pj hn λi=>rfl)
theorem afC:a6 (Ev (Fo H G Z x3)) (NM H G Z x3) (D (C0 H (A L G) Z x3)):=id8 H G Z x3
def hco:aD:=cK [.sl L,.fn 116 [] [.pd L,.pd L]] (λ_=>True) λ|[.sl H G,.fn _ [] [.pd [.int _ Z],.pd [.int _ x3]]]=>D (C0 H G Z x3)|_=>.any
theorem ac0:c7 hco 99:=bo Mt λ_ hp=>qV (isq ..) (afC _ _ _ _)
def Oa:bm:=(99,.con hco)::MD
theorem ha':aV Tryz.prog BN D7 Oa:=.con ac0 (Mt)
def an1:RT Empty:=.cb (.ret (V.bool (decide (0<=C0 H (A L G) Z x3))))
theorem adj:dZ d7 (ba JJ Oa u0 Yr [V.sl H (A L G),V.fn 116 [] [V.pd [D Z],V.pd [D x3]]]) (an1 H G Z x3):=cG
def Be:Bool:=decide (0<=C0 H (A L G) Z x3)
def OZ:V:=.bool (Be H G Z x3)
theorem ai5:a6 dK (an1 H G Z x3) (OZ H G Z x3):=aC (ak (aA (by unfold OZ Be;rfl)))
def akZ:aD:=cK [.sl L,.fn 116 [] [.pd L,.pd L]] (λ_=>True) λ|[.sl H G,.fn _ [] [.pd [.int _ Z],.pd [.int _ x3]]]=>OZ H G Z x3|_=>.any
theorem amD:c7 akZ 67:=bo ha' λ_ hp=>er (adj ..) (ai5 _ _ _ _)
def O2:bm:=(67,.con akZ)::Oa
theorem acn:aV Tryz.prog BN D7 O2:=.con amD (ha')
def abT:RT Empty:=.cb (.ret (V.bool !Be H (A L G) Z x3))
theorem jfi:dZ d7 (ba JJ O2 u0 fe3 [V.sl H (A L G),D Z,D x3]) (abT H G Z x3):=cG
def ed:Bool:=!Be H (A L G) Z x3
def Nf:V:=.bool (ed H G Z x3)
theorem ade:a6 dK (abT H G Z x3) (Nf H G Z x3):=aC (ak (aA (by unfold Nf ed;rfl)))
def hds:aD:=cK [.sl L,tI,tI] (λ_=>True) λ|[.sl H G,.int _ Z,.int _ x3]=>Nf H G Z x3|_=>.any
theorem agZ:c7 hds 84:=bo acn λ_ hp=>er (jfi ..) (ade _ _ _ _)
def We:bm:=(84,.con hds)::O2
theorem MB:aV Tryz.prog BN D7 We:=.con agZ (acn)
def aaN:RT Empty:=dm (G,s2,n3,f3,f5,n7,f7,x9,Ql) (.am H (.am n5 (.ret (V.bool ((H:Int)!=(n5:Int))))))
theorem x20:dZ d7 (ba JJ We u0 afh [V.sl H (A L G),V.pd [V.str s2,V.sl n3 (A L f3),V.sl n5 (A L f5),V.sl n7 (A [Ty.sl L] f7),D x9,D Ql]]) (aaN H G s2 n3 f3 n5 f5 n7 f7 x9 Ql):=cG
def wv:Bool:=(H:Int)!=(n5:Int)
def Mv:V:=dm (G,s2,n3,f3,f5,n7,f7,x9,Ql) (.bool (wv H n5))
theorem ag0:a6 dK (aaN H G s2 n3 f3 n5 f5 n7 f7 x9 Ql) (Mv H G s2 n3 f3 n5 f5 n7 f7 x9 Ql):=FW (λa0=>FW (λa0=>aA (by unfold Mv wv;rfl)))
def aaP:aD:=cK [.sl L,.pd ao] (λ_=>True) λ|[.sl H G,.pd [.str s2,.sl n3 f3,.sl n5 f5,.sl n7 f7,.int _ x9,.int _ Ql]]=>Mv H G s2 n3 f3 n5 f5 n7 f7 x9 Ql|_=>.any
theorem ah6:c7 aaP 144:=bo MB λ_ hp=>er (x20 ..) (ag0 _ _ _ _ _ _ _ _ _ _ _)
def abj:RT Empty:=.cb (.ret (V.bool !ed H (A L G) 0 10000000))
theorem nh6:dZ d7 (ba JJ We u0 acW [V.sl H (A L G)]) (abj H G):=cG
def jJ:Bool:=!ed H (A L G) 0 10000000
def Se:V:=.bool (jJ H G)
theorem adT:a6 dK (abj H G) (Se H G):=aC (ak (aA (by unfold Se jJ;rfl)))
def aag:aD:=cK [.sl L] (λ_=>True) λ|[.sl H G]=>Se H G|_=>.any
theorem agx:c7 aag 145:=bo MB λ_ hp=>er (nh6 ..) (adT _ _)
def Ki:bm:=(163,.inl adl u0)::(147,.inl agb u0)::(144,.con aaP)::(145,.con aag)::We
theorem aaW:aV Tryz.prog BN D7 Ki:=iB Tryz.func163 bw (iB Tryz.func147 bw (.con ah6 (.con agx (MB))))
inductive oA where|L0 (_:Int)|L2 (_ _:Int)|L3 (_ _:Int)
def BC:oA->bZ×List A7×Option Ex
 |.L0 Qg=>([(8,D Qg),(7,D (n5:Int)),(0,V.sl n5 (A [Ty.sl L] f5)),(1,V.fn 144 [] [V.pl 0 0])],[A7.cells [V.str s0,V.sl n1 (A L f1),V.sl n3 (A L f3),V.sl n5 (A [Ty.sl L] f5),D x7,D x8] 128],none)|.L2 RN _=>([(8,D RN),(7,D (n5:Int)),(0,V.sl n5 (A [Ty.sl L] f5)),(1,V.fn 145 [] [])],[A7.cells [V.str s0,V.sl n1 (A L f1),V.sl n3 (A L f3),V.sl n5 (A [Ty.sl L] f5),D x7,D x8] 128],none)|.L3 Rz _=>([(8,D Rz),(7,D (n5:Int)),(0,V.sl n5 (A [Ty.sl L] f5)),(1,V.fn 145 [] [])],[A7.cells [V.str s0,V.sl n1 (A L f1),V.sl n3 (A L f3),V.sl n5 (A [Ty.sl L] f5),D x7,D x8] 128],none)
def ac4:oA->JJ
 |.L0 _=>(0,[])|.L2 _ Ua=>(2,[Cx.i Ua])|.L3 _ wQ=>(3,[Cx.i wQ])
def asw:BO (cX JJ):=ba JJ Ki u0 agO [V.agg [V.str s0,V.sl n1 (A L f1),V.sl n3 (A L f3),V.sl n5 (A [Ty.sl L] f5),D x7,D x8]]
def tj (cx:List Cx):Lp JJ:=iZ (ik (asw s0 n1 f1 n3 f3 n5 f5 x7 x8) [true,false,true,false,true,false,true])
def hz0 (cx:List Cx):Lp JJ:=iZ (ik (vE Ki u0 (0,[]) (tj s0 n1 f1 n3 f3 n5 f5 x7 x8 []) (BC s0 n1 f1 n3 f3 n5 f5 x7 x8 (.L0 (c8 cx 0)))) [true,true,false])
def i09 (cx:List Cx):Lp JJ:=iZ (ik (vE Ki u0 (0,[]) (tj s0 n1 f1 n3 f3 n5 f5 x7 x8 []) (BC s0 n1 f1 n3 f3 n5 f5 x7 x8 (.L0 (c8 cx 0)))) [false,false])
def ada:JJ->Lp JJ
 |(0,cx)=>tj s0 n1 f1 n3 f3 n5 f5 x7 x8 cx|(2,cx)=>hz0 s0 n1 f1 n3 f3 n5 f5 x7 x8 cx|(3,cx)=>i09 s0 n1 f1 n3 f3 n5 f5 x7 x8 cx|(_,cx)=>tj s0 n1 f1 n3 f3 n5 f5 x7 x8 cx
def ak7:LD JJ oA:=⟨ac4,ada s0 n1 f1 n3 f3 n5 f5 x7 x8,BC s0 n1 f1 n3 f3 n5 f5 x7 x8⟩
def rq (s0:ByteArray) (n1:Nat) (f1:bk) (n3:Nat) (f3:bk) (n5:Nat) (f5:bk) (x7 x8:Int):oA->RT oA
 |.L0 Qg=>.br (decide (Qg<(n5:Int))) (.ob (dI Qg n5) (.cb (.br (wv (aU (aM (f5 Qg.toNat))) n3) (.br (decide (0<=Qg)) (.ret (D 6)) (.am n5 (.enter H7 (oA.L2 0 Qg) []))) (.next H7 (oA.L0 (I (Qg+1))) [])))) (.brf (.am n5 (.enter H7 (oA.L3 0 Qg) [])))|.L2 RN Ua=>.br (decide (RN<(n5:Int))) (.ob (dI RN n5) (.cb (.br (jJ (aU (aM (f5 RN.toNat))) λi=>au L (du (aM (f5 RN.toNat)) i)) (.ii (.br (!decide (0<=RN)) (.ob (!decide (0<=RN)) (.ob (!decide (0<=RN)) (.ob (!decide (0<=RN)) (.cb (.br (jJ 2 (A L (cq [D x7,D x8] 0 1))) (.ret (D 7)) (.ret (D 0))))))) (.ret (D 7)))) (.next H7 (oA.L2 (I (RN+1)) Ua) [])))) (.obt (.obt (.brt (.obt (.obt (.obt (.cb (.br (jJ 2 (A L (cq [D x7,D x8] 0 1))) (.ret (D 7)) (.ret (D 0))))))))))|.L3 Rz wQ=>.br (decide (Rz<(n5:Int))) (.ob (dI Rz n5) (.cb (.br (jJ (aU (aM (f5 Rz.toNat))) λi=>au L (du (aM (f5 Rz.toNat)) i)) (.ii (.br (!decide (0<=Rz)) (.ob (!decide (0<=Rz)) (.ob (!decide (0<=Rz)) (.ob (!decide (0<=Rz)) (.cb (.br (jJ 2 (A L (cq [D x7,D x8] 0 1))) (.ret (D 7)) (.ret (D 0))))))) (.ret (D 7)))) (.next H7 (oA.L3 (I (Rz+1)) wQ) [])))) (.obt (.obt (.brt (.obt (.obt (.obt (.cb (.br (jJ 2 (A L (cq [D x7,D x8] 0 1))) (.ret (D 7)) (.ret (D 0))))))))))
def S6:RT oA:=dm (s0,f5,x7,x8) (.am n1 (.cb (.ii (.asm ((!!aw (n1:Int) 2 12)=true->n3<=9223372036854775807) (.br (!!aw (n1:Int) 2 12) (.ob (!!aw (n1:Int) 2 12) (.cb (.br (!aw (n3:Int) 2 12) (.ret (D 3)) (.cb (.obi (.br (!!ed n1 (A L f1) (-5000) 5000) (.ob (!!ed n1 (A L f1) (-5000) 5000) (.cb (.br (!ed n3 (A L f3) (-5000) 5000) (.ret (D 7)) (.cb (.obi (.br (!!jt n1 (A L f1)) (.ob (!!jt n1 (A L f1)) (.cb (.br (!jt n3 (A L f3)) (.ret (D 2)) (.am n5 (.am n1 (.obi (.br (!(n5:Int)!=(n1:Int)) (.ob (!(n5:Int)!=(n1:Int)) (.ob (!(n5:Int)!=(n1:Int)) (.am n5 (.enter H7 (oA.L0 0) [])))) (.ret (D 6))))))))) (.ret (D 2)))))))) (.ret (D 7)))))))) (.ret (D 3)))))))
theorem nh1:ig Ki u0 (ak7 s0 n1 f1 n3 f3 n5 f5 x7 x8) (asw s0 n1 f1 n3 f3 n5 f5 x7 x8) (S6 s0 n1 f1 n3 f3 n5 f5 x7 x8) (rq s0 n1 f1 n3 f3 n5 f5 x7 x8):=⟨cG,λs=>by cases s<;>exact cG⟩
def M1 (i:Nat):Bool:=wv (aU (aM (f5 i))) n3
def Pd (i:Nat):Bool:=jJ (aU (aM (f5 i))) λj=>au L (du (aM (f5 i)) j)
def WU:Bool:=jJ 2 (A L (cq [D x7,D x8] 0 1))
def sc:Int:=bif jl n5 (Pd f5) then 7 else bif WU x7 x8 then 7 else 0
def oP (n1:Nat) (f1:bk) (n3:Nat) (f3:bk) (n5:Nat) (f5:bk) (x7 x8:Int):Int :=
 bif !(aw (n1:Int) 2 12&&aw (n3:Int) 2 12) then 3 else bif !(ed n1 f1 (-5000) 5000&&ed n3 f3 (-5000) 5000) then 7 else bif !(jt n1 f1&&jt n3 f3) then 2 else bif(n5:Int)!=(n1:Int) then 6 else bif jl n5 (M1 n3 f5) then 6 else sc n5 f5 x7 x8
theorem Ou {QZ:Type} {Nx:QZ->V->Prop} {c d:Bool} {v r:V} {X:RT QZ} (M:(c&&d)=false->dc v=dc r) (N:(c&&d)=true->a6 Nx X r):a6 Nx (.br (!!c) (.ob (!!c) (.obc (.obt (.br (!d) (.ret v) X)))) (.ret v)) r:=by
 cases c<;>cases d
 ·exact E2 (λh=>by cases h) (λ_=>aA (M rfl))
 ·exact E2 (λh=>by cases h) (λ_=>aA (M rfl))
 ·exact E2 (λh=>aL h (aC (ak (E2 (λ_=>aA (M rfl)) (λk=>by cases k))))) (λk=>by cases k)
 ·exact E2 (λh=>aL h (aC (ak (E2 (λk=>by cases k) (λ_=>N rfl))))) (λk=>by cases k)
theorem orC (hn:n5<=9223372036854775807) (t:Int):Ev (rq s0 n1 f1 n3 f3 n5 f5 x7 x8) (.L3 0 t) (D (sc n5 f5 x7 x8)):=by
 refine BE hn (Pd f5) (P:=λx=>Ev (rq s0 n1 f1 n3 f3 n5 f5 x7 x8) (.L3 x t) (D (sc n5 f5 x7 x8))) (λi Qw hj next=>Ev.of rfl (mC Qw (jw Qw (aC (ak (E2 (λhb=>BK (BK (d5 (by rw[BH (MQ i)];rfl) (aA ?_)))) (λhb=>bb (next hb)))))))) (λhj=>Ev.of rfl (lr (ak (ak (kr (ak (ak (ak (aC (ak (E2 (λhb=>aA ?_) (λhb=>aA ?_))))))))))))
 ·unfold sc;rw[eF i Qw hb];rfl
 ·unfold sc;rw[fI hj,show WU x7 x8=true from hb];rfl
 ·unfold sc;rw[fI hj,show WU x7 x8=false from hb];rfl
theorem if8 (hn:n5<=9223372036854775807):Ev (rq s0 n1 f1 n3 f3 n5 f5 x7 x8) (.L0 0) (D (bif jl n5 (M1 n3 f5) then 6 else sc n5 f5 x7 x8)):=by
 refine BE hn (M1 n3 f5) (P:=λx=>Ev (rq s0 n1 f1 n3 f3 n5 f5 x7 x8) (.L0 x) (D (bif jl n5 (M1 n3 f5) then 6 else sc n5 f5 x7 x8))) (λi Qw hj next=>Ev.of rfl (mC Qw (jw Qw (aC (ak (E2 (λhb=>c9 (BH (MQ i)) (aA ?_)) (λhb=>bb (next hb)))))))) (λhj=>Ev.of rfl (lr (r8 (FW λ_=>aS ?_))))
 ·rw[eF i Qw hb];rfl
 ·rw[fI hj];exact orC s0 n1 f1 n3 f3 n5 f5 x7 x8 hn _
theorem hts:a6 (Ev (rq s0 n1 f1 n3 f3 n5 f5 x7 x8)) (S6 s0 n1 f1 n3 f3 n5 f5 x7 x8) (D (oP n1 f1 n3 f3 n5 f5 x7 x8)):=by
 unfold oP;refine FW λ_=>aC (ak (BK (BK (FW λ_=>Ou (λh=>by rw[h];rfl) (λh=>?_)))));rw[h];refine aC (ak (BK (Ou (λh=>by rw[show(ed n1 f1 (-5000) 5000&&ed n3 f3 (-5000) 5000)=false from h];rfl) (λh=>?_))));rw[show(ed n1 f1 (-5000) 5000&&ed n3 f3 (-5000) 5000)=true from h];refine aC (ak (BK (Ou (λh=>by rw[show(jt n1 f1&&jt n3 f3)=false from h];rfl) (λh=>?_))));rw[show(jt n1 f1&&jt n3 f3)=true from h];refine FW λ_=>FW λ_=>BK (E2 (λh=>aL h (aL h (cg λhn=>aS ?_))) (λh=>aA ?_))
 ·rw[Ke h];exact if8 s0 n1 f1 n3 f3 n5 f5 x7 x8 hn
 ·rw[ER h];rfl
theorem acL:a6 (Ev (rq s0 n1 f1 n3 f3 n5 f5 x7 x8)) (S6 s0 n1 f1 n3 f3 n5 f5 x7 x8) (D (oP n1 (A L f1) n3 (A L f3) n5 (A [.sl L] f5) x7 x8)):=hts s0 n1 f1 n3 f3 n5 f5 x7 x8
def hab:aD:=cK [.agg ao] (λ_=>True) λ|[.agg [.str s0,.sl n1 f1,.sl n3 f3,.sl n5 f5,.int _ x7,.int _ x8]]=>D (oP n1 f1 n3 f3 n5 f5 x7 x8)|_=>.any
theorem aeI:c7 hab 111:=bo aaW λ_ hp=>qV (nh1 ..) (acL _ _ _ _ _ _ _ _ _)
def Nv:bm:=(111,.con hab)::Ki
theorem ybh:aV Tryz.prog BN D7 Nv:=.con aeI (aaW)
def h0':RT Empty:=dm (s0,UD,Zb,UE) (.cb (.obi (.br (aw x3 1 1000000) (.ob (aw x3 1 1000000) (.cb (.ii (.br (aw O 1 5000000) (.ob (aw O 1 5000000) (.ob (aw O 1 5000000) (.cb (.obi (.br (aw x5 0 O) (.ob (aw x5 0 O) (.cb (.obi (.br (aw x6 0 1000) (.ob (aw x6 0 1000) (.cb (.obi (.br (gn x7 x8 0 1000) (.ob (gn x7 x8 0 1000) (.cb (.obi (.br (gn x9 Ql 0 1000) (.ob (gn x9 Ql 0 1000) (.cb (.obi (.br (aw Qn 1 200000) (.ob (aw Qn 1 200000) (.cb (.obi (.br (aw Qp 0 1000) (.ob (aw Qp 0 1000) (.cb (.am Rn (.cb (.br (!aw S 0 (I ((Rn:Int)-1))) (.ret (D 4)) (.cb (.br (!aw Z 1 3) (.ret (D 2)) (.br (!aw RI 0 3600) (.ret (D 7)) (.ii (.obi (.br (bif Z==1 then decide (0<RI) else false) (.ret (D 2)) (.ret (D 0))))))))))))) (.am Rn (.cb (.br (!aw S 0 (I ((Rn:Int)-1))) (.ret (D 4)) (.cb (.br (!aw Z 1 3) (.ret (D 2)) (.ret (D 7))))))))))) (.am Rn (.cb (.br (!aw S 0 (I ((Rn:Int)-1))) (.ret (D 4)) (.cb (.br (!aw Z 1 3) (.ret (D 2)) (.ret (D 7))))))))))) (.am Rn (.cb (.br (!aw S 0 (I ((Rn:Int)-1))) (.ret (D 4)) (.cb (.br (!aw Z 1 3) (.ret (D 2)) (.ret (D 7))))))))))) (.am Rn (.cb (.br (!aw S 0 (I ((Rn:Int)-1))) (.ret (D 4)) (.cb (.br (!aw Z 1 3) (.ret (D 2)) (.ret (D 7))))))))))) (.am Rn (.cb (.br (!aw S 0 (I ((Rn:Int)-1))) (.ret (D 4)) (.cb (.br (!aw Z 1 3) (.ret (D 2)) (.ret (D 7))))))))))) (.am Rn (.cb (.br (!aw S 0 (I ((Rn:Int)-1))) (.ret (D 4)) (.cb (.br (!aw Z 1 3) (.ret (D 2)) (.ret (D 7)))))))))))) (.am Rn (.cb (.br (!aw S 0 (I ((Rn:Int)-1))) (.ret (D 4)) (.cb (.br (!aw Z 1 3) (.ret (D 2)) (.ret (D 7))))))))))) (.am Rn (.cb (.br (!aw S 0 (I ((Rn:Int)-1))) (.ret (D 4)) (.cb (.br (!aw Z 1 3) (.ret (D 2)) (.ret (D 7))))))))))
theorem ig3:dZ d7 (ba JJ Nv u0 afb [V.agg [V.str s0,D S,D Z,D x3,D O,D x5,D x6,D x7,D x8,D x9,D Ql,D Qn,D Qp,D RI],V.pd [V.sl Rn (A ao UD),V.sl Zb (A al UE)]]) (h0' s0 S Z x3 O x5 x6 x7 x8 x9 Ql Qn Qp RI Rn UD Zb UE):=cG
def fzb17:Int:=bif aw x3 1 1000000 then bif aw O 1 5000000 then bif aw x5 0 O then bif aw x6 0 1000 then bif gn x7 x8 0 1000 then bif gn x9 Ql 0 1000 then bif aw Qn 1 200000 then bif aw Qp 0 1000 then bif !aw S 0 (I ((Rn:Int)-1)) then 4 else bif !aw Z 1 3 then 2 else bif !aw RI 0 3600 then 7 else bif bif Z==1 then decide (0<RI) else false then 2 else 0 else bif !aw S 0 (I ((Rn:Int)-1)) then 4 else bif !aw Z 1 3 then 2 else 7 else bif !aw S 0 (I ((Rn:Int)-1)) then 4 else bif !aw Z 1 3 then 2 else 7 else bif !aw S 0 (I ((Rn:Int)-1)) then 4 else bif !aw Z 1 3 then 2 else 7 else bif !aw S 0 (I ((Rn:Int)-1)) then 4 else bif !aw Z 1 3 then 2 else 7 else bif !aw S 0 (I ((Rn:Int)-1)) then 4 else bif !aw Z 1 3 then 2 else 7 else bif !aw S 0 (I ((Rn:Int)-1)) then 4 else bif !aw Z 1 3 then 2 else 7 else bif !aw S 0 (I ((Rn:Int)-1)) then 4 else bif !aw Z 1 3 then 2 else 7 else bif !aw S 0 (I ((Rn:Int)-1)) then 4 else bif !aw Z 1 3 then 2 else 7
def F1 (a k num At:Bool):Int:=bif !a then 4 else bif !k then 2 else bif !num then 7 else bif At then 2 else 0
def TR:Bool:=bif Z==1 then decide (0<RI) else false
def iza22:Bool:=aw x3 1 1000000&&(aw O 1 5000000&&(aw x5 0 O&&(aw x6 0 1000&&(gn x7 x8 0 1000&&(gn x9 Ql 0 1000&&(aw Qn 1 200000&&(aw Qp 0 1000&&(aw RI 0 3600))))))))
def rR (S Z x3 O x5 x6 x7 x8 x9 Ql Qn Qp RI:Int) (Rn:Nat):Int:=F1 (aw S 0 (I ((Rn:Int)-1))) (aw Z 1 3) (aw x3 1 1000000&&(aw O 1 5000000&&(aw x5 0 O&&(aw x6 0 1000&&(gn x7 x8 0 1000&&(gn x9 Ql 0 1000&&(aw Qn 1 200000&&(aw Qp 0 1000&&(aw RI 0 3600))))))))) (TR Z RI)
section
variable {QZ:Type} {Nx:QZ->V->Prop} {r:V} {X R6:RT QZ} {c:Bool}
section
variable (M:c=false->a6 Nx R6 r) (N:c=true->a6 Nx X r)
include M N
theorem rE:a6 Nx (.br c (.ob c X) R6) r:=E2 (λh=>aL h (N h)) M
theorem aes:a6 Nx (.br c (.ob c (.ob c X)) R6) r:=E2 (λh=>aL h (aL h (N h))) M
end
theorem J1 {a k At:Bool} {p:Prop}:a6 Nx (.asm p (.obc (.obt (.br (!a) (.ret (D 4)) (.obc (.obt (.br (!k) (.ret (D 2)) (.ret (D 7)))))))) ) (D (F1 a k false At)) :=
 FW λ_=>aC (ak (E2 (λh=>aA (by rw[Ke h];rfl)) λh=>aC (ak (E2 (λN=>aA (by rw[ER h,Ke N];rfl)) λN=>aA (by rw[ER h,ER N];rfl)))))
end
theorem ah3:a6 dK (h0' s0 S Z x3 O x5 x6 x7 x8 x9 Ql Qn Qp RI Rn UD Zb UE) (D (rR S Z x3 O x5 x6 x7 x8 x9 Ql Qn Qp RI Rn)):=by
 unfold rR;refine aC (ak ?_)
 repeat refine BK ?_
 refine rE (λh=>by rw[h];exact J1) (λh=>?_);rw[h];refine aC (ak ?_)
 repeat refine BK ?_
 refine aes (λh=>by rw[h];exact J1) (λh=>?_);rw[h];refine aC (ak ?_)
 repeat refine BK ?_
 refine rE (λh=>by rw[h];exact J1) (λh=>?_);rw[h];refine aC (ak ?_)
 repeat refine BK ?_
 refine rE (λh=>by rw[h];exact J1) (λh=>?_);rw[h];refine aC (ak ?_)
 repeat refine BK ?_
 refine rE (λh=>by rw[h];exact J1) (λh=>?_);rw[h];refine aC (ak ?_)
 repeat refine BK ?_
 refine rE (λh=>by rw[h];exact J1) (λh=>?_);rw[h];refine aC (ak ?_)
 repeat refine BK ?_
 refine rE (λh=>by rw[h];exact J1) (λh=>?_);rw[h];refine aC (ak ?_)
 repeat refine BK ?_
 refine rE (λh=>by rw[h];exact J1) (λh=>?_);rw[h];refine aC (ak ?_);exact FW λ_=>aC (ak (E2 (λh=>aA (by rw[Ke h];rfl)) λh=>aC (ak (E2 (λN=>aA (by rw[ER h,Ke N];rfl)) λN=>E2 (λh3=>aA (by rw[ER h,ER N,Ke h3];rfl)) λh3=>BK (BK (BK (E2 (λh4=>aA (by rw[ER h,ER N,ER h3,show TR Z RI=true from h4];rfl)) λh4=>aA (by rw[ER h,ER N,ER h3,show TR Z RI=false from h4];rfl))))))))
def abx:aD:=cK [.agg al,.pd [.sl ao,.sl al]] (λ_=>True) λ|[.agg [.str s0,.int _ S,.int _ Z,.int _ x3,.int _ O,.int _ x5,.int _ x6,.int _ x7,.int _ x8,.int _ x9,.int _ Ql,.int _ Qn,.int _ Qp,.int _ RI],.pd [.sl Rn UD,.sl Zb UE]]=>D (rR S Z x3 O x5 x6 x7 x8 x9 Ql Qn Qp RI Rn)|_=>.any
theorem acP:c7 abx 114:=bo ybh λ_ hp=>er (ig3 ..) (ah3 _ _ _ _ _ _ _ _ _ _ _ _ _ _ _ _ _ _)
end
end Go.Dx
