/- Part 4 of a proof. No conditions. -/
import Derived.Test.YthpfocnocgnhjaaGreatDoorLt3
import Derived.Laws.StructEq
import Derived.ChangeKeysEq
import Derived.Test.YthpfocnocgnhjaaGreatDoorChecked
import Derived.IntWalk
import Derived.WalkKit
import Derived.Ground.NamesProg
import Derived.Shelf.Strings.SlTrimAscii
import Derived.Lib.ConvBytes
import Derived.Lib.Walk
set_option maxRecDepth 100000
set_option linter.unusedVariables false
set_option linter.unusedSimpArgs false
theorem bb {p:Prop} (h:p:=by kernel_rfl):p:=h
theorem bF {p q:Prop} (h:p:=by kernel_rfl) (k:q:=by kernel_rfl):p∧q:=⟨h,k⟩
namespace Go.Dx
open Go.Sx
inductive ck (J:Type) where
 |res (v:V)
 |head (j:J) (e:bD) (h:List O) (g:Option Ex)
structure Lp (J:Type) where
 fr:Nat×Nat
 body:Dw
 k:Ex->bD->List O->Option Ex->T (ck J)
section
variable {α β:Type}
def fm:T α->(α->T β)->T β
 |.ret a,f=>f a
 |.br b x y,f=>.br b (fm x f) (fm y f)
 |.ob b x,f=>.ob b (fm x f)
 |.obi c d x,f=>.obi c d (fm x f)
 |.obp p x,f=>.obp p (fm x f)
 |.obq a b x,f=>.obq a b (fm x f)
 |.fail n,_=>.fail n
 |.loop fr b e h g k,f=>.loop fr b e h g fun x e h g=>fm (k x e h g) f
 |.all t,f=>.all fun l=>fm (t l) f
 |.und x y,f=>.und (fm x f) (fm y f)
 |.asm p x,f=>.asm p (fm x f)
theorem yaC {LP:eu} {Q:β->Prop} (f:α->T β):∀ t:T α,bu LP (fm t f) Q=bu LP t fun a=>bu LP (f a) Q:=by
 intro t
 induction t with
 |ret a=>rfl
 |br b x y hx hy=>simp only[fm,bu,hx,hy]
 |ob b x hx=>simp only[fm,bu,hx]
 |obi c d x hx=>simp only[fm,bu,hx]
 |obp p x hx=>simp only[fm,bu,hx]
 |obq a b x hx=>simp only[fm,bu,hx]
 |fail n=>rfl
 |loop fr b e h g k hk=>simp only[fm,bu,hk]
 |all t ht=>simp only[fm,bu,ht]
 |und x y hx hy=>simp only[fm,bu,hx,hy]
 |asm p x hx=>simp only[fm,bu,hx]
theorem j4 {LP:eu} (hLP:∀ fr b e h g (P P':Ex->bD->List O->Option Ex->Prop),(∀ x e h g,P x e h g->P' x e h g)->LP fr b e h g P->LP fr b e h g P') {Q Q':α->Prop} (hQ:∀ a,Q a->Q' a):∀ t:T α,bu LP t Q->bu LP t Q':=by
 intro t
 induction t with
 |ret a=>exact hQ a
 |br b x y hx hy=>exact fun h=>⟨fun e=>hx (h.1 e),fun e=>hy (h.2 e)⟩
 |ob b x hx=>exact fun h=>⟨h.1,hx h.2⟩
 |obi c d x hx=>exact fun h=>⟨h.1,hx h.2⟩
 |obp p x hx=>exact fun h=>⟨h.1,hx h.2⟩
 |obq a b x hx=>exact fun h=>⟨h.1,hx h.2⟩
 |fail n=>exact id
 |loop fr b e h g k hk=>exact fun hs=>hLP _ _ _ _ _ _ _ (fun x e h g=>hk x e h g) hs
 |all t ht=>exact fun h l=>ht l (h l)
 |und x y hx hy=>exact fun h=>⟨hx h.1,hy h.2⟩
 |asm p x hx=>exact fun h hp=>hx (h hp)
theorem gp (w0:World) (S:CQ):∀ fr b e h g (P P':Ex->bD->List O->Option Ex->Prop),(∀ x e h g,P x e h g->P' x e h g)->cV w0 S fr b e h g P->cV w0 S fr b e h g P':=by
 intro fr b e h g P P' hP
 cases b with
 |s body=>exact fun hl N nbS ν nV nS sl lh QA h1 h2 h3 h4=>hl N nbS ν nV nS sl lh QA h1 h2 h3 fun ex e' h' ν' sl' lh' nV' nS' g0 g1 g2 g3=>h4 ex e' h' ν' sl' lh' nV' nS' g0 g1 g2 (hP _ _ _ _ g3)
 |i body rd=>exact fun hl N N0 ν nV nS sl sl0 lh QA h1 h2 h3 h4 h5 h6 h7 h8=>hl N N0 ν nV nS sl sl0 lh QA h1 h2 h3 h4 h5 h6 h7 fun ex e' h' g' ν' sl' lh' nV' nS' g0 g1 g2 g3=>h8 ex e' h' g' ν' sl' lh' nV' nS' g0 g1 g2 (hP _ _ _ _ g3)
end
mutual
def kn (ρ:ni):V->V->V
 |.any,_=>.any
 |.int _ _,.int k a=>.int k a
 |.bool _,.bool a=>.bool a
 |.bool _,.kb a=>.bool a
 |.kb _,.kb a=>.kb a
 |.str _,.str a=>.str a
 |.agg ys,.agg xs=>.agg (kL ρ ys xs)
 |.tup ys,.tup xs=>.tup (kL ρ ys xs)
 |.fn _ us vs,.fn f xs ys=>.fn f (kL ρ us xs) (kL ρ vs ys)
 |.sl _ _,.sl n f=>.sl n f
 |.pd _,.pd cs=>.pd cs
 | .pl k1 _,.pl k o=>match dB ρ k1 with
   |some (some k')=>cond (Nat.beq k' k) (.pl k1 o) .any
   |_=>.any
 | .pe k1 _ _,.pe k i j=>match dB ρ k1 with
   |some (some k')=>cond (Nat.beq k' k) (.pe k1 i j) .any
   |_=>.any
 | .ss k1 _ _ _,.ss k o n c=>match dB ρ k1 with
   |some (some k')=>cond (Nat.beq k' k) (.ss k1 o n c) .any
   |_=>.any
 | .gs k1 _,.gs k n=>match dB ρ k1 with
   |some (some k')=>cond (Nat.beq k' k) (.gs k1 n) .any
   |_=>.any
 | .gs k1 _,.ns=>match dB ρ k1 with
   |some none=>.gs k1 0
   |_=>.any
 |.ns,.ns=>.ns
 |.np,.np=>.np
 |.yl _,.yl l=>.yl l
 | .go k1 _ _,.go k o n=>match dB ρ k1 with
   |some (some k')=>cond (Nat.beq k' k) (.go k1 o n) .any
   |_=>.any
 |_,_=>.any
def kL (ρ:ni):List V->List V->List V
 |[],[]=>[]
 |y::ys,x::xs=>kn ρ y x::kL ρ ys xs
 |[],_::_=>[.any]
 |_::_,[]=>[]
end
section
variable {ρ:ni}
theorem MI {k k':Nat} {x y:V} (hb:cond (Nat.beq k' k) x V.any=y) (hy:y≠V.any):k'=k/\x=y:=by
 cases hc:Nat.beq k' k with
 |false=>rw[hc]at hb;exact(hy hb.symm).elim
 |true=>rw[hc]at hb;exact⟨aax hc,hb⟩
mutual
theorem IJ:∀ (t v:V),kn ρ t v=t->cw ρ v t
 |.any,v,_=>by cases v<;>simp[cw]
 |.int k n,v,h=>by cases v<;>simp only[kn]at h<;>cases h<;>simp[cw]
 |.bool b,v,h=>by cases v<;>simp only[kn]at h<;>cases h<;>simp[cw]
 |.kb b,v,h=>by cases v<;>simp only[kn]at h<;>cases h<;>simp[cw]
 |.str b,v,h=>by cases v<;>simp only[kn]at h<;>cases h<;>simp[cw]
 | .agg ys,v,h=>by
   cases v<;>simp only[kn]at h<;>first|(cases h;done)|skip
   simp only [V.agg.injEq]at h;simp only[cw];exact fK ys _ h
 | .tup ys,v,h=>by
   cases v<;>simp only[kn]at h<;>first|(cases h;done)|skip
   simp only [V.tup.injEq]at h;simp only[cw];exact fK ys _ h
 | .fn f us vs,v,h=>by
   cases v<;>simp only[kn]at h<;>first|(cases h;done)|skip
   simp only [V.fn.injEq]at h;simp only[cw];exact⟨h.1,fK us _ h.2.1,fK vs _ h.2.2⟩
 |.sl n f,v,h=>by cases v<;>simp only[kn]at h<;>cases h<;>simp[cw]
 |.pd cs,v,h=>by cases v<;>simp only[kn]at h<;>cases h<;>simp[cw]
 | .pl k1 o1,v,h=>by
   cases v<;>simp only[kn]at h<;>first|(cases h;done)|skip
   split at h
   ·rename_i k' hk
    obtain ⟨rfl,e⟩:=MI h (by simp)
    simp only [V.pl.injEq,agn]at e
    simp only [cw];exact⟨hk,e⟩
   ·cases h
 | .pe k1 i1 j1,v,h=>by
   cases v<;>simp only[kn]at h<;>first|(cases h;done)|skip
   split at h
   ·rename_i k' hk
    obtain ⟨rfl,e⟩:=MI h (by simp)
    simp only [V.pe.injEq,agn]at e
    simp only [cw];exact⟨hk,e⟩
   ·cases h
 | .ss k1 i1 j1 c1,v,h=>by
   cases v<;>simp only[kn]at h<;>first|(cases h;done)|skip
   split at h
   ·rename_i k' hk
    obtain ⟨rfl,e⟩:=MI h (by simp)
    simp only [V.ss.injEq,agn]at e
    simp only [cw];exact⟨hk,e⟩
   ·cases h
 | .gs k1 n1,v,h=>by
   cases v<;>simp only[kn]at h<;>first|(cases h;done)|skip
   ·split at h
    ·rename_i k' hk
     obtain ⟨rfl,e⟩:=MI h (by simp)
     simp only [V.gs.injEq,agn]at e
     simp only [cw];exact⟨hk,e⟩
    ·cases h
   ·split at h
    ·rename_i hk
     simp only [V.gs.injEq,agn]at h
     simp only [cw];exact⟨hk,h.symm⟩
    ·cases h
 |.ns,v,h=>by cases v<;>simp only[kn]at h<;>cases h<;>simp[cw]
 |.np,v,h=>by cases v<;>simp only[kn]at h<;>cases h<;>simp[cw]
 |.yl l,v,h=>by cases v<;>simp only[kn]at h<;>cases h<;>simp[cw]
 |.gd b x,v,h=>by cases v<;>simp only[kn]at h<;>cases h
 | .go k1 i1 j1,v,h=>by
   cases v<;>simp only[kn]at h<;>first|(cases h;done)|skip
   split at h
   ·rename_i k' hk
    obtain ⟨rfl,e⟩:=MI h (by simp)
    simp only [V.go.injEq,agn]at e
    simp only [cw];exact⟨hk,e⟩
   ·cases h
 |.sq n m f,v,h=>by cases v<;>simp only[kn]at h<;>cases h
theorem fK:∀ (ts vs:List V),kL ρ ts vs=ts->eH ρ vs ts
 |[],[],_=>by simp[eH]
 | y::ys,x::xs,h=>by
   simp only [kL,abA]at h
   simp only [eH];exact⟨IJ y x h.1,fK ys xs h.2⟩
 |[],_::_,h=>by simp[kL]at h
 |_::_,[],h=>by simp[kL]at h
end
mutual
theorem TS:∀ (v t:V),cw [] v t->cw ρ v t
 |.int ..,t,h=>by cases t<;>simp only[cw]at h ⊢<;>exact h
 |.bool _,t,h=>by cases t<;>simp only[cw]at h ⊢<;>exact h
 |.kb _,t,h=>by cases t<;>simp only[cw]at h ⊢<;>exact h
 |.str _,t,h=>by cases t<;>simp only[cw]at h ⊢<;>exact h
 |.agg xs,t,h=>by cases t<;>simp only[cw]at h ⊢<;>first|exact jJ _ _ h|exact h
 |.tup xs,t,h=>by cases t<;>simp only[cw]at h ⊢<;>first|exact jJ _ _ h|exact h
 |.fn f xs ys,t,h=>by cases t<;>simp only[cw]at h ⊢<;>first|exact⟨h.1,jJ _ _ h.2.1,jJ _ _ h.2.2⟩|exact h
 |.sl ..,t,h=>by cases t<;>simp only[cw]at h ⊢<;>exact h
 |.pd ..,t,h=>by cases t<;>simp only[cw]at h ⊢<;>exact h
 |.pl ..,t,h=>by cases t<;>simp only[cw]at h ⊢<;>first|exact h|(simp[dB,fM]at h)
 |.pe ..,t,h=>by cases t<;>simp only[cw]at h ⊢<;>first|exact h|(simp[dB,fM]at h)
 |.ss ..,t,h=>by cases t<;>simp only[cw]at h ⊢<;>first|exact h|(simp[dB,fM]at h)
 |.gs ..,t,h=>by cases t<;>simp only[cw]at h ⊢<;>first|exact h|(simp[dB,fM]at h)
 |.ns,t,h=>by cases t<;>simp only[cw]at h ⊢<;>first|exact h|(simp[dB,fM]at h)
 |.np,t,h=>by cases t<;>simp only[cw]at h ⊢<;>exact h
 |.any,t,h=>by cases t<;>simp only[cw]at h ⊢<;>exact h
 |.gd ..,t,h=>by cases t<;>simp only[cw]at h ⊢<;>exact h
 |.yl _,t,h=>by cases t<;>simp only[cw]at h ⊢<;>exact h
 |.go ..,t,h=>by cases t<;>simp only[cw]at h ⊢<;>first|exact h|(simp[dB,fM]at h)
 |.sq ..,t,h=>by cases t<;>simp only[cw]at h ⊢<;>exact h
theorem jJ:∀ (vs ts:List V),eH [] vs ts->eH ρ vs ts
 |[],[],_=>by simp[eH]
 |v::vs,t::ts,h=>by simp only[eH]at h ⊢;exact⟨TS v t h.1,jJ vs ts h.2⟩
 |[],_::_,h=>by simp[eH]at h
 |_::_,[],h=>by simp[eH]at h
end
end
def wz (ts:List Ty) (n:Nat) (f:aL):Prop:=∀ i,i<n->lX (bI ts) (al ts (f i))=true/\eH [] (f i) (al ts (f i))
structure VF where
 k:Nat
 ts:List Ty
 n:Nat
 f:Nat->List V
 ok:wz ts n f
theorem Nf {t:Ty} (h:bU t=true) (v:V):(cM t v).one=true:=by cases t<;>first|(simp[bU]at h;done)|(simp only[cM];rfl)
theorem yO:∀ {ts:List Ty},ts.all bU=true->∀ vs,(al ts vs).all V.one=true
 |[],_,_=>by simp[al]
 | t::ts,h,vs=>by
   simp only [adT,aaw]at h
   simp only [al,adT,aaw];exact⟨Nf h.1 _,yO h.2 _⟩
theorem jI {ts:List Ty} (h:ts.all bU=true) (vs:List V):lX (bI ts) (al ts vs)=true:=GG (by rw[sV,bG]) (yO h vs)
theorem LC {t:Ty} (h:bU t=true) (v:V):cw [] (cM t v) (cM t v):=by cases t<;>first|(simp[bU]at h;done)|(simp only[cM,cw];try simp)
theorem tH:∀ {ts:List Ty},ts.all bU=true->∀ vs,eH [] (al ts vs) (al ts vs)
 |[],_,_=>by simp[al,eH]
 | t::ts,h,vs=>by
   simp only [adT,aaw]at h
   simp only [al,eH];exact⟨LC h.1 _,tH h.2 _⟩
theorem aC {ts:List Ty} (h:ts.all bU=true) (n:Nat) (f:aL):wz ts n (aa ts f):=fun i _=>by
 simp only [aa,dP]
 exact ⟨jI h _,tH h _⟩
theorem eN {ts:List Ty} {n m:Nat} {f g:aL} (h1:wz ts n f) (h2:wz ts m g):wz ts (n+m) (bh n f g):=fun i hi=>by
 unfold bh
 by_cases hlt:i<n
 ·have hb:Nat.blt i n=true:=adr hlt
  rw [hb];exact h1 i hlt
 ·have hb:Nat.blt i n=false:=by
   cases hb:Nat.blt i n with
   |false=>rfl
   |true=>have:=aaF hb;omega
  rw [hb];exact h2 _ (by omega)
theorem dN {ts:List Ty} (h:ts.all bU=true) (n:Nat) {ds:List V} (hf:kL [] (al ts ds) ds=al ts ds):wz ts n fun _=>ds:=fun i _=>⟨jI h _,fK _ _ hf⟩
theorem mB {ts:List Ty} (h:ts.all bU=true) {n j:Nat} {ds:List V} {f:aL} (h1:wz ts n f) (hf:kL [] (al ts ds) ds=al ts ds):wz ts n fun i=>cond (Nat.beq i j) ds (f i):=fun i hi=>by
 show lX _ (al ts (cond (Nat.beq i j) ds (f i)))=true/\eH [] (cond (Nat.beq i j) ds (f i)) (al ts (cond (Nat.beq i j) ds (f i)))
 cases Nat.beq i j with
 |true=>exact⟨jI h _,fK _ _ hf⟩
 |false=>exact h1 i hi
def Fl (ts:List Ty) (f:aL):Nat->List (List V)
 |0=>[]
 |n+1=>kL [] (al ts (f n)) (f n)::Fl ts f n
def Aw (ts:List Ty) (f:aL):Nat->List (List V)
 |0=>[]
 |n+1=>al ts (f n)::Aw ts f n
theorem ybg {ts:List Ty} (h:ts.all bU=true) {f:aL}:∀ {n:Nat},Fl ts f n=Aw ts f n->wz ts n f
 |0,_=>fun i hi=>by omega
 | n+1,hf=>fun i hi=>by
   simp only [Fl,Aw,abA]at hf
   by_cases e:i=n
   ·subst e;exact⟨jI h _,fK _ _ hf.1⟩
   ·exact ybg h hf.2 i (by omega)
def Cm (ρ:ni) (e:bD):bD->bD
 |[]=>[]
 |(s,t)::l=>(s,kn ρ t (iW e s))::Cm ρ e l
theorem Kd {ρ:ni} {e:bD}:∀ {e1:bD},Cm ρ e e1=e1->u3 ρ e e1
 |[],_=>trivial
 | (s,t)::l,h=>by
   simp only [Cm,abA,Prod.mk.injEq,agn]at h
   exact ⟨IJ _ _ h.1,Kd h.2⟩
def xN:List VF->Nat->Option VF
 |[],_=>none
 |v::l,k=>cond (Nat.beq k v.k) (some v) (xN l k)
def Sw (ρ:ni) (h:List O) (vf:List VF) (k:Nat):O->O
 | .cells cs ty=>match dB ρ k with
   | some (some j)=>match fM h j with
     |some (.cells ds ty')=>.cells (kL ρ cs ds) ty'
     |_=>.dead
   |_=>.dead
 | .gl e n f ty=>match dB ρ k with
   |some none=>.gl e 0 f ty
   | some (some j)=>match fM h j with
     | some (.gl e' m g ty')=>match xN vf k with
       |some v=>.gl e' m (aa v.ts g) ty'
       |none=>.dead
     |_=>.dead
   |none=>.dead
 |.dead=>.hid
 |.hid=>.hid
def Ch (ρ:ni) (h:List O) (vf:List VF):Nat->List O->List O
 |_,[]=>[]
 |k,o::l=>Sw ρ h vf k o::Ch ρ h vf (k+1) l
def pC (ρ:ni) (h:List O):List VF->List (Nat×Nat×(Nat->List V))
 |[]=>[]
 | v :: l=>(match dB ρ v.k with
   | some (some j)=>match fM h j with
     |some (.gl e m g _)=>(e,m,g)
     |_=>(0,0,fun _=>[])
   |_=>(0,0,fun _=>[]))::pC ρ h l
def pz:List VF->List (Nat×Nat×(Nat->List V))
 |[]=>[]
 |v::l=>(bI v.ts,v.n,v.f)::pz l
theorem Dn {ρ:ni} {h:List O} {k:Nat} {v:VF}:∀ {vf:List VF},xN vf k=some v->pC ρ h vf=pz vf->v.k=k/\(match dB ρ v.k with
 | some (some j)=>match fM h j with
   |some (.gl e m g _)=>(e,m,g)
   |_=>(0,0,fun _=>[])
 |_=>(0,0,fun _=>[]))=(bI v.ts,v.n,v.f)
 |[],h1,_=>by cases h1
 | x::l,h1,h2=>by
   simp only [pC,pz,abA]at h2
   simp only [xN]at h1
   cases hb:Nat.beq k x.k with
   |true=>rw[hb]at h1;cases h1;exact⟨(aax hb).symm,h2.1⟩
   |false=>rw[hb]at h1;exact Dn h1 h2.2
theorem W4 {ρ:ni} {h:List O} {vf:List VF} {k:Nat} {o:O} (hf:Sw ρ h vf k o=o) (hg:pC ρ h vf=pz vf):Ey ρ h k o:=by
 cases o with
 | cells cs ty =>
   simp only [Sw]at hf
   split at hf
   ·rename_i j hj
    split at hf
    ·rename_i ds ty' hn
     simp only [O.cells.injEq]at hf
     exact ⟨j,ds,hj,by rw[hn,hf.2],fK _ _ hf.1⟩
    ·cases hf
   ·cases hf
 | gl e n f ty =>
   simp only [Sw]at hf
   split at hf
   ·rename_i hj
    simp only [O.gl.injEq,agn,aoW]at hf
    exact .inl ⟨hj,hf.symm⟩
   ·rename_i j hj
    split at hf
    ·rename_i e' m g ty' hn
     split at hf
     ·rename_i v hv
      obtain ⟨rfl,h2⟩:=Dn hv hg
      rw [hj]at h2
      simp only [hn,Prod.mk.injEq]at h2
      simp only [O.gl.injEq]at hf
      obtain ⟨rfl,rfl,rfl,rfl⟩:=hf
      obtain ⟨h3,h4,h5⟩:=h2
      refine .inr ⟨j,m,g,hj,hn,aaS _,fun i hi=>?_⟩
      have:=v.ok i (by rw[← h4];exact hi)
      rw [← h5,← h3]at this
      exact ⟨this.1,jJ _ _ this.2⟩
     ·cases hf
    ·cases hf
   ·cases hf
 |dead=>simp only[Sw]at hf;cases hf
 |hid=>trivial
theorem IW {ρ:ni} {h:List O} {vf:List VF} (hg:pC ρ h vf=pz vf):∀ {l:List O} {k:Nat},Ch ρ h vf k l=l->uV ρ h k l
 |[],_,_=>trivial
 | o::l,k,hf=>by
   simp only [Ch,abA]at hf
   exact ⟨W4 hf.1 hg,IW hg hf.2⟩
def ye (ρ:ni) (nb:Nat) (h1:List O):Bool:=Nat.beq (bI ρ) (bI h1)&&(FZ ρ&&RI ρ nb)
theorem uN (w0:World) {ρ:ni} {nb:Nat} {e e1:bD} {h h1:List O} {vf:List VF} (h0:ye ρ nb h1=true) (he:Cm ρ e e1=e1) (hh:Ch ρ h vf 0 h1=h1) (hg:pC ρ h vf=pz vf):j7 w0 nb e h e1 h1:=by
 unfold ye at h0
 simp only [aaw]at h0
 exact j7.ren w0 ρ h0.1 h0.2.1 h0.2.2 (Kd he) (IW hg hh)
def frR (zs:List VF) (v v':V):Prop:=v'=v∨∃ k n z,v=.gs k n/\z∈zs/\z.k=k/\n<=z.n/\v'=.sl n (aa z.ts z.f)
def Zl (zs:List VF):List V->List V->Prop
 |[],[]=>True
 |a::l,b::m=>frR zs a b/\Zl zs l m
 |_,_=>False
structure FR (zs:List VF) where
 k:Nat
 n:Nat
 f:Nat->List V
 g:Nat->List V
 ok:∀ i,i<n->Zl zs (f i) (g i)
section
variable {zs:List VF}
def Ls:List (FR zs)->Nat->Option (FR zs)
 |[],_=>none
 |v::l,k=>cond (Nat.beq k v.k) (some v) (Ls l k)
def aeY (fr:List (FR zs)) (k:Nat) (o:O):O:=match xN zs k with
 |some _=>.hid
 | none=>match o with
   | .gl e n f ty=>match Ls fr k with
     |some r=>.gl e n r.g ty
     |none=>.gl e n f ty
   |o=>o
def frzH (fr:List (FR zs)):Nat->List O->List O
 |_,[]=>[]
 |k,o::l=>aeY fr k o::frzH fr (k+1) l
def VQ (zs:List VF):Bool:=zs.all fun v=>v.ts.all bU
def LB (h:List O):List VF->List (Option (Nat×Nat×(Nat->List V)))
 |[]=>[]
 | v::l=>(match fM h v.k with
   |some (.gl e m g _)=>some (e,m,g)
   |_=>none)::LB h l
def sC:List VF->List (Option (Nat×Nat×(Nat->List V)))
 |[]=>[]
 |v::l=>some (bI v.ts,v.n,v.f)::sC l
def Lk (h:List O):List (FR zs)->List (Option (Nat×(Nat->List V)))
 |[]=>[]
 | v::l=>(match fM h v.k with
   |some (.gl _ m g _)=>some (m,g)
   |_=>none)::Lk h l
def Lx:List (FR zs)->List (Option (Nat×(Nat->List V)))
 |[]=>[]
 |v::l=>some (v.n,v.f)::Lx l
theorem Iy {h:List O} {v:VF}:∀ {l:List VF},LB h l=sC l->v∈l->∃ ty,h[v.k]? = some (.gl (bI v.ts) v.n v.f ty)
 |[],_,hm=>by cases hm
 | x :: l,he,hm=>by
   simp only [LB,sC,abA]at he
   rcases List.mem_cons.1 hm with rfl|hm
   ·have h1:=he.1
    rw [be]at h1
    split at h1
    ·rename_i e m g ty hk
     simp only [aaB,Prod.mk.injEq]at h1
     obtain ⟨rfl,rfl,rfl⟩:=h1
     exact ⟨ty,hk⟩
    ·cases h1
   ·exact Iy he.2 hm
theorem Hu {h:List O} {k:Nat} {r:FR zs}:∀ {l:List (FR zs)},Lk h l=Lx l->Ls l k=some r->∃ e ty,h[k]? = some (.gl e r.n r.f ty)
 |[],_,hm=>by cases hm
 | x :: l,he,hm=>by
   simp only [Lk,Lx,abA]at he
   simp only [Ls]at hm
   cases hb:Nat.beq k x.k with
   | true =>
     rw [hb]at hm;cases hm
     have h1:=he.1
     rw [be,← aax hb]at h1
     split at h1
     ·rename_i e m g ty hk
      simp only [aaB,Prod.mk.injEq]at h1
      obtain ⟨rfl,rfl⟩:=h1
      exact ⟨e,ty,hk⟩
     ·cases h1
   |false=>rw[hb]at hm;exact Hu he.2 hm
theorem yw {v:VF}:∀ {l:List VF},v∈l->xN l v.k≠none
 | x :: l,hm=>by
   simp only [xN]
   cases hb:Nat.beq v.k x.k with
   |true=>simp
   | false =>
     rcases List.mem_cons.1 hm with rfl|hm
     ·simp at hb
     ·exact yw hm
theorem BW (fr:List (FR zs)):∀ (l:List O) (b k:Nat),(frzH fr b l)[k]? = (l[k]?).map (aeY fr (b+k))
 |[],b,k=>by simp[frzH]
 |o::l,b,0=>by simp[frzH]
 | o::l,b,k+1=>by
   simp only [frzH,acx]
   rw [BW fr l (b+1) k,show b+1+k=b+(k+1) by omega]
theorem W7 {v v':V} (h:frR zs v v') (hv:v.one=true):v'.one=true:=by
 rcases h with rfl|⟨k,n,z,_,_,_,_,rfl⟩
 ·exact hv
 ·rfl
theorem Do:∀ {l m:List V},Zl zs l m->l.all V.one=true->bI m=bI l/\m.all V.one=true
 |[],[],_,_=>⟨rfl,rfl⟩
 | a::l,b::m,h,ho=>by
   simp only [adT,aaw]at ho ⊢
   obtain ⟨h1,h2⟩:=Do h.2 ho.2
   exact ⟨by simp only[bI,h1],W7 h.1 ho.1,h2⟩
 |[],_::_,h,_=>h.elim
 |_::_,[],h,_=>h.elim
theorem Kb (w0:World) {nb:Nat} {e:bD} {h:List O} {fr:List (FR zs)} (hc:VQ zs=true) (hz:LB h zs=sC zs) (hf:Lk h fr=Lx fr):j7 w0 nb e h e (frzH fr 0 h):=by
 classical
 intro N ν nV nS sl lh hs hr
 have hB:∀ v,v∈zs->∃ ty,h[v.k]? = some (.gl (bI v.ts) v.n v.f ty):=fun v hv=>Iy hz hv
 let Bf:Nat->Prop:=fun j=>∃ v x,v∈zs/\ν v.k=some (some x)/\x.1=j
 let z1:List ao:=lh.mapIdx fun j o=>if isCells ν.z[j]? = true∨Bf j then o else .hid
 have z1get:∀ j,z1[j]? = (lh[j]?).map fun o=>if isCells ν.z[j]? = true∨Bf j then o else .hid:=fun j=>by simp only[z1,apd]
 have hza:uh ν.z z1:=fun j az ty hj=>by
  rw [z1get,hr.zl j az ty hj]
  simp only [abW]
  rw [aby (.inl (by rw[hj];rfl))]
 have hzb:uh z1 lh:=fun j az ty hj=>by
  rw [z1get]at hj
  cases hl:lh[j]? with
  |none=>rw[hl]at hj;cases hj
  | some o =>
    rw [hl]at hj
    simp only [abW,aaB]at hj
    split at hj
    ·rw[hj]
    ·cases hj
 let ν1:Nu:=⟨ν.m,z1⟩
 have hsub:ν.sub ν1:=⟨fun _ _ h=>h,hza⟩
 have hfr:∀ {v v':V} {a:ak},frR zs v v'->vr w0 ν.z ν v a->vr w0 z1 ν1 v' a:=by
  intro v v' a hv hx
  rcases hv with rfl|⟨k,n,z,rfl,hm,rfl,hn,rfl⟩
  ·exact acz hsub _ _ hx
  ·obtain ⟨ty,hk⟩:=hB z hm
   have hts:z.ts.all bU=true:=by unfold VQ at hc;exact List.all_eq_true.1 hc z hm
   simp only [vr]at hx ⊢
   rcases hr.blk _ _ hk with ⟨h1,h2⟩|⟨b,c,az,h1,h2,h3,h4,h5⟩
   ·rcases hx with ⟨_,g2,rfl⟩|⟨b,c,e,g1,_⟩
    ·subst g2;exact⟨none,0,0,rfl,aaS _,by omega,trivial,fun i hi=>by omega⟩
    ·rw[h1]at g1;cases g1
   ·rcases hx with ⟨g1,_⟩|⟨b',c',e',g1,rfl,g3⟩
    ·rw[h1]at g1;cases g1
    ·rw [h1]at g1
     obtain ⟨rfl,rfl,rfl⟩:b=b'/\c=c'/\bI z.ts=e':=by simpa using g1
     have hb:z1[b]? = some (.cells az ty):=by
      rw [z1get,h2]
      simp only [abW]
      rw [aby (.inr ⟨z,_,hm,h1,rfl⟩)]
     refine ⟨some (.l b 0),c,bI z.ts,rfl,g3,by omega,⟨az,ty,hb,acK _⟩,fun i hi=>?_⟩
     have hi':i*bI z.ts+bI z.ts<=az.length:=by
      rw [h3,← adm];exact abt _ (by omega)
     have hok:=z.ok i (by omega)
     refine ⟨_,_,rfl,?_,j6 hza _ _ (gA (ν:=lV [] ν) (fun k x hx=>?_) _ _ (iV _ _ _ hok.2 (h5 i (by omega)).2)),nR _ _ hts⟩
     ·simp only[gR.add,lds,hb,aeb]
      rw [aby (by omega)]
     ·simp only[lV,dB,fM]at hx;cases hx
 have hfrs:∀ {l m:List V} {az:List ak},Zl zs l m->bg w0 ν.z ν l az->bg w0 z1 ν1 m az:=by
  intro l
  induction l with
  |nil=>intro m az h1 h2;cases m with|nil=>simp only[bg]at h2 ⊢;exact h2|cons=>exact h1.elim
  | cons a l ih =>
    intro m az h1 h2
    cases m with
    |nil=>exact h1.elim
    | cons b m =>
      simp only [bg]at h2 ⊢
      obtain ⟨x,xs,rfl,g1,g2⟩:=h2
      exact ⟨x,xs,rfl,hfr h1.1 g1,ih h1.2 g2⟩
 have hget:∀ k o,(frzH fr 0 h)[k]? = some o->o≠.hid->xN zs k=none/\∃ o',h[k]? = some o'/\o=(match o' with
  | .gl e n f ty=>match Ls fr k with
    |some r=>O.gl e n r.g ty
    |none=>.gl e n f ty
  |o=>o):=fun k o hk ho=>by
  rw [BW,aeb]at hk
  cases hg:h[k]? with
  |none=>rw[hg]at hk;cases hk
  | some o' =>
    rw [hg]at hk
    simp only [abW,aaB,aeY]at hk
    cases hv:xN zs k with
    |some v=>rw[hv]at hk;exact(ho hk.symm).elim
    |none=>rw[hv]at hk;exact⟨rfl,o',rfl,hk.symm⟩
 have hlive:∀ k,ba (frzH fr 0 h) k->xN zs k=none/\ba h k:=fun k hk=>by
  rcases ft hk with ⟨cs,ty,g⟩|⟨e,n,f,ty,g⟩
  ·obtain⟨h1,o',h2,h3⟩:=hget k _ g (by simp)
   refine ⟨h1,?_⟩
   cases o' with
   |cells cs' ty'=>exact dM h2
   |gl e n f ty=>exact fY h2
   |dead=>cases h3
   |hid=>cases h3
  ·obtain⟨h1,o',h2,h3⟩:=hget k _ g (by simp)
   refine ⟨h1,?_⟩
   cases o' with
   |cells cs' ty'=>exact dM h2
   |gl e n f ty=>exact fY h2
   |dead=>cases h3
   |hid=>cases h3
 refine ⟨ν1,nV,nS,NuN.of hsub _,hs.mono hsub,⟨fun k o hk=>?_,fun k k' x x' h1 h2=>hr.inj k k' x x' (hlive k h1).2 (hlive k' h2).2,fun k hk=>hr.dom k ?_,hr.rng,hzb,fun k x hk hx=>?_⟩⟩
 ·by_cases ho:o=.hid
  ·subst ho;trivial
  ·obtain ⟨h1,o',h2,h3⟩:=hget k o hk ho
   have hb:=hr.blk k o' h2
   cases o' with
   |cells cs ty=>subst h3;exact dw hsub (by simp) (fun b az ty g _=>g) hb
   |dead=>subst h3;exact hb
   |hid=>subst h3;trivial
   | gl e n f ty =>
     cases hfa:Ls fr k with
     |none=>rw[hfa]at h3;subst h3;exact dw hsub (by simp) (fun b az ty g _=>g) hb
     | some r =>
       rw [hfa]at h3;subst h3
       obtain ⟨e',ty',g⟩:=Hu hf hfa
       rw [h2]at g
       simp only [aaB,O.gl.injEq]at g
       obtain ⟨_,rfl,rfl,_⟩:=g
       rcases hb with ⟨k1,k2⟩|⟨b,c,az,k1,k2,k3,k4,k5⟩
       ·exact .inl ⟨k1,k2⟩
       ·refine .inr ⟨b,c,az,k1,k2,k3,k4,fun i hi=>?_⟩
        obtain ⟨q1,q2⟩:=k5 i hi
        unfold lX at q1 ⊢
        simp only [aaw]at q1 ⊢
        obtain ⟨p1,p2⟩:=Do (r.ok i hi) q1.2
        exact ⟨⟨by rw[p1];exact q1.1,p2⟩,hfrs (r.ok i hi) q2⟩
 ·have hl:(frzH fr 0 h).length=h.length:=by
   have gen:∀ (l:List O) (b:Nat),(frzH fr b l).length=l.length:=fun l=>by
    induction l with
    |nil=>intro b;rfl
    |cons o l ih=>intro b;simp[frzH,ih]
   exact gen h 0
  omega
 ·obtain ⟨h1,h2⟩:=hlive k hk
  have hx':ν k=some (some x):=hx
  have g1:=hr.zn k x h2 hx'
  show isCells z1[x.1]? = false
  rw [z1get]
  cases hl:lh[x.1]? with
  |none=>rfl
  | some o =>
    simp only [abW]
    rw [aaT]
    ·rfl
    ·rintro (g2|⟨v,x',hv,g2,g3⟩)
     ·rw[g1]at g2;cases g2
     ·obtain⟨ty,hk'⟩:=hB v hv
      have:=hr.inj v.k k x' x (fY hk') h2 g2 hx' g3
      rw [← this]at h1
      exact yw hv h1
end
inductive RT (S:Type) where
 |ret (v:V)
 |next (ρ:ni) (s:S) (vf:List VF)
 |enter (ρ:ni) (s:S) (vf:List VF)
 |nextz (zs:List VF) (fr:List (FR zs)) (ρ:ni) (s:S) (vf:List VF)
 |enterz (zs:List VF) (fr:List (FR zs)) (ρ:ni) (s:S) (vf:List VF)
 |br (b:Bool) (x y:RT S)
 |brt (x:RT S)
 |brf (y:RT S)
 |brx (b:Bool) (x:RT S)
 |bry (b:Bool) (y:RT S)
 |ob (b:Bool) (x:RT S)
 |obt (x:RT S)
 |obv (b:Bool) (h:b=true) (x:RT S)
 |obi (x:RT S)
 |obj (c b:Bool) (x:RT S)
 |obc (x:RT S)
 |obp (p:Prop) (x:RT S)
 |obe (ts:List Ty) (ds:List V) (x:RT S)
 |und (x y:RT S)
 |asm (p:Prop) (x:RT S)
 |all (f:Nat->RT S)
 |fail
structure LD (J S:Type) where
 id:S->J
 lp:J->Lp J
 inv:S->bD×List O×Option Ex
inductive FT (J:Type) where
 |res (v:V)
 |head (j:J) (g:Option Ex) (ok:Bool) (e:bD) (h:List O) (vs:List (Nat×Nat×(Nat->List V)))
 |loop (fr:Nat×Nat) (b:Dw) (k:Ex->bD->List O->Option Ex->T (ck J)) (g:Option Ex) (ok:Bool) (e:bD) (h:List O) (vs:List (Nat×Nat×(Nat->List V)))
 |headz (c:Bool) (zg:List (Option (Nat×Nat×(Nat->List V)))) (fg:List (Option (Nat×(Nat->List V)))) (j:J) (g:Option Ex) (ok:Bool) (e:bD) (h:List O) (vs:List (Nat×Nat×(Nat->List V)))
 |loopz (c:Bool) (zg:List (Option (Nat×Nat×(Nat->List V)))) (fg:List (Option (Nat×(Nat->List V)))) (fr:Nat×Nat) (b:Dw) (k:Ex->bD->List O->Option Ex->T (ck J)) (g:Option Ex) (ok:Bool) (e:bD) (h:List O) (vs:List (Nat×Nat×(Nat->List V)))
 |br (b:Bool) (x y:FT J)
 |brt (b:Bool) (x:FT J)
 |brf (b:Bool) (y:FT J)
 |brx (b:Bool) (x:FT J)
 |bry (b:Bool) (y:FT J)
 |ob (b:Bool) (x:FT J)
 |obt (b:Bool) (x:FT J)
 |obi (x:FT J)
 |obj (c b:Bool) (x:FT J)
 |obp (p:Prop) (x:FT J)
 |obe (a b:List V) (x:FT J)
 |und (x y:FT J)
 |asm (p:Prop) (x:FT J)
 |all (f:Nat->FT J)
 |fail (n:Nat)
section
variable {J S:Type}
def anJ (a b:List V) (k:RT S->FT J):RT S->FT J
 |.obe _ _ x=>.obe a b (k x)
 |t=>k t
def amo (a b:List V) (k:RT S->T (ck J)):RT S->T (ck J)
 |.obe _ _ x=>.obq a b (k x)
 |t=>.obq a a (k t)
def er (D:LD J S):T (ck J)->RT S->FT J
 |.ret (.res v),.ret _=>.res v
 |.ret (.head j e h g),.next ρ s vf=>.head j g (ye ρ (D.lp j).fr.2 (D.inv s).2.1) (Cm ρ e (D.inv s).1) (Ch ρ h vf 0 (D.inv s).2.1) (pC ρ h vf)
 |.loop fr b e h g k,.enter ρ s vf=>.loop fr b k g (ye ρ fr.2 (D.inv s).2.1) (Cm ρ e (D.inv s).1) (Ch ρ h vf 0 (D.inv s).2.1) (pC ρ h vf)
 |.ret (.head j e h g),.nextz zs fz ρ s vf=>.headz (VQ zs) (LB h zs) (Lk h fz) j g (ye ρ (D.lp j).fr.2 (D.inv s).2.1) (Cm ρ e (D.inv s).1) (Ch ρ (frzH fz 0 h) vf 0 (D.inv s).2.1) (pC ρ (frzH fz 0 h) vf)
 |.loop fr b e h g k,.enterz zs fz ρ s vf=>.loopz (VQ zs) (LB h zs) (Lk h fz) fr b k g (ye ρ fr.2 (D.inv s).2.1) (Cm ρ e (D.inv s).1) (Ch ρ (frzH fz 0 h) vf 0 (D.inv s).2.1) (pC ρ (frzH fz 0 h) vf)
 |.br b x y,.br _ x' y'=>.br b (er D x x') (er D y y')
 |.br b x _,.brt x'=>.brt b (er D x x')
 |.br b _ y,.brf y'=>.brf b (er D y y')
 |.br b x _,.brx _ x'=>.brx b (er D x x')
 |.br b _ y,.bry _ y'=>.bry b (er D y y')
 |.ob b x,.ob _ x'=>.ob b (er D x x')
 |.ob b x,.obt x'=>.obt b (er D x x')
 |.ob b x,.obv _ _ x'=>.ob b (er D x x')
 |.obp p x,.obc x'=>.obp p (er D x x')
 |.obi _ d x,.obt x'=>.obt d (er D x x')
 |.obi _ d x,.ob _ x'=>.ob d (er D x x')
 |.obi _ d x,.obv _ _ x'=>.ob d (er D x x')
 |.obi _ _ x,.obi x'=>.obi (er D x x')
 |.obi c d x,.obj _ _ x'=>.obj c d (er D x x')
 |.obp p x,.obp _ x'=>.obp p (er D x x')
 |.obq a b x,t=>anJ a b (er D x) t
 |.und x y,.und x' y'=>.und (er D x x') (er D y y')
 |.asm p x,.asm _ x'=>.asm p (er D x x')
 |.all f,.all g=>.all fun l=>er D (f l) (g l)
 |.fail _,.fail=>.fail 1
 |_,_=>.fail 0
def ci:T (ck J)->RT S->T (ck J)
 |.br b x y,.br _ x' y'=>.br b (ci x x') (ci y y')
 |.br b x y,.brt x'=>.br b (ci x x') y
 |.br b x y,.brf y'=>.br b x (ci y y')
 |.br b x y,.brx _ x'=>.br b (ci x x') y
 |.br b x y,.bry _ y'=>.br b x (ci y y')
 |.ob b x,.ob _ x'=>.ob b (ci x x')
 |.ob b x,.obt x'=>.ob b (ci x x')
 |.ob b x,.obv _ _ x'=>.ob b (ci x x')
 |.obp p x,.obp _ x'=>.obp p (ci x x')
 |.obp p x,.obc x'=>.obp p (ci x x')
 |.obi c d x,.obt x'=>.obi c d (ci x x')
 |.obi c d x,.ob _ x'=>.obi c d (ci x x')
 |.obi c d x,.obv _ _ x'=>.obi c d (ci x x')
 |.obi c _ x,.obi x'=>.obi c c (ci x x')
 |.obi c d x,.obj _ _ x'=>.obi c d (ci x x')
 |.obq a b x,t=>amo a b (ci x) t
 |.und x y,.und x' y'=>.und (ci x x') (ci y y')
 |.asm p x,.asm _ x'=>.asm p (ci x x')
 |.all f,.all g=>.all fun l=>ci (f l) (g l)
 |t,_=>t
def nh (D:LD J S):RT S->FT J
 |.ret v=>.res v
 |.next _ s vf=>.head (D.id s) (D.inv s).2.2 true (D.inv s).1 (D.inv s).2.1 (pz vf)
 |.enter _ s vf=>.loop (D.lp (D.id s)).fr (D.lp (D.id s)).body (D.lp (D.id s)).k (D.inv s).2.2 true (D.inv s).1 (D.inv s).2.1 (pz vf)
 |.nextz zs fz _ s vf=>.headz true (sC zs) (Lx fz) (D.id s) (D.inv s).2.2 true (D.inv s).1 (D.inv s).2.1 (pz vf)
 |.enterz zs fz _ s vf=>.loopz true (sC zs) (Lx fz) (D.lp (D.id s)).fr (D.lp (D.id s)).body (D.lp (D.id s)).k (D.inv s).2.2 true (D.inv s).1 (D.inv s).2.1 (pz vf)
 |.br b x y=>.br b (nh D x) (nh D y)
 |.brt x=>.brt true (nh D x)
 |.brf y=>.brf false (nh D y)
 |.brx b x=>.brx b (nh D x)
 |.bry b y=>.bry b (nh D y)
 |.ob b x=>.ob b (nh D x)
 |.obt x=>.obt true (nh D x)
 |.obv b _ x=>.ob b (nh D x)
 |.obi x=>.obi (nh D x)
 |.obj c b x=>.obj c b (nh D x)
 |.obc x=>.obp True (nh D x)
 |.obp p x=>.obp p (nh D x)
 |.obe ts ds x=>.obe (lw ts ds []) (lB ts ds []) (nh D x)
 |.und x y=>.und (nh D x) (nh D y)
 |.asm p x=>.asm p (nh D x)
 |.all f=>.all fun l=>nh D (f l)
 |.fail=>.fail 1
def aX (Nx:S->V->Prop):RT S->V->Prop
 |.ret v,r=>cz v=cz r
 |.next _ s _,r=>Nx s r
 |.enter _ s _,r=>Nx s r
 |.nextz _ _ _ s _,r=>Nx s r
 |.enterz _ _ _ s _,r=>Nx s r
 |.br b x y,r=>(b=true->aX Nx x r)/\(b=false->aX Nx y r)
 |.brt x,r=>aX Nx x r
 |.brf y,r=>aX Nx y r
 |.brx b x,r=>b=true/\aX Nx x r
 |.bry b y,r=>b=false/\aX Nx y r
 |.ob b x,r=>b=true/\aX Nx x r
 |.obt x,r=>aX Nx x r
 |.obv _ _ x,r=>aX Nx x r
 |.obi x,r=>aX Nx x r
 |.obj c b x,r=>(c=true->b=true)/\aX Nx x r
 |.obc x,r=>aX Nx x r
 |.obp p x,r=>p/\aX Nx x r
 |.obe ts ds x,r=>lw ts ds []=lB ts ds []/\aX Nx x r
 |.und x y,r=>aX Nx x r/\aX Nx y r
 |.asm p x,r=>p->aX Nx x r
 |.all f,r=>∀ l,aX Nx (f l) r
 |.fail,_=>False
def rW (step:S->RT S):Nat->S->V->Prop
 |0,_,_=>False
 |n+1,s,r=>aX (rW step n) (step s) r
def Ev (step:S->RT S) (s:S) (r:V):Prop:=∃ n,rW step n s r
theorem wW {Nx Ny:S->V->Prop} {r:V} (h:∀ s,Nx s r->Ny s r):∀ t:RT S,aX Nx t r->aX Ny t r:=by
 intro t
 induction t with
 |ret v=>exact id
 |next ρ s vf=>exact h s
 |enter ρ s vf=>exact h s
 |nextz zs fz ρ s vf=>exact h s
 |enterz zs fz ρ s vf=>exact h s
 |br b x y hx hy=>exact fun k=>⟨fun e=>hx (k.1 e),fun e=>hy (k.2 e)⟩
 |brt x hx=>exact hx
 |brf y hy=>exact hy
 |brx b x hx=>exact fun k=>⟨k.1,hx k.2⟩
 |bry b y hy=>exact fun k=>⟨k.1,hy k.2⟩
 |ob b x hx=>exact fun k=>⟨k.1,hx k.2⟩
 |obt x hx=>exact hx
 |obv b h x hx=>exact hx
 |obi x hx=>exact hx
 |obj c b x hx=>exact fun k=>⟨k.1,hx k.2⟩
 |obc x hx=>exact hx
 |obp p x hx=>exact fun k=>⟨k.1,hx k.2⟩
 |obe a b x hx=>exact fun k=>⟨k.1,hx k.2⟩
 |und x y hx hy=>exact fun k=>⟨hx k.1,hy k.2⟩
 |asm p x hx=>exact fun k hp=>hx (k hp)
 |all f hf=>exact fun k l=>hf l (k l)
 |fail=>exact id
theorem B6 {step:S->RT S} {r:V}:∀ {n:Nat} {s:S},rW step n s r->rW step (n+1) s r
 |0,s,h=>h.elim
 |n+1,s,h=>wW (fun s hs=>B6 hs) _ h
theorem wl {step:S->RT S} {r:V} {n m:Nat} {s:S} (h:rW step n s r) (hm:n<=m):rW step m s r:=by
 induction hm with
 |refl=>exact h
 |step _ ih=>exact B6 ih
section
variable {Nx:S->V->Prop} {r:V}
theorem evRet {v:V} (h:cz v=cz r):aX Nx (.ret v) r:=h
theorem evBr {b:Bool} {x y:RT S} (h1:b=true->aX Nx x r) (h2:b=false->aX Nx y r):aX Nx (.br b x y) r:=⟨h1,h2⟩
theorem fE {x:RT S} (h:aX Nx x r):aX Nx (.brt x) r:=h
theorem jR {x:RT S} (h:aX Nx x r):aX Nx (.brf x) r:=h
theorem am4 {b:Bool} {x:RT S} (h1:b=false) (h:aX Nx x r):aX Nx (.bry b x) r:=⟨h1,h⟩
theorem ntT {b:Bool} (h:b=false):(!b)=true:=by rw[h];rfl
theorem ntF {b:Bool} (h:b=true):(!b)=false:=by rw[h];rfl
theorem Ea {b:Bool} (h:(!b)=false):b=true:=by cases b;cases h;rfl
theorem tnF {b:Bool} (h:(!b)=true):b=false:=by cases b;rfl;cases h
theorem aD {b:Bool} {x:RT S} (h1:b=true) (h2:aX Nx x r):aX Nx (.ob b x) r:=⟨h1,h2⟩
theorem evObt {x:RT S} (h:aX Nx x r):aX Nx (.obt x) r:=h
theorem alL {b:Bool} {hb:b=true} {x:RT S} (h:aX Nx x r):aX Nx (.obv b hb x) r:=h
theorem evObi {x:RT S} (h:aX Nx x r):aX Nx (.obi x) r:=h
theorem d5 {c b:Bool} {x:RT S} (h1:c=true->b=true) (h2:aX Nx x r):aX Nx (.obj c b x) r:=⟨h1,h2⟩
theorem au {x:RT S} (h:aX Nx x r):aX Nx (.obc x) r:=h
theorem evObp {p:Prop} {x:RT S} (h1:p) (h2:aX Nx x r):aX Nx (.obp p x) r:=⟨h1,h2⟩
theorem Ql {x y:RT S} (h1:aX Nx x r) (h2:aX Nx y r):aX Nx (.und x y) r:=⟨h1,h2⟩
theorem evAsm {p:Prop} {x:RT S} (h:p->aX Nx x r):aX Nx (.asm p x) r:=h
theorem bw {p:Prop} {x:RT S} (h:p->aX Nx x r):aX Nx (.asm (true=true->p) x) r:=fun k=>h (k rfl)
theorem po {f:Nat->RT S} (h:∀ l,aX Nx (f l) r):aX Nx (.all f) r:=h
theorem aM {ρ:ni} {s:S} {vf:List VF} (h:Nx s r):aX Nx (.enter ρ s vf) r:=h
theorem aS {ρ:ni} {s:S} {vf:List VF} (h:Nx s r):aX Nx (.next ρ s vf) r:=h
end
def eI:RT S->Bool
 |.br _ x y=>eI x&&eI y
 |.brt x=>eI x
 |.brf y=>eI y
 |.brx _ x=>eI x
 |.bry _ y=>eI y
 |.ob _ x=>eI x
 |.obt x=>eI x
 |.obv _ _ x=>eI x
 |.obi x=>eI x
 |.obj _ _ x=>eI x
 |.obc x=>eI x
 |.obp _ x=>eI x
 |.obe _ _ x=>eI x
 |.und x y=>eI x&&eI y
 |.asm _ x=>eI x
 |.all _=>false
 |_=>true
theorem aeO {step:S->RT S} {r:V}:∀ t:RT S,eI t=true->aX (Ev step) t r->∃ n,aX (rW step n) t r:=by
 intro t
 induction t with
 |ret v=>exact fun _ h=>⟨0,h⟩
 |next ρ s vf=>exact fun _ ⟨n,h⟩=>⟨n,h⟩
 |enter ρ s vf=>exact fun _ ⟨n,h⟩=>⟨n,h⟩
 |nextz zs fz ρ s vf=>exact fun _ ⟨n,h⟩=>⟨n,h⟩
 |enterz zs fz ρ s vf=>exact fun _ ⟨n,h⟩=>⟨n,h⟩
 | br b x y hx hy =>
   intro h0 h
   simp only [eI,aaw]at h0
   cases b with
   |true=>obtain⟨n,hn⟩:=hx h0.1 (h.1 rfl);exact⟨n,fun _=>hn,fun e=>by cases e⟩
   |false=>obtain⟨n,hn⟩:=hy h0.2 (h.2 rfl);exact⟨n,(fun e=>by cases e),fun _=>hn⟩
 |brt x hx=>exact fun h0 h=>hx h0 h
 |brf y hy=>exact fun h0 h=>hy h0 h
 |brx b x hx=>exact fun h0 h=>let ⟨n,hn⟩:=hx h0 h.2;⟨n,h.1,hn⟩
 |bry b y hy=>exact fun h0 h=>let ⟨n,hn⟩:=hy h0 h.2;⟨n,h.1,hn⟩
 |ob b x hx=>exact fun h0 h=>let ⟨n,hn⟩:=hx h0 h.2;⟨n,h.1,hn⟩
 |obt x hx=>exact fun h0 h=>hx h0 h
 |obv b h x hx=>exact fun h0 h=>hx h0 h
 |obi x hx=>exact fun h0 h=>hx h0 h
 |obj c b x hx=>exact fun h0 h=>let ⟨n,hn⟩:=hx h0 h.2;⟨n,h.1,hn⟩
 |obc x hx=>exact fun h0 h=>hx h0 h
 |obp p x hx=>exact fun h0 h=>let ⟨n,hn⟩:=hx h0 h.2;⟨n,h.1,hn⟩
 |obe a b x hx=>exact fun h0 h=>let ⟨n,hn⟩:=hx h0 h.2;⟨n,h.1,hn⟩
 | und x y hx hy =>
   intro h0 h
   simp only [eI,aaw]at h0
   obtain ⟨n,hn⟩:=hx h0.1 h.1
   obtain ⟨m,hm⟩:=hy h0.2 h.2
   exact ⟨max n m,wW (fun s hs=>wl hs (Nat.le_max_left _ _)) _ hn,wW (fun s hs=>wl hs (Nat.le_max_right _ _)) _ hm⟩
 | asm p x hx =>
   intro h0 h
   by_cases hp:p
   ·obtain⟨n,hn⟩:=hx h0 (h hp);exact⟨n,fun _=>hn⟩
   ·exact⟨0,fun k=>(hp k).elim⟩
 |all f hf=>intro h0;cases h0
 |fail=>exact fun _ h=>h.elim
theorem Ev.of {step:S->RT S} {s:S} {r:V} (h0:eI (step s)=true) (h:aX (Ev step) (step s) r):Ev step s r :=
 let ⟨n,hn⟩:=aeO _ h0 h;⟨n+1,hn⟩
theorem Bp {w0:World} {LP:eu} {D:LD J S} {Q:ck J->Prop} {Nx:S->V->Prop} {r:V} (hres:∀ v,cz v=cz r->Q (.res v))
 (hhead:∀ s e h,Nx s r->j7 w0 (D.lp (D.id s)).fr.2 e h (D.inv s).1 (D.inv s).2.1->Q (.head (D.id s) e h (D.inv s).2.2))
 (hloop:∀ s e h,Nx s r->j7 w0 (D.lp (D.id s)).fr.2 e h (D.inv s).1 (D.inv s).2.1->LP (D.lp (D.id s)).fr (D.lp (D.id s)).body e h (D.inv s).2.2 fun x e h g=>bu LP ((D.lp (D.id s)).k x e h g) Q) :
 ∀ (t:T (ck J)) (rt:RT S),er D t rt=nh D rt->ci t rt=t->aX Nx rt r->bu LP t Q:=by
 intro t
 induction t with
 | ret a =>
   intro rt hf _ hr
   cases a with
   |res v=>cases rt<;>simp only[er,nh]at hf<;>cases hf;exact hres _ hr
   | head j e h g =>
     cases rt<;>simp only[er,nh]at hf<;>first|(cases hf;done)|skip
     ·simp only[FT.head.injEq]at hf
      obtain ⟨rfl,rfl,h1,h2,h3,h4⟩:=hf
      exact hhead _ e h hr (uN w0 h1 h2 h3 h4)
     ·simp only[FT.headz.injEq]at hf
      obtain ⟨hc,hz,hfr,rfl,rfl,h1,h2,h3,h4⟩:=hf
      exact hhead _ e h hr ((Kb w0 hc hz hfr).trans (uN w0 h1 h2 h3 h4))
 | br b x y hx hy =>
   intro rt hf hs hr
   cases rt<;>simp only[er,nh]at hf<;>first|(cases hf;done)|skip
   ·simp only[FT.br.injEq]at hf
    simp only [ci,T.br.injEq,agn]at hs
    obtain ⟨rfl,h1,h2⟩:=hf
    exact ⟨fun e=>hx _ h1 hs.1 (hr.1 e),fun e=>hy _ h2 hs.2 (hr.2 e)⟩
   ·simp only[FT.brt.injEq]at hf
    simp only [ci,T.br.injEq,agn]at hs
    obtain ⟨rfl,h1⟩:=hf
    exact ⟨fun e=>hx _ h1 hs.1 hr,fun e=>by cases e⟩
   ·simp only[FT.brf.injEq]at hf
    simp only [ci,T.br.injEq,agn]at hs
    obtain ⟨rfl,h1⟩:=hf
    exact ⟨(fun e=>by cases e),fun e=>hy _ h1 hs hr⟩
   ·simp only[FT.brx.injEq]at hf
    simp only [ci,T.br.injEq,agn]at hs
    obtain ⟨rfl,h1⟩:=hf
    exact ⟨fun e=>hx _ h1 hs.1 hr.2,fun e=>by rw[hr.1]at e;cases e⟩
   ·simp only[FT.bry.injEq]at hf
    simp only [ci,T.br.injEq,agn]at hs
    obtain ⟨rfl,h1⟩:=hf
    exact ⟨(fun e=>by rw[hr.1]at e;cases e),fun e=>hy _ h1 hs hr.2⟩
 | ob b x hx =>
   intro rt hf hs hr
   cases rt<;>simp only[er,nh]at hf<;>first|(cases hf;done)|skip
   ·simp only[FT.ob.injEq]at hf
    simp only [ci,T.ob.injEq,agn]at hs
    obtain ⟨rfl,h1⟩:=hf
    exact ⟨hr.1,hx _ h1 hs hr.2⟩
   ·simp only[FT.obt.injEq]at hf
    simp only [ci,T.ob.injEq,agn]at hs
    obtain ⟨rfl,h1⟩:=hf
    exact ⟨rfl,hx _ h1 hs hr⟩
   ·rename_i b' hb' x'
    simp only [FT.ob.injEq]at hf
    simp only [ci,T.ob.injEq,agn]at hs
    obtain ⟨rfl,h1⟩:=hf
    exact ⟨hb',hx _ h1 hs hr⟩
 | obp p x hx =>
   intro rt hf hs hr
   cases rt<;>simp only[er,nh]at hf<;>first|(cases hf;done)|skip
   ·simp only[FT.obp.injEq]at hf
    simp only [ci,T.obp.injEq,agn]at hs
    obtain ⟨rfl,h1⟩:=hf
    exact ⟨trivial,hx _ h1 hs hr⟩
   ·simp only[FT.obp.injEq]at hf
    simp only [ci,T.obp.injEq,agn]at hs
    obtain ⟨rfl,h1⟩:=hf
    exact ⟨hr.1,hx _ h1 hs hr.2⟩
 | obi c d x hx =>
   intro rt hf hs hr
   cases rt<;>simp only[er,nh]at hf<;>first|(cases hf;done)|skip
   ·simp only[FT.ob.injEq]at hf
    simp only [ci,T.obi.injEq,agn]at hs
    obtain ⟨rfl,h1⟩:=hf
    exact ⟨fun _=>hr.1,hx _ h1 hs hr.2⟩
   ·simp only[FT.obt.injEq]at hf
    simp only [ci,T.obi.injEq,agn]at hs
    obtain ⟨rfl,h1⟩:=hf
    exact ⟨fun _=>rfl,hx _ h1 hs hr⟩
   ·rename_i b' hb' x'
    simp only [FT.ob.injEq]at hf
    simp only [ci,T.obi.injEq,agn]at hs
    obtain ⟨rfl,h1⟩:=hf
    exact ⟨fun _=>hb',hx _ h1 hs hr⟩
   ·simp only[FT.obi.injEq]at hf
    simp only [ci,T.obi.injEq,agn]at hs
    obtain ⟨h0,h1⟩:=hs
    subst h0
    exact ⟨id,hx _ hf h1 hr⟩
   ·simp only[FT.obj.injEq]at hf
    simp only [ci,T.obi.injEq,agn]at hs
    obtain ⟨rfl,rfl,h1⟩:=hf
    exact ⟨hr.1,hx _ h1 hs hr.2⟩
 | obq a b x hx =>
   intro rt hf hs hr
   have gen:anJ a b (er D x) rt=er D x rt->amo a b (ci x) rt=.obq a a (ci x rt)->bu LP (.obq a b x) Q:=fun e1 e2=>by
    have hs':T.obq a a (ci x rt)=T.obq a b x:=e2.symm.trans hs
    simp only [T.obq.injEq,agn]at hs'
    exact ⟨hs'.1,hx _ (e1.symm.trans hf) hs'.2 hr⟩
   cases rt<;>first|exact gen rfl rfl|skip
   rename_i ts ds x'
   have hf':FT.obe a b (er D x x')=FT.obe (lw ts ds []) (lB ts ds []) (nh D x'):=hf
   have hs':T.obq a b (ci x x')=T.obq a b x:=hs
   simp only [FT.obe.injEq]at hf'
   simp only [T.obq.injEq,agn]at hs'
   obtain ⟨rfl,rfl,h1⟩:=hf'
   exact ⟨hr.1,hx _ h1 hs' hr.2⟩
 | fail n =>
   intro rt hf hs hr
   cases rt<;>simp only[er,nh]at hf<;>first|(cases hf;done)|exact hr.elim
 | loop fr b e h g k hk =>
   intro rt hf hs hr
   cases rt<;>simp only[er,nh]at hf<;>first|(cases hf;done)|skip
   ·simp only[FT.loop.injEq]at hf
    obtain ⟨rfl,rfl,rfl,rfl,h1,h2,h3,h4⟩:=hf
    exact hloop _ e h hr (uN w0 h1 h2 h3 h4)
   ·simp only[FT.loopz.injEq]at hf
    obtain ⟨hc,hz,hfr,rfl,rfl,rfl,rfl,h1,h2,h3,h4⟩:=hf
    exact hloop _ e h hr ((Kb w0 hc hz hfr).trans (uN w0 h1 h2 h3 h4))
 | all f hf0 =>
   intro rt hf hs hr
   cases rt<;>simp only[er,nh]at hf<;>first|(cases hf;done)|skip
   simp only [FT.all.injEq]at hf
   simp only [ci,T.all.injEq]at hs
   exact fun l=>hf0 l _ (congrFun hf l) (congrFun hs l) (hr l)
 | und x y hx hy =>
   intro rt hf hs hr
   cases rt<;>simp only[er,nh]at hf<;>first|(cases hf;done)|skip
   simp only [FT.und.injEq]at hf
   simp only [ci,T.und.injEq]at hs
   exact ⟨hx _ hf.1 hs.1 hr.1,hy _ hf.2 hs.2 hr.2⟩
 | asm p x hx =>
   intro rt hf hs hr
   cases rt<;>simp only[er,nh]at hf<;>first|(cases hf;done)|skip
   simp only [FT.asm.injEq]at hf
   simp only [ci,T.asm.injEq,agn]at hs
   obtain ⟨rfl,h1⟩:=hf
   exact fun hp=>hx _ h1 hs (hr hp)
def rdT (ct:aZ) (un:kk) (j:J) (l:Lp J) (e:bD) (h:List O) (g:Option Ex):T (ck J) :=
 match l.body with
 | .s body=>fm (ti (mQ ct l.fr.1) (mo ct) un l.fr 0 body e h fun x e h=>.ret (x,e,h)) fun r=>match r.1 with
   |.normal=>.ret (.head j r.2.1 r.2.2 none)
   |x=>l.k x r.2.1 r.2.2 none
 | .i body rd=>fm (mA (mQ ct l.fr.1) (mo ct) un l.fr rd (rdY (mQ ct l.fr.1) (mo ct) un l.fr.1 0 rd) 0 body e h g fun x e h g=>.ret (x,e,h,g)) fun r=>match r.1 with
   |.normal=>.ret (.head j r.2.1 r.2.2.1 r.2.2.2)
   |x=>l.k x r.2.1 r.2.2.1 r.2.2.2
def KM (ct:aZ) (un:kk) (D:LD J S) (s:S):T (ck J):=rdT ct un (D.id s) (D.lp (D.id s)) (D.inv s).1 (D.inv s).2.1 (D.inv s).2.2
def QN (w0:World) (D:LD J S) (step:S->RT S) (r:V) (n:Nat):ck J->Prop
 |.res v=>cz v=cz r
 |.head j e h g=>∃ s,D.id s=j/\(D.inv s).2.2=g/\j7 w0 (D.lp (D.id s)).fr.2 e h (D.inv s).1 (D.inv s).2.1/\rW step n s r
theorem uU {w0:World} {D:LD J S} {step:S->RT S} {r:V} {n m:Nat} (hm:n<=m):∀ a,QN w0 D step r n a->QN w0 D step r m a
 |.res v,h=>h
 |.head j e h g,⟨s,h1,h2,h3,h4⟩=>⟨s,h1,h2,h3,wl h4 hm⟩
theorem agc {w0:World} {S:CQ} {fr:Nat×Nat} {body:fS} {e:bD} {h:List O} {g:Option Ex} {P:Ex->bD->List O->Option Ex->Prop} (hl:cV w0 S (fr.1,fr.2) (.s body) e h none P):cV w0 S fr (.s body) e h g P:=hl
theorem akx {ct:aZ} {un:kk} {w0:World} (hd:o9 ct=true) {D:LD J S} {step:S->RT S} {r:V} (hs:∀ s,er D (KM ct un D s) (step s)=nh D (step s)) (hq:∀ s,ci (KM ct un D s) (step s)=KM ct un D s) :
 ∀ (n:Nat) (s:S) (e:bD) (h:List O),rW step n s r->j7 w0 (D.lp (D.id s)).fr.2 e h (D.inv s).1 (D.inv s).2.1 ->
 cV w0 (SV ct) (D.lp (D.id s)).fr (D.lp (D.id s)).body e h (D.inv s).2.2 fun x e h g=>bu (cV w0 (SV ct)) ((D.lp (D.id s)).k x e h g) (QN w0 D step r n):=by
 intro n
 induction n using Nat.strongRecOn with
 | ind n ih =>
   intro s e h hn hsub
   have key:∀ (p:Nat) (s':S),p<=n->rW step p s' r->∃ m,p=m+1/\bu (cV w0 (SV ct)) (KM ct un D s') (QN w0 D step r m):=by
    intro p s' hp he
    match p,hp,he with
    |0,_,he=>exact he.elim
    | m+1,hp,he =>
      exact ⟨m,rfl,Bp (w0:=w0) (Nx:=rW step m) (fun v hv=>hv) (fun s e h h1 h2=>⟨s,rfl,rfl,h2,h1⟩) (fun s e h h1 h2=>ih m (by omega) s e h h1 h2) _ _ (hs s') (hq s') he⟩
   generalize hj:D.id s=j at *
   match hb:(D.lp j).body with
   | .s body =>
     refine agc (alb (un:=un) hd 0 {p:Nat×S // p.1<=n/\rW step p.1 p.2 r/\D.id p.2=j} (fun p=>((D.inv p.1.2).1,(D.inv p.1.2).2.1)) (fun p=>p.1.1) ⟨⟨(n,s),aaS _,hn,hj⟩,hsub⟩ ?_)
     rintro ⟨⟨p,s'⟩,hp,he,hj'⟩
     obtain ⟨m,hpm,hk⟩:=key p s' hp he
     simp only at hj' hp hpm
     unfold KM rdT at hk
     rw [hj',hb]at hk
     simp only [yaC]at hk
     refine j4 (gp _ _) (fun a ha=>?_) _ hk
     obtain ⟨x,e',h'⟩:=a
     cases x with
     | normal =>
       obtain ⟨s2,g1,g2,g3,g4⟩:=ha
       rw [g1]at g3
       exact ⟨⟨(m,s2),by omega,g4,g1⟩,g3,by simp only;omega⟩
     |exit i=>exact j4 (gp _ _) (uU (by omega)) _ ha
     |ret=>exact j4 (gp _ _) (uU (by omega)) _ ha
   | .i body rd =>
     refine agw (un:=un) hd 0 0 {p:Nat×S // p.1<=n/\rW step p.1 p.2 r/\D.id p.2=j} (fun p=>D.inv p.1.2) (fun p=>p.1.1) ⟨⟨(n,s),aaS _,hn,hj⟩,rfl,hsub⟩ ?_
     rintro ⟨⟨p,s'⟩,hp,he,hj'⟩
     obtain ⟨m,hpm,hk⟩:=key p s' hp he
     simp only at hj' hp hpm
     unfold KM rdT at hk
     rw [hj',hb]at hk
     simp only [yaC]at hk
     refine j4 (gp _ _) (fun a ha=>?_) _ hk
     obtain ⟨x,e',h',g'⟩:=a
     cases x with
     | normal =>
       obtain ⟨s2,g1,g2,g3,g4⟩:=ha
       rw [g1]at g3
       exact ⟨⟨(m,s2),by omega,g4,g1⟩,g2.symm,g3,by simp only;omega⟩
     |exit i=>exact j4 (gp _ _) (uU (by omega)) _ ha
     |ret=>exact j4 (gp _ _) (uU (by omega)) _ ha
def aV (J:Type) (ct:aZ) (un:kk) (sf:aK) (ds:List V):T (ck J):=m6 (mQ ct LV) (mo ct) un LV sf ds [] fun v _=>.ret (.res v)
def pT (r:V):ck J->Prop
 |.res v=>cz v=cz r
 |.head ..=>True
theorem adR {w0:World} {D:LD J S} {step:S->RT S} {r:V} {n:Nat}:∀ a,QN w0 D step r n a->pT r a
 |.res v,h=>h
 |.head ..,_=>trivial
theorem ahw {ct:aZ} {un:kk} {w0:World} (hd:o9 ct=true) {t:T (ck J)} (D:LD J S) (step:S->RT S) (m:RT S) {r:V} (h1:er D t m=nh D m) (h2:ci t m=t)
 (hs:∀ s,er D (KM ct un D s) (step s)=nh D (step s)) (hq:∀ s,ci (KM ct un D s) (step s)=KM ct un D s) (hr:aX (Ev step) m r):bu (cV w0 (SV ct)) t (pT r) :=
 Bp (w0:=w0) (Nx:=Ev step) (fun v hv=>hv) (fun _ _ _ _ _=>trivial) (fun s e h ⟨n,hn⟩ hsub=>gp _ _ _ _ _ _ _ _ _ (fun x e h g hk=>j4 (gp _ _) adR _ hk) (akx hd hs hq n s e h hn hsub)) _ _ h1 h2 hr
theorem yaq {ts:List Ty} (h:ts.all bU=true) (n:Nat) (f:aL):en n (fun i=>lX (bI ts) (aa ts f i))=true:=ga fun i _=>jI h _
def fQ:T (ck J)->Lp J
 |.loop fr b _ _ _ k=>⟨fr,b,k⟩
 |_=>⟨(0,0),.s .skip,fun _ _ _ _=>.fail 0⟩
def cX:LD J Empty:=⟨fun s=>(Empty.elim s),fun _=>⟨(0,0),.s .skip,fun _ _ _ _=>.fail 0⟩,fun s=>(Empty.elim s)⟩
def cL:Empty->V->Prop:=fun s=>Empty.elim s
theorem VZ {ct:aZ} {w0:World} (hd:o9 ct=true) {t:T (ck J)} (m:RT Empty) {r:V} (h1:er cX t m=nh cX m) (h2:ci t m=t) (hr:aX cL m r):bu (cV w0 (SV ct)) t (pT r) :=
 Bp (w0:=w0) (Nx:=cL) (fun v hv=>hv) (fun s=>(Empty.elim s)) (fun s=>(Empty.elim s)) _ _ h1 h2 hr
def cW (D:LD J S) (t:T (ck J)) (m:RT S):Prop:=er D t m=nh D m/\ci t m=t
def eS (ct:aZ) (un:kk) (D:LD J S) (t:T (ck J)) (m:RT S) (st:S->RT S):Prop:=cW D t m/\∀ s,cW D (KM ct un D s) (st s)
def Run (ct:aZ) (t:T (ck J)) (r:V):Prop:=o9 ct=true->∀ w0,bu (cV w0 (SV ct)) t (pT r)
theorem c9 {ct:aZ} {t:T (ck J)} {m:RT Empty} {r:V} (h:cW cX t m) (hr:aX cL m r):Run ct t r:=fun hd _=>VZ hd m h.1 h.2 hr
theorem nd {ct:aZ} {un:kk} {D:LD J S} {t:T (ck J)} {m:RT S} {st:S->RT S} {r:V} (h:eS ct un D t m st) (hr:aX (Ev st) m r):Run ct t r:=fun hd _=>ahw hd D st m h.1.1 h.1.2 (fun s=>(h.2 s).1) (fun s=>(h.2 s).2) hr
inductive Cx where
 |i (n:Int)
 |n (n:Nat)
 |b (b:Bool)
 |s (s:ByteArray)
 |f (f:aL)
def cH:List Cx->Nat->Int
 |.i n::_,0=>n
 |_::l,k+1=>cH l k
 |_,_=>0
def eC:List Cx->Nat->Nat
 |.n n::_,0=>n
 |_::l,k+1=>eC l k
 |_,_=>0
def kc:List Cx->Nat->Nat->List V
 |.f n::_,0=>n
 |_::l,k+1=>kc l k
 |_,_=>fun _=>[]
abbrev JJ:=Nat×List Cx
def Tm (J:Type) (e:Nat) (ty:TypeId) (ct:aZ) (un:kk) (sf:aK) (ds:List V):T (ck J):=m6 (mQ ct LV) (mo ct) un LV sf ds [] fun v h=>.ob (Ll h v) (.ret (.res (LH e ty h v)))
theorem FH {P:Program} {eqs:List TypeId} {its:List gH} {ct:aZ} {f:FuncId} {fn:Func} {sf:aK} {un:kk} {ts:List Ty} {pre:List V->Prop} {r:List V->V} (hT:aO P eqs its ct) (hE:∀ t∈eqs,cU P t) (hI:kG P eqs its) (hf:P.funcs[f]? = some fn)
 (hn : (fn.name == "runtime.NumGoroutine") = false) (hc : dW P eqs its fn = some sf) (hd : fj sf.ntmps sf.body = true) (ho : fF ts = true)
 (h:∀ w0 ds,pre (al ts ds)->bu (cV w0 (SV ct)) (aV J ct un sf (al ts ds)) (pT (r (al ts ds)))):(vP (bL ts pre r)).Ok P f :=
 WH (α:=ck J) (K0:=fun v=>.ret (.res v)) (Q0:=pT) (fun _ _ _ h=>h) hT hE hI hf hn hc hd ho h
theorem Yn {P:Program} {eqs:List TypeId} {its:List gH} {ct:aZ} {f:FuncId} {fn:Func} {sf:aK} {un:kk} {e:Nat} {ty:TypeId} {ts:List Ty} {pre:List V->Prop} {r:List V->V} (hT:aO P eqs its ct) (hE:∀ t∈eqs,cU P t) (hI:kG P eqs its) (hf:P.funcs[f]? = some fn)
 (hn : (fn.name == "runtime.NumGoroutine") = false) (hc : dW P eqs its fn = some sf) (hd : fj sf.ntmps sf.body = true) (ho : fF ts = true)
 (h:∀ w0 ds,pre (al ts ds)->bu (cV w0 (SV ct)) (Tm J e ty ct un sf (al ts ds)) (pT (r (al ts ds)))):(vL e ty (bL ts pre r)).Ok P f :=
 TD (α:=ck J) (K0:=fun v h=>.ob (Ll h v) (.ret (.res (LH e ty h v)))) (Q0:=pT) (fun _ _ _ _ h=>h) hT hE hI hf hn hc hd ho h
end
end Go.Dx
namespace Go.Sx
section
variable {P:Program} {m:aF}
theorem qO {t:TypeId} {k:IntKind} (ht:P.underlying t=some (.int k)) {us:Array Value} {i:Nat} {v:Value} (hv:us[i]? = some v) (w:World):(part t us i).run P w=.ok v w:=by
 unfold part
 have hi:(isAgg t).run P w=.ok false w:=by
  unfold isAgg
  rw [ab (aI ht w)];rfl
 rw [ab hi]
 simp only [adg,ajL,hv]
 rfl
end
end Go.Sx
namespace Go.Sx
def tk (P:Program) (q:TypeId->Bool):List Field->Nat->Bool
 |[],_=>true
 |f :: fs, i => decide (f.name ≠ "_") && Nat.beq f.offset i && q f.type && tk P q fs (i + P.cellsOf f.type)
def yau (P:Program):List Field->Nat
 |[]=>0
 |f::fs=>P.cellsOf f.type+yau P fs
def lS (P:Program):Nat->TypeId->Bool
 |0,_=>false
 | d+1,t=>match P.underlying t with
   |some (.int _)=>Nat.beq (P.cellsOf t) 1
   |some (.array n e)=>Nat.beq (P.cellsOf t) (n*P.cellsOf e)&&lS P d e
   |some (.struct fs)=>Nat.beq (P.cellsOf t) (yau P fs.toList)&&!P.stoodInHeld t&&tk P (lS P d) fs.toList 0
   |_=>false
section
variable {P:Program} {m:aF}
theorem nL:∀ {xs ys:List ak} {b:Bool},bN xs ys=some b->ys.length=xs.length
 |[],[],_,_=>rfl
 |[],_::_,_,h=>by simp[bN]at h
 |x::xs,[],_,h=>by cases x<;>simp[bN]at h
 | x::xs,y::ys,_,h=>by
   cases x<;>try (simp[bN]at h;done)
   cases y<;>try (simp[bN]at h;done)
   simp only [bN]at h
   split at h
   ·simp only[aaD]at h
    obtain ⟨b',hb,_⟩:=h
    simp [nL hb]
   ·cases h
theorem lq:∀ (c:Nat) {xs ys:List ak} {b:Bool},bN xs ys=some b->∃ b1 b2,bN (xs.take c) (ys.take c)=some b1/\bN (xs.drop c) (ys.drop c)=some b2/\b=(b1&&b2)
 |0,xs,ys,b,h=>⟨true,b,by simp[bN],by simpa using h,by simp⟩
 |c+1,[],[],b,h=>⟨true,b,by simp[bN],by simpa using h,by simp⟩
 |c+1,[],_::_,b,h=>by simp[bN]at h
 |c+1,x::xs,[],b,h=>by cases x<;>simp[bN]at h
 | c+1,x::xs,y::ys,b,h=>by
   cases x<;>try (simp[bN]at h;done)
   cases y<;>try (simp[bN]at h;done)
   rename_i k a k' a'
   simp only [bN]at h
   split at h
   ·rename_i hk
    simp only [aaD]at h
    obtain ⟨b',hb,rfl⟩:=h
    obtain ⟨b1,b2,h1,h2,rfl⟩:=lq c hb
    exact ⟨(a==a')&&b1,b2,by simp[bN,hk,h1],by simpa using h2,by rw[Bool.and_assoc]⟩
   ·cases h
def ag6 (P:Program) (m:aF) (dd:Nat) (t:TypeId):Prop:=∀ (us vs:Array Value) (off:Nat) (xs ys:List ak) (b:Bool) (w:World),xs.length=P.cellsOf t->ar m xs ((us.toList.drop off).take (P.cellsOf t))->ar m ys ((vs.toList.drop off).take (P.cellsOf t))->bN xs ys=some b ->
 ∃ a c,(part t us off).run P w=.ok a w/\(part t vs off).run P w=.ok c w/\(Op.equalIn dd t a c).run P w=.ok b w
theorem pk {dd:Nat} {us vs:Array Value}:∀ (fs:List Field) (i:Nat) (xs ys:List ak) (b:Bool) (w:World),(∀ f∈fs,ag6 P m dd f.type)->tk P (fun _=>true) fs i=true->xs.length=yau P fs->ar m xs ((us.toList.drop i).take (yau P fs))->ar m ys ((vs.toList.drop i).take (yau P fs))->bN xs ys=some b ->
 (Op.eqFields dd us vs fs).run P w=.ok b w
 | [],i,xs,ys,b,w,_,_,hl,_,_,hb=>by
   cases xs with
   |cons _ _=>simp[yau]at hl
   | nil=>cases ys with
     |nil=>simp[bN]at hb;subst hb;rfl
     |cons _ _=>simp[bN]at hb
 | f::fs,i,xs,ys,b,w,hq,hf,hl,hx,hy,hb=>by
   simp only [tk,aaw,abN]at hf
   obtain ⟨⟨⟨h1,h2⟩,_⟩,h4⟩:=hf
   have ho:=aax h2
   simp only [yau]at hl hx hy
   obtain ⟨b1,b2,e1,e2,rfl⟩:=lq (P.cellsOf f.type) hb
   have x1:=eJ (P.cellsOf f.type) hx
   have x2:=fx (P.cellsOf f.type) hx
   have y1:=eJ (P.cellsOf f.type) hy
   have y2:=fx (P.cellsOf f.type) hy
   rw [alF,aoa (by omega)]at x1 y1
   rw [apM,ajT,Nat.add_sub_cancel_left]at x2 y2
   obtain ⟨a,c,r1,r2,r3⟩:=hq f (by simp) us vs i _ _ b1 w (by rw[arD];omega) x1 y1 e1
   simp only [Op.eqFields]
   rw [aby h1,ho,ab r1,ab r2,ab r3]
   cases b1 with
   |false=>rfl
   |true=>exact pk fs (i+P.cellsOf f.type) _ _ b2 w (fun g hg=>hq g (by simp[hg])) h4 (by rw[aph];omega) x2 y2 e2
theorem q8 {dd:Nat} {e:TypeId} {us vs:Array Value} (hq:ag6 P m dd e):∀ (n i:Nat) (xs ys:List ak) (b:Bool) (w:World),xs.length=n*P.cellsOf e->ar m xs ((us.toList.drop (i*P.cellsOf e)).take (n*P.cellsOf e))->ar m ys ((vs.toList.drop (i*P.cellsOf e)).take (n*P.cellsOf e))->bN xs ys=some b ->
 (Op.eqItems dd e (P.cellsOf e) us vs (List.range' i n)).run P w=.ok b w
 | 0, i,xs,ys,b,w,hl,_,_,hb=>by
   cases xs with
   |cons _ _=>simp at hl
   | nil=>cases ys with
     |nil=>simp[bN]at hb;subst hb;rfl
     |cons _ _=>simp[bN]at hb
 | n+1,i,xs,ys,b,w,hl,hx,hy,hb=>by
   have hn:(n+1)*P.cellsOf e=P.cellsOf e+n*P.cellsOf e:=by rw[ajW,Nat.one_mul,ari]
   have hi:i*P.cellsOf e+P.cellsOf e=(i+1)*P.cellsOf e:=by rw[ajW,Nat.one_mul]
   rw [hn]at hl hx hy
   obtain ⟨b1,b2,e1,e2,rfl⟩:=lq (P.cellsOf e) hb
   have x1:=eJ (P.cellsOf e) hx
   have x2:=fx (P.cellsOf e) hx
   have y1:=eJ (P.cellsOf e) hy
   have y2:=fx (P.cellsOf e) hy
   rw [alF,aoa (by omega)]at x1 y1
   rw [apM,ajT,Nat.add_sub_cancel_left,hi]at x2 y2
   obtain ⟨a,c,r1,r2,r3⟩:=hq us vs _ _ _ b1 w (by rw[arD];omega) x1 y1 e1
   rw [anv]
   simp only [Op.eqItems]
   rw [ab r1,ab r2,ab r3]
   cases b1 with
   |false=>rfl
   |true=>exact q8 hq n (i+1) _ _ b2 w (by rw[aph];omega) x2 y2 e2
theorem zy {q:TypeId->Bool}:∀ {fs:List Field} {i:Nat},tk P q fs i=true->(∀ f∈fs,q f.type=true)/\tk P (fun _=>true) fs i=true
 |[],_,_=>⟨by simp,rfl⟩
 | f::fs,i,h=>by
   simp only [tk,aaw]at h ⊢
   have k:=zy h.2
   exact ⟨fun g hg=>by
    rcases List.mem_cons.1 hg with rfl|hg
    ·exact h.1.2
    ·exact k.1 g hg,⟨⟨h.1.1,trivial⟩,k.2⟩⟩
theorem z7:∀ (d dd:Nat) (t:TypeId),lS P d t=true->(∀ n e,P.underlying t=some (.array n e)->True)->d<=dd->∀ (us vs:Array Value) (xs ys:List ak) (b:Bool) (w:World),(match P.underlying t with|some (.array _ _)|some (.struct _)=>true|_=>false)=true->xs.length=P.cellsOf t->ar m xs (us.toList.take (P.cellsOf t))->ar m ys (vs.toList.take (P.cellsOf t))->bN xs ys=some b ->
 (Op.equalIn dd t (.agg us) (.agg vs)).run P w=.ok b w:=by
 intro d
 induction d with
 |zero=>intro dd t h;cases h
 | succ d ih =>
   intro dd t h _ hd us vs xs ys b w hw hl hx hy hb
   obtain ⟨dd,rfl⟩:∃ q,dd=q+1:=⟨dd-1,by omega⟩
   have pt:∀ e,lS P d e=true->ag6 P m dd e:=by
    intro e he us vs off xs ys b w hl hx hy hb
    cases hu:P.underlying e with
    |none=>cases d<;>simp[lS,hu]at he
    | some k =>
      obtain ⟨ie,hie⟩:=info_of_underlying hu
      have wide:(match P.underlying e with|some (.array _ _)|some (.struct _)=>true|_=>false)=true->∃ a c,(part e us off).run P w=.ok a w/\(part e vs off).run P w=.ok c w/\(Op.equalIn dd e a c).run P w=.ok b w:=by
       intro hw
       have pa:∀ zs:Array Value,(part e zs off).run P w=.ok (.agg (zs.extract off (off+P.cellsOf e))) w:=by
        intro zs
        rw [hu]at hw
        cases k<;>first|(cases hw;done)|simp[part,isAgg,aI hu,Go.run_sizeOf w hie]
       have ex:∀ zs:Array Value,(zs.extract off (off+P.cellsOf e)).toList.take (P.cellsOf e)=(zs.toList.drop off).take (P.cellsOf e):=by
        intro zs
        rw [Array.toList_extract]
        simp [List.extract,alF]
       exact ⟨_,_,pa us,pa vs,ih dd e he (fun _ _ _=>trivial) (by omega) _ _ xs ys b w hw hl (by rw[ex];exact hx) (by rw[ex];exact hy) hb⟩
      cases k with
      |array n e'=>exact wide (by rw[hu])
      |struct fs=>exact wide (by rw[hu])
      | int q =>
        obtain ⟨d,rfl⟩:∃ r,d=r+1:=by cases d with
         |zero=>cases he
         |succ r=>exact⟨r,rfl⟩
        have hc:P.cellsOf e=1:=by
         simp only [lS,hu]at he
         exact aax he
        rw [hc]at hl hx hy
        obtain ⟨dd',rfl⟩:∃ r,dd=r+1:=⟨dd-1,by omega⟩
        have hl':=(nL hb).trans hl
        obtain ⟨x,rfl⟩:=List.length_eq_one_iff.1 hl
        obtain ⟨y,rfl⟩:=List.length_eq_one_iff.1 hl'
        cases x<;>try (simp[bN]at hb;done)
        cases y<;>try (simp[bN]at hb;done)
        rename_i k a k' a'
        simp only [bN]at hb
        split at hb
        ·rename_i hk
         subst hk
         simp only [abW,aaB,Bool.and_true]at hb
         subst hb
         simp only [ar,vrel]at hx hy
         obtain ⟨u,us',h1,h2,h3⟩:=hx
         obtain ⟨v,vs',g1,g2,g3⟩:=hy
         subst h2;subst g2
         have gu:us[off]? = some (.int k a):=getElem?_of_chunk (c:=1) (by rw[h1,h3])
         have gv:vs[off]? = some (.int k a'):=getElem?_of_chunk (c:=1) (by rw[g1,g3])
         exact ⟨_,_,qO hu gu w,qO hu gv w,run_equalIn_int w dd' e k q a a' hu⟩
        ·cases hb
      |_=>cases d<;>simp[lS,hu]at he
   cases hu:P.underlying t with
   |none=>simp[hu]at hw
   | some k =>
     cases k with
     | array n e =>
       obtain ⟨hc,he⟩:P.cellsOf t=n*P.cellsOf e/\lS P d e=true:=by
        simp only [lS,hu,aaw]at h
        exact ⟨aax h.1,h.2⟩
       obtain ⟨ie,hi⟩:∃ i,P.info? e=some i:=by
        cases hue:P.underlying e with
        |none=>cases d<;>simp[lS,hue]at he
        |some k=>exact info_of_underlying hue
       rw [run_equalIn_array w _ us vs hu hi,aqs]
       rw [hc]at hl hx hy
       exact q8 (pt e he) n 0 xs ys b w hl (by simpa using hx) (by simpa using hy) hb
     | struct fs =>
       obtain ⟨⟨hc,hs⟩,hf⟩:(P.cellsOf t=yau P fs.toList/\P.stoodInHeld t=false)/\tk P (lS P d) fs.toList 0=true:=by
        simp only [lS,hu,aaw,aia]at h
        exact ⟨⟨aax h.1.1,h.1.2⟩,h.2⟩
       have hfo:P.fieldsOf t=fs:=by unfold Program.fieldsOf;rw[hu]
       rw [run_equalIn_struct w _ t us vs (by rw[hu,hfo]) hs,hfo]
       rw [hc]at hl hx hy
       have k:=zy hf
       exact pk _ 0 xs ys b w (fun f hf=>pt _ (k.1 f hf)) k.2 hl (by simpa using hx) (by simpa using hy) hb
     |_=>simp[hu]at hw
theorem gw {t:TypeId} (d:Nat) (h:(lS P d t&&decide (d<=10000)&&(match P.underlying t with|some (.array _ _)|some (.struct _)=>true|_=>false)&&!P.eqGuardType P.depth t&&decide ((P.info? t).map (·.size)=some (P.cellsOf t)))=true):cU P t:=by
 simp only [aaw,abN,aia]at h
 obtain ⟨⟨⟨⟨h1,h2⟩,h3⟩,h4⟩,h5⟩:=h
 refine ⟨h4,fun n hn xs ys us vs m b w hl hx hy hb=>?_⟩
 rw [h5]at hn;cases hn
 have lx:=cv hx
 have hly:=nL hb
 have ly:=cv hy
 unfold Op.equal
 exact z7 d _ t h1 (fun _ _ _=>trivial) h2 us vs xs ys b w h3 hl (by rw[ajO (by omega)];exact hx) (by rw[ajO (by omega)];exact hy) hb
end
end Go.Sx
namespace Go.Dx
open Go.Sx
end Go.Dx
namespace Go.Dx
abbrev aw (l:List V):Int:=iv (aE l)
abbrev aW (l:List V):Int:=iv (aE (ae l))
abbrev b7 (l:List V):Int:=iv (aE (ae (ae l)))
abbrev bV (l:List V):Int:=iv (aE (ae (ae (ae l))))
abbrev dA (l:List V):Int:=iv (aE (ae (ae (ae (ae l)))))
abbrev bE (l:List V):Int:=iv (aE (ae (ae (ae (ae (ae l))))))
theorem dqt {p:Prop} [inst:Decidable p] (h:p):decide p=true:=arm h
theorem ef {p:Prop} [inst:Decidable p] (h:¬p):decide p=false:=decide_eq_false h
theorem imn {a b:Int} (h:0<=a) (g:0<=b):0<=a*b:=Int.mul_nonneg h g
theorem iml {a b c:Int} (h:a<=b) (g:0<=c):c*a<=c*b:=Int.mul_le_mul_of_nonneg_left h g
def iR:Nat->Nat->ni->ni
 |_,0,l=>l
 |k,n+1,l=>some (some k)::iR (k+1) n l
def ua (ct:aZ) (un:kk) (j:JJ) (l:Lp JJ) (s:bD×List O×Option Sx.Ex):T (ck JJ):=rdT ct un j l s.1 s.2.1 s.2.2
abbrev vi (n:Int):V:=.int .i64 n
abbrev tI:Ty:=.int .i64
abbrev wI (x:Int):Int:=IntKind.i64.wrap x
abbrev aJ:List Ty:=[Ty.int IntKind.i64,Ty.int IntKind.i64]
abbrev gP:List Ty:=[Ty.int IntKind.i64,Ty.int IntKind.i64,Ty.int IntKind.i64,Ty.int IntKind.i64]
abbrev ac:List Ty:=[Ty.int IntKind.i64]
abbrev aB:List Ty:=[Ty.str,Ty.int IntKind.i64,Ty.sl [Ty.int IntKind.i64,Ty.int IntKind.i64],Ty.int IntKind.i64]
abbrev aH:List Ty:=[Ty.int IntKind.i64,Ty.int IntKind.i64,Ty.int IntKind.i64,Ty.int IntKind.i64,Ty.sl [Ty.int IntKind.i64,Ty.int IntKind.i64,Ty.int IntKind.i64,Ty.int IntKind.i64]]
abbrev aA:List Ty:=[Ty.str,Ty.int IntKind.i64,Ty.int IntKind.i64,Ty.int IntKind.i64,Ty.int IntKind.i64,Ty.int IntKind.i64]
abbrev aG:List Ty:=[Ty.int IntKind.i64,Ty.int IntKind.i64,Ty.int IntKind.i64,Ty.int IntKind.i64,Ty.int IntKind.i64]
abbrev af:List Ty:=[Ty.str,Ty.sl [Ty.int IntKind.i64],Ty.sl [Ty.int IntKind.i64],Ty.sl [Ty.sl [Ty.int IntKind.i64]],Ty.int IntKind.i64,Ty.int IntKind.i64]
abbrev ah:List Ty:=[Ty.str,Ty.int IntKind.i64,Ty.int IntKind.i64,Ty.int IntKind.i64,Ty.int IntKind.i64,Ty.int IntKind.i64,Ty.int IntKind.i64,Ty.int IntKind.i64,Ty.int IntKind.i64,Ty.int IntKind.i64,Ty.int IntKind.i64,Ty.int IntKind.i64,Ty.int IntKind.i64,Ty.int IntKind.i64]
abbrev aU:List Ty:=[Ty.int IntKind.i64,Ty.int IntKind.i64,Ty.int IntKind.i64]
abbrev scV (n0:Nat) (f0:aL) (n2:Nat) (f2:aL) (n4:Nat) (f4:aL) (n6:Nat) (f6:aL):V:=.agg [.sl n0 (aa aB f0),.sl n2 (aa aG f2),.sl n4 (aa aH f4),.sl n6 (aa aA f6)]
end Go.Dx
namespace Go.Dx
open Go.IntKind (i64 u64 u8)
open Go.Sx Go.Proofs
def eqs:List TypeId:=[45,44,72,38,224,129]
noncomputable section
noncomputable def itF (n:FuncId) (f:Func):gH:=⟨n,((qG Tryz.prog eqs f).getD (0,.skip)).1,((qG Tryz.prog eqs f).getD (0,.skip)).2⟩
def its:List gH:=[itF 58 Tryz.f58,itF 143 Tryz.f143]
noncomputable def bX (f:Func):aK:=(dW Tryz.prog eqs its f).getD ⟨0,[],.skip⟩
def ae9:aK:=bX Tryz.f3
def aeV:aK:=bX Tryz.f4
def ahv:aK:=bX Tryz.f5
def ahn:aK:=bX Tryz.f6
def Uc:aK:=bX Tryz.f7
def ybf:aK:=bX Tryz.f8
def ahT:aK:=bX Tryz.f9
def agR:aK:=bX Tryz.f10
def af0:aK:=bX Tryz.f11
def ah1:aK:=bX Tryz.f12
def agL:aK:=bX Tryz.f13
def UE:aK:=bX Tryz.f14
def P6:aK:=bX Tryz.f15
def vC:aK:=bX Tryz.f16
def Nv:aK:=bX Tryz.f17
def T8:aK:=bX Tryz.f18
def RX:aK:=bX Tryz.f19
def Og:aK:=bX Tryz.f20
def Qx:aK:=bX Tryz.f21
def Mr:aK:=bX Tryz.f22
def aho:aK:=bX Tryz.f23
def aih:aK:=bX Tryz.f24
def ah4:aK:=bX Tryz.f25
def ahd:aK:=bX Tryz.f26
def apY:aK:=bX Tryz.f27
def xD:aK:=bX Tryz.f28
def aqg:aK:=bX Tryz.f29
def aer:aK:=bX Tryz.f30
def afQ:aK:=bX Tryz.f31
def agf:aK:=bX Tryz.f32
def aiB:aK:=bX Tryz.f33
def ag8:aK:=bX Tryz.f34
def Q7:aK:=bX Tryz.f35
def zD:aK:=bX Tryz.f36
def Pf:aK:=bX Tryz.f37
def aeD:aK:=bX Tryz.f38
def Qa:aK:=bX Tryz.f39
def agK:aK:=bX Tryz.f40
def Mq:aK:=bX Tryz.f41
def Az:aK:=bX Tryz.f42
def Pi:aK:=bX Tryz.f43
def R2:aK:=bX Tryz.f44
def Bt:aK:=bX Tryz.f45
def Z1:aK:=bX Tryz.f46
def Qb:aK:=bX Tryz.f47
def Rt:aK:=bX Tryz.f48
def My:aK:=bX Tryz.f49
def SS:aK:=bX Tryz.f50
def Sk:aK:=bX Tryz.f51
def aha:aK:=bX Tryz.f52
def aes:aK:=bX Tryz.f53
def aeZ:aK:=bX Tryz.f54
def amU:aK:=bX Tryz.f55
def arJ:aK:=bX Tryz.f56
def aqe:aK:=bX Tryz.f57
def aqh:aK:=bX Tryz.f59
def SH:aK:=bX Tryz.f60
def agA:aK:=bX Tryz.f61
def aiD:aK:=bX Tryz.f62
def Bu:aK:=bX Tryz.f63
def AD:aK:=bX Tryz.f64
def aeJ:aK:=bX Tryz.f65
def ajj:aK:=bX Tryz.f66
def arS:aK:=bX Tryz.f67
def U1:aK:=bX Tryz.f68
def Td:aK:=bX Tryz.f69
def ML:aK:=bX Tryz.f70
def aiX:aK:=bX Tryz.f71
def vK:aK:=bX Tryz.f72
def Fz:aK:=bX Tryz.f73
def ago:aK:=bX Tryz.f74
def aeE:aK:=bX Tryz.f75
def ME:aK:=bX Tryz.f76
def yaJ:aK:=bX Tryz.f77
def ash:aK:=bX Tryz.f78
def ar2:aK:=bX Tryz.f79
def akV:aK:=bX Tryz.f80
def QY:aK:=bX Tryz.f81
def TG:aK:=bX Tryz.f82
def ain:aK:=bX Tryz.f83
def ahN:aK:=bX Tryz.f84
def ah6:aK:=bX Tryz.f85
def ahV:aK:=bX Tryz.f86
def agB:aK:=bX Tryz.f87
def agt:aK:=bX Tryz.f88
def ajo:aK:=bX Tryz.f89
def arq:aK:=bX Tryz.f90
def apO:aK:=bX Tryz.f91
def apE:aK:=bX Tryz.f92
def apA:aK:=bX Tryz.f93
def apL:aK:=bX Tryz.f94
def ass:aK:=bX Tryz.f95
def aq0:aK:=bX Tryz.f96
def apI:aK:=bX Tryz.f97
def anI:aK:=bX Tryz.f98
def asf:aK:=bX Tryz.f99
def aps:aK:=bX Tryz.f100
def aqJ:aK:=bX Tryz.f101
def asb:aK:=bX Tryz.f102
def arO:aK:=bX Tryz.f103
def apP:aK:=bX Tryz.f104
def Sm:aK:=bX Tryz.f105
def af2:aK:=bX Tryz.f106
def gG:aK:=bX Tryz.f107
def ow:aK:=bX Tryz.f108
def PC:aK:=bX Tryz.f109
def NC:aK:=bX Tryz.f110
def Ut:aK:=bX Tryz.f111
def aiW:aK:=bX Tryz.f112
def aiL:aK:=bX Tryz.f114
def agz:aK:=bX Tryz.f115
def adZ:aK:=bX Tryz.f116
def agU:aK:=bX Tryz.f117
def ahz:aK:=bX Tryz.f118
def ahX:aK:=bX Tryz.f119
def aiN:aK:=bX Tryz.f120
def amL:aK:=bX Tryz.f121
def anB:aK:=bX Tryz.f122
def ani:aK:=bX Tryz.f123
def akG:aK:=bX Tryz.f124
def aqD:aK:=bX Tryz.f125
def amH:aK:=bX Tryz.f126
def yC:aK:=bX Tryz.f127
def yU:aK:=bX Tryz.f128
def am3:aK:=bX Tryz.f129
def aoO:aK:=bX Tryz.f130
def amd:aK:=bX Tryz.f131
def alw:aK:=bX Tryz.f132
def aot:aK:=bX Tryz.f133
def akW:aK:=bX Tryz.f134
def aoi:aK:=bX Tryz.f135
def amP:aK:=bX Tryz.f136
def akM:aK:=bX Tryz.f137
def Mx:aK:=bX Tryz.f138
def ql:aK:=bX Tryz.f139
def mq:aK:=bX Tryz.f140
def ah0:aK:=bX Tryz.f141
def aim:aK:=bX Tryz.f142
def agO:aK:=bX Tryz.f144
def aen:aK:=bX Tryz.f145
def aeA:aK:=bX Tryz.f146
def acr:aK:=bX Tryz.f147
def anO:aK:=bX Tryz.f149
def ali:aK:=bX Tryz.f150
def ak3:aK:=bX Tryz.f151
def ak6:aK:=bX Tryz.f152
def ary:aK:=bX Tryz.f153
def alo:aK:=bX Tryz.f154
def amM:aK:=bX Tryz.f155
def aoJ:aK:=bX Tryz.f156
def ybm:aK:=bX Tryz.f157
def amf:aK:=bX Tryz.f158
def aly:aK:=bX Tryz.f159
def anF:aK:=bX Tryz.f160
def PY:aK:=bX Tryz.f161
def akn:aK:=bX Tryz.f169
def alh:aK:=bX Tryz.f170
def aa9:aK:=bX Tryz.f171
def ON:aK:=bX Tryz.f172
def PF:aK:=bX Tryz.f173
def anc:aK:=bX Tryz.f178
def amr:aK:=bX Tryz.f187
def ybe:aK:=bX Tryz.f188
end
theorem hE:∀ t∈eqs,cU Tryz.prog t:=by
 intro t ht
 simp only [eqs,ahG,ajR,or_false]at ht
 rcases ht with rfl|rfl|rfl|rfl|rfl|rfl
 ·exact gw 3 bb
 ·exact gw 3 bb
 ·exact gw 3 bb
 ·exact gw 3 bb
 ·exact gw 3 bb
 ·exact gw 3 bb
theorem hI:kG Tryz.prog eqs its:=by
 intro it ht
 simp only [its,ahG,ajR,or_false]at ht
 rcases ht with rfl|rfl
 ·exact⟨_,Tryz.func58,by kernel_rfl,by kernel_rfl⟩
 ·exact⟨_,Tryz.func143,by kernel_rfl,by kernel_rfl⟩
def u0:kk:=fun _=>0
noncomputable def fnQ (fn : Func) (sf : aK) (ts : List Ty) : Bool × Option aK × Bool × Bool := (fn.name == "runtime.NumGoroutine", dW Tryz.prog eqs its fn, fj sf.ntmps sf.body, fF ts)
abbrev dm {α:Sort _} {β:Sort _} (_:α) (b:β):β:=b
abbrev RT.am {S:Type} (n:Nat) (x:RT S):RT S:=.asm (true=true->n<=9223372036854775807) x
abbrev RT.cb {S:Type} (x:RT S):RT S:=.obc (.obt x)
abbrev RT.ii {S:Type} (x:RT S):RT S:=.obi (.obi x)
abbrev RT.iv {S:Type} (x:RT S):RT S:=.ii (.ii x)
abbrev nz (x:Int):Prop:=x=0->False
abbrev dI (x:Int) (n:Nat):Bool:=decide (0<=x/\x<(n:Int))
theorem eT {f : FuncId} {fn : Func} {sf : aK} {un : kk} {ct : aZ} (hf : Tryz.prog.funcs[f]? = some fn) (hk : (fn.name == "runtime.NumGoroutine", dW Tryz.prog eqs its fn, fj sf.ntmps sf.body) = (false, some sf, true)) (hl : aO Tryz.prog eqs its ct) : aO Tryz.prog eqs its ((f, .inl sf un) :: ct) := .inl hf (congrArg Prod.fst hk) (congrArg (fun x => x.2.1) hk) (congrArg (fun x => x.2.2) hk) hl
theorem yad {fn : Func} {sf : aK} {ts : List Ty} (h : fnQ fn sf ts = (false, some sf, true, true)) : (fn.name == "runtime.NumGoroutine") = false /\ dW Tryz.prog eqs its fn = some sf /\ fj sf.ntmps sf.body = true /\ fF ts = true := by
 have h1:=congrArg Prod.fst h
 have h2:=congrArg (fun x=>x.2.1) h
 have h3:=congrArg (fun x=>x.2.2.1) h
 have h4:=congrArg (fun x=>x.2.2.2) h
 exact ⟨h1,h2,h3,h4⟩
section
variable {ct:aZ} {f:FuncId} {fn:Func} {sf:aK} {un:kk} {ts:List Ty} {pre:List V->Prop} {r:List V->V}
theorem mkE (hT:aO Tryz.prog eqs its ct) (hf:Tryz.prog.funcs[f]? = some fn) (hk:fnQ fn sf ts=(false,some sf,true,true)) (h:∀ ds,pre (al ts ds)->Run ct (aV JJ ct un sf (al ts ds)) (r (al ts ds))):(vP (bL ts pre r)).Ok Tryz.prog f :=
 FH (J:=JJ) (un:=un) hT hE hI hf (yad hk).1 (yad hk).2.1 (yad hk).2.2.1 (yad hk).2.2.2 fun w0 ds hp=>h ds hp hT.dst w0
abbrev cr (C:av) (k:FuncId):Prop:=(vP C).Ok Tryz.prog k
theorem aY (hT:aO Tryz.prog eqs its ct) (h:∀ ds,pre (al ts ds) → Run ct (aV JJ ct un sf (al ts ds)) (r (al ts ds))) (hk:(Tryz.prog.funcs[f]?).map (fun fn=>fnQ fn sf ts)=some (false,some sf,true,true):=by kernel_rfl):(vP (bL ts pre r)).Ok Tryz.prog f:=by
  obtain ⟨fn,hf,hk⟩:=Option.map_eq_some_iff.1 hk
  exact mkE hT hf hk h
theorem ar5 {e:Nat} {ty:TypeId} (hT:aO Tryz.prog eqs its ct) (hf:Tryz.prog.funcs[f]? = some fn) (hk:fnQ fn sf ts=(false,some sf,true,true)) (h:∀ ds,pre (al ts ds)->Run ct (Tm JJ e ty ct un sf (al ts ds)) (r (al ts ds))):(vL e ty (bL ts pre r)).Ok Tryz.prog f :=
 Yn (J:=JJ) (un:=un) hT hE hI hf (yad hk).1 (yad hk).2.1 (yad hk).2.2.1 (yad hk).2.2.2 fun w0 ds hp=>h ds hp hT.dst w0
end
end Go.Dx
namespace Go.Dx
open Go.IntKind (i64 u64 u8)
open Go.Sx Go.Proofs
variable (x0:Int) (s0:ByteArray) (x1 x2 x3 x4 x5 x6 x7 x8:Int) (b8:Bool) (x9 x10 x11:Int)
noncomputable section
def B9:aZ:=[]
theorem xA:aO Tryz.prog eqs its B9:=.nil
def m84:RT Empty:=.ret (V.agg [vi (wI (x0-x2)),vi (wI (x1-x3))])
theorem akz:cW cX (aV JJ B9 u0 ar2 [V.agg [vi x0,vi x1],V.agg [vi x2,vi x3]]) (m84 x0 x1 x2 x3):=bF
def bo:Int:=wI (x0-x2)
def bn:Int:=wI (x1-x3)
def R84:V:=.agg [vi (bo x0 x2),vi (bn x1 x3)]
theorem apt:aX cL (m84 x0 x1 x2 x3) (R84 x0 x1 x2 x3):=evRet (by unfold R84 bo bn;rfl)
def C84:av:=bL [.agg aJ,.agg aJ] (fun _=>True) fun
 |[.agg [.int _ x0,.int _ x1],.agg [.int _ x2,.int _ x3]]=>R84 x0 x1 x2 x3
 |_=>.any
theorem Fa:cr C84 79:=aY xA fun _ hp=>c9 (akz ..) (apt _ _ _ _)
def m85:RT Empty:=.ret (vi (wI (wI (x0*x2)+wI (x1*x3))))
theorem amh:cW cX (aV JJ B9 u0 ary [V.agg [vi x0,vi x1],V.agg [vi x2,vi x3]]) (m85 x0 x1 x2 x3):=bF
def gT:Int:=wI (wI (x0*x2)+wI (x1*x3))
def R85:V:=vi (gT x0 x1 x2 x3)
theorem arV:aX cL (m85 x0 x1 x2 x3) (R85 x0 x1 x2 x3):=evRet (by unfold R85 gT;rfl)
def C85:av:=bL [.agg aJ,.agg aJ] (fun _=>True) fun
 |[.agg [.int _ x0,.int _ x1],.agg [.int _ x2,.int _ x3]]=>R85 x0 x1 x2 x3
 |_=>.any
theorem EC:cr C85 153:=aY xA fun _ hp=>c9 (amh ..) (arV _ _ _ _)
def ane:RT Empty:=.ret (vi (wI (wI (x0*x3)-wI (x1*x2))))
theorem aiM:cW cX (aV JJ B9 u0 akV [V.agg [vi x0,vi x1],V.agg [vi x2,vi x3]]) (ane x0 x1 x2 x3):=bF
def dH:Int:=wI (wI (x0*x3)-wI (x1*x2))
def ahU:V:=vi (dH x0 x1 x2 x3)
theorem aom:aX cL (ane x0 x1 x2 x3) (ahU x0 x1 x2 x3):=evRet (by unfold ahU dH;rfl)
def DG:av:=bL [.agg aJ,.agg aJ] (fun _=>True) fun
 |[.agg [.int _ x0,.int _ x1],.agg [.int _ x2,.int _ x3]]=>ahU x0 x1 x2 x3
 |_=>.any
theorem xi:cr DG 80:=aY xA fun _ hp=>c9 (aiM ..) (aom _ _ _ _)
def amn:RT Empty:=.ret (V.agg [vi (wI (x2*x0)),vi (wI (x2*x1))])
theorem afu:cW cX (aV JJ B9 u0 aot [V.agg [vi x0,vi x1],vi x2]) (amn x0 x1 x2):=bF
def vJ:Int:=wI (x2*x0)
def xp:Int:=wI (x2*x1)
def ajF:V:=.agg [vi (vJ x0 x2),vi (xp x1 x2)]
theorem amX:aX cL (amn x0 x1 x2) (ajF x0 x1 x2):=evRet (by unfold ajF vJ xp;rfl)
def Ds:av:=bL [.agg aJ,tI] (fun _=>True) fun
 |[.agg [.int _ x0,.int _ x1],.int _ x2]=>ajF x0 x1 x2
 |_=>.any
theorem vn:cr Ds 133:=aY xA fun _ hp=>c9 (afu ..) (amX _ _ _)
def m86:RT Empty:=.obi (.obi (.obi (.ret (V.bool (bif decide (x0<x1) then true else decide (x2<x0))))))
theorem amw:cW cX (aV JJ B9 u0 ash [vi x0,vi x1,vi x2]) (m86 x0 x1 x2):=bF
def bq:Bool:=bif decide (x0<x1) then true else decide (x2<x0)
def R86:V:=.bool (bq x0 x1 x2)
theorem ap6:aX cL (m86 x0 x1 x2) (R86 x0 x1 x2):=evObi (evObi (evObi (evRet (by unfold R86 bq;rfl))))
def Zr:av:=bL aU (fun _=>True) fun
 |[.int _ x0,.int _ x1,.int _ x2]=>R86 x0 x1 x2
 |_=>.any
theorem yaw:cr Zr 78:=aY xA fun _ hp=>c9 (amw ..) (ap6 _ _ _)
def gx:Bool:=bif decide (x1<=x0) then decide (x0<=x2) else false
def db:Int:=wI (x0-x2)
def dc:Int:=wI (x1-x3)
def we:Int:=wI (wI (x0*x2)+wI (x1*x3))
def kp:Int:=wI (wI (x0*x3)-wI (x1*x2))
def A2:Int:=max x0 (wI (0-x0))
def sg:Int:=max (-1) (min 1 x0)
def aoQ:RT Empty:=.obt (.obt (.obt (.obt (.obt (.ret (V.tup [V.int u64 (u64.wrap (u64.wrap (u64.wrap (x0.fdiv (2 ^ 32)*x1.fdiv (2 ^ 32))+(u64.wrap (u64.wrap (x0.fdiv (2 ^ 32)*bits BinOp.and u64 x1 4294967295)+(u64.wrap (bits BinOp.and u64 x0 4294967295*bits BinOp.and u64 x1 4294967295)).fdiv (2 ^ 32))).fdiv (2 ^ 32))+(u64.wrap (bits BinOp.and u64 (u64.wrap (u64.wrap (x0.fdiv (2 ^ 32)*bits BinOp.and u64 x1 4294967295)+(u64.wrap (bits BinOp.and u64 x0 4294967295*bits BinOp.and u64 x1 4294967295)).fdiv (2 ^ 32))) 4294967295+u64.wrap (bits BinOp.and u64 x0 4294967295*x1.fdiv (2 ^ 32)))).fdiv (2 ^ 32))),V.int u64 (u64.wrap (x0*x1))]))))))
theorem ahj:cW cX (aV JJ B9 u0 akn [V.int u64 x0,V.int u64 x1]) (aoQ x0 x1):=bF
def sS:Int:=u64.wrap (u64.wrap (u64.wrap (x0.fdiv (2 ^ 32)*x1.fdiv (2 ^ 32))+(u64.wrap (u64.wrap (x0.fdiv (2 ^ 32)*bits BinOp.and u64 x1 4294967295)+(u64.wrap (bits BinOp.and u64 x0 4294967295*bits BinOp.and u64 x1 4294967295)).fdiv (2 ^ 32))).fdiv (2 ^ 32))+(u64.wrap (bits BinOp.and u64 (u64.wrap (u64.wrap (x0.fdiv (2 ^ 32)*bits BinOp.and u64 x1 4294967295)+(u64.wrap (bits BinOp.and u64 x0 4294967295*bits BinOp.and u64 x1 4294967295)).fdiv (2 ^ 32))) 4294967295+u64.wrap (bits BinOp.and u64 x0 4294967295*x1.fdiv (2 ^ 32)))).fdiv (2 ^ 32))
def s9:Int:=u64.wrap (x0*x1)
def aeQ:V:=.tup [.int u64 (sS x0 x1),.int u64 (s9 x0 x1)]
theorem anw:aX cL (aoQ x0 x1) (aeQ x0 x1):=evObt (evObt (evObt (evObt (evObt (evRet (by unfold aeQ sS s9;rfl))))))
def BZ:av:=bL [.int .u64,.int .u64] (fun _=>True) fun
 |[.int _ x0,.int _ x1]=>aeQ x0 x1
 |_=>.any
theorem vl:cr BZ 169:=aY xA fun _ hp=>c9 (ahj ..) (anw _ _)
def amu:RT Empty:=.ret (V.bool (x0 != x0))
theorem adH:cW cX (aV JJ B9 u0 ybe [vi x0]) (amu x0):=bF
def Om:Bool:=x0 != x0
def ahc:V:=.bool (Om x0)
theorem aoH:aX cL (amu x0) (ahc x0):=evRet (by unfold ahc Om;rfl)
def FX:av:=bL ac (fun _=>True) fun
 |[.int _ x0]=>ahc x0
 |_=>.any
theorem yT:cr FX 188:=aY xA fun _ hp=>c9 (adH ..) (aoH _)
def Bb:aZ:=[(79,.con C84),(153,.con C85),(80,.con DG),(133,.con Ds),(78,.con Zr),(169,.con BZ),(188,.con FX)]
theorem tt:aO Tryz.prog eqs its Bb:=.con Fa (.con EC (.con xi (.con vn (.con yaw (.con vl (.con yT (.nil)))))))
def anV:RT Empty:=.obc (.obt (.ret (V.agg [V.int u64 (sS (u64.wrap x0) (u64.wrap x1)),V.int u64 (s9 (u64.wrap x0) (u64.wrap x1))])))
theorem afU:cW cX (aV JJ Bb u0 alo [vi x0,vi x1]) (anV x0 x1):=bF
def l8:Int:=sS (u64.wrap x0) (u64.wrap x1)
def mP:Int:=s9 (u64.wrap x0) (u64.wrap x1)
def aeS:V:=.agg [.int u64 (l8 x0 x1),.int u64 (mP x0 x1)]
theorem aoI:aX cL (anV x0 x1) (aeS x0 x1):=au (evObt (evRet (by unfold aeS l8 mP;rfl)))
def D6:av:=bL aJ (fun _=>True) fun
 |[.int _ x0,.int _ x1]=>aeS x0 x1
 |_=>.any
theorem wv:cr D6 154:=aY tt fun _ hp=>c9 (afU ..) (aoI _ _)
def al4:RT Empty:=.obi (.obi (.obi (.obi (.obi (.obi (.obi (.obi (.obi (.obi (.obi (.obi (.obi (.obi (.obi (.obi (.obi (.ret (V.bool (bif bif x0==x2&&(x1==x3&&true) then true else decide (x0<x2) then true else bif x0==x2 then decide (x1<x3) else false)))))))))))))))))))
theorem ag7:cW cX (aV JJ Bb u0 amM [V.agg [V.int u64 x0,V.int u64 x1],V.agg [V.int u64 x2,V.int u64 x3]]) (al4 x0 x1 x2 x3):=bF
def sO:Bool:=bif bif x0==x2&&(x1==x3&&true) then true else decide (x0<x2) then true else bif x0==x2 then decide (x1<x3) else false
def adG:V:=.bool (sO x0 x1 x2 x3)
theorem amI:aX cL (al4 x0 x1 x2 x3) (adG x0 x1 x2 x3):=evObi (evObi (evObi (evObi (evObi (evObi (evObi (evObi (evObi (evObi (evObi (evObi (evObi (evObi (evObi (evObi (evObi (evRet (by unfold adG sO;rfl))))))))))))))))))
def BL:av:=bL [.agg [.int .u64,.int .u64],.agg [.int .u64,.int .u64]] (fun _=>True) fun
 |[.agg [.int _ x0,.int _ x1],.agg [.int _ x2,.int _ x3]]=>adG x0 x1 x2 x3
 |_=>.any
theorem xc:cr BL 155:=aY tt fun _ hp=>c9 (ag7 ..) (amI _ _ _ _)
def ajb:Bool:=bif decide (x2<x0) then true else bif x0==x2 then decide (x3<x1) else false
def Qv:Int:=u64.wrap (u64.wrap (u64.wrap (u64.wrap ((u64.wrap x0).tdiv 4294967296)*u64.wrap ((u64.wrap x1).tdiv 4294967296))+u64.wrap ((u64.wrap (u64.wrap (u64.wrap ((u64.wrap x0).tdiv 4294967296)*(u64.wrap x1).tmod 4294967296)+u64.wrap ((u64.wrap ((u64.wrap x0).tmod 4294967296*(u64.wrap x1).tmod 4294967296)).tdiv 4294967296))).tdiv 4294967296))+u64.wrap ((u64.wrap (u64.wrap ((u64.wrap x0).tmod 4294967296*u64.wrap ((u64.wrap x1).tdiv 4294967296))+(u64.wrap (u64.wrap (u64.wrap ((u64.wrap x0).tdiv 4294967296)*(u64.wrap x1).tmod 4294967296)+u64.wrap ((u64.wrap ((u64.wrap x0).tmod 4294967296*(u64.wrap x1).tmod 4294967296)).tdiv 4294967296))).tmod 4294967296)).tdiv 4294967296))
def Sd:Int:=u64.wrap (u64.wrap (u64.wrap (u64.wrap ((u64.wrap x0).tmod 4294967296*u64.wrap ((u64.wrap x1).tdiv 4294967296))+(u64.wrap (u64.wrap (u64.wrap ((u64.wrap x0).tdiv 4294967296)*(u64.wrap x1).tmod 4294967296)+u64.wrap ((u64.wrap ((u64.wrap x0).tmod 4294967296*(u64.wrap x1).tmod 4294967296)).tdiv 4294967296))).tmod 4294967296)*4294967296)+(u64.wrap ((u64.wrap x0).tmod 4294967296*(u64.wrap x1).tmod 4294967296)).tmod 4294967296)
def m78:RT Empty:=.obc (.obt (.obc (.obt (.obc (.obt (.ret (vi (dH (bo x2 x0) (bn x3 x1) (bo x4 x0) (bn x5 x1)))))))))
theorem amz:cW cX (aV JJ Bb u0 aqh [V.agg [vi x0,vi x1,vi x2,vi x3],V.agg [vi x4,vi x5]]) (m78 x0 x1 x2 x3 x4 x5):=bF
def gJ:Int:=dH (bo x2 x0) (bn x3 x1) (bo x4 x0) (bn x5 x1)
def R78:V:=vi (gJ x0 x1 x2 x3 x4 x5)
theorem aqv:aX cL (m78 x0 x1 x2 x3 x4 x5) (R78 x0 x1 x2 x3 x4 x5):=au (evObt (au (evObt (au (evObt (evRet (by unfold R78 gJ;rfl)))))))
def C78:av:=bL [.agg gP,.agg aJ] (fun _=>True) fun
 |[.agg [.int _ x0,.int _ x1,.int _ x2,.int _ x3],.agg [.int _ x4,.int _ x5]]=>R78 x0 x1 x2 x3 x4 x5
 |_=>.any
theorem EH:cr C78 59:=aY tt fun _ hp=>c9 (amz ..) (aqv _ _ _ _ _ _)
def m54:RT Empty:=.ret (V.agg [vi x0,vi x1,vi x2,vi x1,vi x2,vi x3,vi x0,vi x3])
theorem aoP:cW cX (aV JJ Bb u0 aps [V.agg [vi x0,vi x1,vi x2,vi x3]]) (m54 x0 x1 x2 x3):=bF
def R54:V:=.agg [vi x0,vi x1,vi x2,vi x1,vi x2,vi x3,vi x0,vi x3]
theorem aqO:aX cL (m54 x0 x1 x2 x3) (R54 x0 x1 x2 x3):=evRet (by unfold R54 ; rfl)
def C54:av:=bL [.agg gP] (fun _=>True) fun
 |[.agg [.int _ x0,.int _ x1,.int _ x2,.int _ x3]]=>R54 x0 x1 x2 x3
 |_=>.any
theorem EV:cr C54 100:=aY tt fun _ hp=>c9 (aoP ..) (aqO _ _ _ _)
def m48:RT Empty:=dm (s0,x4,x5) (.obc (.obt (.ret (V.agg [vi x1,vi x2,vi x3,vi (max 0 (wI (x3-x10))),vi (wI (x3-x9)),vi (vJ x6 x3),vi (xp x7 x3),vi (wI (x8*x3)),V.bool (decide (x3<x9))]))))
theorem amG:cW cX (aV JJ Bb u0 asf [V.agg [V.str s0,vi x1,vi x2,vi x3,vi x4,vi x5],V.agg [vi x6,vi x7,vi x8,vi x9,vi x10]]) (m48 s0 x1 x2 x3 x4 x5 x6 x7 x8 x9 x10):=bF
def ox:Int:=max 0 (wI (x3-x10))
def nM:Int:=wI (x3-x9)
def ol:Int:=vJ x6 x3
def nC:Int:=xp x7 x3
def nm:Int:=wI (x8*x3)
def qJ:Bool:=decide (x3<x9)
def R48:V:=dm (s0,x4,x5) (.agg [vi x1,vi x2,vi x3,vi (ox x3 x10),vi (nM x3 x9),vi (ol x3 x6),vi (nC x3 x7),vi (nm x3 x8),.bool (qJ x3 x9)])
theorem arL:aX cL (m48 s0 x1 x2 x3 x4 x5 x6 x7 x8 x9 x10) (R48 s0 x1 x2 x3 x4 x5 x6 x7 x8 x9 x10):=au (evObt (evRet (by unfold R48 ox nM ol nC nm qJ;rfl)))
def C48:av:=bL [.agg aA,.agg aG] (fun _=>True) fun
 |[.agg [.str s0,.int _ x1,.int _ x2,.int _ x3,.int _ x4,.int _ x5],.agg [.int _ x6,.int _ x7,.int _ x8,.int _ x9,.int _ x10]]=>R48 s0 x1 x2 x3 x4 x5 x6 x7 x8 x9 x10
 |_=>.any
theorem Gs:cr C48 99:=aY tt fun _ hp=>c9 (amG ..) (arL _ _ _ _ _ _ _ _ _ _ _)
def akL:RT Empty:=dm (x3,x4,x5,x6,x7,b8) (.obc (.obt (.ret (V.agg [vi (wI (wI (x2*x0)+wI (x11*bo x9 x0))),vi (wI (wI (x2*x1)+wI (x11*bn x10 x1)))]))))
theorem agI:cW cX (aV JJ Bb u0 aoi [V.agg [vi x0,vi x1,vi x2,vi x3,vi x4,vi x5,vi x6,vi x7,V.bool b8],V.agg [vi x9,vi x10],vi x11]) (akL x0 x1 x2 x3 x4 x5 x6 x7 b8 x9 x10 x11):=bF
def bQ:Int:=wI (wI (x2*x0)+wI (x11*bo x9 x0))
def bR:Int:=wI (wI (x2*x1)+wI (x11*bn x10 x1))
def aiJ:V:=dm (x3,x4,x5,x6,x7,b8) (.agg [vi (bQ x0 x2 x9 x11),vi (bR x1 x2 x10 x11)])
theorem ams:aX cL (akL x0 x1 x2 x3 x4 x5 x6 x7 b8 x9 x10 x11) (aiJ x0 x1 x2 x3 x4 x5 x6 x7 b8 x9 x10 x11):=au (evObt (evRet (by unfold aiJ bQ bR;rfl)))
def CS:av:=bL [.agg [tI,tI,tI,tI,tI,tI,tI,tI,.bool],.agg aJ,tI] (fun _=>True) fun
 |[.agg [.int _ x0,.int _ x1,.int _ x2,.int _ x3,.int _ x4,.int _ x5,.int _ x6,.int _ x7,.bool b8],.agg [.int _ x9,.int _ x10],.int _ x11]=>aiJ x0 x1 x2 x3 x4 x5 x6 x7 b8 x9 x10 x11
 |_=>.any
theorem wX:cr CS 135:=aY tt fun _ hp=>c9 (agI ..) (ams _ _ _ _ _ _ _ _ _ _ _ _)
def Nz:Int:=wI (x3-min x10 x3)
def TL:Int:=wI (x3-x9)
def N6:Int:=wI (x3*x6)
def Q9:Int:=wI (x3*x7)
def UN:Int:=wI (x3*x8)
def m81:RT Empty:=.br (decide (x0<0)) (.ob (decide (x1≠0)) (.ret (vi (wI (0-wI ((wI (wI (x1-1)-x0)).tdiv x1)))))) (.ob (decide (x1≠0)) (.ret (vi (wI (x0.tdiv x1)))))
theorem alu:cW cX (aV JJ Bb u0 aqe [vi x0,vi x1]) (m81 x0 x1):=bF
def rz:Int:=bif decide (x0<0) then wI (0-wI ((wI (wI (x1-1)-x0)).tdiv x1)) else wI (x0.tdiv x1)
def R81:V:=vi (rz x0 x1)
theorem aq7 (hp:x1≠0):aX cL (m81 x0 x1) (R81 x0 x1):=evBr (fun h0=>aD (by first|assumption|(simp[hp])) (evRet (by unfold R81 rz;try rw[h0];rfl))) (fun h0=>aD (by first|assumption|(simp[hp])) (evRet (by unfold R81 rz;try rw[h0];rfl)))
def C81:av:=bL aJ (fun
 |[.int _ x0,.int _ x1]=>x1≠0
 |_=>False) fun
 |[.int _ x0,.int _ x1]=>R81 x0 x1
 |_=>.any
theorem ED:cr C81 57:=aY tt fun _ hp=>c9 (alu ..) (aq7 _ _ hp)
def GO:Int:=bif bif decide (x0<0) then x0.tmod x1 != 0 else false then wI (wI (x0.tdiv x1)-1) else wI (x0.tdiv x1)
end
end Go.Dx
namespace Go.Dx
open Go.IntKind (i64 u64 u8)
open Go.Sx
theorem dO {n:Nat} {P:Nat->Prop} (h:∀ i,i<=n->(i<n->P (i+1))->P i):∀ i,i<=n->P i:=by
 have key:∀ k i,i+k=n->P i:=by
  intro k
  induction k with
  |zero=>intro i e;exact h i (by omega) fun h=>by omega
  |succ k ih=>intro i e;exact h i (by omega) fun _=>ih (i+1) (by omega)
 exact fun i hi=>key (n-i) i (by omega)
theorem wrapI {x:Int} (h1:-9223372036854775808<=x) (h2:x<=9223372036854775807):wI x=x:=IntWalk.i64_in _ (by omega)
theorem tB {i n:Nat} (h:i<n) (hn:n<=9223372036854775807):wI ((i:Int)+1)=((i+1:Nat):Int):=by
 rw [wrapI (by omega) (by omega)];omega
theorem sD {n:Nat} {p:Nat->Bool}:en n p=true↔∀ i,i<n->p i=true:=⟨cq,ga⟩
theorem jN {n:Nat} {p:Nat->Bool} (i:Nat) (hi:i<n) (h:p i=false):en n p=false:=by
 cases hb:en n p with
 |false=>rfl
 |true=>rw[cq hb i hi]at h;cases h
def GE (p:Nat->Bool):Nat->Nat->Int
 |0,_=>-1
 |k+1,i=>bif p i then(i:Int) else GE p k (i+1)
def xJ (n:Nat) (p:Nat->Bool):Int:=GE p n 0
theorem zB {p:Nat->Bool}:∀ (k i:Nat),(∀ j,i<=j->j<i+k->p j=false)->GE p k i=-1
 |0,_,_=>rfl
 |k+1,i,h=>by simp only[GE,h i (aaS _) (by omega),cond_false];exact zB k (i+1) fun j h1 h2=>h j (by omega) (by omega)
theorem yg {p:Nat->Bool} {j:Nat} (hj:p j=true):∀ (k i:Nat),i<=j->j<i+k->(∀ l,i<=l->l<j->p l=false)->GE p k i=j
 |0,i,h1,h2,_=>by omega
 | k+1,i,h1,h2,h=>by
   by_cases e:i=j
   ·subst e;simp only[GE,hj,cond_true]
   ·simp only[GE,h i (aaS _) (by omega),cond_false]
    exact yg hj k (i+1) (by omega) (by omega) fun l h3 h4=>h l (by omega) h4
section
variable {n:Nat} {p:Nat->Bool}
include n p
theorem vh (h:∀ j,j<n->p j=false):xJ n p=-1:=zB n 0 fun j _ h2=>h j (by omega)
theorem wM {j:Nat} (hj:p j=true) (h1:j<n) (h:∀ l,l<j->p l=false):xJ n p=j:=yg hj n 0 (by omega) (by omega) fun l _ h4=>h l h4
theorem Rm:(xJ n p=-1/\∀ j,j<n->p j=false)∨∃ j,j<n/\xJ n p=(j:Int)/\p j=true/\∀ l,l<j->p l=false:=by
 by_cases h:∀ j,j<n->p j=false
 ·exact .inl ⟨vh h,h⟩
 ·right
  have:∃ j,j<n/\p j=true:=by
   simp only [Classical.not_forall]at h
   obtain ⟨j,hj,hp⟩:=h
   exact ⟨j,hj,by simpa using hp⟩
  have key:∀ m,(∃ j,j<m/\j<n/\p j=true)->∃ j,j<n/\p j=true/\∀ l,l<j->p l=false:=by
   intro m
   induction m with
   |zero=>rintro⟨j,hj,_⟩;omega
   | succ m ih =>
     rintro ⟨j,hj,hn,hp⟩
     by_cases hm:∃ j,j<m/\j<n/\p j=true
     ·exact ih hm
     ·refine⟨j,hn,hp,fun l hl=>?_⟩
      cases hb:p l with
      |false=>rfl
      |true=>exact(hm ⟨l,by omega,by omega,hb⟩).elim
  obtain ⟨j,hj,hp⟩:=this
  obtain ⟨j,h1,h2,h3⟩:=key n ⟨j,hj,hj,hp⟩
  exact ⟨j,h1,wM h2 h1 h3,h2,h3⟩
end
def ls (n:Nat) (p:Nat->Bool):Bool:=!en n fun i=>!p i
theorem kB {n:Nat} {p:Nat->Bool}:decide (0<=xJ n p)=ls n p:=by
 rcases Rm (n:=n) (p:=p) with ⟨h1,h2⟩|⟨j,h1,h2,h3,_⟩
 ·rw[h1];unfold ls;rw[ga fun i hi=>by rw[h2 i hi];rfl];rfl
 ·rw[h2];unfold ls;rw[jN j h1 (by rw[h3];rfl)];simp
section
variable {S:Type} {step:S->RT S} {r:V}
theorem Ev.st {s:S} (h0:eI (step s)=true) (h:aX (Ev step) (step s) r):Ev step s r:=Ev.of h0 h
end
end Go.Dx
namespace Go.Dx
open Go.IntKind (i64 u64 u8)
open Go.Sx
section
variable {S:Type} {step:S->RT S}
theorem nX {L : Int -> S} {n:Nat} {p:Nat->Bool} (hn:n<=9223372036854775807)
 (hst:∀ i:Nat,step (L i)=.br (decide ((i:Int)<(n:Int))) (.ob (decide (0<=(i:Int)/\(i:Int)<(n:Int))) (.obc (.obt (.br (p i) (.ret (.int .i64 i)) (.next [] (L (wI ((i:Int)+1))) []))))) (.ret (.int .i64 (-1)))) :
 Ev step (L 0) (.int .i64 (xJ n p)):=by
 have key := dO (n := n) (P:=fun i=>(∀ j,j<i->p j=false)->Ev step (L i) (.int .i64 (xJ n p))) fun i hi ih hj=>by
  refine Ev.of (by rw[hst];rfl) ?_
  rw [hst]
  refine evBr (fun h=>?_) (fun h=>?_)
  ·have hlt:i<n:=by simpa using h
   refine aD (by simpa using hlt) (au (evObt (evBr (fun hb=>evRet ?_) (fun hb=>aS ?_))))
   ·rw[wM hb hlt hj]
   ·rw [tB hlt hn]
    exact ih hlt fun j h1=>by
     by_cases e:j=i
     ·subst e;exact hb
     ·exact hj j (by omega)
  ·have : i = n := by have:¬ i<n:=by simpa using h
                      omega
   subst this
   refine evRet ?_
   rw [vh hj]
 exact key 0 (acK _) fun j hj=>by omega
end
end Go.Dx
namespace Go.Dx
open Go.IntKind (i64 u64 u8)
open Go.Sx
theorem AJ {n:Nat} (hn:n<=9223372036854775807) (p:Nat->Bool) {P:Int->Prop} (hstep:∀ i:Nat,i<n->(∀ j,j<i->p j=false)->(p i=false->P (wI ((i:Int)+1)))->P i) (hend:(∀ j,j<n->p j=false)->P n):P 0:=by
 have key:=dO (n:=n) (P:=fun i=>(∀ j,j<i->p j=false)->P i) fun i hi ih hj=>by
  by_cases hlt:i<n
  ·refine hstep i hlt hj fun hp=>?_
   rw [tB hlt hn]
   exact ih hlt fun j h1=>by
    by_cases e:j=i
    ·subst e;exact hp
    ·exact hj j (by omega)
  ·have:i=n:=by omega
   subst this;exact hend hj
 exact key 0 (acK _) fun j hj=>by omega
theorem anM {n:Nat} (hn:n<=9223372036854775807) {P:Int->Prop} (hstep:∀ i:Nat,i<n->P (wI ((i:Int)+1))->P i) (hend:P n):P 0 :=
 AJ hn (fun _=>false) (fun i hi _ h=>hstep i hi (h rfl)) fun _=>hend
section
variable {S:Type} {Nx:S->V->Prop} {r:V} {x y:RT S} {i n:Nat}
theorem kS (h:i<n) (hx:aX Nx x r):aX Nx (.br (decide ((i:Int)<(n:Int))) x y) r:=⟨fun _=>hx,fun k=>by have:=abu k;omega⟩
theorem jX (hy:aX Nx y r):aX Nx (.br (decide ((n:Int)<(n:Int))) x y) r:=⟨(fun k=>by have:=abg k;omega),fun _=>hy⟩
theorem gX (h:i<n) (hx:aX Nx x r):aX Nx (.ob (decide (0<=(i:Int)/\(i:Int)<(n:Int))) x) r:=⟨arm (by omega),hx⟩
theorem cI {b:Bool} (h:b=true) (hx:aX Nx x r):aX Nx (.br b x y) r:=⟨fun _=>hx,fun k=>by rw[h]at k;cases k⟩
theorem cS {b:Bool} (h:b=false) (hy:aX Nx y r):aX Nx (.br b x y) r:=⟨(fun k=>by rw[h]at k;cases k),fun _=>hy⟩
end
end Go.Dx
namespace Go.Dx
open Go.IntKind (i64 u64 u8)
section
variable {n:Nat} {p:Nat->Bool}
include n p
theorem eA (i:Nat) (hi:i<n) (h:p i=true):ls n p=true:=by
 unfold ls;rw[jN i hi (by rw[h];rfl)];rfl
theorem ep (h:∀ i,i<n->p i=false):ls n p=false:=by
 unfold ls;rw[ga fun i hi=>by rw[h i hi];rfl];rfl
theorem WT:ls n p=true↔∃ i,i<n/\p i=true:=by
 constructor
 ·intro h
  apply Classical.byContradiction
  intro hn
  rw [ep fun i hi=>by
   cases hp:p i with
   |false=>rfl
   |true=>exact(hn ⟨i,hi,hp⟩).elim]at h
  cases h
 ·rintro⟨i,hi,h⟩;exact eA i hi h
end
end Go.Dx
namespace Go.Dx
open Go.IntKind (i64 u64 u8)
open Go.Sx
def fk (n:Nat) (c:Nat->Int):Int:=bif xJ n (fun i=>c i != 0)==-1 then 0 else xJ n fun i=>c i != 0
def dz (n:Nat) (c:Nat->Int):Int:=bif xJ n (fun i=>c i != 0)==-1 then 0 else c (xJ n fun i=>c i != 0).toNat
theorem gk {n:Nat} {c:Nat->Int} (h:∀ j,j<n->(c j != 0)=false):fk n c=0/\dz n c=0:=by
 unfold fk dz;rw[vh h];exact⟨rfl,rfl⟩
theorem cG {n:Nat} {c:Nat->Int} {i:Nat} (hi:i<n) (hc:(c i != 0)=true) (h:∀ j,j<i->(c j != 0)=false):fk n c=i/\dz n c=c i:=by
 unfold fk dz;rw[wM hc hi h]
 have:((i:Int)==-1)=false:=by rw[aqI];omega
 rw [this];exact⟨rfl,rfl⟩
section
variable {S:Type} {step:S->RT S}
theorem qL {L:Int->S} {n:Nat} {c:Nat->Int} {Q:Nat->Prop} {ρ:ni} (W:Nat->RT S->RT S) (hW:∀ i x r,Q i->aX (Ev step) x r->aX (Ev step) (W i x) r) (hWn:∀ i x,eI (W i x)=eI x) (hn:n<=9223372036854775807) (hQ:∀ i,i<n->Q i)
 (hst:∀ i:Nat,step (L i)=.br (decide ((i:Int)<(n:Int))) (.ob (decide (0<=(i:Int)/\(i:Int)<(n:Int))) (.ob (decide (0<=(i:Int)/\(i:Int)<=(n:Int))) (W i (.br (c i != 0) (.ret (.tup [.int .i64 i,.int .i64 (c i)])) (.next ρ (L (wI ((i:Int)+1))) []))))) (.ret (.tup [.int .i64 0,.int .i64 0]))) :
 Ev step (L 0) (.tup [.int .i64 (fk n c),.int .i64 (dz n c)]) :=
 AJ hn (fun i=>c i != 0) (P:=fun i=>Ev step (L i) (.tup [.int .i64 (fk n c),.int .i64 (dz n c)])) (fun i hlt hj next=>Ev.of (by rw[hst];simp only[eI,hWn,aqB]) (by
  rw [hst]
  refine kS hlt (gX hlt (aD (arm (by omega)) (hW i _ _ (hQ i hlt) (evBr (fun hb=>evRet ?_) (fun hb=>aS (next hb))))))
  rw [(cG hlt hb hj).1,(cG hlt hb hj).2])) (fun hj=>Ev.of (by rw[hst];simp only[eI,hWn,aqB]) (by
  rw [hst]
  refine jX (evRet ?_)
  rw [(gk hj).1,(gk hj).2]))
end
def ap (n:Nat) (f:aL):Prop:=∀ i,i<n->(sv (aE (f i))).size<=9223372036854775807
end Go.Dx
namespace Go.Dx
open Go.IntKind (i64 u64 u8)
end Go.Dx
namespace Go.Dx
open Go.IntKind (i64 u64 u8)
open Go.Sx Go.Proofs
variable (n0:Nat) (f0:aL) (x0:Int) (s0:ByteArray) (x1:Int) (n2:Nat) (f2:aL) (x2:Int) (s2:ByteArray) (x3:Int) (n4:Nat) (f4:aL) (x4 x5:Int) (s5:ByteArray) (n6:Nat) (f6:aL) (x6:Int) (s6:ByteArray) (n7:Nat) (f7:aL) (x7 x8 x9 x10 x11:Int)
noncomputable section
def Xu:aZ:=(154,.con D6)::(155,.con BL)::(59,.con C78)::(100,.con C54)::(99,.con C48)::(135,.con CS)::(57,.con C81)::Bb
theorem Mz:aO Tryz.prog eqs its Xu:=.con wv (.con xc (.con EH (.con EV (.con Gs (.con wX (.con ED (tt)))))))
def anC:RT Empty:=.cb (.cb (.cb (.cb (.br (decide (gT (bo x4 x0) (bn x5 x1) (bo x2 x0) (bn x3 x1)<=0)) (.cb (.ret (V.bool (decide (gT (bo x4 x0) (bn x5 x1) (bo x4 x0) (bn x5 x1)<=wI (x6*x6)))))) (.br (decide (gT (bo x2 x0) (bn x3 x1) (bo x2 x0) (bn x3 x1)<=gT (bo x4 x0) (bn x5 x1) (bo x2 x0) (bn x3 x1))) (.cb (.cb (.ret (V.bool (decide (gT (bo x4 x2) (bn x5 x3) (bo x4 x2) (bn x5 x3)<=wI (x6*x6))))))) (.cb (.cb (.cb (.cb (.ret (V.bool (sO (l8 (max (dH (bo x2 x0) (bn x3 x1) (bo x4 x0) (bn x5 x1)) (wI (0-dH (bo x2 x0) (bn x3 x1) (bo x4 x0) (bn x5 x1)))) (max (dH (bo x2 x0) (bn x3 x1) (bo x4 x0) (bn x5 x1)) (wI (0-dH (bo x2 x0) (bn x3 x1) (bo x4 x0) (bn x5 x1))))) (mP (max (dH (bo x2 x0) (bn x3 x1) (bo x4 x0) (bn x5 x1)) (wI (0-dH (bo x2 x0) (bn x3 x1) (bo x4 x0) (bn x5 x1)))) (max (dH (bo x2 x0) (bn x3 x1) (bo x4 x0) (bn x5 x1)) (wI (0-dH (bo x2 x0) (bn x3 x1) (bo x4 x0) (bn x5 x1))))) (l8 (wI (x6*x6)) (gT (bo x2 x0) (bn x3 x1) (bo x2 x0) (bn x3 x1))) (mP (wI (x6*x6)) (gT (bo x2 x0) (bn x3 x1) (bo x2 x0) (bn x3 x1)))))))))))))))
theorem afr:cW cX (aV JJ Xu u0 amP [V.agg [vi x0,vi x1,vi x2,vi x3],V.agg [vi x4,vi x5],vi x6]) (anC x0 x1 x2 x3 x4 x5 x6):=bF
def ja:Bool:=bif decide (gT (bo x4 x0) (bn x5 x1) (bo x2 x0) (bn x3 x1)<=0) then decide (gT (bo x4 x0) (bn x5 x1) (bo x4 x0) (bn x5 x1)<=wI (x6*x6)) else bif decide (gT (bo x2 x0) (bn x3 x1) (bo x2 x0) (bn x3 x1)<=gT (bo x4 x0) (bn x5 x1) (bo x2 x0) (bn x3 x1)) then decide (gT (bo x4 x2) (bn x5 x3) (bo x4 x2) (bn x5 x3)<=wI (x6*x6)) else sO (l8 (max (dH (bo x2 x0) (bn x3 x1) (bo x4 x0) (bn x5 x1)) (wI (0-dH (bo x2 x0) (bn x3 x1) (bo x4 x0) (bn x5 x1)))) (max (dH (bo x2 x0) (bn x3 x1) (bo x4 x0) (bn x5 x1)) (wI (0-dH (bo x2 x0) (bn x3 x1) (bo x4 x0) (bn x5 x1))))) (mP (max (dH (bo x2 x0) (bn x3 x1) (bo x4 x0) (bn x5 x1)) (wI (0-dH (bo x2 x0) (bn x3 x1) (bo x4 x0) (bn x5 x1)))) (max (dH (bo x2 x0) (bn x3 x1) (bo x4 x0) (bn x5 x1)) (wI (0-dH (bo x2 x0) (bn x3 x1) (bo x4 x0) (bn x5 x1))))) (l8 (wI (x6*x6)) (gT (bo x2 x0) (bn x3 x1) (bo x2 x0) (bn x3 x1))) (mP (wI (x6*x6)) (gT (bo x2 x0) (bn x3 x1) (bo x2 x0) (bn x3 x1)))
def MD:V:=.bool (ja x0 x1 x2 x3 x4 x5 x6)
theorem an4:aX cL (anC x0 x1 x2 x3 x4 x5 x6) (MD x0 x1 x2 x3 x4 x5 x6):=au (evObt (au (evObt (au (evObt (au (evObt (evBr (fun h0=>au (evObt (evRet (by unfold MD ja;try rw[h0];rfl)))) (fun h0=>evBr (fun h1=>au (evObt (au (evObt (evRet (by unfold MD ja;try rw[h0];try rw[h1];rfl)))))) (fun h1=>au (evObt (au (evObt (au (evObt (au (evObt (evRet (by unfold MD ja;try rw[h0];try rw[h1];rfl)))))))))))))))))))
def C4:av:=bL [.agg gP,.agg aJ,tI] (fun _=>True) fun
 |[.agg [.int _ x0,.int _ x1,.int _ x2,.int _ x3],.agg [.int _ x4,.int _ x5],.int _ x6]=>MD x0 x1 x2 x3 x4 x5 x6
 |_=>.any
theorem uZ:cr C4 136:=aY Mz fun _ hp=>c9 (afr ..) (an4 _ _ _ _ _ _ _)
def afK:Bool:=bif decide (we (db x0 x2) (dc x1 x3) (db x4 x2) (dc x5 x3)<=0) then decide (we (db x0 x2) (dc x1 x3) (db x0 x2) (dc x1 x3)<=wI (x6*x6)) else bif decide (we (db x4 x2) (dc x5 x3) (db x4 x2) (dc x5 x3)<=we (db x0 x2) (dc x1 x3) (db x4 x2) (dc x5 x3)) then decide (we (db x0 x4) (dc x1 x5) (db x0 x4) (dc x1 x5)<=wI (x6*x6)) else !ajb (Qv (A2 (kp (db x4 x2) (dc x5 x3) (db x0 x2) (dc x1 x3))) (A2 (kp (db x4 x2) (dc x5 x3) (db x0 x2) (dc x1 x3)))) (Sd (A2 (kp (db x4 x2) (dc x5 x3) (db x0 x2) (dc x1 x3))) (A2 (kp (db x4 x2) (dc x5 x3) (db x0 x2) (dc x1 x3)))) (Qv (wI (x6*x6)) (we (db x4 x2) (dc x5 x3) (db x4 x2) (dc x5 x3))) (Sd (wI (x6*x6)) (we (db x4 x2) (dc x5 x3) (db x4 x2) (dc x5 x3)))
def ahR:Bool:=bif !kp (db x4 x2) (dc x5 x3) (db x6 x2) (dc x7 x3)==0 then bif bif bif decide (0<=sg (kp (db x4 x2) (dc x5 x3) (db x0 x2) (dc x1 x3))) then decide (0<=sg (kp (db x6 x4) (dc x7 x5) (db x0 x4) (dc x1 x5))) else false then decide (0<=sg (kp (db x2 x6) (dc x3 x7) (db x0 x6) (dc x1 x7))) else false then true else bif bif decide (sg (kp (db x4 x2) (dc x5 x3) (db x0 x2) (dc x1 x3))<=0) then decide (sg (kp (db x6 x4) (dc x7 x5) (db x0 x4) (dc x1 x5))<=0) else false then decide (sg (kp (db x2 x6) (dc x3 x7) (db x0 x6) (dc x1 x7))<=0) else false else false
def an5:RT Empty:=.cb (.ret (V.bool (bq x0 (-100000) 100000)))
theorem afq:cW cX (aV JJ Xu u0 acr [vi x0]) (an5 x0):=bF
def Bg:Bool:=bq x0 (-100000) 100000
def ajD:V:=.bool (Bg x0)
theorem akA:aX cL (an5 x0) (ajD x0):=au (evObt (evRet (by unfold ajD Bg;rfl)))
def CU:av:=bL ac (fun _=>True) fun
 |[.int _ x0]=>ajD x0
 |_=>.any
theorem vt:cr CU 147:=aY Mz fun _ hp=>c9 (afq ..) (akA _)
def EE:aZ:=(136,.con C4)::(147,.con CU)::Xu
theorem CK:aO Tryz.prog eqs its EE:=.con uZ (.con vt (Mz))
def aoN:RT Empty:=dm (x1,n2,f2,x4,x6,n7,f7,x9) (.ret (V.bool (s0.toList==s5.toList)))
theorem aiY:cW cX (aV JJ EE u0 amL [V.agg [V.str s0,vi x1,V.sl n2 (aa aJ f2),vi x4],V.pd [V.str s5,vi x6,V.sl n7 (aa aJ f7),vi x9]]) (aoN s0 x1 n2 f2 x4 s5 x6 n7 f7 x9):=bF
def Ar:Bool:=s0.toList==s5.toList
def afD:V:=dm (x1,n2,f2,x4,x6,n7,f7,x9) (.bool (Ar s0 s5))
theorem akY:aX cL (aoN s0 x1 n2 f2 x4 s5 x6 n7 f7 x9) (afD s0 x1 n2 f2 x4 s5 x6 n7 f7 x9):=evRet (by unfold afD Ar;rfl)
def CW:av:=bL [.agg aB,.pd aB] (fun _=>True) fun
 |[.agg [.str s0,.int _ x1,.sl n2 f2,.int _ x4],.pd [.str s5,.int _ x6,.sl n7 f7,.int _ x9]]=>afD s0 x1 n2 f2 x4 s5 x6 n7 f7 x9
 |_=>.any
theorem wF:cr CW 121:=aY CK fun _ hp=>c9 (aiY ..) (akY _ _ _ _ _ _ _ _ _ _)
def al6:RT Empty:=.cb (.ii (.obi (.br (!bq x1 1 1000) (.ob (!bq x1 1 1000) (.ob (!bq x1 1 1000) (.cb (.obi (.br (!bq x0 0 (wI (x1-1))) (.ob (!bq x0 0 (wI (x1-1))) (.cb (.ii (.obi (.br (!bq x3 1 1000) (.ob (!bq x3 1 1000) (.ob (!bq x3 1 1000) (.cb (.ret (V.bool (bq x2 0 (wI (x3-1)))))))) (.ret (V.kb true))))))) (.ret (V.kb true))))))) (.ret (V.kb true)))))
theorem ag2:cW cX (aV JJ EE u0 am3 [V.agg [vi x0,vi x1,vi x2,vi x3]]) (al6 x0 x1 x2 x3):=bF
def kW:Bool:=bif !bq x1 1 1000 then bif !bq x0 0 (wI (x1-1)) then bif !bq x3 1 1000 then bq x2 0 (wI (x3-1)) else true else true else true
def LS:V:=.bool (kW x0 x1 x2 x3)
theorem ano:aX cL (al6 x0 x1 x2 x3) (LS x0 x1 x2 x3):=au (evObt (evObi (evObi (evObi (evBr (fun h0=>aD (by first|assumption|(fail)) (aD (by first|assumption|(fail)) (au (evObt (evObi (evBr (fun h1=>aD (by first|assumption|(fail)) (au (evObt (evObi (evObi (evObi (evBr (fun h2=>aD (by first|assumption|(fail)) (aD (by first|assumption|(fail)) (au (evObt (evRet (by unfold LS kW;try rw[h0];try rw[h1];try rw[h2];rfl)))))) (fun h2=>evRet (by unfold LS kW;try rw[h0];try rw[h1];try rw[h2];rfl))))))))) (fun h1=>evRet (by unfold LS kW;try rw[h0];try rw[h1];rfl)))))))) (fun h0=>evRet (by unfold LS kW;try rw[h0];rfl)))))))
def C3:av:=bL [.agg gP] (fun _=>True) fun
 |[.agg [.int _ x0,.int _ x1,.int _ x2,.int _ x3]]=>LS x0 x1 x2 x3
 |_=>.any
theorem wq:cr C3 129:=aY CK fun _ hp=>c9 (ag2 ..) (ano _ _ _ _)
def akk:RT Empty:=dm (x1,x2,x3,x4,x5,x7,x8,x9,x10,x11) (.ret (V.bool (s0.toList==s6.toList)))
theorem agr:cW cX (aV JJ EE u0 amd [V.agg [V.str s0,vi x1,vi x2,vi x3,vi x4,vi x5],V.pd [V.str s6,vi x7,vi x8,vi x9,vi x10,vi x11]]) (akk s0 x1 x2 x3 x4 x5 s6 x7 x8 x9 x10 x11):=bF
def By:Bool:=s0.toList==s6.toList
def aiu:V:=dm (x1,x2,x3,x4,x5,x7,x8,x9,x10,x11) (.bool (By s0 s6))
theorem anz:aX cL (akk s0 x1 x2 x3 x4 x5 s6 x7 x8 x9 x10 x11) (aiu s0 x1 x2 x3 x4 x5 s6 x7 x8 x9 x10 x11):=evRet (by unfold aiu By;rfl)
def Cn:av:=bL [.agg aA,.pd aA] (fun _=>True) fun
 |[.agg [.str s0,.int _ x1,.int _ x2,.int _ x3,.int _ x4,.int _ x5],.pd [.str s6,.int _ x7,.int _ x8,.int _ x9,.int _ x10,.int _ x11]]=>aiu s0 x1 x2 x3 x4 x5 s6 x7 x8 x9 x10 x11
 |_=>.any
theorem xn:cr Cn 131:=aY CK fun _ hp=>c9 (agr ..) (anz _ _ _ _ _ _ _ _ _ _ _ _)
def LE:Bool:=en n0 fun i=>gx (aw (f0 i)) (-100000) 100000
inductive DW where
 |L0 (ia0:Int)
def aja:DW->bD×List O×Option Ex
 |.L0 ia0=>([(8,vi ia0),(7,vi (n0:Int)),(6,V.sl n0 (aa ac f0)),(4,vi 0),(0,V.sl n0 (aa ac f0)),(1,V.fn 147 [] [])],[],none)
def aky:DW->JJ
 |.L0 ia0=>(0,[])
def acf:T (ck JJ):=aV JJ EE u0 yaJ [V.sl n0 (aa ac f0),V.fn 147 [] []]
def HE (cx:List Cx):Lp JJ:=fQ (eZ (acf n0 f0) [])
def aoq:JJ->Lp JJ
 |(0,cx)=>HE n0 f0 cx
 |(_,cx)=>HE n0 f0 cx
def aqt:LD JJ DW:=⟨aky,aoq n0 f0,aja n0 f0⟩
def Qm:DW->RT DW
 |.L0 ia0=>.br (decide (ia0<(n0:Int))) (.ob (decide (0<=ia0/\ia0<(n0:Int))) (.cb (.br (Bg (aw (f0 ia0.toNat))) (.ret (vi ia0)) (.next [] (DW.L0 (wI (ia0+1))) [])))) (.ret (vi (-1)))
def afI:RT DW:=dm f0 (.am n0 (.enter [] (DW.L0 0) []))
theorem afh:eS EE u0 (aqt n0 f0) (acf n0 f0) (afI n0 f0) (Qm n0 f0):=⟨bF,fun s=>by cases s<;>exact bF⟩
def KV:Int  :=xJ n0 fun ii=>Bg (aw (f0 ii))
theorem XR:aX (Ev (Qm n0 f0)) (afI n0 f0) (vi (KV n0 f0)):=bw fun hn=>aM (nX hn fun i=>rfl)
theorem aoz:aX (Ev (Qm n0 f0)) (afI n0 f0) (vi (KV n0 (aa ac f0))):=XR n0 f0
def DK:av:=bL [.sl ac,.fn 147 [] []] (fun _=>True) fun
 |[.sl n0 f0,.fn _ [] []]=>vi (KV n0 f0)
 |_=>.any
theorem vT:cr DK 77:=aY CK fun _ hp=>nd (afh ..) (aoz _ _)
def zQ:aZ:=(121,.con CW)::(129,.con C3)::(131,.con Cn)::(77,.con DK)::EE
theorem Du:aO Tryz.prog eqs its zQ:=.con wF (.con wq (.con xn (.con vT (CK))))
def m99:RT Empty:=.cb (.ret (V.bool (decide (0<=KV n0 (aa ac f0)))))
theorem akN:cW cX (aV JJ zQ u0 Z1 [V.sl n0 (aa ac f0),V.fn 147 [] []]) (m99 n0 f0):=bF
def Cz:Bool:=decide (0<=KV n0 (aa ac f0))
def R99:V:=.bool (Cz n0 f0)
theorem arR:aX cL (m99 n0 f0) (R99 n0 f0):=au (evObt (evRet (by unfold R99 Cz;rfl)))
def C99:av:=bL [.sl ac,.fn 147 [] []] (fun _=>True) fun
 |[.sl n0 f0,.fn _ [] []]=>R99 n0 f0
 |_=>.any
theorem FB:cr C99 46:=aY Du fun _ hp=>c9 (akN ..) (arR _ _)
inductive DR where
 |L0 (ia0:Int)
def aiI:DR->bD×List O×Option Ex
 |.L0 ia0=>([(8,vi ia0),(7,vi (n0:Int)),(6,V.sl n0 (aa aB f0)),(4,vi 0),(0,V.sl n0 (aa aB f0)),(1,V.fn 121 [] [V.pd [V.str s2,vi x3,V.sl n4 (aa aJ f4),vi x6]])],[],none)
def alU:DR->JJ
 |.L0 ia0=>(0,[])
def abY:T (ck JJ):=aV JJ zQ u0 anO [V.sl n0 (aa aB f0),V.fn 121 [] [V.pd [V.str s2,vi x3,V.sl n4 (aa aJ f4),vi x6]]]
def Ki (cx:List Cx):Lp JJ:=fQ (eZ (abY n0 f0 s2 x3 n4 f4 x6) [])
def akd:JJ->Lp JJ
 |(0,cx)=>Ki n0 f0 s2 x3 n4 f4 x6 cx
 |(_,cx)=>Ki n0 f0 s2 x3 n4 f4 x6 cx
def asd:LD JJ DR:=⟨alU,akd n0 f0 s2 x3 n4 f4 x6,aiI n0 f0 s2 x3 n4 f4 x6⟩
def NF (n0:Nat) (f0:aL) (s2:ByteArray) (x3:Int) (n4:Nat) (f4:aL) (x6:Int):DR->RT DR
 |.L0 ia0=>.br (decide (ia0<(n0:Int))) (.ob (decide (0<=ia0/\ia0<(n0:Int))) (.cb (.br (Ar (sv (aE (f0 ia0.toNat))) s2) (.ret (vi ia0)) (.next [] (DR.L0 (wI (ia0+1))) [])))) (.ret (vi (-1)))
def afV:RT DR:=dm (f0,s2,x3,n4,f4,x6) (.am n0 (.enter [] (DR.L0 0) []))
theorem afj:eS zQ u0 (asd n0 f0 s2 x3 n4 f4 x6) (abY n0 f0 s2 x3 n4 f4 x6) (afV n0 f0 s2 x3 n4 f4 x6) (NF n0 f0 s2 x3 n4 f4 x6):=⟨bF,fun s=>by cases s<;>exact bF⟩
def Ly:Int  :=xJ n0 fun ii=>Ar (sv (aE (f0 ii))) s2
theorem Yp:aX (Ev (NF n0 f0 s2 x3 n4 f4 x6)) (afV n0 f0 s2 x3 n4 f4 x6) (vi (Ly n0 f0 s2)):=bw fun hn=>aM (nX hn fun i=>rfl)
theorem amm:aX (Ev (NF n0 f0 s2 x3 n4 f4 x6)) (afV n0 f0 s2 x3 n4 f4 x6) (vi (Ly n0 (aa aB f0) s2)):=Yp n0 f0 s2 x3 n4 f4 x6
def C8:av:=bL [.sl aB,.fn 121 [] [.pd aB]] (fun _=>True) fun
 |[.sl n0 f0,.fn _ [] [.pd [.str s2,.int _ x3,.sl n4 f4,.int _ x6]]]=>vi (Ly n0 f0 s2)
 |_=>.any
theorem vd:cr C8 149:=aY Du fun _ hp=>nd (afj ..) (amm _ _ _ _ _ _ _)
inductive yaD where
 |L0 (ia0:Int)
def ag5:yaD->bD×List O×Option Ex
 |.L0 ia0=>([(8,vi ia0),(7,vi (n0:Int)),(6,V.sl n0 (aa gP f0)),(4,vi 0),(0,V.sl n0 (aa gP f0)),(1,V.fn 129 [] [])],[],none)
def alX:yaD->JJ
 |.L0 ia0=>(0,[])
def ab4:T (ck JJ):=aV JJ zQ u0 ak3 [V.sl n0 (aa gP f0),V.fn 129 [] []]
def IZ (cx:List Cx):Lp JJ:=fQ (eZ (ab4 n0 f0) [])
def ak4:JJ->Lp JJ
 |(0,cx)=>IZ n0 f0 cx
 |(_,cx)=>IZ n0 f0 cx
def aqF:LD JJ yaD:=⟨alX,ak4 n0 f0,ag5 n0 f0⟩
def ybc:yaD->RT yaD
 |.L0 ia0=>.br (decide (ia0<(n0:Int))) (.ob (decide (0<=ia0/\ia0<(n0:Int))) (.cb (.br (kW (aw (f0 ia0.toNat)) (aW (f0 ia0.toNat)) (b7 (f0 ia0.toNat)) (bV (f0 ia0.toNat))) (.ret (vi ia0)) (.next [] (yaD.L0 (wI (ia0+1))) [])))) (.ret (vi (-1)))
def ajB:RT yaD:=dm f0 (.am n0 (.enter [] (yaD.L0 0) []))
theorem adC:eS zQ u0 (aqF n0 f0) (ab4 n0 f0) (ajB n0 f0) (ybc n0 f0):=⟨bF,fun s=>by cases s<;>exact bF⟩
def LO:Int  :=xJ n0 fun ii=>kW (aw (f0 ii)) (aW (f0 ii)) (b7 (f0 ii)) (bV (f0 ii))
theorem Vq:aX (Ev (ybc n0 f0)) (ajB n0 f0) (vi (LO n0 f0)):=bw fun hn=>aM (nX hn fun i=>rfl)
theorem aov:aX (Ev (ybc n0 f0)) (ajB n0 f0) (vi (LO n0 (aa gP f0))):=Vq n0 f0
def B3:av:=bL [.sl gP,.fn 129 [] []] (fun _=>True) fun
 |[.sl n0 f0,.fn _ [] []]=>vi (LO n0 f0)
 |_=>.any
theorem wJ:cr B3 151:=aY Du fun _ hp=>nd (adC ..) (aov _ _)
inductive Ca where
 |L0 (ia0:Int)
def aej:Ca->bD×List O×Option Ex
 |.L0 ia0=>([(8,vi ia0),(7,vi (n0:Int)),(6,V.sl n0 (aa aA f0)),(4,vi 0),(0,V.sl n0 (aa aA f0)),(1,V.fn 131 [] [V.pd [V.str s2,vi x3,vi x4,vi x5,vi x6,vi x7]])],[],none)
def amZ:Ca->JJ
 |.L0 ia0=>(0,[])
def adn:T (ck JJ):=aV JJ zQ u0 ak6 [V.sl n0 (aa aA f0),V.fn 131 [] [V.pd [V.str s2,vi x3,vi x4,vi x5,vi x6,vi x7]]]
def HH (cx:List Cx):Lp JJ:=fQ (eZ (adn n0 f0 s2 x3 x4 x5 x6 x7) [])
def amv:JJ->Lp JJ
 |(0,cx)=>HH n0 f0 s2 x3 x4 x5 x6 x7 cx
 |(_,cx)=>HH n0 f0 s2 x3 x4 x5 x6 x7 cx
def ast:LD JJ Ca:=⟨amZ,amv n0 f0 s2 x3 x4 x5 x6 x7,aej n0 f0 s2 x3 x4 x5 x6 x7⟩
def OX (n0:Nat) (f0:aL) (s2:ByteArray) (x3 x4 x5 x6 x7:Int):Ca->RT Ca
 |.L0 ia0=>.br (decide (ia0<(n0:Int))) (.ob (decide (0<=ia0/\ia0<(n0:Int))) (.cb (.br (By (sv (aE (f0 ia0.toNat))) s2) (.ret (vi ia0)) (.next [] (Ca.L0 (wI (ia0+1))) [])))) (.ret (vi (-1)))
def ai8:RT Ca:=dm (f0,s2,x3,x4,x5,x6,x7) (.am n0 (.enter [] (Ca.L0 0) []))
theorem afP:eS zQ u0 (ast n0 f0 s2 x3 x4 x5 x6 x7) (adn n0 f0 s2 x3 x4 x5 x6 x7) (ai8 n0 f0 s2 x3 x4 x5 x6 x7) (OX n0 f0 s2 x3 x4 x5 x6 x7):=⟨bF,fun s=>by cases s<;>exact bF⟩
def Lb:Int  :=xJ n0 fun ii=>By (sv (aE (f0 ii))) s2
theorem Zw:aX (Ev (OX n0 f0 s2 x3 x4 x5 x6 x7)) (ai8 n0 f0 s2 x3 x4 x5 x6 x7) (vi (Lb n0 f0 s2)):=bw fun hn=>aM (nX hn fun i=>rfl)
theorem akh:aX (Ev (OX n0 f0 s2 x3 x4 x5 x6 x7)) (ai8 n0 f0 s2 x3 x4 x5 x6 x7) (vi (Lb n0 (aa aA f0) s2)):=Zw n0 f0 s2 x3 x4 x5 x6 x7
def DL:av:=bL [.sl aA,.fn 131 [] [.pd aA]] (fun _=>True) fun
 |[.sl n0 f0,.fn _ [] [.pd [.str s2,.int _ x3,.int _ x4,.int _ x5,.int _ x6,.int _ x7]]]=>vi (Lb n0 f0 s2)
 |_=>.any
theorem vD:cr DL 152:=aY Du fun _ hp=>nd (afP ..) (akh _ _ _ _ _ _ _ _)
def Lc:aZ:=(46,.con C99)::(149,.con C8)::(151,.con B3)::(152,.con DL)::zQ
theorem De:aO Tryz.prog eqs its Lc:=.con FB (.con vd (.con wJ (.con vD (Du))))
def m45:RT Empty:=.cb (.ret (V.bool (Cz n0 (aa ac f0))))
theorem alC:cW cX (aV JJ Lc u0 ani [V.sl n0 (aa ac f0)]) (m45 n0 f0):=bF
def je:Bool:=Cz n0 (aa ac f0)
def R45:V:=.bool (je n0 f0)
theorem apK:aX cL (m45 n0 f0) (R45 n0 f0):=au (evObt (evRet (by unfold R45 je;rfl)))
def C45:av:=bL [.sl ac] (fun _=>True) fun
 |[.sl n0 f0]=>R45 n0 f0
 |_=>.any
theorem Ef:cr C45 123:=aY De fun _ hp=>c9 (alC ..) (apK _ _)
def m90:RT Empty:=dm (x3,n4,f4,x6) (.cb (.ret (V.bool (decide (0<=Ly n0 (aa aB f0) s2)))))
theorem am2:cW cX (aV JJ Lc u0 aqD [V.sl n0 (aa aB f0),V.fn 121 [] [V.pd [V.str s2,vi x3,V.sl n4 (aa aJ f4),vi x6]]]) (m90 n0 f0 s2 x3 n4 f4 x6):=bF
def tj:Bool:=decide (0<=Ly n0 (aa aB f0) s2)
def R90:V:=dm (x3,n4,f4,x6) (.bool (tj n0 f0 s2))
theorem aq8:aX cL (m90 n0 f0 s2 x3 n4 f4 x6) (R90 n0 f0 s2 x3 n4 f4 x6):=au (evObt (evRet (by unfold R90 tj;rfl)))
def C90:av:=bL [.sl aB,.fn 121 [] [.pd aB]] (fun _=>True) fun
 |[.sl n0 f0,.fn _ [] [.pd [.str s2,.int _ x3,.sl n4 f4,.int _ x6]]]=>R90 n0 f0 s2 x3 n4 f4 x6
 |_=>.any
theorem Fo:cr C90 125:=aY De fun _ hp=>c9 (am2 ..) (aq8 _ _ _ _ _ _ _)
def anE:RT Empty:=.cb (.ret (V.bool (decide (0<=LO n0 (aa gP f0)))))
theorem ahm:cW cX (aV JJ Lc u0 aoO [V.sl n0 (aa gP f0),V.fn 129 [] []]) (anE n0 f0):=bF
def rX:Bool:=decide (0<=LO n0 (aa gP f0))
def agS:V:=.bool (rX n0 f0)
theorem ans:aX cL (anE n0 f0) (agS n0 f0):=au (evObt (evRet (by unfold agS rX;rfl)))
def yay:av:=bL [.sl gP,.fn 129 [] []] (fun _=>True) fun
 |[.sl n0 f0,.fn _ [] []]=>agS n0 f0
 |_=>.any
theorem xt:cr yay 130:=aY De fun _ hp=>c9 (ahm ..) (ans _ _)
def aoT:RT Empty:=dm (x3,x4,x5,x6,x7) (.cb (.ret (V.bool (decide (0<=Lb n0 (aa aA f0) s2)))))
theorem af7:cW cX (aV JJ Lc u0 alw [V.sl n0 (aa aA f0),V.fn 131 [] [V.pd [V.str s2,vi x3,vi x4,vi x5,vi x6,vi x7]]]) (aoT n0 f0 s2 x3 x4 x5 x6 x7):=bF
def rZ:Bool:=decide (0<=Lb n0 (aa aA f0) s2)
def ai6:V:=dm (x3,x4,x5,x6,x7) (.bool (rZ n0 f0 s2))
theorem am8:aX cL (aoT n0 f0 s2 x3 x4 x5 x6 x7) (ai6 n0 f0 s2 x3 x4 x5 x6 x7):=au (evObt (evRet (by unfold ai6 rZ;rfl)))
def B7:av:=bL [.sl aA,.fn 131 [] [.pd aA]] (fun _=>True) fun
 |[.sl n0 f0,.fn _ [] [.pd [.str s2,.int _ x3,.int _ x4,.int _ x5,.int _ x6,.int _ x7]]]=>ai6 n0 f0 s2 x3 x4 x5 x6 x7
 |_=>.any
theorem vV:cr B7 132:=aY De fun _ hp=>c9 (af7 ..) (am8 _ _ _ _ _ _ _ _)
def KR:aZ:=(123,.con C45)::(125,.con C90)::(130,.con yay)::(132,.con B7)::Lc
theorem BN:aO Tryz.prog eqs its KR:=.con Ef (.con Fo (.con xt (.con vV (De))))
def ak1:RT Empty:=.obt (.obt (.cb (.ret (V.bool (je 2 (aa ac (bc [vi x0,vi x1] 0 1)))))))
theorem aiG:cW cX (aV JJ KR u0 anB [V.agg [vi x0,vi x1]]) (ak1 x0 x1):=bF
def sw:Bool:=je 2 (aa ac (bc [vi x0,vi x1] 0 1))
def af3:V:=.bool (sw x0 x1)
theorem al7:aX cL (ak1 x0 x1) (af3 x0 x1):=evObt (evObt (au (evObt (evRet (by unfold af3 sw;rfl)))))
def D7:av:=bL [.agg aJ] (fun _=>True) fun
 |[.agg [.int _ x0,.int _ x1]]=>af3 x0 x1
 |_=>.any
theorem vY:cr D7 122:=aY BN fun _ hp=>c9 (aiG ..) (al7 _ _)
def m65:RT Empty:=dm (n0,f0) (.cb (.obi (.br (!je 2 (aa ac (bc [vi x2,vi x3] 0 1))) (.ob (!je 2 (aa ac (bc [vi x2,vi x3] 0 1))) (.cb (.ii (.obi (.br (!bq x4 1 20000) (.ob (!bq x4 1 20000) (.ob (!bq x4 1 20000) (.cb (.obi (.br (!bq x5 0 (wI (x6-1))) (.ob (!bq x5 0 (wI (x6-1))) (.cb (.br (bq x6 1 1000) (.ret (vi 7)) (.ret (vi 0))))) (.ret (vi 7))))))) (.ret (vi 7))))))) (.ret (vi 7)))))
theorem akQ:cW cX (aV JJ KR u0 apA [V.sl n0 (aa aG f0),V.agg [vi x2,vi x3,vi x4,vi x5,vi x6]]) (m65 n0 f0 x2 x3 x4 x5 x6):=bF
def nY:Int:=bif !je 2 (aa ac (bc [vi x2,vi x3] 0 1)) then bif !bq x4 1 20000 then bif !bq x5 0 (wI (x6-1)) then bif bq x6 1 1000 then 7 else 0 else 7 else 7 else 7
def R65:V:=dm (n0,f0) (vi (nY x2 x3 x4 x5 x6))
theorem ap0:aX cL (m65 n0 f0 x2 x3 x4 x5 x6) (R65 n0 f0 x2 x3 x4 x5 x6):=au (evObt (evObi (evBr (fun h0=>aD (by first|assumption|(fail)) (au (evObt (evObi (evObi (evObi (evBr (fun h1=>aD (by first|assumption|(fail)) (aD (by first|assumption|(fail)) (au (evObt (evObi (evBr (fun h2=>aD (by first|assumption|(fail)) (au (evObt (evBr (fun h3=>evRet (by unfold R65 nY;try rw[h0];try rw[h1];try rw[h2];try rw[h3];rfl)) (fun h3=>evRet (by unfold R65 nY;try rw[h0];try rw[h1];try rw[h2];try rw[h3];rfl)))))) (fun h2=>evRet (by unfold R65 nY;try rw[h0];try rw[h1];try rw[h2];rfl)))))))) (fun h1=>evRet (by unfold R65 nY;try rw[h0];try rw[h1];rfl))))))))) (fun h0=>evRet (by unfold R65 nY;try rw[h0];rfl)))))
def C65:av:=bL [.sl aG,.agg aG] (fun _=>True) fun
 |[.sl n0 f0,.agg [.int _ x2,.int _ x3,.int _ x4,.int _ x5,.int _ x6]]=>R65 n0 f0 x2 x3 x4 x5 x6
 |_=>.any
theorem E0:cr C65 93:=aY BN fun _ hp=>c9 (akQ ..) (ap0 _ _ _ _ _ _ _)
def m67:RT Empty:=dm (n0,f0) (.obt (.obt (.obt (.obt (.cb (.br (je 4 (aa ac (bc [vi x2,vi x3,vi x4,vi x5] 0 1))) (.ret (vi 7)) (.br (x2==x4&&(x3==x5&&true)) (.ret (vi 2)) (.am n6 (.br (decide (6<(n6:Int))) (.ret (vi 3)) (.cb (.br (rX n6 (aa gP f6)) (.ret (vi 7)) (.ret (vi 0)))))))))))))
theorem aor:cW cX (aV JJ KR u0 ass [V.sl n0 (aa aH f0),V.agg [vi x2,vi x3,vi x4,vi x5,V.sl n6 (aa gP f6)]]) (m67 n0 f0 x2 x3 x4 x5 n6 f6):=bF
def oe:Int:=bif je 4 (aa ac (bc [vi x2,vi x3,vi x4,vi x5] 0 1)) then 7 else bif x2==x4&&(x3==x5&&true) then 2 else bif decide (6<(n6:Int)) then 3 else bif rX n6 (aa gP f6) then 7 else 0
def R67:V:=dm (n0,f0) (vi (oe x2 x3 x4 x5 n6 f6))
theorem apu:aX cL (m67 n0 f0 x2 x3 x4 x5 n6 f6) (R67 n0 f0 x2 x3 x4 x5 n6 f6):=evObt (evObt (evObt (evObt (au (evObt (evBr (fun h0=>evRet (by unfold R67 oe;try rw[h0];rfl)) (fun h0=>evBr (fun h1=>evRet (by unfold R67 oe;try rw[h0];try rw[h1];rfl)) (fun h1=>evAsm (fun a2=>evBr (fun h2=>evRet (by unfold R67 oe;try rw[h0];try rw[h1];try rw[h2];rfl)) (fun h2=>au (evObt (evBr (fun h3=>evRet (by unfold R67 oe;try rw[h0];try rw[h1];try rw[h2];try rw[h3];rfl)) (fun h3=>evRet (by unfold R67 oe;try rw[h0];try rw[h1];try rw[h2];try rw[h3];rfl))))))))))))))
def C67:av:=bL [.sl aH,.agg aH] (fun _=>True) fun
 |[.sl n0 f0,.agg [.int _ x2,.int _ x3,.int _ x4,.int _ x5,.sl n6 f6]]=>R67 n0 f0 x2 x3 x4 x5 n6 f6
 |_=>.any
theorem F8:cr C67 95:=aY BN fun _ hp=>c9 (aor ..) (apu _ _ _ _ _ _ _ _)
def m53:RT Empty:=.cb (.iv (.iv (.ii (.ret (V.bool (bif bif je 4 (aa ac (bc [vi x0,vi x1,vi x2,vi x3] 0 1)) then true else decide (x2<x0) then true else decide (x3<x1)))))))
theorem akt:cW cX (aV JJ KR u0 anI [V.agg [vi x0,vi x1,vi x2,vi x3]]) (m53 x0 x1 x2 x3):=bF
def wU:Bool:=bif bif je 4 (aa ac (bc [vi x0,vi x1,vi x2,vi x3] 0 1)) then true else decide (x2<x0) then true else decide (x3<x1)
def R53:V:=.bool (wU x0 x1 x2 x3)
theorem aq5:aX cL (m53 x0 x1 x2 x3) (R53 x0 x1 x2 x3):=au (evObt (evObi (evObi (evObi (evObi (evObi (evObi (evObi (evObi (evObi (evObi (evRet (by unfold R53 wU;rfl)))))))))))))
def C53:av:=bL [.agg gP] (fun _=>True) fun
 |[.agg [.int _ x0,.int _ x1,.int _ x2,.int _ x3]]=>R53 x0 x1 x2 x3
 |_=>.any
theorem EM:cr C53 98:=aY BN fun _ hp=>c9 (akt ..) (aq5 _ _ _ _)
def J1:Bool:=bif bif LE 4 (aa ac (bc [vi x0,vi x1,vi x2,vi x3] 0 1)) then decide (x0<=x2) else false then decide (x1<=x3) else false
def Vt (i:Nat):Bool:=bif !bif decide (97<=((s0.data.toList.getD i 0).toNat:Int)) then decide (((s0.data.toList.getD i 0).toNat:Int)<=122) else false then bif(i:Int)==0 then true else bif !bif decide (48<=((s0.data.toList.getD i 0).toNat:Int)) then decide (((s0.data.toList.getD i 0).toNat:Int)<=57) else false then((s0.data.toList.getD i 0).toNat:Int)!=45 else false else false
def Uf:Bool:=en s0.size (fun i=>!Vt s0 i)&&bif decide (0<(s0.size:Int)) then decide ((s0.size:Int)<=24) else false
def z6 (l:List V):Bool:=bif bif bif bif bif decide (aw l<0) then true else decide (aW l<=aw l) then true else decide (1000<aW l) then true else decide (b7 l<0) then true else decide (bV l<=b7 l) then true else decide (1000<bV l)
def F72 (x0 x1 x2 x3:Int) (n4:Nat) (f4:aL):Int:=bif !LE 4 (aa ac (bc [vi x0,vi x1,vi x2,vi x3] 0 ((1+1+1+1-0) / 4))) then 7 else bif x0==x2&&(x1==x3&&true) then 2 else bif decide (6<(n4:Int)) then 3 else bif ls n4 (fun i=>z6 (f4 i)) then 7 else 0
def Gb:aZ:=(122,.con D7)::(93,.con C65)::(95,.con C67)::(98,.con C53)::KR
theorem TO:aO Tryz.prog eqs its Gb:=.con vY (.con E0 (.con F8 (.con EM (BN))))
inductive Ce where
 |L0 (ia0:Int)
def ajI:Ce->bD×List O×Option Ex
 |.L0 ia0=>([(8,vi ia0),(7,vi (n0:Int)),(6,V.sl n0 (aa aJ f0)),(4,vi 0),(0,V.sl n0 (aa aJ f0)),(1,V.fn 122 [] [])],[],none)
def alc:Ce->JJ
 |.L0 ia0=>(0,[])
def acp:T (ck JJ):=aV JJ Gb u0 ali [V.sl n0 (aa aJ f0),V.fn 122 [] []]
def Iu (cx:List Cx):Lp JJ:=fQ (eZ (acp n0 f0) [])
def anD:JJ->Lp JJ
 |(0,cx)=>Iu n0 f0 cx
 |(_,cx)=>Iu n0 f0 cx
def aqR:LD JJ Ce:=⟨alc,anD n0 f0,ajI n0 f0⟩
def S6:Ce->RT Ce
 |.L0 ia0=>.br (decide (ia0<(n0:Int))) (.ob (decide (0<=ia0/\ia0<(n0:Int))) (.cb (.br (sw (aw (f0 ia0.toNat)) (aW (f0 ia0.toNat))) (.ret (vi ia0)) (.next [] (Ce.L0 (wI (ia0+1))) [])))) (.ret (vi (-1)))
def aje:RT Ce:=dm f0 (.am n0 (.enter [] (Ce.L0 0) []))
theorem aeU:eS Gb u0 (aqR n0 f0) (acp n0 f0) (aje n0 f0) (S6 n0 f0):=⟨bF,fun s=>by cases s<;>exact bF⟩
def KD:Int  :=xJ n0 fun ii=>sw (aw (f0 ii)) (aW (f0 ii))
theorem Yk:aX (Ev (S6 n0 f0)) (aje n0 f0) (vi (KD n0 f0)):=bw fun hn=>aM (nX hn fun i=>rfl)
theorem als:aX (Ev (S6 n0 f0)) (aje n0 f0) (vi (KD n0 (aa aJ f0))):=Yk n0 f0
def F6:av:=bL [.sl aJ,.fn 122 [] []] (fun _=>True) fun
 |[.sl n0 f0,.fn _ [] []]=>vi (KD n0 f0)
 |_=>.any
theorem zt:cr F6 150:=aY TO fun _ hp=>nd (aeU ..) (als _ _)
inductive S64 where
 |L0 (ia0:Int)
def ami:S64->bD×List O×Option Ex
 |.L0 ia0=>([(11,vi ia0),(10,vi (n0:Int)),(9,V.sl n0 (aa aG f0)),(5,vi 0),(4,vi 0),(0,V.sl n0 (aa aG f0)),(1,V.fn 93 [] [])],[],none)
def aqG:S64->JJ
 |.L0 ia0=>(0,[])
def amR:T (ck JJ):=aV JJ Gb u0 apE [V.sl n0 (aa aG f0),V.fn 93 [] []]
def TA (cx:List Cx):Lp JJ:=fQ (eZ (amR n0 f0) [])
def aqf:JJ->Lp JJ
 |(0,cx)=>TA n0 f0 cx
 |(_,cx)=>TA n0 f0 cx
def D64:LD JJ S64:=⟨aqG,aqf n0 f0,ami n0 f0⟩
def af1:S64->RT S64
 |.L0 ia0=>.br (decide (ia0<(n0:Int))) (.ob (decide (0<=ia0/\ia0<(n0:Int))) (.ob (decide (0<=ia0/\ia0<=(n0:Int))) (.cb (.br (nY (aw (f0 ia0.toNat)) (aW (f0 ia0.toNat)) (b7 (f0 ia0.toNat)) (bV (f0 ia0.toNat)) (dA (f0 ia0.toNat))!=0) (.ret (V.tup [vi ia0,vi (nY (aw (f0 ia0.toNat)) (aW (f0 ia0.toNat)) (b7 (f0 ia0.toNat)) (bV (f0 ia0.toNat)) (dA (f0 ia0.toNat)))])) (.next [] (S64.L0 (wI (ia0+1))) []))))) (.ret (V.tup [vi 0,vi 0]))
def m64:RT S64:=dm f0 (.am n0 (.enter [] (S64.L0 0) []))
theorem alv:eS Gb u0 (D64 n0 f0) (amR n0 f0) (m64 n0 f0) (af1 n0 f0):=⟨bF,fun s=>by cases s<;>exact bF⟩
def c64 (ii:Nat):Int:=dm n0 ((nY (aw (f0 ii)) (aW (f0 ii)) (b7 (f0 ii)) (bV (f0 ii)) (dA (f0 ii))))
def yd:Int:=fk n0 (c64 n0 f0)
def pG:Int:=dz n0 (c64 n0 f0)
theorem adY:aX (Ev (af1 n0 f0)) (m64 n0 f0) (.tup [vi (yd n0 f0),vi (pG n0 f0)]):=bw fun hn=>aM (qL (Q:=fun _=>True) (fun _ x=>.obc (.obt x)) (fun i x r h hx=>au (evObt hx)) (fun _ _=>rfl) hn (fun _ _=>trivial) fun i=>rfl)
theorem arE:aX (Ev (af1 n0 f0)) (m64 n0 f0) (.tup [vi (yd n0 (aa aG f0)),vi (pG n0 (aa aG f0))]):=adY n0 f0
def C64:av:=bL [.sl aG,.fn 93 [] []] (fun _=>True) fun
 |[.sl n0 f0,.fn _ [] []]=>.tup [vi (yd n0 f0),vi (pG n0 f0)]
 |_=>.any
theorem KI:cr C64 92:=aY TO fun _ hp=>nd (alv ..) (arE _ _)
inductive S66 where
 |L0 (ia0:Int)
def amj:S66->bD×List O×Option Ex
 |.L0 ia0=>([(11,vi ia0),(10,vi (n0:Int)),(9,V.sl n0 (aa aH f0)),(5,vi 0),(4,vi 0),(0,V.sl n0 (aa aH f0)),(1,V.fn 95 [] [])],[],none)
def aq6:S66->JJ
 |.L0 ia0=>(0,[])
def ana:T (ck JJ):=aV JJ Gb u0 apL [V.sl n0 (aa aH f0),V.fn 95 [] []]
def O9 (cx:List Cx):Lp JJ:=fQ (eZ (ana n0 f0) [])
def arF:JJ->Lp JJ
 |(0,cx)=>O9 n0 f0 cx
 |(_,cx)=>O9 n0 f0 cx
def D66:LD JJ S66:=⟨aq6,arF n0 f0,amj n0 f0⟩
def ahF:S66->RT S66
 |.L0 ia0=>.br (decide (ia0<(n0:Int))) (.ob (decide (0<=ia0/\ia0<(n0:Int))) (.ob (decide (0<=ia0/\ia0<=(n0:Int))) (.cb (.br ((oe (aw (f0 ia0.toNat)) (aW (f0 ia0.toNat)) (b7 (f0 ia0.toNat)) (bV (f0 ia0.toNat)) (aN (aE (ae (ae (ae (ae (f0 ia0.toNat))))))) fun i=>al gP (bO (aE (ae (ae (ae (ae (f0 ia0.toNat)))))) i))!=0) (.ret (V.tup [vi ia0,vi (oe (aw (f0 ia0.toNat)) (aW (f0 ia0.toNat)) (b7 (f0 ia0.toNat)) (bV (f0 ia0.toNat)) (aN (aE (ae (ae (ae (ae (f0 ia0.toNat))))))) fun i=>al gP (bO (aE (ae (ae (ae (ae (f0 ia0.toNat)))))) i))])) (.next [] (S66.L0 (wI (ia0+1))) []))))) (.ret (V.tup [vi 0,vi 0]))
def m66:RT S66:=dm f0 (.am n0 (.enter [] (S66.L0 0) []))
theorem alN:eS Gb u0 (D66 n0 f0) (ana n0 f0) (m66 n0 f0) (ahF n0 f0):=⟨bF,fun s=>by cases s<;>exact bF⟩
def c66 (ii:Nat):Int:=dm n0 ((oe (aw (f0 ii)) (aW (f0 ii)) (b7 (f0 ii)) (bV (f0 ii)) (aN (aE (ae (ae (ae (ae (f0 ii))))))) fun i=>al gP (bO (aE (ae (ae (ae (ae (f0 ii)))))) i)))
def yN:Int:=fk n0 (c66 n0 f0)
def pp:Int:=dz n0 (c66 n0 f0)
theorem afY:aX (Ev (ahF n0 f0)) (m66 n0 f0) (.tup [vi (yN n0 f0),vi (pp n0 f0)]):=bw fun hn=>aM (qL (Q:=fun _=>True) (fun _ x=>.obc (.obt x)) (fun i x r h hx=>au (evObt hx)) (fun _ _=>rfl) hn (fun _ _=>trivial) fun i=>rfl)
theorem aqp:aX (Ev (ahF n0 f0)) (m66 n0 f0) (.tup [vi (yN n0 (aa aH f0)),vi (pp n0 (aa aH f0))]):=afY n0 f0
def C66:av:=bL [.sl aH,.fn 95 [] []] (fun _=>True) fun
 |[.sl n0 f0,.fn _ [] []]=>.tup [vi (yN n0 f0),vi (pp n0 f0)]
 |_=>.any
theorem K9:cr C66 94:=aY TO fun _ hp=>nd (alN ..) (aqp _ _)
end
end Go.Dx
namespace Go.Proofs
open Go.Shelf
def Tryz.lays160_ren:Go.Shelf.Ren:=⟨fun|160=>148|232=>163|231=>162|227=>164|234=>166|233=>165|236=>168|235=>167|228=>174|271=>177|151=>176|197=>175|120=>191|152=>190|260=>189|137=>197|119=>198|224=>199|225=>200|217=>202|266=>203|n=>n,fun|9=>9|4=>4|3=>3|5=>5|117=>235|116=>234|0=>0|124=>238|21=>21|105=>245|46=>243|119=>265|139=>268|138=>267|n=>n,fun|3=>0|4=>1|n=>n⟩
theorem Tryz.lays160:Go.Proofs.Lays.n160 Tryz.prog Tryz.lays160_ren:={
 mixed:=by kernel_rfl
 f119:=Tryz.func198.trans (congrArg some bb)
 f120:=Tryz.func191.trans (congrArg some bb)
 f137:=Tryz.func197.trans (congrArg some bb)
 f151:=Tryz.func176.trans (congrArg some bb)
 f152:=Tryz.func190.trans (congrArg some bb)
 f160:=Tryz.func148.trans (congrArg some bb)
 f197:=Tryz.func175.trans (congrArg some bb)
 f217:=Tryz.func202.trans (congrArg some bb)
 f224:=Tryz.func199.trans (congrArg some bb)
 f225:=Tryz.func200.trans (congrArg some bb)
 f227:=Tryz.func164.trans (congrArg some bb)
 f228:=Tryz.func174.trans (congrArg some bb)
 f231:=Tryz.func162.trans (congrArg some bb)
 f232:=Tryz.func163.trans (congrArg some bb)
 f233:=Tryz.func165.trans (congrArg some bb)
 f234:=Tryz.func166.trans (congrArg some bb)
 f235:=Tryz.func167.trans (congrArg some bb)
 f236:=Tryz.func168.trans (congrArg some bb)
 f260:=Tryz.func189.trans (congrArg some bb)
 f266:=Tryz.func203.trans (congrArg some bb)
 f271:=Tryz.func177.trans (congrArg some bb)
 t0:=Tryz.underlying0
 a0:=Tryz.isAgg0
 z0:=Tryz.sizeOf0
 v0:=Tryz.zeroValue0
 t3:=Tryz.underlying3
 a3:=Tryz.isAgg3
 z3:=Tryz.sizeOf3
 v3:=Tryz.zeroValue3
 t4:=Tryz.underlying4
 a4:=Tryz.isAgg4
 z4:=Tryz.sizeOf4
 v4:=Tryz.zeroValue4
 t5:=Tryz.underlying5
 a5:=Tryz.isAgg5
 z5:=Tryz.sizeOf5
 v5:=Tryz.zeroValue5
 t9:=Tryz.underlying9
 a9:=Tryz.isAgg9
 z9:=Tryz.sizeOf9
 v9:=Tryz.zeroValue9
 t21:=Tryz.underlying21
 a21:=Tryz.isAgg21
 z21:=Tryz.sizeOf21
 v21:=Tryz.zeroValue21
 t46:=Tryz.underlying243
 a46:=Tryz.isAgg243
 z46:=Tryz.sizeOf243
 v46:=Tryz.zeroValue243
 t105:=Tryz.underlying245
 a105:=Tryz.isAgg245
 z105:=Tryz.sizeOf245
 v105:=Tryz.zeroValue245
 t116:=Tryz.underlying234
 a116:=Tryz.isAgg234
 z116:=Tryz.sizeOf234
 t117:=Tryz.underlying235
 a117:=Tryz.isAgg235
 z117:=Tryz.sizeOf235
 v117:=Tryz.zeroValue235
 t119:=Tryz.underlying265
 a119:=Tryz.isAgg265
 z119:=Tryz.sizeOf265
 t124:=Tryz.underlying238
 a124:=Tryz.isAgg238
 z124:=Tryz.sizeOf238
 v124:=Tryz.zeroValue238
 t138:=Tryz.underlying267
 a138:=Tryz.isAgg267
 z138:=Tryz.sizeOf267
 v138:=Tryz.zeroValue267
 t139:=Tryz.underlying268
 a139:=Tryz.isAgg268
 z139:=Tryz.sizeOf268
 v139:=Tryz.zeroValue268
 g3:=by kernel_rfl
 g4:=by kernel_rfl }
end Go.Proofs
namespace Go.Dx
open Go.IntKind (i64 u64 u8)
open Go.Sx Go.Proofs Go.Shelf Go.RowKit
noncomputable section
def XH:ByteArray:=⟨#[97,98,99,100,101,102,103,104,105,106,107,108,109,110,111,112,113,114,115,116,117,118,119,120,121,122,48,49,50,51,52,53,54,55,56,57,45]⟩
def yb (s c:ByteArray):ByteArray:=⟨(Lib.trimS s.data.toList c.data.toList).toArray⟩
def CV:av:=bL [.str,.str] (fun
 |[.str s,.str c]=>s.size<=9223372036854775807/\c=XH
 |_=>False) fun
 |[.str s,.str c]=>.str (yb s c)
 |_=>.any
theorem FW (s:ByteArray) (w:World) (hs:s.size<=9223372036854775807):Calls Tryz.prog 148 #[.string s,.string XH] w fun e w'=>e=.returned (.string (yb s XH))/\Below w.heap.size w w' :=
 Any.strings_Trim_laid Tryz.lays160 bb s XH w hs (by decide) (ascii_of_all (by decide))
theorem a7.below {B:cY} {m:aF} {lh:List ao} {w w':World} (h:a7 B m lh w) (hb:Below w.heap.size w w'):a7 B m lh w':=by
 obtain ⟨h1,h2,h3,h4,h5⟩:=hb
 have hsz:B.w0.heap.size<=w'.heap.size:=ajf h.size h4
 refine ⟨h1.trans h.os,h2.trans h.tape,h3.trans h.output,hsz,fun b hb=>(h5 b (ahs hb h.size)).trans (h.old b hb),ajf h.fsize h4,fun b hb ho=>(h5 b (ahs hb h.fsize)).trans (h.kept b hb ho),fun k cs ty hk=>?_,h.inj,h.dom,h.dead,fun k b hk=>ahs (h.rng k b hk) h4⟩
 obtain ⟨b,vs,g1,g2,g3,g4⟩:=h.loc k cs ty hk
 exact ⟨b,vs,g1,g2,(h5 b (h.rng k b g1)).trans g3,g4⟩
theorem yQ:(vP CV).Ok Tryz.prog 148:=by
 refine ⟨fun B m lh w args vs K hrel hargs hsp=>?_,fun _ _ _ _ _ hk ⟨ds,d,p,r,h1,h2,h3,h4,h5⟩=>⟨ds,d,p,r,h1,h2,h3,h4,hk _ _ h5⟩,fun _ _ _ _ ⟨_,_,_,_,_,_,_,_,h⟩=>h⟩
 obtain ⟨ds,d,p,r,h1,h2,⟨h30,h3⟩,h4,h5⟩:=hsp
 simp only [CV,bL,aaB,Prod.mk.injEq]at h2
 obtain ⟨rfl,rfl,rfl⟩:=h2
 have hty:=(jb [.str,.str] ds [] [] rfl h30).1
 simp only [bp,cO]at hty
 obtain ⟨e1,e2,e3,e4,e5⟩:=hty
 rw [e5]at e3
 rw [e3,e2,e4]at e1
 generalize sv (aE ds)=s at e1
 generalize sv (aE (ae ds))=c at e1
 subst e1
 simp only [j9,Tk]at h3 h4 h5
 obtain ⟨hs,rfl⟩:=h3
 simp only [bg,vr]at h1
 obtain ⟨_,_,rfl,rfl,_,_,rfl,rfl,rfl⟩:=h1
 simp only [ar,vrel]at hargs
 obtain ⟨_,_,rfl,rfl,_,_,rfl,rfl,rfl⟩:=hargs
 refine ⟨⟨_,Tryz.func148,by kernel_rfl,by kernel_rfl⟩,(FW s w hs).mono fun e w' ⟨he,hb⟩=>?_⟩
 exact ⟨_,_,m,lh,he,by simp only[cz,vrel],hG.refl _ _,a7.below hrel hb,h5⟩
theorem Jn (s:ByteArray) (h:(!s.toList==(⟨#[]⟩:ByteArray).toList)=true):(0:Int)<(s.size:Int):=by
 have e:(⟨#[]⟩:ByteArray).toList=[]:=by decide +kernel
 by_cases hz:s.size=0
 ·have:s=⟨#[]⟩:=by
   cases s with|mk d=>
   have:d=#[]:=Array.eq_empty_of_size_eq_zero hz
   rw [this]
  rw [this,e]at h;cases h
 ·omega
end
end Go.Dx
namespace Go.Dx
open Go.IntKind (i64 u64 u8)
open Go.Sx Go.Proofs
variable (n0:Nat) (f0:aL) (x0:Int) (s0:ByteArray) (x1:Int) (n2:Nat) (f2:aL) (x2:Int) (s2:ByteArray) (x3:Int) (n4:Nat) (f4:aL) (x4 x5:Int) (n6:Nat) (f6:aL) (x6 x7:Int) (n8:Nat) (f8:aL) (x8 x9:Int)
noncomputable section
def U2:aZ:=[(150,.con F6),(92,.con C64),(94,.con C66),(122,.con D7),(93,.con C65),(95,.con C67),(98,.con C53),(123,.con C45),(125,.con C90),(130,.con yay),(132,.con B7),(46,.con C99),(149,.con C8),(151,.con B3),(152,.con DL),(121,.con CW),(129,.con C3),(131,.con Cn),(77,.con DK),(136,.con C4),(147,.con CU),(154,.con D6),(155,.con BL),(59,.con C78),(100,.con C54),(99,.con C48),(135,.con CS),(57,.con C81),(79,.con C84),(153,.con C85),(80,.con DG),(133,.con Ds),(78,.con Zr),(169,.con BZ),(188,.con FX),(148,.con CV)]
theorem Uq:aO Tryz.prog eqs its U2:=.con zt (.con KI (.con K9 (.con vY (.con E0 (.con F8 (.con EM (.con Ef (.con Fo (.con xt (.con vV (.con FB (.con vd (.con wJ (.con vD (.con wF (.con wq (.con xn (.con vT (.con uZ (.con vt (.con wv (.con xc (.con EH (.con EV (.con Gs (.con wX (.con ED (.con Fa (.con EC (.con xi (.con vn (.con yaw (.con vl (.con yT (.con yQ (.nil))))))))))))))))))))))))))))))))))))
def akm:RT Empty:=.cb (.ret (V.bool (decide (0<=KD n0 (aa aJ f0)))))
theorem ahh:cW cX (aV JJ U2 u0 amH [V.sl n0 (aa aJ f0),V.fn 122 [] []]) (akm n0 f0):=bF
def kh:Bool:=decide (0<=KD n0 (aa aJ f0))
def af8:V:=.bool (kh n0 f0)
theorem anZ:aX cL (akm n0 f0) (af8 n0 f0):=au (evObt (evRet (by unfold af8 kh;rfl)))
def EG:av:=bL [.sl aJ,.fn 122 [] []] (fun _=>True) fun
 |[.sl n0 f0,.fn _ [] []]=>af8 n0 f0
 |_=>.any
theorem yB:cr EG 126:=aY Uq fun _ hp=>c9 (ahh ..) (anZ _ _)
def akS:RT Empty:=.obp (s0.size<=(9223372036854775807:Nat)/\ByteArray.mk (Array.mk [(97:UInt8),(98:UInt8),(99:UInt8),(100:UInt8),(101:UInt8),(102:UInt8),(103:UInt8),(104:UInt8),(105:UInt8),(106:UInt8),(107:UInt8),(108:UInt8),(109:UInt8),(110:UInt8),(111:UInt8),(112:UInt8),(113:UInt8),(114:UInt8),(115:UInt8),(116:UInt8),(117:UInt8),(118:UInt8),(119:UInt8),(120:UInt8),(121:UInt8),(122:UInt8),(48:UInt8),(49:UInt8),(50:UInt8),(51:UInt8),(52:UInt8),(53:UInt8),(54:UInt8),(55:UInt8),(56:UInt8),(57:UInt8),(45:UInt8)])=ByteArray.mk (Array.mk [(97:UInt8),(98:UInt8),(99:UInt8),(100:UInt8),(101:UInt8),(102:UInt8),(103:UInt8),(104:UInt8),(105:UInt8),(106:UInt8),(107:UInt8),(108:UInt8),(109:UInt8),(110:UInt8),(111:UInt8),(112:UInt8),(113:UInt8),(114:UInt8),(115:UInt8),(116:UInt8),(117:UInt8),(118:UInt8),(119:UInt8),(120:UInt8),(121:UInt8),(122:UInt8),(48:UInt8),(49:UInt8),(50:UInt8),(51:UInt8),(52:UInt8),(53:UInt8),(54:UInt8),(55:UInt8),(56:UInt8),(57:UInt8),(45:UInt8)])) (.obt (.iv (.ii (.obj (bif bif !s0.toList==(ByteArray.mk (Array.mk [])).toList then decide ((↑s0.size:Int)<=24) else false then(yb s0 (ByteArray.mk (Array.mk [97,98,99,100,101,102,103,104,105,106,107,108,109,110,111,112,113,114,115,116,117,118,119,120,121,122,48,49,50,51,52,53,54,55,56,57,45]))).toList==(ByteArray.mk (Array.mk [])).toList else false) (decide ((0:Int)<=0/\0<(↑s0.size:Int))) (.ii (.obi (.obj (bif bif bif !s0.toList==(ByteArray.mk (Array.mk [])).toList then decide ((↑s0.size:Int)<=24) else false then(yb s0 (ByteArray.mk (Array.mk [97,98,99,100,101,102,103,104,105,106,107,108,109,110,111,112,113,114,115,116,117,118,119,120,121,122,48,49,50,51,52,53,54,55,56,57,45]))).toList==(ByteArray.mk (Array.mk [])).toList else false then decide (97<=(↑(s0.data.1.getD 0 0).toNat:Int)) else false) (decide ((0:Int)<=0/\0<(↑s0.size:Int))) (.ii (.ret (V.bool (bif bif bif bif !s0.toList==(ByteArray.mk (Array.mk [])).toList then decide ((↑s0.size:Int)<=24) else false then(yb s0 (ByteArray.mk (Array.mk [97,98,99,100,101,102,103,104,105,106,107,108,109,110,111,112,113,114,115,116,117,118,119,120,121,122,48,49,50,51,52,53,54,55,56,57,45]))).toList==(ByteArray.mk (Array.mk [])).toList else false then decide (97<=(↑(s0.data.1.getD 0 0).toNat:Int)) else false then decide ((↑(s0.data.1.getD 0 0).toNat:Int)<=122) else false)))))))))))
theorem aiK:cW cX (aV JJ U2 u0 akG [V.str s0]) (akS s0):=bF
def nk:Bool:=bif bif bif bif !s0.toList==(ByteArray.mk (Array.mk [])).toList then decide ((↑s0.size:Int)<=24) else false then(yb s0 (ByteArray.mk (Array.mk [97,98,99,100,101,102,103,104,105,106,107,108,109,110,111,112,113,114,115,116,117,118,119,120,121,122,48,49,50,51,52,53,54,55,56,57,45]))).toList==(ByteArray.mk (Array.mk [])).toList else false then decide (97<=(↑(s0.data.1.getD 0 0).toNat:Int)) else false then decide ((↑(s0.data.1.getD 0 0).toNat:Int)<=122) else false
def aiE:V:=.bool (nk s0)
theorem anp (hp:s0.size<=9223372036854775807):aX cL (akS s0) (aiE s0):=evObp (by first|assumption|(exact⟨hp,rfl⟩)) (evObt (evObi (evObi (evObi (evObi (evObi (evObi (d5 (by first|assumption|(intro h;refine dqt ⟨Int.le_refl 0,Jn s0 ?_⟩;cases hb:(!s0.toList==(⟨#[]⟩:ByteArray).toList) with|true=>rfl|false=>(rw[hb]at h;simp at h))) (evObi (evObi (evObi (d5 (by first|assumption|(intro h;refine dqt ⟨Int.le_refl 0,Jn s0 ?_⟩;cases hb:(!s0.toList==(⟨#[]⟩:ByteArray).toList) with|true=>rfl|false=>(rw[hb]at h;simp at h))) (evObi (evObi (evRet (by unfold aiE nk;rfl))))))))))))))))
def Fp:av:=bL [.str] (fun
 |[.str s0]=>s0.size<=9223372036854775807
 |_=>False) fun
 |[.str s0]=>aiE s0
 |_=>.any
theorem zp:cr Fp 124:=aY Uq fun _ hp=>c9 (aiK ..) (anp _ hp)
def SY (x y h dx dy:Int):Int:=bif bif bif bif !LE 2 (aa ac (bc [vi x,vi y] 0 ((1+1-0) / 2))) then true else !gx h 1 200 then true else !gx dx (-1000) 1000 then true else !gx dy (-1000) 1000 then 7 else bif bif dx==0 then dy==0 else false then 2 else 0
def F73:Int:=dm n6 (bif !Uf (sv (aE (f6 x8.toNat))) then 6 else bif ls x8.toNat (fun k=>(sv (aE (f6 k))).toList==(sv (aE (f6 x8.toNat))).toList) then 5 else SY (aW (f6 x8.toNat)) (b7 (f6 x8.toNat)) (bV (f6 x8.toNat)) (dA (f6 x8.toNat)) (bE (f6 x8.toNat)))
def yak:aZ:=(128,.inl yU u0)::(127,.inl yC u0)::(126,.con EG)::(124,.con Fp)::U2
theorem Ft:aO Tryz.prog eqs its yak:=eT Tryz.func128 bb (eT Tryz.func127 bb (.con yB (.con zp (Uq))))
inductive rS where
 |L0 (ia0:Int) (fa1:aL)
 |L1 (ib0:Int) (fb1:aL)
 |L2 (ic0:Int) (fc1:aL)
 |L3 (id0:Int) (fd1:aL)
 |L4 (ie0:Int) (ne1 ne2:Nat) (ie3 ie4 ie5:Int) (ne6:Nat) (ie7 ie8 ie9 ie10:Int) (fe11:aL)
 |L5 (if0:Int) (nf1 nf2:Nat) (if3 if4 if5:Int) (nf6:Nat) (if7 if8 if9 if10:Int) (ff11:aL)
 |L6 (ig0:Int) (ng1 ng2:Nat) (ig3 ig4 ig5:Int) (ng6:Nat) (ig7 ig8 ig9 ig10:Int) (fg11:aL)
 |L7 (ih0:Int) (nh1 nh2:Nat) (ih3 ih4 ih5:Int) (nh6:Nat) (ih7 ih8 ih9 ih10:Int) (fh11:aL)
def C5 (n0:Nat) (f0:aL) (s2:ByteArray) (x3:Int) (n4:Nat) (f4:aL) (x6:Int):rS->bD×List O×Option Ex
 |.L0 ia0 fa1=>([(3,vi ia0),(8,V.kb false),(7,vi (n4:Int)),(6,V.gs 2 n4),(2,V.ns),(0,V.gs 2 n4)],[O.cells [V.str s2,vi x3,V.sl n4 (aa aJ f4),vi x6] 97,O.hid,O.gl 2 n4 (aa aJ fa1) 38],none)
 |.L1 ib0 fb1=>([(3,vi ib0),(8,V.kb false),(7,vi (n4:Int)),(6,V.gs 2 n4),(2,V.ns),(0,V.gs 2 n4)],[O.cells [V.str s2,vi x3,V.sl n4 (aa aJ f4),vi x6] 97,O.hid,O.gl 2 n4 (aa aJ fb1) 38],none)
 |.L2 ic0 fc1=>([(3,vi ic0),(8,V.kb false),(7,vi (n4:Int)),(6,V.gs 2 n4),(2,V.ns),(0,V.gs 2 n4)],[O.cells [V.str s2,vi x3,V.sl n4 (aa aJ f4),vi x6] 97,O.hid,O.gl 2 n4 (aa aJ fc1) 38],none)
 |.L3 id0 fd1=>([(3,vi id0),(8,V.kb false),(7,vi (n4:Int)),(6,V.gs 2 n4),(2,V.ns),(0,V.gs 2 n4)],[O.cells [V.str s2,vi x3,V.sl n4 (aa aJ f4),vi x6] 97,O.hid,O.gl 2 n4 (aa aJ fd1) 38],none)
 |.L4 ie0 ne1 ne2 ie3 ie4 ie5 ne6 ie7 ie8 ie9 ie10 fe11=>([(5,vi ie0),(4,V.go 2 ne1 ne2),(28,V.go 2 ne1 ne2),(27,vi ie3),(26,V.gs 2 n4),(25,V.kb true),(24,V.agg [vi ie4,vi ie5]),(23,V.pe 2 ne6 0),(22,vi ie7),(21,vi ie3),(20,V.gs 2 n4),(19,V.agg [vi ie8,vi ie9]),(18,V.pe 2 ne1 0),(17,vi ie3),(16,V.gs 2 n4),(13,V.kb true),(12,vi (n4:Int)),(11,V.gs 2 n4),(10,vi ie3),(3,vi ie10),(8,V.kb false),(7,vi (n4:Int)),(6,V.gs 2 n4),(2,V.ns),(0,V.gs 2 n4)],[O.cells [V.str s2,vi x3,V.sl n4 (aa aJ f4),vi x6] 97,O.hid,O.gl 2 n4 (aa aJ fe11) 38],none)
 |.L5 if0 nf1 nf2 if3 if4 if5 nf6 if7 if8 if9 if10 ff11=>([(5,vi if0),(4,V.go 2 nf1 nf2),(28,V.go 2 nf1 nf2),(27,vi if3),(26,V.gs 2 n4),(25,V.kb true),(24,V.agg [vi if4,vi if5]),(23,V.pe 2 nf6 0),(22,vi if7),(21,vi if3),(20,V.gs 2 n4),(19,V.agg [vi if8,vi if9]),(18,V.pe 2 nf1 0),(17,vi if3),(16,V.gs 2 n4),(13,V.kb true),(12,vi (n4:Int)),(11,V.gs 2 n4),(10,vi if3),(3,vi if10),(8,V.kb false),(7,vi (n4:Int)),(6,V.gs 2 n4),(2,V.ns),(0,V.gs 2 n4)],[O.cells [V.str s2,vi x3,V.sl n4 (aa aJ f4),vi x6] 97,O.hid,O.gl 2 n4 (aa aJ ff11) 38],none)
 |.L6 ig0 ng1 ng2 ig3 ig4 ig5 ng6 ig7 ig8 ig9 ig10 fg11=>([(5,vi ig0),(4,V.go 2 ng1 ng2),(28,V.go 2 ng1 ng2),(27,vi ig3),(26,V.gs 2 n4),(25,V.kb true),(24,V.agg [vi ig4,vi ig5]),(23,V.pe 2 ng6 0),(22,vi ig7),(21,vi ig3),(20,V.gs 2 n4),(19,V.agg [vi ig8,vi ig9]),(18,V.pe 2 ng1 0),(17,vi ig3),(16,V.gs 2 n4),(13,V.kb true),(12,vi (n4:Int)),(11,V.gs 2 n4),(10,vi ig3),(3,vi ig10),(8,V.kb false),(7,vi (n4:Int)),(6,V.gs 2 n4),(2,V.ns),(0,V.gs 2 n4)],[O.cells [V.str s2,vi x3,V.sl n4 (aa aJ f4),vi x6] 97,O.hid,O.gl 2 n4 (aa aJ fg11) 38],none)
 |.L7 ih0 nh1 nh2 ih3 ih4 ih5 nh6 ih7 ih8 ih9 ih10 fh11=>([(5,vi ih0),(4,V.go 2 nh1 nh2),(28,V.go 2 nh1 nh2),(27,vi ih3),(26,V.gs 2 n4),(25,V.kb true),(24,V.agg [vi ih4,vi ih5]),(23,V.pe 2 nh6 0),(22,vi ih7),(21,vi ih3),(20,V.gs 2 n4),(19,V.agg [vi ih8,vi ih9]),(18,V.pe 2 nh1 0),(17,vi ih3),(16,V.gs 2 n4),(13,V.kb true),(12,vi (n4:Int)),(11,V.gs 2 n4),(10,vi ih3),(3,vi ih10),(8,V.kb false),(7,vi (n4:Int)),(6,V.gs 2 n4),(2,V.ns),(0,V.gs 2 n4)],[O.cells [V.str s2,vi x3,V.sl n4 (aa aJ f4),vi x6] 97,O.hid,O.gl 2 n4 (aa aJ fh11) 38],none)
def apQ:rS->JJ
 |.L0 ia0 fa1=>(0,[])
 |.L1 ib0 fb1=>(1,[])
 |.L2 ic0 fc1=>(2,[])
 |.L3 id0 fd1=>(3,[])
 |.L4 ie0 ne1 ne2 ie3 ie4 ie5 ne6 ie7 ie8 ie9 ie10 fe11=>(4,[])
 |.L5 if0 nf1 nf2 if3 if4 if5 nf6 if7 if8 if9 if10 ff11=>(5,[])
 |.L6 ig0 ng1 ng2 ig3 ig4 ig5 ng6 ig7 ig8 ig9 ig10 fg11=>(6,[])
 |.L7 ih0 nh1 nh2 ih3 ih4 ih5 nh6 ih7 ih8 ih9 ih10 fh11=>(7,[])
def OL:T (ck JJ):=aV JJ yak u0 apO [V.sl n0 (aa aB f0),V.agg [V.str s2,vi x3,V.sl n4 (aa aJ f4),vi x6]]
def Gp (cx:List Cx):Lp JJ:=fQ (eZ (OL n0 f0 s2 x3 n4 f4 x6) [false,false,false,false,false,true,false,true,true,false,true,false])
def N9 (cx:List Cx):Lp JJ:=fQ (eZ (OL n0 f0 s2 x3 n4 f4 x6) [false,false,false,false,false,true,false,true,true,false,false,false])
def Nt (cx:List Cx):Lp JJ:=fQ (eZ (OL n0 f0 s2 x3 n4 f4 x6) [false,false,false,false,false,true,false,true,false,false,false])
def O4 (cx:List Cx):Lp JJ:=fQ (eZ (OL n0 f0 s2 x3 n4 f4 x6) [false,false,false,false,false,true,false,false,false,false])
def aeI (cx:List Cx):Lp JJ:=fQ (eZ (ua yak u0 (0,[]) (Gp n0 f0 s2 x3 n4 f4 x6 []) (C5 n0 f0 s2 x3 n4 f4 x6 (.L0 (0:Int) (fun _=>[])))) [true,true])
def ajz (cx:List Cx):Lp JJ:=fQ (eZ (ua yak u0 (1,[]) (N9 n0 f0 s2 x3 n4 f4 x6 []) (C5 n0 f0 s2 x3 n4 f4 x6 (.L1 (0:Int) (fun _=>[])))) [true,true])
def aiy (cx:List Cx):Lp JJ:=fQ (eZ (ua yak u0 (2,[]) (Nt n0 f0 s2 x3 n4 f4 x6 []) (C5 n0 f0 s2 x3 n4 f4 x6 (.L2 (0:Int) (fun _=>[])))) [true,true])
def ajx (cx:List Cx):Lp JJ:=fQ (eZ (ua yak u0 (3,[]) (O4 n0 f0 s2 x3 n4 f4 x6 []) (C5 n0 f0 s2 x3 n4 f4 x6 (.L3 (0:Int) (fun _=>[])))) [true,true])
def aso:JJ->Lp JJ
 |(0,cx)=>Gp n0 f0 s2 x3 n4 f4 x6 cx
 |(1,cx)=>N9 n0 f0 s2 x3 n4 f4 x6 cx
 |(2,cx)=>Nt n0 f0 s2 x3 n4 f4 x6 cx
 |(3,cx)=>O4 n0 f0 s2 x3 n4 f4 x6 cx
 |(4,cx)=>aeI n0 f0 s2 x3 n4 f4 x6 cx
 |(5,cx)=>ajz n0 f0 s2 x3 n4 f4 x6 cx
 |(6,cx)=>aiy n0 f0 s2 x3 n4 f4 x6 cx
 |(7,cx)=>ajx n0 f0 s2 x3 n4 f4 x6 cx
 |(_,cx)=>Gp n0 f0 s2 x3 n4 f4 x6 cx
def D63:LD JJ rS:=⟨apQ,aso n0 f0 s2 x3 n4 f4 x6,C5 n0 f0 s2 x3 n4 f4 x6⟩
def Ml (mk:Int->Nat->Nat->Int->Int->Int->Nat->Int->Int->Int->Int->(Nat->List V)->rS) (if0:Int) (nf1:Nat) (nf2:Nat) (if3:Int) (if4:Int) (if5:Int) (nf6:Nat) (if7:Int) (if8:Int) (if9:Int) (if10:Int) (ff11:aL):RT rS:=.br (decide (if0<(↑nf2:Int))) (.ob (decide (0<=if0/\if0<(↑nf2:Int)/\nf1+nf2<=n4)) (.ob (decide (nf1+if0.toNat<n4)) (.ob (decide (0<=wI (if0-1)/\wI (if0-1)<(↑nf2:Int)/\nf1+nf2<=n4)) (.ob (decide (nf1+(wI (if0-1)).toNat<n4)) (.br (!(aw (ff11 (nf1+if0.toNat))==aw (ff11 (nf1+(wI (if0-1)).toNat))&&(aW (ff11 (nf1+if0.toNat))==aW (ff11 (nf1+(wI (if0-1)).toNat))&&true))) (.ob (decide (0<=if0/\if0<(↑nf2:Int)/\nf1+nf2<=n4)) (.ob (decide (nf1+if0.toNat<n4)) (.ob (decide (0<=if10/\if10<(n4:Int)/\n4<=n4)) (.ob (decide (if10.toNat<n4)) (.next (iR 0 3 []) (mk (wI (if0+1)) nf1 nf2 if3 if4 if5 nf6 if7 if8 if9 (wI (if10+1)) (fun i'=>bif i'.beq if10.toNat then [vi (aw (ff11 (nf1+if0.toNat))),vi (aW (ff11 (nf1+if0.toNat)))] else aa aJ ff11 i')) [⟨2,aJ,n4,fun i'=>bif i'.beq if10.toNat then [vi (aw (ff11 (nf1+if0.toNat))),vi (aW (ff11 (nf1+if0.toNat)))] else aa aJ ff11 i',mB rfl (aC rfl _ _) rfl⟩]))))) (.next (iR 0 3 []) (mk (wI (if0+1)) nf1 nf2 if3 if4 if5 nf6 if7 if8 if9 if10 (aa aJ ff11)) [⟨2,aJ,n4,aa aJ ff11,aC rfl _ _⟩])))))) (.ob (decide (0<=if10/\if10<=(n4:Int))) (.ob (decide (0<n4-if10.toNat/\if10.toNat+(n4-if10.toNat)<=n4)) (.ob (decide (0<=if10/\if10<=(n4:Int))) (.br (decide ((↑if10.toNat:Int)<(n4:Int))) (.ret (vi 2)) (.ii (.asm ((x3==3)=true->n4<=9223372036854775807) (.ii (.br (bif x3==3 then decide (2<(n4:Int)) else false) (.ret (vi 2)) (.ret (vi 0))))))))))
def MZ (mk:Int->(Nat->List V)->rS) (mk2:Int->Nat->Nat->Int->Int->Int->Nat->Int->Int->Int->Int->(Nat->List V)->rS) (ib0:Int) (fb1:aL):RT rS:=.br (decide (ib0<(n4:Int))) (.ob (decide (0<=ib0/\ib0<(n4:Int)/\n4<=n4)) (.ob (decide (ib0.toNat<n4)) (.ob (decide (0<=wI (ib0-1)/\wI (ib0-1)<(n4:Int)/\n4<=n4)) (.ob (decide ((wI (ib0-1)).toNat<n4)) (.br (aw (fb1 ib0.toNat)==aw (fb1 (wI (ib0-1)).toNat)&&(aW (fb1 ib0.toNat)==aW (fb1 (wI (ib0-1)).toNat)&&true)) (.ob (decide (0<=ib0/\ib0<=(n4:Int))) (.enter (iR 0 3 []) (mk2 1 (ib0.toNat) (n4-ib0.toNat) ib0 (aw (fb1 (wI (ib0-1)).toNat)) (aW (fb1 (wI (ib0-1)).toNat)) ((wI (ib0-1)).toNat) (wI (ib0-1)) (aw (fb1 ib0.toNat)) (aW (fb1 ib0.toNat)) ib0 (aa aJ fb1)) [⟨2,aJ,n4,aa aJ fb1,aC rfl _ _⟩])) (.next (iR 0 3 []) (mk (wI (ib0+1)) (aa aJ fb1)) [⟨2,aJ,n4,aa aJ fb1,aC rfl _ _⟩])))))) (.br (decide ((n4:Int)<(n4:Int))) (.ret (vi 2)) (.ii (.asm ((x3==3)=true->n4<=9223372036854775807) (.ii (.br (bif x3==3 then decide (2<(n4:Int)) else false) (.ret (vi 2)) (.ret (vi 0)))))))
def pY (n0:Nat) (f0:aL) (s2:ByteArray) (x3:Int) (n4:Nat) (f4:aL) (x6:Int):rS->RT rS
 |.L0 ia0 fa1=>.br (decide (ia0<(n4:Int))) (.ob (decide (0<=ia0/\ia0<(n4:Int)/\n4<=n4)) (.ob (decide (ia0.toNat<n4)) (.ob (decide (0<=wI (ia0-1)/\wI (ia0-1)<(n4:Int)/\n4<=n4)) (.ob (decide ((wI (ia0-1)).toNat<n4)) (.br (aw (fa1 ia0.toNat)==aw (fa1 (wI (ia0-1)).toNat)&&(aW (fa1 ia0.toNat)==aW (fa1 (wI (ia0-1)).toNat)&&true)) (.ob (decide (0<=ia0/\ia0<=(n4:Int))) (.enter (iR 0 3 []) (rS.L4 1 (ia0.toNat) (n4-ia0.toNat) ia0 (aw (fa1 (wI (ia0-1)).toNat)) (aW (fa1 (wI (ia0-1)).toNat)) ((wI (ia0-1)).toNat) (wI (ia0-1)) (aw (fa1 ia0.toNat)) (aW (fa1 ia0.toNat)) ia0 (aa aJ fa1)) [⟨2,aJ,n4,aa aJ fa1,aC rfl _ _⟩])) (.next (iR 0 3 []) (rS.L0 (wI (ia0+1)) (aa aJ fa1)) [⟨2,aJ,n4,aa aJ fa1,aC rfl _ _⟩])))))) (.am n4 (.br (decide ((n4:Int)<(n4:Int))) (.ret (vi 2)) (.ii (.asm ((x3==3)=true->n4<=9223372036854775807) (.ii (.br (bif x3==3 then decide (2<(n4:Int)) else false) (.ret (vi 2)) (.ret (vi 0))))))))
 |.L1 ib0 fb1=>MZ x3 n4 rS.L1 rS.L5 ib0 fb1
 |.L2 ic0 fc1=>MZ x3 n4 rS.L2 rS.L6 ic0 fc1
 |.L3 id0 fd1=>MZ x3 n4 rS.L3 rS.L7 id0 fd1
 |.L4 ie0 ne1 ne2 ie3 ie4 ie5 ne6 ie7 ie8 ie9 ie10 fe11=>.br (decide (ie0<(↑ne2:Int))) (.ob (decide (0<=ie0/\ie0<(↑ne2:Int)/\ne1+ne2<=n4)) (.ob (decide (ne1+ie0.toNat<n4)) (.ob (decide (0<=wI (ie0-1)/\wI (ie0-1)<(↑ne2:Int)/\ne1+ne2<=n4)) (.ob (decide (ne1+(wI (ie0-1)).toNat<n4)) (.br (!(aw (fe11 (ne1+ie0.toNat))==aw (fe11 (ne1+(wI (ie0-1)).toNat))&&(aW (fe11 (ne1+ie0.toNat))==aW (fe11 (ne1+(wI (ie0-1)).toNat))&&true))) (.ob (decide (0<=ie0/\ie0<(↑ne2:Int)/\ne1+ne2<=n4)) (.ob (decide (ne1+ie0.toNat<n4)) (.ob (decide (0<=ie10/\ie10<(n4:Int)/\n4<=n4)) (.ob (decide (ie10.toNat<n4)) (.next (iR 0 3 []) (rS.L4 (wI (ie0+1)) ne1 ne2 ie3 ie4 ie5 ne6 ie7 ie8 ie9 (wI (ie10+1)) (fun i'=>bif i'.beq ie10.toNat then [vi (aw (fe11 (ne1+ie0.toNat))),vi (aW (fe11 (ne1+ie0.toNat)))] else aa aJ fe11 i')) [⟨2,aJ,n4,fun i'=>bif i'.beq ie10.toNat then [vi (aw (fe11 (ne1+ie0.toNat))),vi (aW (fe11 (ne1+ie0.toNat)))] else aa aJ fe11 i',mB rfl (aC rfl _ _) rfl⟩]))))) (.next (iR 0 3 []) (rS.L4 (wI (ie0+1)) ne1 ne2 ie3 ie4 ie5 ne6 ie7 ie8 ie9 ie10 (aa aJ fe11)) [⟨2,aJ,n4,aa aJ fe11,aC rfl _ _⟩])))))) (.ob (decide (0<=ie10/\ie10<=(n4:Int))) (.ob (decide (0<n4-ie10.toNat/\ie10.toNat+(n4-ie10.toNat)<=n4)) (.ob (decide (0<=ie10/\ie10<=(n4:Int))) (.am n4 (.br (decide ((↑ie10.toNat:Int)<(n4:Int))) (.ret (vi 2)) (.ii (.asm ((x3==3)=true->n4<=9223372036854775807) (.ii (.br (bif x3==3 then decide (2<(n4:Int)) else false) (.ret (vi 2)) (.ret (vi 0)))))))))))
 |.L5 if0 nf1 nf2 if3 if4 if5 nf6 if7 if8 if9 if10 ff11=>Ml x3 n4 rS.L5 if0 nf1 nf2 if3 if4 if5 nf6 if7 if8 if9 if10 ff11
 |.L6 ig0 ng1 ng2 ig3 ig4 ig5 ng6 ig7 ig8 ig9 ig10 fg11=>Ml x3 n4 rS.L6 ig0 ng1 ng2 ig3 ig4 ig5 ng6 ig7 ig8 ig9 ig10 fg11
 |.L7 ih0 nh1 nh2 ih3 ih4 ih5 nh6 ih7 ih8 ih9 ih10 fh11=>Ml x3 n4 rS.L7 ih0 nh1 nh2 ih3 ih4 ih5 nh6 ih7 ih8 ih9 ih10 fh11
def m63:RT rS:=.obp (s2.size<=(9223372036854775807:Nat)) (.obt (.br (!nk s2) (.ret (vi 6)) (.cb (.br (tj n0 (aa aB f0) s2) (.ret (vi 5)) (.cb (.br (bq x3 0 3) (.ret (vi 2)) (.am n4 (.br (decide ((n4:Int)<2)) (.ret (vi 4)) (.am n4 (.br (decide (8<(n4:Int))) (.ret (vi 3)) (.cb (.obi (.br (!kh n4 (aa aJ f4)) (.ob (!kh n4 (aa aJ f4)) (.cb (.br (bq x6 100 30000) (.ret (vi 7)) (.und (.und (.und (.asm (n4=0) (.und (.brt (.am n4 (.br (decide (0<(n4:Int))) (.ret (vi 2)) (.ii (.asm ((x3==3)=true->n4<=9223372036854775807) (.ii (.br (bif x3==3 then decide (2<(n4:Int)) else false) (.ret (vi 2)) (.ret (vi 0))))))))) (.am n4 (.brt (.br (decide (0<(n4:Int))) (.ret (vi 2)) (.ii (.asm ((x3==3)=true->n4<=9223372036854775807) (.ii (.br (bif x3==3 then decide (2<(n4:Int)) else false) (.ret (vi 2)) (.ret (vi 0))))))))))) (.obv (en n4 fun i=>lX 2 (aa aJ f4 i)) (yaq rfl _ _) (.ob (decide (n4*16<=140737488355328)&&!Nat.beq 16 0) (.und (.br (decide ((n4:Int)<2)) (.am n4 (.br (decide ((n4:Int)<(n4:Int))) (.ret (vi 2)) (.ii (.asm ((x3==3)=true->n4<=9223372036854775807) (.ii (.br (bif x3==3 then decide (2<(n4:Int)) else false) (.ret (vi 2)) (.ret (vi 0)))))))) (.enter (iR 0 3 []) (rS.L0 1 (aa aJ f4)) [⟨2,aJ,n4,aa aJ f4,aC rfl _ _⟩])) (.am n4 (.br (decide ((n4:Int)<2)) (.br (decide ((n4:Int)<(n4:Int))) (.ret (vi 2)) (.ii (.asm ((x3==3)=true->n4<=9223372036854775807) (.ii (.br (bif x3==3 then decide (2<(n4:Int)) else false) (.ret (vi 2)) (.ret (vi 0))))))) (.enter (iR 0 3 []) (rS.L1 1 (aa aJ f4)) [⟨2,aJ,n4,aa aJ f4,aC rfl _ _⟩]))))))) (.am n4 (.und (.asm (n4=0) (.brt (.br (decide (0<(n4:Int))) (.ret (vi 2)) (.ii (.asm ((x3==3)=true->n4<=9223372036854775807) (.ii (.br (bif x3==3 then decide (2<(n4:Int)) else false) (.ret (vi 2)) (.ret (vi 0))))))))) (.obv (en n4 fun i=>lX 2 (aa aJ f4 i)) (yaq rfl _ _) (.ob (decide (n4*16<=140737488355328)&&!Nat.beq 16 0) (.br (decide ((n4:Int)<2)) (.br (decide ((n4:Int)<(n4:Int))) (.ret (vi 2)) (.ii (.asm ((x3==3)=true->n4<=9223372036854775807) (.ii (.br (bif x3==3 then decide (2<(n4:Int)) else false) (.ret (vi 2)) (.ret (vi 0))))))) (.enter (iR 0 3 []) (rS.L2 1 (aa aJ f4)) [⟨2,aJ,n4,aa aJ f4,aC rfl _ _⟩]))))))) (.am n4 (.und (.asm (n4=0) (.brt (.br (decide (0<(n4:Int))) (.ret (vi 2)) (.ii (.asm ((x3==3)=true->n4<=9223372036854775807) (.ii (.br (bif x3==3 then decide (2<(n4:Int)) else false) (.ret (vi 2)) (.ret (vi 0))))))))) (.obv (en n4 fun i=>lX 2 (aa aJ f4 i)) (yaq rfl _ _) (.ob (decide (n4*16<=140737488355328)&&!Nat.beq 16 0) (.br (decide ((n4:Int)<2)) (.br (decide ((n4:Int)<(n4:Int))) (.ret (vi 2)) (.ii (.asm ((x3==3)=true->n4<=9223372036854775807) (.ii (.br (bif x3==3 then decide (2<(n4:Int)) else false) (.ret (vi 2)) (.ret (vi 0))))))) (.enter (iR 0 3 []) (rS.L3 1 (aa aJ f4)) [⟨2,aJ,n4,aa aJ f4,aC rfl _ _⟩])))))))))) (.ret (vi 7)))))))))))))))
theorem alg:eS yak u0 (D63 n0 f0 s2 x3 n4 f4 x6) (OL n0 f0 s2 x3 n4 f4 x6) (m63 n0 f0 s2 x3 n4 f4 x6) (pY n0 f0 s2 x3 n4 f4 x6):=⟨bF,fun s=>by cases s<;>exact bF⟩
def xM (f:aL) (i j:Nat):Bool:=aw (f i)==aw (f j)&&(aW (f i)==aW (f j)&&true)
def t8 (n:Nat) (f:aL):Bool:=ls n fun i=>decide (0<i)&&xM f i (i-1)
def iY (x3:Int) (n4:Nat):Int:=bif bif x3==3 then decide (2<(n4:Int)) else false then 2 else 0
def F63 (n0:Nat) (f0:aL) (s2:ByteArray) (x3:Int) (n4:Nat) (f4:aL) (x6:Int):Int:=bif !nk s2 then 6 else bif tj n0 f0 s2 then 5 else bif bq x3 0 3 then 2 else bif decide ((n4:Int)<2) then 4 else bif decide (8<(n4:Int)) then 3 else bif !!kh n4 f4 then 7 else bif bq x6 100 30000 then 7 else bif t8 n4 f4 then 2 else iY x3 n4
theorem KE {S:Type} {Nx:S->V->Prop} {x3:Int} {n4:Nat} {q:Prop}:aX Nx (.obi (.obi (.asm q (.obi (.obi (.br (bif x3==3 then decide (2<(n4:Int)) else false) (.ret (vi 2)) (.ret (vi 0)))))))) (vi (iY x3 n4)):=by
 refine evObi (evObi (evAsm fun _=>evObi (evObi (evBr (fun h=>evRet ?_) (fun h=>evRet ?_)))))<;>(unfold iY;rw[h];rfl)
theorem anL (h8:n4<=8) (k0:Nat) (hk:1<=k0) (hk':k0<n4) (t1 t2 t3:Int) (t4:Nat) (t5 t6 t7:Int):(∀ k2:Nat,k2<=n4-k0->1<=k2->∀ (k:Nat) (f:aL),k+1<=k0+k2->Ev (pY n0 f0 s2 x3 n4 f4 x6) (.L4 k2 k0 (n4-k0) t1 t2 t3 t4 t5 t6 t7 k f) (vi 2))/\(∀ k2:Nat,k2<=n4-k0->1<=k2->∀ (k:Nat) (f:aL),k+1<=k0+k2->Ev (pY n0 f0 s2 x3 n4 f4 x6) (.L5 k2 k0 (n4-k0) t1 t2 t3 t4 t5 t6 t7 k f) (vi 2))/\(∀ k2:Nat,k2<=n4-k0->1<=k2->∀ (k:Nat) (f:aL),k+1<=k0+k2->Ev (pY n0 f0 s2 x3 n4 f4 x6) (.L6 k2 k0 (n4-k0) t1 t2 t3 t4 t5 t6 t7 k f) (vi 2))/\(∀ k2:Nat,k2<=n4-k0->1<=k2->∀ (k:Nat) (f:aL),k+1<=k0+k2->Ev (pY n0 f0 s2 x3 n4 f4 x6) (.L7 k2 k0 (n4-k0) t1 t2 t3 t4 t5 t6 t7 k f) (vi 2)):=by
 refine ⟨?_,?_,?_,?_⟩
 all_goals
  refine dO fun k2 hk2 ih h1 k f hkk=>Ev.of rfl ?_
  have w1:wI ((k2:Int)-1)=((k2-1:Nat):Int):=by rw[wrapI (by omega) (by omega)];omega
  have w2:wI ((k2:Int)+1)=((k2+1:Nat):Int):=by rw[wrapI (by omega) (by omega)];omega
  have w3:wI ((k:Int)+1)=((k+1:Nat):Int):=by rw[wrapI (by omega) (by omega)];omega
  refine evBr (fun h=>?_) (fun h=>?_)
  ·have hlt:k2<n4-k0:=by have:=abg h;omega
   refine aD (dqt (by omega)) (aD (dqt (by omega)) (aD (dqt (by rw[w1];omega)) (aD (dqt (by rw[w1];omega)) (evBr (fun _=>?_) (fun _=>?_)))))
   ·refine aD (dqt (by omega)) (aD (dqt (by omega)) (aD (dqt (by omega)) (aD (dqt (by omega)) (aS ?_))))
    rw [w2,w3]
    exact ih hlt (by omega) (k+1) _ (by omega)
   ·refine aS ?_
    rw [w2]
    exact ih hlt (by omega) k _ (by omega)
  ·have hge:¬ k2<n4-k0:=by have:=abu h;omega
   refine aD (dqt (by omega)) (aD (dqt (by omega)) (aD (dqt (by omega)) ?_))
   try refine evAsm fun _=>?_
   exact cI (dqt (by omega)) (evRet rfl)
theorem alZ (h8:n4<=8) (h2:2<=n4):(∀ i:Nat,i<=n4->1<=i->(∀ j,j<i->(decide (0<j)&&xM f4 j (j-1))=false)->∀ f:aL,(∀ i j,xM f i j=xM f4 i j)->Ev (pY n0 f0 s2 x3 n4 f4 x6) (.L0 i f) (vi (bif t8 n4 f4 then 2 else iY x3 n4)))/\(∀ i:Nat,i<=n4->1<=i->(∀ j,j<i->(decide (0<j)&&xM f4 j (j-1))=false)->∀ f:aL,(∀ i j,xM f i j=xM f4 i j)->Ev (pY n0 f0 s2 x3 n4 f4 x6) (.L1 i f) (vi (bif t8 n4 f4 then 2 else iY x3 n4)))/\(∀ i:Nat,i<=n4->1<=i->(∀ j,j<i->(decide (0<j)&&xM f4 j (j-1))=false)->∀ f:aL,(∀ i j,xM f i j=xM f4 i j)->Ev (pY n0 f0 s2 x3 n4 f4 x6) (.L2 i f) (vi (bif t8 n4 f4 then 2 else iY x3 n4)))/\(∀ i:Nat,i<=n4->1<=i->(∀ j,j<i->(decide (0<j)&&xM f4 j (j-1))=false)->∀ f:aL,(∀ i j,xM f i j=xM f4 i j)->Ev (pY n0 f0 s2 x3 n4 f4 x6) (.L3 i f) (vi (bif t8 n4 f4 then 2 else iY x3 n4))):=by
 refine ⟨?_,?_,?_,?_⟩
 all_goals
  refine dO fun i hi ih h1 hj f hf=>Ev.of rfl ?_
  have w1:wI ((i:Int)-1)=((i-1:Nat):Int):=by rw[wrapI (by omega) (by omega)];omega
  have w2:wI ((i:Int)+1)=((i+1:Nat):Int):=by rw[wrapI (by omega) (by omega)];omega
  refine evBr (fun h=>?_) (fun h=>?_)
  ·have hlt:i<n4:=by have:=abg h;omega
   refine aD (dqt (by omega)) (aD (dqt (by omega)) (aD (dqt (by rw[w1];omega)) (aD (dqt (by rw[w1];omega)) (evBr (fun hb=>?_) (fun hb=>?_)))))
   ·have hb':xM f4 i (i-1)=true:=by
     rw [← hf];rw[w1]at hb;simpa only[acm,xM] using hb
    rw [show t8 n4 f4=true from eA i hlt (by rw[hb'];simp;omega),cond_true]
    refine aD (dqt (by omega)) (aM ?_)
    have q:=anL n0 f0 s2 x3 n4 f4 x6 h8 i h1 hlt
    simp only [acm]
    first|exact(q _ _ _ _ _ _ _).1 1 (by omega) (by omega) i _ (by omega)|exact(q _ _ _ _ _ _ _).2.1 1 (by omega) (by omega) i _ (by omega)|exact(q _ _ _ _ _ _ _).2.2.1 1 (by omega) (by omega) i _ (by omega)|exact(q _ _ _ _ _ _ _).2.2.2 1 (by omega) (by omega) i _ (by omega)
   ·have hb':xM f4 i (i-1)=false:=by
     rw [← hf];rw[w1]at hb;simpa only[acm,xM] using hb
    refine aS ?_
    rw [w2]
    refine ih hlt (by omega) (fun j h3=>?_) _ (fun a b=>hf a b)
    by_cases e:j=i
    ·subst e;rw[hb',Bool.and_false]
    ·exact hj j (by omega)
  ·have:i=n4:=by have:=abu h;omega
   subst this
   rw [show t8 i f4=false from ep hj,cond_false]
   try refine evAsm fun _=>?_
   exact jX KE
theorem Ix (h8:n4<=8) (h2:2<=n4) (f:aL) (hf:∀ i j,xM f i j=xM f4 i j):(Ev (pY n0 f0 s2 x3 n4 f4 x6) (.L0 1 f) (vi (bif t8 n4 f4 then 2 else iY x3 n4)))/\(Ev (pY n0 f0 s2 x3 n4 f4 x6) (.L1 1 f) (vi (bif t8 n4 f4 then 2 else iY x3 n4)))/\(Ev (pY n0 f0 s2 x3 n4 f4 x6) (.L2 1 f) (vi (bif t8 n4 f4 then 2 else iY x3 n4)))/\(Ev (pY n0 f0 s2 x3 n4 f4 x6) (.L3 1 f) (vi (bif t8 n4 f4 then 2 else iY x3 n4))):=by
 have q:=alZ n0 f0 s2 x3 n4 f4 x6 h8 h2
 have h0:∀ j,j<1->(decide (0<j)&&xM f4 j (j-1))=false:=fun j hj=>by
  have:j=0:=by omega
  subst this;rfl
 exact ⟨q.1 1 (by omega) (aaS _) h0 f hf,q.2.1 1 (by omega) (aaS _) h0 f hf,q.2.2.1 1 (by omega) (aaS _) h0 f hf,q.2.2.2 1 (by omega) (aaS _) h0 f hf⟩
theorem agh (hp:s2.size<=9223372036854775807):aX (Ev (pY n0 f0 s2 x3 n4 f4 x6)) (m63 n0 f0 s2 x3 n4 f4 x6) (vi (F63 n0 f0 s2 x3 n4 f4 x6)):=by
 unfold F63
 refine evObp hp (evObt ?_)
 refine evBr (fun h=>evRet (by rw[h];rfl)) (fun h=>?_)
 rw [h,cond_false]
 refine au (evObt (evBr (fun h=>evRet (by rw[show tj n0 f0 s2=true from h];rfl)) (fun h=>?_)))
 rw [show tj n0 f0 s2=false from h,cond_false]
 refine au (evObt (evBr (fun h=>evRet (by rw[h];rfl)) (fun h=>?_)))
 rw [h,cond_false]
 refine bw fun hn=>evBr (fun h=>evRet (by rw[h];rfl)) (fun h2=>?_)
 rw [h2,cond_false]
 refine bw fun hn=>evBr (fun h=>evRet (by rw[h];rfl)) (fun h8=>?_)
 rw [h8,cond_false]
 have h2:2<=n4:=by have:=abu h2;omega
 have h8:n4<=8:=by have:=abu h8;omega
 have e2:decide ((n4:Int)<2)=false:=ef (by omega)
 refine au (evObt (evObi (evBr (fun h=>?_) (fun h=>evRet (by rw[show(!!kh n4 f4)=true from by rw[show(!kh n4 f4)=false from h];rfl];rfl)))))
 rw [show(!!kh n4 f4)=false from by rw[show(!kh n4 f4)=true from h];rfl,cond_false]
 refine aD h (au (evObt (evBr (fun h=>evRet (by rw[h];rfl)) (fun h=>?_))))
 rw [h,cond_false]
 have h16:(decide (n4*16<=140737488355328)&&!Nat.beq 16 0)=true:=by rw[dqt (show n4*16<=140737488355328 by omega)];rfl
 have hne:n4=0->False:=by omega
 have hi:∀ i j,xM (aa aJ f4) i j=xM f4 i j:=fun _ _=>rfl
 repeat' (first
  |exact evAsm (fun h0=>(hne h0).elim)
  |exact aM (Ix _ _ _ _ _ _ _ h8 h2 _ hi).1
  |exact aM (Ix _ _ _ _ _ _ _ h8 h2 _ hi).2.1
  |exact aM (Ix _ _ _ _ _ _ _ h8 h2 _ hi).2.2.1
  |exact aM (Ix _ _ _ _ _ _ _ h8 h2 _ hi).2.2.2
  |refine Ql ?_ ?_
  |refine evAsm (fun _=>?_)
  |refine alL ?_
  |refine aD h16 ?_
  |refine cS e2 ?_
  |refine cS rfl ?_
  |refine cI rfl ?_)
theorem arP (hp:s2.size<=9223372036854775807):aX (Ev (pY n0 f0 s2 x3 n4 f4 x6)) (m63 n0 f0 s2 x3 n4 f4 x6) (vi (F63 n0 (aa aB f0) s2 x3 n4 (aa aJ f4) x6)):=agh n0 f0 s2 x3 n4 f4 x6 hp
def C63:av:=bL [.sl aB,.agg aB] (fun
 |[.sl n0 f0,.agg [.str s2,.int _ x3,.sl n4 f4,.int _ x6]]=>s2.size<=9223372036854775807
 |_=>False) fun
 |[.sl n0 f0,.agg [.str s2,.int _ x3,.sl n4 f4,.int _ x6]]=>vi (F63 n0 f0 s2 x3 n4 f4 x6)
 |_=>.any
theorem Lf:cr C63 91:=aY Ft fun _ hp=>nd (alg ..) (arP _ _ _ _ _ _ _ hp)
def m69:RT Empty:=.obp (s2.size<=(9223372036854775807:Nat)) (.obt (.br (!nk s2) (.ret (vi 6)) (.cb (.br (rZ n0 (aa aA f0) s2) (.ret (vi 5)) (.cb (.obi (.br (!je 2 (aa ac (bc [vi x3,vi x4] 0 1))) (.ob (!je 2 (aa ac (bc [vi x3,vi x4] 0 1))) (.cb (.obi (.br (!bq x5 1 200) (.ob (!bq x5 1 200) (.cb (.obi (.br (!bq x6 (-1000) 1000) (.ob (!bq x6 (-1000) 1000) (.cb (.br (bq x7 (-1000) 1000) (.ret (vi 7)) (.ii (.obi (.br (bif x6==0 then x7==0 else false) (.ret (vi 2)) (.ret (vi 0)))))))) (.ret (vi 7)))))) (.ret (vi 7)))))) (.ret (vi 7)))))))))
theorem alG:cW cX (aV JJ yak u0 apI [V.sl n0 (aa aA f0),V.agg [V.str s2,vi x3,vi x4,vi x5,vi x6,vi x7]]) (m69 n0 f0 s2 x3 x4 x5 x6 x7):=bF
def lz:Int:=bif !nk s2 then 6 else bif rZ n0 (aa aA f0) s2 then 5 else bif !je 2 (aa ac (bc [vi x3,vi x4] 0 1)) then bif !bq x5 1 200 then bif !bq x6 (-1000) 1000 then bif bq x7 (-1000) 1000 then 7 else bif bif x6==0 then x7==0 else false then 2 else 0 else 7 else 7 else 7
def UT:V:=vi (lz n0 f0 s2 x3 x4 x5 x6 x7)
theorem aqc (hp:s2.size<=9223372036854775807):aX cL (m69 n0 f0 s2 x3 x4 x5 x6 x7) (UT n0 f0 s2 x3 x4 x5 x6 x7):=evObp (by first|assumption|(exact hp)) (evObt (evBr (fun h0=>evRet (by unfold UT lz;try rw[h0];rfl)) (fun h0=>au (evObt (evBr (fun h1=>evRet (by unfold UT lz;try rw[h0];try rw[h1];rfl)) (fun h1=>au (evObt (evObi (evBr (fun h2=>aD (by first|assumption|(fail)) (au (evObt (evObi (evBr (fun h3=>aD (by first|assumption|(fail)) (au (evObt (evObi (evBr (fun h4=>aD (by first|assumption|(fail)) (au (evObt (evBr (fun h5=>evRet (by unfold UT lz;try rw[h0];try rw[h1];try rw[h2];try rw[h3];try rw[h4];try rw[h5];rfl)) (fun h5=>evObi (evObi (evObi (evBr (fun h6=>evRet (by unfold UT lz;try rw[h0];try rw[h1];try rw[h2];try rw[h3];try rw[h4];try rw[h5];try rw[h6];rfl)) (fun h6=>evRet (by unfold UT lz;try rw[h0];try rw[h1];try rw[h2];try rw[h3];try rw[h4];try rw[h5];try rw[h6];rfl)))))))))) (fun h4=>evRet (by unfold UT lz;try rw[h0];try rw[h1];try rw[h2];try rw[h3];try rw[h4];rfl))))))) (fun h3=>evRet (by unfold UT lz;try rw[h0];try rw[h1];try rw[h2];try rw[h3];rfl))))))) (fun h2=>evRet (by unfold UT lz;try rw[h0];try rw[h1];try rw[h2];rfl)))))))))))
def C69:av:=bL [.sl aA,.agg aA] (fun
 |[.sl n0 f0,.agg [.str s2,.int _ x3,.int _ x4,.int _ x5,.int _ x6,.int _ x7]]=>s2.size<=9223372036854775807
 |_=>False) fun
 |[.sl n0 f0,.agg [.str s2,.int _ x3,.int _ x4,.int _ x5,.int _ x6,.int _ x7]]=>UT n0 f0 s2 x3 x4 x5 x6 x7
 |_=>.any
theorem Lz:cr C69 97:=aY Ft fun _ hp=>c9 (alG ..) (aqc _ _ _ _ _ _ _ _ hp)
def yv:aZ:=(91,.con C63)::(97,.con C69)::yak
theorem E5:aO Tryz.prog eqs its yv:=.con Lf (.con Lz (Ft))
def tY (x y:Int):Bool:=LE 2 (aa ac (bc [vi x,vi y] 0 ((1+1-0) / 2)))
def ab1 (k:Int) (n:Nat) (f:aL) (h:Int):Int:=bif !gx k 0 3 then 2 else bif decide ((n:Int)<2) then 4 else bif decide (8<(n:Int)) then 3 else bif ls n (fun i=>!tY (aw (f i)) (aW (f i))) then 7 else bif !gx h 100 30000 then 7 else bif t8 n f then 2 else iY k n
def F70:Int:=dm n0 (bif !Uf (sv (aE (f0 x8.toNat))) then 6 else bif ls x8.toNat (fun k=>(sv (aE (f0 k))).toList==(sv (aE (f0 x8.toNat))).toList) then 5 else ab1 (aW (f0 x8.toNat)) (aN (aE (ae (ae (f0 x8.toNat))))) (bO (aE (ae (ae (f0 x8.toNat))))) (bV (f0 x8.toNat)))
inductive S62 where
 |L0 (ia0:Int)
def aoM:S62->bD×List O×Option Ex
 |.L0 ia0=>([(11,vi ia0),(10,vi (n0:Int)),(9,V.sl n0 (aa aB f0)),(5,vi 0),(4,vi 0),(0,V.sl n0 (aa aB f0)),(1,V.fn 91 [] [])],[],none)
def ap7:S62->JJ
 |.L0 ia0=>(0,[])
def amF:T (ck JJ):=aV JJ yv u0 arq [V.sl n0 (aa aB f0),V.fn 91 [] []]
def Qi (cx:List Cx):Lp JJ:=fQ (eZ (amF n0 f0) [])
def ar3:JJ->Lp JJ
 |(0,cx)=>Qi n0 f0 cx
 |(_,cx)=>Qi n0 f0 cx
def D62:LD JJ S62:=⟨ap7,ar3 n0 f0,aoM n0 f0⟩
def afJ:S62->RT S62
 |.L0 ia0=>.br (decide (ia0<(n0:Int))) (.ob (decide (0<=ia0/\ia0<(n0:Int))) (.ob (decide (0<=ia0/\ia0<=(n0:Int))) (.obp ((sv (aE (f0 ia0.toNat))).size<=(9223372036854775807:Nat)) (.obt (.br (F63 (ia0.toNat-0) (fun i=>aa aB f0 (0+i)) (sv (aE (f0 ia0.toNat))) (aW (f0 ia0.toNat)) (aN (aE (ae (ae (f0 ia0.toNat))))) (fun i=>al aJ (bO (aE (ae (ae (f0 ia0.toNat)))) i)) (bV (f0 ia0.toNat))!=0) (.ret (V.tup [vi ia0,vi (F63 (ia0.toNat-0) (fun i=>aa aB f0 (0+i)) (sv (aE (f0 ia0.toNat))) (aW (f0 ia0.toNat)) (aN (aE (ae (ae (f0 ia0.toNat))))) (fun i=>al aJ (bO (aE (ae (ae (f0 ia0.toNat)))) i)) (bV (f0 ia0.toNat)))])) (.next [] (S62.L0 (wI (ia0+1))) [])))))) (.ret (V.tup [vi 0,vi 0]))
def m62:RT S62:=dm f0 (.am n0 (.enter [] (S62.L0 0) []))
theorem aoR:eS yv u0 (D62 n0 f0) (amF n0 f0) (m62 n0 f0) (afJ n0 f0):=⟨bF,fun s=>by cases s<;>exact bF⟩
def c62 (ii:Nat):Int:=dm n0 ((F63 (ii-0) (fun i=>aa aB f0 (0+i)) (sv (aE (f0 ii))) (aW (f0 ii)) (aN (aE (ae (ae (f0 ii))))) (fun i=>al aJ (bO (aE (ae (ae (f0 ii)))) i)) (bV (f0 ii))))
def zk:Int:=fk n0 (c62 n0 f0)
def pM:Int:=dz n0 (c62 n0 f0)
theorem agG (hp:ap n0 f0):aX (Ev (afJ n0 f0)) (m62 n0 f0) (.tup [vi (zk n0 f0),vi (pM n0 f0)]):=bw fun hn=>aM (qL (Q:=fun i=>(sv (aE (f0 i))).size<=9223372036854775807) (fun i x=>.obp ((sv (aE (f0 i))).size<=9223372036854775807) (.obt x)) (fun i x r h hx=>evObp h (evObt hx)) (fun _ _=>rfl) hn hp fun i=>rfl)
theorem asq (hp:ap n0 (aa aB f0)):aX (Ev (afJ n0 f0)) (m62 n0 f0) (.tup [vi (zk n0 (aa aB f0)),vi (pM n0 (aa aB f0))]):=agG n0 f0 hp
def C62:av:=bL [.sl aB,.fn 91 [] []] (fun
 |[.sl n0 f0,.fn _ [] []]=>ap n0 f0
 |_=>False) fun
 |[.sl n0 f0,.fn _ [] []]=>.tup [vi (zk n0 f0),vi (pM n0 f0)]
 |_=>.any
theorem LX:cr C62 90:=aY E5 fun _ hp=>nd (aoR ..) (asq _ _ hp)
inductive S68 where
 |L0 (ia0:Int)
def amC:S68->bD×List O×Option Ex
 |.L0 ia0=>([(11,vi ia0),(10,vi (n0:Int)),(9,V.sl n0 (aa aA f0)),(5,vi 0),(4,vi 0),(0,V.sl n0 (aa aA f0)),(1,V.fn 97 [] [])],[],none)
def ar6:S68->JJ
 |.L0 ia0=>(0,[])
def akB:T (ck JJ):=aV JJ yv u0 aq0 [V.sl n0 (aa aA f0),V.fn 97 [] []]
def Ud (cx:List Cx):Lp JJ:=fQ (eZ (akB n0 f0) [])
def apG:JJ->Lp JJ
 |(0,cx)=>Ud n0 f0 cx
 |(_,cx)=>Ud n0 f0 cx
def D68:LD JJ S68:=⟨ar6,apG n0 f0,amC n0 f0⟩
def adz:S68->RT S68
 |.L0 ia0=>.br (decide (ia0<(n0:Int))) (.ob (decide (0<=ia0/\ia0<(n0:Int))) (.ob (decide (0<=ia0/\ia0<=(n0:Int))) (.obp ((sv (aE (f0 ia0.toNat))).size<=(9223372036854775807:Nat)) (.obt (.br (lz (ia0.toNat-0) (fun i=>aa aA f0 (0+i)) (sv (aE (f0 ia0.toNat))) (aW (f0 ia0.toNat)) (b7 (f0 ia0.toNat)) (bV (f0 ia0.toNat)) (dA (f0 ia0.toNat)) (bE (f0 ia0.toNat))!=0) (.ret (V.tup [vi ia0,vi (lz (ia0.toNat-0) (fun i=>aa aA f0 (0+i)) (sv (aE (f0 ia0.toNat))) (aW (f0 ia0.toNat)) (b7 (f0 ia0.toNat)) (bV (f0 ia0.toNat)) (dA (f0 ia0.toNat)) (bE (f0 ia0.toNat)))])) (.next [] (S68.L0 (wI (ia0+1))) [])))))) (.ret (V.tup [vi 0,vi 0]))
def m68:RT S68:=dm f0 (.am n0 (.enter [] (S68.L0 0) []))
theorem aok:eS yv u0 (D68 n0 f0) (akB n0 f0) (m68 n0 f0) (adz n0 f0):=⟨bF,fun s=>by cases s<;>exact bF⟩
def c68 (ii:Nat):Int:=dm n0 ((lz (ii-0) (fun i=>aa aA f0 (0+i)) (sv (aE (f0 ii))) (aW (f0 ii)) (b7 (f0 ii)) (bV (f0 ii)) (dA (f0 ii)) (bE (f0 ii))))
def zr:Int:=fk n0 (c68 n0 f0)
def pw:Int:=dz n0 (c68 n0 f0)
theorem ai9 (hp:ap n0 f0):aX (Ev (adz n0 f0)) (m68 n0 f0) (.tup [vi (zr n0 f0),vi (pw n0 f0)]):=bw fun hn=>aM (qL (Q:=fun i=>(sv (aE (f0 i))).size<=9223372036854775807) (fun i x=>.obp ((sv (aE (f0 i))).size<=9223372036854775807) (.obt x)) (fun i x r h hx=>evObp h (evObt hx)) (fun _ _=>rfl) hn hp fun i=>rfl)
theorem aqr (hp:ap n0 (aa aA f0)):aX (Ev (adz n0 f0)) (m68 n0 f0) (.tup [vi (zr n0 (aa aA f0)),vi (pw n0 (aa aA f0))]):=ai9 n0 f0 hp
def C68:av:=bL [.sl aA,.fn 97 [] []] (fun
 |[.sl n0 f0,.fn _ [] []]=>ap n0 f0
 |_=>False) fun
 |[.sl n0 f0,.fn _ [] []]=>.tup [vi (zr n0 f0),vi (pw n0 f0)]
 |_=>.any
theorem Lw:cr C68 96:=aY E5 fun _ hp=>nd (aok ..) (aqr _ _ hp)
def UI:aZ:=(90,.con C62)::(96,.con C68)::yv
theorem R9:aO Tryz.prog eqs its UI:=.con LX (.con Lw (E5))
def tri (t:Int×Int×Int):V:=.tup [vi t.1,vi t.2.1,vi t.2.2]
def G7 (x y a z w:Int):Int:=bif !!tY x y then(bif(bif bif bif !gx a 1 20000 then true else decide (z<0) then true else decide (w<=z) then true else decide (1000<w)) then 7 else 0) else 7
def BF (n:Nat) (c:Nat->Int) (k:Int) (z:Int×Int×Int):Int×Int×Int:=bif dz n c != 0 then(k,fk n c,dz n c) else z
def cR (i:Nat):Int:=F70 n0 (aa aB f0) (i:Int)
def cT (i:Nat):Int:=G7 (aw (f2 i)) (aW (f2 i)) (b7 (f2 i)) (bV (f2 i)) (dA (f2 i))
def cF (i:Nat):Int:=F72 (aw (f4 i)) (aW (f4 i)) (b7 (f4 i)) (bV (f4 i)) (aN (aE (ae (ae (ae (ae (f4 i))))))) fun j=>al gP (bO (aE (ae (ae (ae (ae (f4 i)))))) j)
def cC (i:Nat):Int:=F73 n6 (aa aA f6) (i:Int)
def z3:Int×Int×Int:=BF n6 (cC n6 f6) 4 (0,0,0)
def z2:Int×Int×Int:=BF n4 (cF f4) 3 (z3 n6 f6)
def z1:Int×Int×Int:=BF n2 (cT f2) 2 (z2 n4 f4 n6 f6)
def Z2 (n0:Nat) (f0:aL) (n2:Nat) (f2:aL) (n4:Nat) (f4:aL) (n6:Nat) (f6:aL):Bool:=bif bif bif decide (8<(n0:Int)) then true else decide (12<(n2:Int)) then true else decide (8<(n4:Int)) then true else decide (24<(n6:Int))
def F24:Int×Int×Int:=bif Z2 n0 f0 n2 f2 n4 f4 n6 f6 then(0,0,3) else BF n0 (cR n0 f0) 1 (z1 n2 f2 n4 f4 n6 f6)
def fv:Int:=(F24 n0 f0 n2 f2 n4 f4 n6 f6).2.2
theorem Zn {n:Nat} {c:Nat->Int} {i:Nat} (k:Int) (z:Int×Int×Int) (hi:i<n) (hc:(c i != 0)=true) (h:∀ j,j<i->(c j != 0)=false):BF n c k z=(k,(i:Int),c i):=by
 unfold BF
 obtain ⟨e1,e2⟩:=cG hi hc h
 rw [e1,e2,hc];rfl
theorem HC {n:Nat} {c:Nat->Int} (k:Int) (z:Int×Int×Int) (h:∀ j,j<n->(c j != 0)=false):BF n c k z=z:=by
 unfold BF
 obtain ⟨e1,e2⟩:=gk h
 rw [e1,e2];rfl
def m23:RT Empty:=.am n0 (.ii (.asm ((!decide (8<(n0:Int)))=true->n2<=9223372036854775807) (.iv (.asm ((!bif decide (8<(n0:Int)) then true else decide (12<(n2:Int)))=true->n4<=9223372036854775807) (.iv (.asm ((!bif bif decide (8<(n0:Int)) then true else decide (12<(n2:Int)) then true else decide (8<(n4:Int)))=true->n6<=9223372036854775807) (.ii (.br (bif bif bif decide (8<(n0:Int)) then true else decide (12<(n2:Int)) then true else decide (8<(n4:Int)) then true else decide (24<(n6:Int))) (.ret (V.tup [vi 0,vi 0,vi 3])) (.obp (ap n0 f0) (.obt (.br (pM n0 (aa aB f0)!=0) (.ret (V.tup [vi 1,vi (zk n0 (aa aB f0)),vi (pM n0 (aa aB f0))])) (.cb (.br (pG n2 (aa aG f2)!=0) (.ret (V.tup [vi 2,vi (yd n2 (aa aG f2)),vi (pG n2 (aa aG f2))])) (.cb (.br (pp n4 (aa aH f4)!=0) (.ret (V.tup [vi 3,vi (yN n4 (aa aH f4)),vi (pp n4 (aa aH f4))])) (.obp (ap n6 f6) (.obt (.br (pw n6 (aa aA f6)!=0) (.ret (V.tup [vi 4,vi (zr n6 (aa aA f6)),vi (pw n6 (aa aA f6))])) (.ret (V.tup [vi 0,vi 0,vi 0]))))))))))))))))))))
theorem akR:cW cX (aV JJ UI u0 arS [scV n0 f0 n2 f2 n4 f4 n6 f6]) (m23 n0 f0 n2 f2 n4 f4 n6 f6):=bF
def lM:Int:=bif bif bif bif decide (8<(n0:Int)) then true else decide (12<(n2:Int)) then true else decide (8<(n4:Int)) then true else decide (24<(n6:Int)) then 0 else bif pM n0 (aa aB f0)!=0 then 1 else bif pG n2 (aa aG f2)!=0 then 2 else bif pp n4 (aa aH f4)!=0 then 3 else bif pw n6 (aa aA f6)!=0 then 4 else 0
def lJ:Int:=bif bif bif bif decide (8<(n0:Int)) then true else decide (12<(n2:Int)) then true else decide (8<(n4:Int)) then true else decide (24<(n6:Int)) then 0 else bif pM n0 (aa aB f0)!=0 then zk n0 (aa aB f0) else bif pG n2 (aa aG f2)!=0 then yd n2 (aa aG f2) else bif pp n4 (aa aH f4)!=0 then yN n4 (aa aH f4) else bif pw n6 (aa aA f6)!=0 then zr n6 (aa aA f6) else 0
def iB:Int:=bif bif bif bif decide (8<(n0:Int)) then true else decide (12<(n2:Int)) then true else decide (8<(n4:Int)) then true else decide (24<(n6:Int)) then 3 else bif pM n0 (aa aB f0)!=0 then pM n0 (aa aB f0) else bif pG n2 (aa aG f2)!=0 then pG n2 (aa aG f2) else bif pp n4 (aa aH f4)!=0 then pp n4 (aa aH f4) else bif pw n6 (aa aA f6)!=0 then pw n6 (aa aA f6) else 0
def R23:V:=.tup [vi (lM n0 f0 n2 f2 n4 f4 n6 f6),vi (lJ n0 f0 n2 f2 n4 f4 n6 f6),vi (iB n0 f0 n2 f2 n4 f4 n6 f6)]
theorem arj (hp:ap n0 f0/\ap n6 f6):aX cL (m23 n0 f0 n2 f2 n4 f4 n6 f6) (R23 n0 f0 n2 f2 n4 f4 n6 f6):=evAsm (fun a0=>evObi (evObi (evAsm (fun a0=>evObi (evObi (evObi (evObi (evAsm (fun a0=>evObi (evObi (evObi (evObi (evAsm (fun a0=>evObi (evObi (evBr (fun h0=>evRet (by unfold R23 lM lJ iB;try rw[h0];rfl)) (fun h0=>evObp (by first|assumption|((first|exact hp.1|exact hp.2))) (evObt (evBr (fun h1=>evRet (by unfold R23 lM lJ iB;try rw[h0];try rw[h1];rfl)) (fun h1=>au (evObt (evBr (fun h2=>evRet (by unfold R23 lM lJ iB;try rw[h0];try rw[h1];try rw[h2];rfl)) (fun h2=>au (evObt (evBr (fun h3=>evRet (by unfold R23 lM lJ iB;try rw[h0];try rw[h1];try rw[h2];try rw[h3];rfl)) (fun h3=>evObp (by first|assumption|((first|exact hp.1|exact hp.2))) (evObt (evBr (fun h4=>evRet (by unfold R23 lM lJ iB;try rw[h0];try rw[h1];try rw[h2];try rw[h3];try rw[h4];rfl)) (fun h4=>evRet (by unfold R23 lM lJ iB;try rw[h0];try rw[h1];try rw[h2];try rw[h3];try rw[h4];rfl))))))))))))))))))))))))))))))
def C23:av:=bL [.agg [.sl aB,.sl aG,.sl aH,.sl aA]] (fun
 |[.agg [.sl n0 f0,.sl n2 f2,.sl n4 f4,.sl n6 f6]]=>ap n0 f0/\ap n6 f6
 |_=>False) fun
 |[.agg [.sl n0 f0,.sl n2 f2,.sl n4 f4,.sl n6 f6]]=>R23 n0 f0 n2 f2 n4 f4 n6 f6
 |_=>.any
theorem Gw:cr C23 67:=aY R9 fun _ hp=>c9 (akR ..) (arj _ _ _ _ _ _ _ _ hp)
def Ji:aZ:=(67,.con C23)::UI
theorem TU:aO Tryz.prog eqs its Ji:=.con Gw (R9)
inductive Zz where
 |L0 (ia0 ia1:Int)
def amE:Zz->bD×List O×Option Ex
 |.L0 ia0 ia1=>([(8,vi ia0),(7,vi ia1),(6,vi (lJ n0 (aa aB f0) n2 (aa aG f2) n4 (aa aH f4) n6 (aa aA f6))),(5,vi (lM n0 (aa aB f0) n2 (aa aG f2) n4 (aa aH f4) n6 (aa aA f6))),(14,vi (iB n0 (aa aB f0) n2 (aa aG f2) n4 (aa aH f4) n6 (aa aA f6))),(13,vi (lJ n0 (aa aB f0) n2 (aa aG f2) n4 (aa aH f4) n6 (aa aA f6))),(12,vi (lM n0 (aa aB f0) n2 (aa aG f2) n4 (aa aH f4) n6 (aa aA f6))),(9,V.tup [vi (lM n0 (aa aB f0) n2 (aa aG f2) n4 (aa aH f4) n6 (aa aA f6)),vi (lJ n0 (aa aB f0) n2 (aa aG f2) n4 (aa aH f4) n6 (aa aA f6)),vi (iB n0 (aa aB f0) n2 (aa aG f2) n4 (aa aH f4) n6 (aa aA f6))]),(11,V.tup [vi (lM n0 (aa aB f0) n2 (aa aG f2) n4 (aa aH f4) n6 (aa aA f6)),vi (lJ n0 (aa aB f0) n2 (aa aG f2) n4 (aa aH f4) n6 (aa aA f6)),vi (iB n0 (aa aB f0) n2 (aa aG f2) n4 (aa aH f4) n6 (aa aA f6))]),(10,scV n0 f0 n2 f2 n4 f4 n6 f6),(4,vi 0),(2,V.pl 0 0),(0,scV n0 f0 n2 f2 n4 f4 n6 f6),(1,V.sl n8 (aa ac f8))],[O.cells [V.sl n0 (aa aB f0),V.sl n2 (aa aG f2),V.sl n4 (aa aH f4),V.sl n6 (aa aA f6)] 31],none)
def apU:Zz->JJ
 |.L0 ia0 ia1=>(0,[])
def akZ:T (ck JJ):=aV JJ Ji u0 amU [scV n0 f0 n2 f2 n4 f4 n6 f6,V.sl n8 (aa ac f8)]
def N1 (cx:List Cx):Lp JJ:=fQ (eZ (akZ n0 f0 n2 f2 n4 f4 n6 f6 n8 f8) [])
def art:JJ->Lp JJ
 |(0,cx)=>N1 n0 f0 n2 f2 n4 f4 n6 f6 n8 f8 cx
 |(_,cx)=>N1 n0 f0 n2 f2 n4 f4 n6 f6 n8 f8 cx
def D44:LD JJ Zz:=⟨apU,art n0 f0 n2 f2 n4 f4 n6 f6 n8 f8,amE n0 f0 n2 f2 n4 f4 n6 f6 n8 f8⟩
def Lr (n0:Nat) (f0:aL) (n2:Nat) (f2:aL) (n4:Nat) (f4:aL) (n6:Nat) (f6:aL) (n8:Nat) (f8:aL):Zz->RT Zz
 |.L0 ia0 ia1=>.am n8 (.ii (.br (bif decide (ia0<(n8:Int)) then ia1==0 else false) (.ob (decide (0<=ia0/\ia0<(n8:Int))) (.ob (decide (0<=wI (ia0+1)/\wI (ia0+1)<(n8:Int))) (.cb (.br (bq (aw (f8 ia0.toNat)) 0 (wI (aw (f8 (wI (ia0+1)).toNat)-1))) (.next [some (some 0)] (Zz.L0 (wI (ia0+2)) 4) []) (.next [some (some 0)] (Zz.L0 (wI (ia0+2)) ia1) []))))) (.ret (vi ia1))))
def m44:RT Zz:=dm (n8,f8) (.obp ((ap n0 f0)/\ap n6 f6) (.obt (.enter [some (some 0)] (Zz.L0 0 (iB n0 (aa aB f0) n2 (aa aG f2) n4 (aa aH f4) n6 (aa aA f6))) [])))
theorem anR:eS Ji u0 (D44 n0 f0 n2 f2 n4 f4 n6 f6 n8 f8) (akZ n0 f0 n2 f2 n4 f4 n6 f6 n8 f8) (m44 n0 f0 n2 f2 n4 f4 n6 f6 n8 f8) (Lr n0 f0 n2 f2 n4 f4 n6 f6 n8 f8):=⟨bF,fun s=>by cases s<;>exact bF⟩
def Bm (k:Nat):Bool:=bq (aw (f8 (2*k))) 0 (wI (aw (f8 (2*k+1))-1))
def F5 (e:Int):Int:=bif e==0 then(bif ls (n8 / 2) (Bm f8) then 4 else 0) else e
def jd:Int:=F5 n8 f8 (iB n0 (aa aB f0) n2 (aa aG f2) n4 (aa aH f4) n6 (aa aA f6))
theorem acE (i e:Int) (he:(e==0)=false):Ev (Lr n0 f0 n2 f2 n4 f4 n6 f6 n8 f8) (.L0 i e) (vi e):=Ev.of rfl (evAsm fun _=>evObi (evObi (cS (by rw[he];cases decide (i<(n8:Int))<;>rfl) (evRet rfl))))
theorem am7 (hm:n8 % 2=0) (hn:n8<=100):∀ k:Nat,k<=n8 / 2->(∀ j,j<k->Bm f8 j=false)->Ev (Lr n0 f0 n2 f2 n4 f4 n6 f6 n8 f8) (.L0 ((2*k:Nat):Int) 0) (vi (bif ls (n8 / 2) (Bm f8) then 4 else 0)):=by
 refine dO fun k hk ih hj=>Ev.of rfl (evAsm fun _=>evObi (evObi (evBr (fun h=>?_) (fun h=>?_))))
 ·have hlt:2*k<n8:=by
   by_cases hh:((2*k:Nat):Int)<(n8:Int)
   ·omega
   ·rw[ef hh]at h;cases h
  have w1:wI (((2*k:Nat):Int)+1)=((2*k+1:Nat):Int):=by rw[wrapI (by omega) (by omega)];omega
  have w2:wI (((2*k:Nat):Int)+2)=((2*(k+1):Nat):Int):=by rw[wrapI (by omega) (by omega)];omega
  refine aD (dqt (by omega)) (aD (dqt (by rw[w1];omega)) (au (evObt (evBr (fun hb=>aS ?_) (fun hb=>aS ?_)))))
  ·rw[w1]at hb
   simp only [acm]at hb
   rw [eA (p:=Bm f8) k (by omega) hb,cond_true]
   exact acE n0 f0 n2 f2 n4 f4 n6 f6 n8 f8 _ 4 rfl
  ·rw[w1]at hb
   simp only [acm]at hb
   rw [w2]
   refine ih (by omega) (fun j h3=>?_)
   by_cases e:j=k
   ·subst e;exact hb
   ·exact hj j (by omega)
 ·have e:k=n8 / 2:=by
   by_cases hh:((2*k:Nat):Int)<(n8:Int)
   ·rw[dqt hh]at h;cases h
   ·omega
  rw [show ls (n8 / 2) (Bm f8)=false from ep fun j h=>hj j (by omega)]
  exact evRet rfl
theorem alp (hm:n8 % 2=0) (hn:n8<=100) (e:Int):Ev (Lr n0 f0 n2 f2 n4 f4 n6 f6 n8 f8) (.L0 0 e) (vi (F5 n8 f8 e)):=by
 unfold F5
 cases he:e==0 with
 |false=>exact acE n0 f0 n2 f2 n4 f4 n6 f6 n8 f8 0 e he
 | true =>
   have:e=0:=ajV he
   subst this
   exact am7 n0 f0 n2 f2 n4 f4 n6 f6 n8 f8 hm hn 0 (by omega) (fun j h=>by omega)
theorem ahP (hp:(ap n0 f0/\ap n6 f6)/\n8 % 2=0/\n8<=100):aX (Ev (Lr n0 f0 n2 f2 n4 f4 n6 f6 n8 f8)) (m44 n0 f0 n2 f2 n4 f4 n6 f6 n8 f8) (vi (jd n0 f0 n2 f2 n4 f4 n6 f6 n8 f8)):=evObp hp.1 (evObt (aM (alp n0 f0 n2 f2 n4 f4 n6 f6 n8 f8 hp.2.1 hp.2.2 _)))
theorem apB (hp:(ap n0 (aa aB f0)/\ap n6 (aa aA f6))/\n8 % 2=0/\n8<=100):aX (Ev (Lr n0 f0 n2 f2 n4 f4 n6 f6 n8 f8)) (m44 n0 f0 n2 f2 n4 f4 n6 f6 n8 f8) (vi (jd n0 (aa aB f0) n2 (aa aG f2) n4 (aa aH f4) n6 (aa aA f6) n8 (aa ac f8))):=ahP n0 f0 n2 f2 n4 f4 n6 f6 n8 f8 hp
def C44:av:=bL [.agg [.sl aB,.sl aG,.sl aH,.sl aA],.sl ac] (fun
 |[.agg [.sl n0 f0,.sl n2 f2,.sl n4 f4,.sl n6 f6],.sl n8 f8]=>(ap n0 f0/\ap n6 f6)/\n8 % 2=0/\n8<=100
 |_=>False) fun
 |[.agg [.sl n0 f0,.sl n2 f2,.sl n4 f4,.sl n6 f6],.sl n8 f8]=>vi (jd n0 f0 n2 f2 n4 f4 n6 f6 n8 f8)
 |_=>.any
theorem Ln:cr C44 55:=aY TU fun _ hp=>nd (anR ..) (apB _ _ _ _ _ _ _ _ _ _ hp)
def yz:Int:=fv n0 (aa aB f0) n2 (aa aG f2) n4 (aa aH f4) n6 (aa aA f6)
def UF:aZ:=(55,.con C44)::Ji
theorem Ro:aO Tryz.prog eqs its UF:=.con Ln (TU)
def eo:Int:=bif bif yz n0 (aa aB f0) n2 (aa aG f2) n4 (aa aH f4) n6 (aa aA f6)==0 then bif decide (x8<0) then true else decide (x9<=x8) else false then 4 else yz n0 (aa aB f0) n2 (aa aG f2) n4 (aa aH f4) n6 (aa aA f6)
def ze:Int:=GO (min (wI (wI (1000*x0)+wI (wI (x1-x0)*x2))) (wI (wI (1000*x0)+wI (wI (x1-x0)*x3)))) 1000
def zh:Int:=wI (0-GO (wI (0-max (wI (wI (1000*x0)+wI (wI (x1-x0)*x2))) (wI (wI (1000*x0)+wI (wI (x1-x0)*x3))))) 1000)
def m80:RT Empty:=dm (x4,x5) (.obp (nz 1000) (.obt (.obp (nz 1000) (.obt (.ret (V.tup [vi (rz (min (wI (wI (1000*x0)+wI (wI (x1-x0)*x2))) (wI (wI (1000*x0)+wI (wI (x1-x0)*x3)))) 1000),vi (wI (0-rz (wI (0-max (wI (wI (1000*x0)+wI (wI (x1-x0)*x2))) (wI (wI (1000*x0)+wI (wI (x1-x0)*x3))))) 1000))]))))))
theorem ako:cW cX (aV JJ UF u0 arJ [vi x0,vi x1,V.pd [vi x2,vi x3,vi x4,vi x5]]) (m80 x0 x1 x2 x3 x4 x5):=bF
def F80_0:Int:=rz (min (wI (wI (1000*x0)+wI (wI (x1-x0)*x2))) (wI (wI (1000*x0)+wI (wI (x1-x0)*x3)))) 1000
def F80_1:Int:=wI (0-rz (wI (0-max (wI (wI (1000*x0)+wI (wI (x1-x0)*x2))) (wI (wI (1000*x0)+wI (wI (x1-x0)*x3))))) 1000)
def R80:V:=dm (x4,x5) (.tup [vi (F80_0 x0 x1 x2 x3),vi (F80_1 x0 x1 x2 x3)])
theorem asa:aX cL (m80 x0 x1 x2 x3 x4 x5) (R80 x0 x1 x2 x3 x4 x5):=evObp (by first|assumption|((intro h;cases h))) (evObt (evObp (by first|assumption|((intro h;cases h))) (evObt (evRet (by unfold R80 F80_0 F80_1;rfl)))))
def C80:av:=bL [tI,tI,.pd gP] (fun _=>True) fun
 |[.int _ x0,.int _ x1,.pd [.int _ x2,.int _ x3,.int _ x4,.int _ x5]]=>R80 x0 x1 x2 x3 x4 x5
 |_=>.any
theorem KU:cr C80 56:=aY Ro fun _ hp=>c9 (ako ..) (asa _ _ _ _ _ _)
end
end Go.Dx
namespace Go.Dx
open Go.IntKind (i64 u64 u8)
open Go.Sx
noncomputable section
theorem Au {i:Int} {m:Nat} {f8:aL} {k:Nat} (hm:m<=9223372036854775807) (h1:aw (f8 (2*k))=i) (h2:aw (f8 (2*k+1))=(m:Int)) (h:Bm f8 k=false):0<=i/\i<m:=by
 unfold Bm bq at h
 rw [h1,h2,wrapI (by omega) (by omega)]at h
 cases hb:decide (i<0) with
 |true=>rw[hb]at h;cases h
 | false =>
   rw [hb,cond_false]at h
   have a:=abu hb
   have b:=abu h
   omega
theorem Bc {n8:Nat} {f8:aL} {e:Int} (h:F5 n8 f8 e=0):e=0/\∀ k,k<n8 / 2->Bm f8 k=false:=by
 unfold F5 at h
 cases he:e==0 with
 | false =>
   rw [he,cond_false]at h
   subst h;cases he
 | true =>
   rw [he,cond_true]at h
   refine ⟨ajV he,fun k hk=>?_⟩
   cases ho:Bm f8 k with
   |false=>rfl
   |true=>rw[eA k hk ho]at h;cases h
section
variable {n0:Nat} {f0:aL} {n2:Nat} {f2:aL} {n4:Nat} {f4:aL} {n6:Nat} {f6:aL} {i j:Int} {m l:Nat}
theorem fJ (hm:m<=9223372036854775807) (h:jd n0 f0 n2 f2 n4 f4 n6 f6 2 (aa ac (bc [vi i,vi m] 0 1))=0):0<=i/\i<m :=
 Au (k:=0) hm rfl rfl ((Bc h).2 0 (by omega))
theorem ku (hm:m<=9223372036854775807) (hl:l<=9223372036854775807) (h:jd n0 f0 n2 f2 n4 f4 n6 f6 4 (aa ac (bc [vi i,vi m,vi j,vi l] 0 1))=0):(0<=i/\i<m)/\(0<=j/\j<l) :=
 ⟨Au (k:=0) hm rfl rfl ((Bc h).2 0 (by omega)),Au (k:=1) hl rfl rfl ((Bc h).2 1 (by omega))⟩
theorem xP (h:eo n0 f0 n2 f2 n4 f4 n6 f6 i j=0):0<=i/\i<j:=by
 unfold eo at h
 generalize yz _ _ _ _ _ _ _ _=e at h
 cases he:e==0 with
 |false=>rw[he]at h;simp only[cond_false]at h;subst h;cases he
 | true =>
   rw [he,cond_true]at h
   cases hb:decide (i<0) with
   |true=>rw[hb]at h;cases h
   | false =>
     rw [hb,cond_false]at h
     cases hc:decide (j<=i) with
     |true=>rw[hc]at h;cases h
     |false=>have:=abu hb;have:=abu hc;omega
end
end
end Go.Dx
namespace Go.Dx
open Go.IntKind (i64 u64 u8)
open Go.Sx Go.Proofs
variable (n0:Nat) (f0:aL) (n2:Nat) (f2:aL) (n4:Nat) (f4:aL) (n6:Nat) (f6:aL) (x8 x9:Int)
noncomputable section
def Kk:aZ:=(56,.con C80)::UF
theorem Gl:aO Tryz.prog eqs its Kk:=.con KU (Ro)
attribute [local irreducible] jd eo yz
def m30:RT Empty:=.am n4 (.am n6 (.obp (((ap n0 f0)/\ap n6 f6)/\(0:Nat)=(0:Nat)/\(4:Nat)<=(100:Nat)) (.obt (.br (jd n0 (aa aB f0) n2 (aa aG f2) n4 (aa aH f4) n6 (aa aA f6) 4 (aa ac (bc [vi x9,vi (n4:Int),vi x8,vi (n6:Int)] 0 1))!=0) (.ret (V.tup [V.kb false,vi (jd n0 (aa aB f0) n2 (aa aG f2) n4 (aa aH f4) n6 (aa aA f6) 4 (aa ac (bc [vi x9,vi (n4:Int),vi x8,vi (n6:Int)] 0 1)))])) (.ob (decide (0<=x9/\x9<(n4:Int))) (.ob (decide (0<=x8/\x8<(n6:Int))) (.obt (.obt (.obt (.obt (.cb (.ret (V.tup [V.bool (decide (0<gJ (aw (f4 x9.toNat)) (aW (f4 x9.toNat)) (b7 (f4 x9.toNat)) (bV (f4 x9.toNat)) (aW (f6 x8.toNat)) (b7 (f6 x8.toNat)))),vi 0])))))))))))))
theorem aoh:cW cX (aV JJ Kk u0 aqg [scV n0 f0 n2 f2 n4 f4 n6 f6,vi x8,vi x9]) (m30 n0 f0 n2 f2 n4 f4 n6 f6 x8 x9):=bF
def yY:Bool:=bif jd n0 (aa aB f0) n2 (aa aG f2) n4 (aa aH f4) n6 (aa aA f6) 4 (aa ac (bc [vi x9,vi (n4:Int),vi x8,vi (n6:Int)] 0 1))!=0 then false else decide (0<gJ (aw (f4 x9.toNat)) (aW (f4 x9.toNat)) (b7 (f4 x9.toNat)) (bV (f4 x9.toNat)) (aW (f6 x8.toNat)) (b7 (f6 x8.toNat)))
def CR:Int:=bif jd n0 (aa aB f0) n2 (aa aG f2) n4 (aa aH f4) n6 (aa aA f6) 4 (aa ac (bc [vi x9,vi (n4:Int),vi x8,vi (n6:Int)] 0 1))!=0 then jd n0 (aa aB f0) n2 (aa aG f2) n4 (aa aH f4) n6 (aa aA f6) 4 (aa ac (bc [vi x9,vi (n4:Int),vi x8,vi (n6:Int)] 0 1)) else 0
def R30:V:=.tup [.bool (yY n0 f0 n2 f2 n4 f4 n6 f6 x8 x9),vi (CR n0 f0 n2 f2 n4 f4 n6 f6 x8 x9)]
theorem aqi (hp:ap n0 f0/\ap n6 f6):aX cL (m30 n0 f0 n2 f2 n4 f4 n6 f6 x8 x9) (R30 n0 f0 n2 f2 n4 f4 n6 f6 x8 x9):=evAsm (fun a0=>evAsm (fun a0=>evObp (by first|assumption|((first|exact hp|exact⟨hp,rfl,by decide⟩))) (evObt (evBr (fun h0=>evRet (by unfold R30 yY CR;try rw[h0];rfl)) (fun h0=>aD (by first|assumption|((simp_all [cond_eq_ite]<;>first|omega|exact(ku (by assumption) (by assumption) h0).1|exact(ku (by assumption) (by assumption) h0).2|exact fJ (by assumption) h0|exact fJ (by assumption) h1|exact xP h0|exact xP h1|exact xP hc.1|exact fJ (by assumption) hc))) (aD (by first|assumption|((simp_all [cond_eq_ite]<;>first|omega|exact(ku (by assumption) (by assumption) h0).1|exact(ku (by assumption) (by assumption) h0).2|exact fJ (by assumption) h0|exact fJ (by assumption) h1|exact xP h0|exact xP h1|exact xP hc.1|exact fJ (by assumption) hc))) (evObt (evObt (evObt (evObt (au (evObt (evRet (by unfold R30 yY CR;try rw[h0];rfl))))))))))))))
def C30:av:=bL [.agg [.sl aB,.sl aG,.sl aH,.sl aA],tI,tI] (fun
 |[.agg [.sl n0 f0,.sl n2 f2,.sl n4 f4,.sl n6 f6],.int _ x8,.int _ x9]=>ap n0 f0/\ap n6 f6
 |_=>False) fun
 |[.agg [.sl n0 f0,.sl n2 f2,.sl n4 f4,.sl n6 f6],.int _ x8,.int _ x9]=>R30 n0 f0 n2 f2 n4 f4 n6 f6 x8 x9
 |_=>.any
theorem Kz:cr C30 29:=aY Gl fun _ hp=>c9 (aoh ..) (aqi _ _ _ _ _ _ _ _ _ _ hp)
def O1:Bool:=bif bif eo n0 (aa aB f0) n2 (aa aG f2) n4 (aa aH f4) n6 (aa aA f6) x9 (n4:Int)==0 then bif decide (x8<0) then true else decide ((n6:Int)<=x8) else false then false else bif eo n0 (aa aB f0) n2 (aa aG f2) n4 (aa aH f4) n6 (aa aA f6) x9 (n4:Int)!=0 then false else decide (0<kp (wI (b7 (f4 x9.toNat)-aw (f4 x9.toNat))) (wI (bV (f4 x9.toNat)-aW (f4 x9.toNat))) (wI (aW (f6 x8.toNat)-aw (f4 x9.toNat))) (wI (b7 (f6 x8.toNat)-aW (f4 x9.toNat))))
def aaO:Int:=bif bif eo n0 (aa aB f0) n2 (aa aG f2) n4 (aa aH f4) n6 (aa aA f6) x9 (n4:Int)==0 then bif decide (x8<0) then true else decide ((n6:Int)<=x8) else false then 4 else bif eo n0 (aa aB f0) n2 (aa aG f2) n4 (aa aH f4) n6 (aa aA f6) x9 (n4:Int)!=0 then eo n0 (aa aB f0) n2 (aa aG f2) n4 (aa aH f4) n6 (aa aA f6) x9 (n4:Int) else 0
def m32:RT Empty:=.am n4 (.obp (((ap n0 f0)/\ap n6 f6)/\(0:Nat)=(0:Nat)/\(2:Nat)<=(100:Nat)) (.obt (.br (jd n0 (aa aB f0) n2 (aa aG f2) n4 (aa aH f4) n6 (aa aA f6) 2 (aa ac (bc [vi x8,vi (n4:Int)] 0 1))==0) (.ob (decide (0<=x8/\x8<(n4:Int))) (.asm (true=true->aN (aE (ae (ae (ae (ae (f4 x8.toNat))))))<=9223372036854775807) (.obp (((ap n0 f0)/\ap n6 f6)/\(0:Nat)=(0:Nat)/\(2:Nat)<=(100:Nat)) (.obt (.br (jd n0 (aa aB f0) n2 (aa aG f2) n4 (aa aH f4) n6 (aa aA f6) 2 (aa ac (bc [vi x9,vi (↑(aN (aE (ae (ae (ae (ae (f4 x8.toNat))))))):Int)] 0 1))!=0) (.ret (V.tup [V.agg [vi 0,vi 0,vi 0,vi 0,vi 0,vi 0],vi (jd n0 (aa aB f0) n2 (aa aG f2) n4 (aa aH f4) n6 (aa aA f6) 2 (aa ac (bc [vi x9,vi (↑(aN (aE (ae (ae (ae (ae (f4 x8.toNat))))))):Int)] 0 1)))])) (.ob (decide (0<=x8/\x8<(n4:Int))) (.ob (decide (0<=x9/\x9<(↑(aN (aE (ae (ae (ae (ae (f4 x8.toNat))))))):Int))) (.obt (.obt (.cb (.obt (.obt (.cb (.ret (V.tup [V.agg [vi (F80_0 (aw (f4 x8.toNat)) (b7 (f4 x8.toNat)) (aw (bO (aE (ae (ae (ae (ae (f4 x8.toNat)))))) x9.toNat)) (aW (bO (aE (ae (ae (ae (ae (f4 x8.toNat)))))) x9.toNat))),vi (F80_0 (aW (f4 x8.toNat)) (bV (f4 x8.toNat)) (aw (bO (aE (ae (ae (ae (ae (f4 x8.toNat)))))) x9.toNat)) (aW (bO (aE (ae (ae (ae (ae (f4 x8.toNat)))))) x9.toNat))),vi (F80_1 (aw (f4 x8.toNat)) (b7 (f4 x8.toNat)) (aw (bO (aE (ae (ae (ae (ae (f4 x8.toNat)))))) x9.toNat)) (aW (bO (aE (ae (ae (ae (ae (f4 x8.toNat)))))) x9.toNat))),vi (F80_1 (aW (f4 x8.toNat)) (bV (f4 x8.toNat)) (aw (bO (aE (ae (ae (ae (ae (f4 x8.toNat)))))) x9.toNat)) (aW (bO (aE (ae (ae (ae (ae (f4 x8.toNat)))))) x9.toNat))),vi (b7 (bO (aE (ae (ae (ae (ae (f4 x8.toNat)))))) x9.toNat)),vi (bV (bO (aE (ae (ae (ae (ae (f4 x8.toNat)))))) x9.toNat))],vi 0]))))))))))))))) (.br (jd n0 (aa aB f0) n2 (aa aG f2) n4 (aa aH f4) n6 (aa aA f6) 2 (aa ac (bc [vi x8,vi (n4:Int)] 0 1))!=0) (.ret (V.tup [V.agg [vi 0,vi 0,vi 0,vi 0,vi 0,vi 0],vi (jd n0 (aa aB f0) n2 (aa aG f2) n4 (aa aH f4) n6 (aa aA f6) 2 (aa ac (bc [vi x8,vi (n4:Int)] 0 1)))])) (.ob (decide (0<=x8/\x8<(n4:Int))) (.ob (decide (0<=x9/\x9<(↑(aN (aE (ae (ae (ae (ae (f4 x8.toNat))))))):Int))) (.obt (.obt (.cb (.obt (.obt (.cb (.ret (V.tup [V.agg [vi (F80_0 (aw (f4 x8.toNat)) (b7 (f4 x8.toNat)) (aw (bO (aE (ae (ae (ae (ae (f4 x8.toNat)))))) x9.toNat)) (aW (bO (aE (ae (ae (ae (ae (f4 x8.toNat)))))) x9.toNat))),vi (F80_0 (aW (f4 x8.toNat)) (bV (f4 x8.toNat)) (aw (bO (aE (ae (ae (ae (ae (f4 x8.toNat)))))) x9.toNat)) (aW (bO (aE (ae (ae (ae (ae (f4 x8.toNat)))))) x9.toNat))),vi (F80_1 (aw (f4 x8.toNat)) (b7 (f4 x8.toNat)) (aw (bO (aE (ae (ae (ae (ae (f4 x8.toNat)))))) x9.toNat)) (aW (bO (aE (ae (ae (ae (ae (f4 x8.toNat)))))) x9.toNat))),vi (F80_1 (aW (f4 x8.toNat)) (bV (f4 x8.toNat)) (aw (bO (aE (ae (ae (ae (ae (f4 x8.toNat)))))) x9.toNat)) (aW (bO (aE (ae (ae (ae (ae (f4 x8.toNat)))))) x9.toNat))),vi (b7 (bO (aE (ae (ae (ae (ae (f4 x8.toNat)))))) x9.toNat)),vi (bV (bO (aE (ae (ae (ae (ae (f4 x8.toNat)))))) x9.toNat))],vi 0]))))))))))))))
theorem aks:cW cX (aV JJ Kk u0 apY [scV n0 f0 n2 f2 n4 f4 n6 f6,vi x8,vi x9]) (m32 n0 f0 n2 f2 n4 f4 n6 f6 x8 x9):=bF
def pg:Int:=bif jd n0 (aa aB f0) n2 (aa aG f2) n4 (aa aH f4) n6 (aa aA f6) 2 (aa ac (bc [vi x8,vi (n4:Int)] 0 1))==0 then bif jd n0 (aa aB f0) n2 (aa aG f2) n4 (aa aH f4) n6 (aa aA f6) 2 (aa ac (bc [vi x9,vi (↑(aN (aE (ae (ae (ae (ae (f4 x8.toNat))))))):Int)] 0 1))!=0 then 0 else F80_0 (aw (f4 x8.toNat)) (b7 (f4 x8.toNat)) (aw (bO (aE (ae (ae (ae (ae (f4 x8.toNat)))))) x9.toNat)) (aW (bO (aE (ae (ae (ae (ae (f4 x8.toNat)))))) x9.toNat)) else bif jd n0 (aa aB f0) n2 (aa aG f2) n4 (aa aH f4) n6 (aa aA f6) 2 (aa ac (bc [vi x8,vi (n4:Int)] 0 1))!=0 then 0 else F80_0 (aw (f4 x8.toNat)) (b7 (f4 x8.toNat)) (aw (bO (aE (ae (ae (ae (ae (f4 x8.toNat)))))) x9.toNat)) (aW (bO (aE (ae (ae (ae (ae (f4 x8.toNat)))))) x9.toNat))
def pI:Int:=bif jd n0 (aa aB f0) n2 (aa aG f2) n4 (aa aH f4) n6 (aa aA f6) 2 (aa ac (bc [vi x8,vi (n4:Int)] 0 1))==0 then bif jd n0 (aa aB f0) n2 (aa aG f2) n4 (aa aH f4) n6 (aa aA f6) 2 (aa ac (bc [vi x9,vi (↑(aN (aE (ae (ae (ae (ae (f4 x8.toNat))))))):Int)] 0 1))!=0 then 0 else F80_0 (aW (f4 x8.toNat)) (bV (f4 x8.toNat)) (aw (bO (aE (ae (ae (ae (ae (f4 x8.toNat)))))) x9.toNat)) (aW (bO (aE (ae (ae (ae (ae (f4 x8.toNat)))))) x9.toNat)) else bif jd n0 (aa aB f0) n2 (aa aG f2) n4 (aa aH f4) n6 (aa aA f6) 2 (aa ac (bc [vi x8,vi (n4:Int)] 0 1))!=0 then 0 else F80_0 (aW (f4 x8.toNat)) (bV (f4 x8.toNat)) (aw (bO (aE (ae (ae (ae (ae (f4 x8.toNat)))))) x9.toNat)) (aW (bO (aE (ae (ae (ae (ae (f4 x8.toNat)))))) x9.toNat))
def pn:Int:=bif jd n0 (aa aB f0) n2 (aa aG f2) n4 (aa aH f4) n6 (aa aA f6) 2 (aa ac (bc [vi x8,vi (n4:Int)] 0 1))==0 then bif jd n0 (aa aB f0) n2 (aa aG f2) n4 (aa aH f4) n6 (aa aA f6) 2 (aa ac (bc [vi x9,vi (↑(aN (aE (ae (ae (ae (ae (f4 x8.toNat))))))):Int)] 0 1))!=0 then 0 else F80_1 (aw (f4 x8.toNat)) (b7 (f4 x8.toNat)) (aw (bO (aE (ae (ae (ae (ae (f4 x8.toNat)))))) x9.toNat)) (aW (bO (aE (ae (ae (ae (ae (f4 x8.toNat)))))) x9.toNat)) else bif jd n0 (aa aB f0) n2 (aa aG f2) n4 (aa aH f4) n6 (aa aA f6) 2 (aa ac (bc [vi x8,vi (n4:Int)] 0 1))!=0 then 0 else F80_1 (aw (f4 x8.toNat)) (b7 (f4 x8.toNat)) (aw (bO (aE (ae (ae (ae (ae (f4 x8.toNat)))))) x9.toNat)) (aW (bO (aE (ae (ae (ae (ae (f4 x8.toNat)))))) x9.toNat))
def pA:Int:=bif jd n0 (aa aB f0) n2 (aa aG f2) n4 (aa aH f4) n6 (aa aA f6) 2 (aa ac (bc [vi x8,vi (n4:Int)] 0 1))==0 then bif jd n0 (aa aB f0) n2 (aa aG f2) n4 (aa aH f4) n6 (aa aA f6) 2 (aa ac (bc [vi x9,vi (↑(aN (aE (ae (ae (ae (ae (f4 x8.toNat))))))):Int)] 0 1))!=0 then 0 else F80_1 (aW (f4 x8.toNat)) (bV (f4 x8.toNat)) (aw (bO (aE (ae (ae (ae (ae (f4 x8.toNat)))))) x9.toNat)) (aW (bO (aE (ae (ae (ae (ae (f4 x8.toNat)))))) x9.toNat)) else bif jd n0 (aa aB f0) n2 (aa aG f2) n4 (aa aH f4) n6 (aa aA f6) 2 (aa ac (bc [vi x8,vi (n4:Int)] 0 1))!=0 then 0 else F80_1 (aW (f4 x8.toNat)) (bV (f4 x8.toNat)) (aw (bO (aE (ae (ae (ae (ae (f4 x8.toNat)))))) x9.toNat)) (aW (bO (aE (ae (ae (ae (ae (f4 x8.toNat)))))) x9.toNat))
def qH:Int:=bif jd n0 (aa aB f0) n2 (aa aG f2) n4 (aa aH f4) n6 (aa aA f6) 2 (aa ac (bc [vi x8,vi (n4:Int)] 0 1))==0 then bif jd n0 (aa aB f0) n2 (aa aG f2) n4 (aa aH f4) n6 (aa aA f6) 2 (aa ac (bc [vi x9,vi (↑(aN (aE (ae (ae (ae (ae (f4 x8.toNat))))))):Int)] 0 1))!=0 then 0 else b7 (bO (aE (ae (ae (ae (ae (f4 x8.toNat)))))) x9.toNat) else bif jd n0 (aa aB f0) n2 (aa aG f2) n4 (aa aH f4) n6 (aa aA f6) 2 (aa ac (bc [vi x8,vi (n4:Int)] 0 1))!=0 then 0 else b7 (bO (aE (ae (ae (ae (ae (f4 x8.toNat)))))) x9.toNat)
def ri:Int:=bif jd n0 (aa aB f0) n2 (aa aG f2) n4 (aa aH f4) n6 (aa aA f6) 2 (aa ac (bc [vi x8,vi (n4:Int)] 0 1))==0 then bif jd n0 (aa aB f0) n2 (aa aG f2) n4 (aa aH f4) n6 (aa aA f6) 2 (aa ac (bc [vi x9,vi (↑(aN (aE (ae (ae (ae (ae (f4 x8.toNat))))))):Int)] 0 1))!=0 then 0 else bV (bO (aE (ae (ae (ae (ae (f4 x8.toNat)))))) x9.toNat) else bif jd n0 (aa aB f0) n2 (aa aG f2) n4 (aa aH f4) n6 (aa aA f6) 2 (aa ac (bc [vi x8,vi (n4:Int)] 0 1))!=0 then 0 else bV (bO (aE (ae (ae (ae (ae (f4 x8.toNat)))))) x9.toNat)
def ru:Int:=bif jd n0 (aa aB f0) n2 (aa aG f2) n4 (aa aH f4) n6 (aa aA f6) 2 (aa ac (bc [vi x8,vi (n4:Int)] 0 1))==0 then bif jd n0 (aa aB f0) n2 (aa aG f2) n4 (aa aH f4) n6 (aa aA f6) 2 (aa ac (bc [vi x9,vi (↑(aN (aE (ae (ae (ae (ae (f4 x8.toNat))))))):Int)] 0 1))!=0 then jd n0 (aa aB f0) n2 (aa aG f2) n4 (aa aH f4) n6 (aa aA f6) 2 (aa ac (bc [vi x9,vi (↑(aN (aE (ae (ae (ae (ae (f4 x8.toNat))))))):Int)] 0 1)) else 0 else bif jd n0 (aa aB f0) n2 (aa aG f2) n4 (aa aH f4) n6 (aa aA f6) 2 (aa ac (bc [vi x8,vi (n4:Int)] 0 1))!=0 then jd n0 (aa aB f0) n2 (aa aG f2) n4 (aa aH f4) n6 (aa aA f6) 2 (aa ac (bc [vi x8,vi (n4:Int)] 0 1)) else 0
def R32:V:=.tup [.agg [vi (pg n0 f0 n2 f2 n4 f4 n6 f6 x8 x9),vi (pI n0 f0 n2 f2 n4 f4 n6 f6 x8 x9),vi (pn n0 f0 n2 f2 n4 f4 n6 f6 x8 x9),vi (pA n0 f0 n2 f2 n4 f4 n6 f6 x8 x9),vi (qH n0 f0 n2 f2 n4 f4 n6 f6 x8 x9),vi (ri n0 f0 n2 f2 n4 f4 n6 f6 x8 x9)],vi (ru n0 f0 n2 f2 n4 f4 n6 f6 x8 x9)]
theorem ap3 (hp:ap n0 f0/\ap n6 f6):aX cL (m32 n0 f0 n2 f2 n4 f4 n6 f6 x8 x9) (R32 n0 f0 n2 f2 n4 f4 n6 f6 x8 x9):=evAsm (fun a0=>evObp (by first|assumption|((first|exact hp|exact⟨hp,rfl,by decide⟩))) (evObt (evBr (fun h0=>aD (by first|assumption|((simp_all [cond_eq_ite]<;>first|omega|exact(ku (by assumption) (by assumption) h0).1|exact(ku (by assumption) (by assumption) h0).2|exact fJ (by assumption) h0|exact fJ (by assumption) h1|exact xP h0|exact xP h1|exact xP hc.1|exact fJ (by assumption) hc))) (evAsm (fun a1=>evObp (by first|assumption|((first|exact hp|exact⟨hp,rfl,by decide⟩))) (evObt (evBr (fun h1=>evRet (by unfold R32 pg pI pn pA qH ri ru;try rw[h0];try rw[h1];rfl)) (fun h1=>aD (by first|assumption|((simp_all [cond_eq_ite]<;>first|omega|exact(ku (by assumption) (by assumption) h0).1|exact(ku (by assumption) (by assumption) h0).2|exact fJ (by assumption) h0|exact fJ (by assumption) h1|exact xP h0|exact xP h1|exact xP hc.1|exact fJ (by assumption) hc))) (aD (by first|assumption|((simp_all [cond_eq_ite]<;>first|omega|exact(ku (by assumption) (by assumption) h0).1|exact(ku (by assumption) (by assumption) h0).2|exact fJ (by assumption) h0|exact fJ (by assumption) h1|exact xP h0|exact xP h1|exact xP hc.1|exact fJ (by assumption) hc))) (evObt (evObt (au (evObt (evObt (evObt (au (evObt (evRet (by unfold R32 pg pI pn pA qH ri ru;try rw[h0];try rw[h1];rfl))))))))))))))))) (fun h0=>evBr (fun h1=>evRet (by unfold R32 pg pI pn pA qH ri ru;try rw[h0];try rw[h1];rfl)) (fun h1=>aD (by first|assumption|((simp_all [cond_eq_ite]<;>first|omega|exact(ku (by assumption) (by assumption) h0).1|exact(ku (by assumption) (by assumption) h0).2|exact fJ (by assumption) h0|exact fJ (by assumption) h1|exact xP h0|exact xP h1|exact xP hc.1|exact fJ (by assumption) hc))) (aD (by first|assumption|((simp_all [cond_eq_ite]<;>first|omega|exact(ku (by assumption) (by assumption) h0).1|exact(ku (by assumption) (by assumption) h0).2|exact fJ (by assumption) h0|exact fJ (by assumption) h1|exact xP h0|exact xP h1|exact xP hc.1|exact fJ (by assumption) hc))) (evObt (evObt (au (evObt (evObt (evObt (au (evObt (evRet (by unfold R32 pg pI pn pA qH ri ru;try rw[h0];try rw[h1];rfl))))))))))))))))
def C32:av:=bL [.agg [.sl aB,.sl aG,.sl aH,.sl aA],tI,tI] (fun
 |[.agg [.sl n0 f0,.sl n2 f2,.sl n4 f4,.sl n6 f6],.int _ x8,.int _ x9]=>ap n0 f0/\ap n6 f6
 |_=>False) fun
 |[.agg [.sl n0 f0,.sl n2 f2,.sl n4 f4,.sl n6 f6],.int _ x8,.int _ x9]=>R32 n0 f0 n2 f2 n4 f4 n6 f6 x8 x9
 |_=>.any
theorem KT:cr C32 27:=aY Gl fun _ hp=>c9 (aks ..) (ap3 _ _ _ _ _ _ _ _ _ _ hp)
def tW:Int:=bif bif eo n0 (aa aB f0) n2 (aa aG f2) n4 (aa aH f4) n6 (aa aA f6) x8 (n4:Int)==0 then bif decide (x9<0) then true else decide ((↑(aN (aE (ae (ae (ae (ae (f4 x8.toNat))))))):Int)<=x9) else false then 0 else bif eo n0 (aa aB f0) n2 (aa aG f2) n4 (aa aH f4) n6 (aa aA f6) x8 (n4:Int)!=0 then 0 else ze (aw (f4 x8.toNat)) (b7 (f4 x8.toNat)) (aw (bO (aE (ae (ae (ae (ae (f4 x8.toNat)))))) x9.toNat)) (aW (bO (aE (ae (ae (ae (ae (f4 x8.toNat)))))) x9.toNat))
def to:Int:=bif bif eo n0 (aa aB f0) n2 (aa aG f2) n4 (aa aH f4) n6 (aa aA f6) x8 (n4:Int)==0 then bif decide (x9<0) then true else decide ((↑(aN (aE (ae (ae (ae (ae (f4 x8.toNat))))))):Int)<=x9) else false then 0 else bif eo n0 (aa aB f0) n2 (aa aG f2) n4 (aa aH f4) n6 (aa aA f6) x8 (n4:Int)!=0 then 0 else ze (aW (f4 x8.toNat)) (bV (f4 x8.toNat)) (aw (bO (aE (ae (ae (ae (ae (f4 x8.toNat)))))) x9.toNat)) (aW (bO (aE (ae (ae (ae (ae (f4 x8.toNat)))))) x9.toNat))
def te:Int:=bif bif eo n0 (aa aB f0) n2 (aa aG f2) n4 (aa aH f4) n6 (aa aA f6) x8 (n4:Int)==0 then bif decide (x9<0) then true else decide ((↑(aN (aE (ae (ae (ae (ae (f4 x8.toNat))))))):Int)<=x9) else false then 0 else bif eo n0 (aa aB f0) n2 (aa aG f2) n4 (aa aH f4) n6 (aa aA f6) x8 (n4:Int)!=0 then 0 else zh (aw (f4 x8.toNat)) (b7 (f4 x8.toNat)) (aw (bO (aE (ae (ae (ae (ae (f4 x8.toNat)))))) x9.toNat)) (aW (bO (aE (ae (ae (ae (ae (f4 x8.toNat)))))) x9.toNat))
def tQ:Int:=bif bif eo n0 (aa aB f0) n2 (aa aG f2) n4 (aa aH f4) n6 (aa aA f6) x8 (n4:Int)==0 then bif decide (x9<0) then true else decide ((↑(aN (aE (ae (ae (ae (ae (f4 x8.toNat))))))):Int)<=x9) else false then 0 else bif eo n0 (aa aB f0) n2 (aa aG f2) n4 (aa aH f4) n6 (aa aA f6) x8 (n4:Int)!=0 then 0 else zh (aW (f4 x8.toNat)) (bV (f4 x8.toNat)) (aw (bO (aE (ae (ae (ae (ae (f4 x8.toNat)))))) x9.toNat)) (aW (bO (aE (ae (ae (ae (ae (f4 x8.toNat)))))) x9.toNat))
def yL:Int:=bif bif eo n0 (aa aB f0) n2 (aa aG f2) n4 (aa aH f4) n6 (aa aA f6) x8 (n4:Int)==0 then bif decide (x9<0) then true else decide ((↑(aN (aE (ae (ae (ae (ae (f4 x8.toNat))))))):Int)<=x9) else false then 0 else bif eo n0 (aa aB f0) n2 (aa aG f2) n4 (aa aH f4) n6 (aa aA f6) x8 (n4:Int)!=0 then 0 else b7 (bO (aE (ae (ae (ae (ae (f4 x8.toNat)))))) x9.toNat)
def yX:Int:=bif bif eo n0 (aa aB f0) n2 (aa aG f2) n4 (aa aH f4) n6 (aa aA f6) x8 (n4:Int)==0 then bif decide (x9<0) then true else decide ((↑(aN (aE (ae (ae (ae (ae (f4 x8.toNat))))))):Int)<=x9) else false then 0 else bif eo n0 (aa aB f0) n2 (aa aG f2) n4 (aa aH f4) n6 (aa aA f6) x8 (n4:Int)!=0 then 0 else bV (bO (aE (ae (ae (ae (ae (f4 x8.toNat)))))) x9.toNat)
def G8:Int:=bif bif eo n0 (aa aB f0) n2 (aa aG f2) n4 (aa aH f4) n6 (aa aA f6) x8 (n4:Int)==0 then bif decide (x9<0) then true else decide ((↑(aN (aE (ae (ae (ae (ae (f4 x8.toNat))))))):Int)<=x9) else false then 4 else bif eo n0 (aa aB f0) n2 (aa aG f2) n4 (aa aH f4) n6 (aa aA f6) x8 (n4:Int)!=0 then eo n0 (aa aB f0) n2 (aa aG f2) n4 (aa aH f4) n6 (aa aA f6) x8 (n4:Int) else 0
end
end Go.Dx
namespace Go.Proofs
open Go.RowKit Go.Dx
def zR (b:Int) (i:Int):Bool:=bif !(bif decide (97<=b) then decide (b<=122) else false) then(bif i==0 then true else bif !(bif decide (48<=b) then decide (b<=57) else false) then b != 45 else false) else false
def jm (s:ByteArray):Bool:=en s.size (fun i=>!zR ((s.data.toList.getD i 0).toNat:Int) i)&&decide (0<s.size/\s.size<=24)
theorem agv {p:Prop} (h:p):Hid p:=h
theorem C7 (w:World) (e:TypeId) (s:ByteArray):Below w.heap.size w (Lib.bytesWorld w e s):=by
 refine ⟨rfl,rfl,rfl,?_,fun b hb=>Lib.bytesWorld_at_old w e s b hb⟩
 rw [Lib.bytesWorld_size];omega
theorem og (x k:Nat):zR (x:Int) (k:Int)=true↔¬ (97<=x/\x<=122)/\(k=0∨¬ (48<=x/\x<=57)/\x≠45):=by
 have key:∀ (p1 p2 p3 p4 p5 p6:Bool),(bif !(bif p1 then p2 else false) then(bif p3 then true else bif !(bif p4 then p5 else false) then p6 else false) else false)=true↔¬ (p1=true/\p2=true)/\(p3=true∨¬ (p4=true/\p5=true)/\p6=true):=by decide
 unfold zR
 rw [key]
 simp only [abN,ajU,bne_iff_ne,ne_eq]
 omega
theorem SB {s:ByteArray} {k x:Nat} (hk:k<s.size) (hx:(s.data.toList.getD k 0).toNat=x) (h:¬ (97<=x/\x<=122)/\(k=0∨¬ (48<=x/\x<=57)/\x≠45)):jm s=false:=by
 unfold jm
 rw [jN k hk (by rw[hx,(og x k).2 h];rfl)];rfl
theorem K2 {s:ByteArray} {k x:Nat} (hsp:∀ j:Nat,j<k->zR ((s.data.toList.getD j 0).toNat:Int) j=false) (hx:(s.data.toList.getD k 0).toNat=x) (h:¬ (¬ (97<=x/\x<=122)/\(k=0∨¬ (48<=x/\x<=57)/\x≠45))):∀ j:Nat,j<k+1->zR ((s.data.toList.getD j 0).toNat:Int) j=false:=fun j hj=>by
 by_cases e:j=k
 ·subst e
  rw [hx]
  cases hb:zR (x:Int) j with
  |false=>rfl
  |true=>exact(h ((og x j).1 hb)).elim
 ·exact hsp j (by omega)
theorem Ov {s:ByteArray} (hsp:∀ j:Nat,j<s.size->zR ((s.data.toList.getD j 0).toNat:Int) j=false):jm s=decide (0<s.size/\s.size<=24):=by
 unfold jm
 rw [ga fun i hi=>by rw[hsp i hi];rfl];rfl
theorem ybl (s:ByteArray):s.toList=[]↔s.size=0:=by
 rw [ByteArray.toList_eq]
 obtain ⟨⟨l⟩⟩:=s
 show l=[]↔l.length=0
 exact List.length_eq_zero_iff.symm
set_option maxHeartbeats 4000000 in
theorem Tryz.name_calls (s:ByteArray) (w:World) (hs:s.size<=9223372036854775807):Calls Tryz.prog 113 #[.string s] w fun e w'=>e=.returned (.bool (jm s))/\Below w.heap.size w w':=by
 have hB:∀ t,t<s.size->(Lib.bytesWorld w 5 s).cell? ⟨w.heap.size,t,none⟩=some (.int .u8 (s.data.toList.getD t 0).toNat):=fun t ht=>Lib.bytesWorld_cell w 5 s t ht
 have hbel:=C7 w 5 s
 go_enter Tryz.func113,Tryz.ntmps113
 go_wp2
 rw [Lib.run_convert_string_bytes w 9 213 5 s (u:=.string) bb bb bb]
 simp only [Result.andThen]
 rw [Oper.upon_value]
 obtain ⟨W1,hW1⟩:∃ W1,W1=Lib.bytesWorld w 5 s:=⟨_,rfl⟩
 rw [← hW1]at hB hbel ⊢
 have HW:=agv hW1
 have HB:=agv hB
 clear hW1 hB
 go_wp2
 go_loop [9] (fun i=>∃ k:Nat,k<=s.size/\i=.int .i64 k/\Hid (∀ j:Nat,j<k->zR ((s.data.toList.getD j 0).toNat:Int) j=false)) (fun i=>s.size-(intOf i).toNat)
 case atStart=>exact⟨0,acK _,rfl,fun j hj=>absurd hj (Nat.not_lt_zero _)⟩
 case round =>
  obtain ⟨k,hk,rfl,hsp⟩:=hrel
  by_cases hkn:k<s.size
  ·have hc1:=HB.out k hkn
   generalize hx:(s.data.toList.getD k 0).toNat=x at hc1
   have Hx:=agv hx
   clear hx
   go_wp2
   all_goals first
    | (go_ret
       have hb:=SB hkn Hx (by clear HB hsp Hx hc1 HW hbel;try simp only[aia,Bool.not_eq_false',decide_eq_false_iff_not,abN,ajU,bne_iff_ne,ne_eq,aqI,bne_eq_false_iff_eq]at *;omega)
       rw [hb];exact⟨rfl,hbel⟩)
    |exact⟨⟨k+1,by omega,by first|rfl|(congr 1;omega),K2 hsp Hx (by clear HB hsp Hx hc1 HW hbel;try simp only[aia,Bool.not_eq_false',decide_eq_false_iff_not,abN,ajU,bne_iff_ne,ne_eq,aqI,bne_eq_false_iff_eq]at *;omega)⟩,by simp[intOf];omega⟩
    |skip
   trace_state
  ·obtain rfl:k=s.size:=by omega
   have he:=Ov hsp
   go_wp2
   ·go_ret
    rename_i h _
    rw [(ybl s).1 h]
    exact ⟨rfl,hbel⟩
   ·go_ret
    rename_i h _
    refine ⟨?_,hbel⟩
    have h0:s.size≠0:=fun e=>h ((ybl s).2 e)
    have e1:s.toList.isEmpty=false:=by cases hl:s.toList with
     |nil=>exact(h hl).elim
     |cons a l=>rfl
    have e2:decide (0<s.size)=true:=arm (by omega)
    have e3:decide ((s.size:Int)<=24)=decide (s.size<=24):=decide_eq_decide.2 (by omega)
    rw [e2]
    show Ending.returned (.bool (!s.toList.isEmpty&&decide ((s.size:Int)<=24)))=_
    rw [e1,e3];rfl
end Go.Proofs
namespace Go.Dx
open Go.Sx Go.Proofs
noncomputable section
def Jr:av:=bL [.str] (fun
 |[.str s]=>s.size<=9223372036854775807
 |_=>False) fun
 |[.str s]=>.bool (jm s)
 |_=>.any
theorem Ui:(vP Jr).Ok Tryz.prog 113:=by
 refine ⟨fun B m lh w args vs K hrel hargs hsp=>?_,fun _ _ _ _ _ hk ⟨ds,d,p,r,h1,h2,h3,h4,h5⟩=>⟨ds,d,p,r,h1,h2,h3,h4,hk _ _ h5⟩,fun _ _ _ _ ⟨_,_,_,_,_,_,_,_,h⟩=>h⟩
 obtain ⟨ds,d,p,r,h1,h2,⟨h30,h3⟩,h4,h5⟩:=hsp
 simp only [Jr,bL,aaB,Prod.mk.injEq]at h2
 obtain ⟨rfl,rfl,rfl⟩:=h2
 have hty:=(jb [.str] ds [] [] rfl h30).1
 simp only [bp,cO]at hty
 obtain ⟨e1,e2,e3⟩:=hty
 rw [e2,e3]at e1
 generalize sv (aE ds)=s at e1
 subst e1
 simp only [j9,Tk]at h3 h4 h5
 simp only [bg,vr]at h1
 obtain ⟨_,_,rfl,rfl,rfl⟩:=h1
 simp only [ar,vrel]at hargs
 obtain ⟨_,_,rfl,rfl,rfl⟩:=hargs
 refine ⟨⟨_,Tryz.func113,by kernel_rfl,by kernel_rfl⟩,(Tryz.name_calls s w h3).mono fun e w' ⟨he,hb⟩=>?_⟩
 exact ⟨_,_,m,lh,he,by simp only[cz,vrel],hG.refl _ _,a7.below hrel hb,h5⟩
end
end Go.Dx
namespace Go.Dx
open Go.IntKind (i64 u64 u8)
open Go.Sx Go.Proofs
variable (n0:Nat) (f0:aL) (x0:Int) (s0:ByteArray) (n1:Nat) (f1:aL) (x1 x2:Int) (s2:ByteArray) (n3:Nat) (f3:aL) (x3 x4:Int) (n5:Nat) (f5:aL) (x5 x6:Int) (n7:Nat) (f7:aL) (x7 x8 x9 x10 x11 x12 x13:Int)
noncomputable section
def zJ:aZ:=[(29,.con C30),(27,.con C32),(56,.con C80),(55,.con C44),(67,.con C23),(90,.con C62),(96,.con C68),(91,.con C63),(97,.con C69),(128,.inl yU u0),(127,.inl yC u0),(126,.con EG),(124,.con Fp),(150,.con F6),(92,.con C64),(94,.con C66),(122,.con D7),(93,.con C65),(95,.con C67),(98,.con C53),(123,.con C45),(125,.con C90),(130,.con yay),(132,.con B7),(46,.con C99),(149,.con C8),(151,.con B3),(152,.con DL),(121,.con CW),(129,.con C3),(131,.con Cn),(77,.con DK),(136,.con C4),(147,.con CU),(154,.con D6),(155,.con BL),(59,.con C78),(100,.con C54),(99,.con C48),(135,.con CS),(57,.con C81),(79,.con C84),(153,.con C85),(80,.con DG),(133,.con Ds),(78,.con Zr),(169,.con BZ),(188,.con FX),(148,.con CV),(113,.con Jr)]
theorem tJ:aO Tryz.prog eqs its zJ:=.con Kz (.con KT (.con KU (.con Ln (.con Gw (.con LX (.con Lw (.con Lf (.con Lz (eT Tryz.func128 bb (eT Tryz.func127 bb (.con yB (.con zp (.con zt (.con KI (.con K9 (.con vY (.con E0 (.con F8 (.con EM (.con Ef (.con Fo (.con xt (.con vV (.con FB (.con vd (.con wJ (.con vD (.con wF (.con wq (.con xn (.con vT (.con uZ (.con vt (.con wv (.con xc (.con EH (.con EV (.con Gs (.con wX (.con ED (.con Fa (.con EC (.con xi (.con vn (.con yaw (.con vl (.con yT (.con yQ (.con Ui (.nil))))))))))))))))))))))))))))))))))))))))))))))))))
def acD:RT Empty:=.ii (.obi (.ret (V.bool (bif decide (x1<=x0) then decide (x0<=x2) else false))))
theorem VK:cW cX (aV JJ zJ u0 aha [vi x0,vi x1,vi x2]) (acD x0 x1 x2):=bF
def yaa:Bool:=bif decide (x1<=x0) then decide (x0<=x2) else false
def Qd:V:=.bool (yaa x0 x1 x2)
theorem aep:aX cL (acD x0 x1 x2) (Qd x0 x1 x2):=evObi (evObi (evObi (evRet (by unfold Qd yaa;rfl))))
def HA:av:=bL aU (fun _=>True) fun
 |[.int _ x0,.int _ x1,.int _ x2]=>Qd x0 x1 x2
 |_=>.any
theorem GB:cr HA 52:=aY tJ fun _ hp=>c9 (VK ..) (aep _ _ _)
def aat:RT Empty:=.iv (.iv (.obi (.ret (V.bool (bif bif decide (x2<=x0) then decide (x0<=x1) else false then decide (x1<=x3) else false)))))
theorem Z5:cW cX (aV JJ zJ u0 ajo [V.agg [vi x0,vi x1],vi x2,vi x3]) (aat x0 x1 x2 x3):=bF
def fb:Bool:=bif bif decide (x2<=x0) then decide (x0<=x1) else false then decide (x1<=x3) else false
def Tn:V:=.bool (fb x0 x1 x2 x3)
theorem ajH:aX cL (aat x0 x1 x2 x3) (Tn x0 x1 x2 x3):=evObi (evObi (evObi (evObi (evObi (evObi (evObi (evObi (evObi (evRet (by unfold Tn fb;rfl))))))))))
def O3:av:=bL [.agg aJ,tI,tI] (fun _=>True) fun
 |[.agg [.int _ x0,.int _ x1],.int _ x2,.int _ x3]=>Tn x0 x1 x2 x3
 |_=>.any
theorem OG:cr O3 89:=aY tJ fun _ hp=>c9 (Z5 ..) (ajH _ _ _ _)
def abT:RT Empty:=.ii (.obi (.ret (V.bool (bif decide (x1<=x0) then decide (x0<=x2) else false))))
theorem X0:cW cX (aV JJ zJ u0 Pi [vi x0,vi x1,vi x2]) (abT x0 x1 x2):=bF
def dT:Bool:=bif decide (x1<=x0) then decide (x0<=x2) else false
def OD:V:=.bool (dT x0 x1 x2)
theorem adB:aX cL (abT x0 x1 x2) (OD x0 x1 x2):=evObi (evObi (evObi (evRet (by unfold OD dT;rfl))))
def Uo:av:=bL aU (fun _=>True) fun
 |[.int _ x0,.int _ x1,.int _ x2]=>OD x0 x1 x2
 |_=>.any
theorem Pb:cr Uo 43:=aY tJ fun _ hp=>c9 (X0 ..) (adB _ _ _)
def bP:Bool:=bif decide (x1<=x0) then decide (x0<=x2) else false
def bf:Bool:=bif decide (x1<=x0) then decide (x0<=x2) else false
def acV:RT Empty:=dm (n1,f1,n3,f3,n5,f5,x7,x8) (.ret (V.str s0))
theorem VY:cW cX (aV JJ zJ u0 ahN [V.agg [V.str s0,V.sl n1 (aa ac f1),V.sl n3 (aa ac f3),V.sl n5 (aa [Ty.sl ac] f5),vi x7,vi x8]]) (acV s0 n1 f1 n3 f3 n5 f5 x7 x8):=bF
def Q6:V:=dm (n1,f1,n3,f3,n5,f5,x7,x8) (.str (s0))
theorem ae7:aX cL (acV s0 n1 f1 n3 f3 n5 f5 x7 x8) (Q6 s0 n1 f1 n3 f3 n5 f5 x7 x8):=evRet (by unfold Q6 ; rfl)
def Tz:av:=bL [.agg af] (fun _=>True) fun
 |[.agg [.str s0,.sl n1 f1,.sl n3 f3,.sl n5 f5,.int _ x7,.int _ x8]]=>Q6 s0 n1 f1 n3 f3 n5 f5 x7 x8
 |_=>.any
theorem RF:cr Tz 84:=aY tJ fun _ hp=>c9 (VY ..) (ae7 _ _ _ _ _ _ _ _ _)
def aci:RT Empty:=dm (x1,x2,x3,x4,x5,x6,x7,x8,x9,x10,x11,x12,x13) (.ret (V.str s0))
theorem Zj:cW cX (aV JJ zJ u0 agB [V.agg [V.str s0,vi x1,vi x2,vi x3,vi x4,vi x5,vi x6,vi x7,vi x8,vi x9,vi x10,vi x11,vi x12,vi x13]]) (aci s0 x1 x2 x3 x4 x5 x6 x7 x8 x9 x10 x11 x12 x13):=bF
def NW:V:=dm (x1,x2,x3,x4,x5,x6,x7,x8,x9,x10,x11,x12,x13) (.str (s0))
theorem aju:aX cL (aci s0 x1 x2 x3 x4 x5 x6 x7 x8 x9 x10 x11 x12 x13) (NW s0 x1 x2 x3 x4 x5 x6 x7 x8 x9 x10 x11 x12 x13):=evRet (by unfold NW ; rfl)
def PN:av:=bL [.agg ah] (fun _=>True) fun
 |[.agg [.str s0,.int _ x1,.int _ x2,.int _ x3,.int _ x4,.int _ x5,.int _ x6,.int _ x7,.int _ x8,.int _ x9,.int _ x10,.int _ x11,.int _ x12,.int _ x13]]=>NW s0 x1 x2 x3 x4 x5 x6 x7 x8 x9 x10 x11 x12 x13
 |_=>.any
theorem Sz:cr PN 87:=aY tJ fun _ hp=>c9 (Zj ..) (aju _ _ _ _ _ _ _ _ _ _ _ _ _ _)
def rx:Int:=bif decide (x0.tmod x1<0) then wI (wI (x0.tdiv x1)-1) else wI (x0.tdiv x1)
def abk:RT Empty:=.ob (decide (x1≠0)) (.ob (decide (x1≠0)) (.br (decide (x0.tmod x1<0)) (.ret (vi (wI (wI (x0.tdiv x1)-1)))) (.ret (vi (wI (x0.tdiv x1))))))
theorem aai:cW cX (aV JJ zJ u0 aes [vi x0,vi x1]) (abk x0 x1):=bF
def em:Int:=bif decide (x0.tmod x1<0) then wI (wI (x0.tdiv x1)-1) else wI (x0.tdiv x1)
def DO:V:=vi (em x0 x1)
theorem aii (hp:x1≠0):aX cL (abk x0 x1) (DO x0 x1):=aD (by first|assumption|(simp[hp])) (aD (by first|assumption|(simp[hp])) (evBr (fun h0=>evRet (by unfold DO em;try rw[h0];rfl)) (fun h0=>evRet (by unfold DO em;try rw[h0];rfl))))
def RN:av:=bL aJ (fun
 |[.int _ x0,.int _ x1]=>x1≠0
 |_=>False) fun
 |[.int _ x0,.int _ x1]=>DO x0 x1
 |_=>.any
theorem Gn:cr RN 53:=aY tJ fun _ hp=>c9 (aai ..) (aii _ _ hp)
def abx:RT Empty:=.ob (decide (x1≠0)) (.ob (decide (x1≠0)) (.br (decide (x0.tmod x1<0)) (.ret (vi (wI (wI (x0.tdiv x1)-1)))) (.ret (vi (wI (x0.tdiv x1))))))
theorem Wa:cW cX (aV JJ zJ u0 aeD [V.agg [vi x0,vi x1]]) (abx x0 x1):=bF
def b9:Int:=bif decide (x0.tmod x1<0) then wI (wI (x0.tdiv x1)-1) else wI (x0.tdiv x1)
def Co:V:=vi (b9 x0 x1)
theorem adS (hp:x1≠0):aX cL (abx x0 x1) (Co x0 x1):=aD (by first|assumption|(simp[hp])) (aD (by first|assumption|(simp[hp])) (evBr (fun h0=>evRet (by unfold Co b9;try rw[h0];rfl)) (fun h0=>evRet (by unfold Co b9;try rw[h0];rfl))))
def OR:av:=bL [.agg aJ] (fun
 |[.agg [.int _ x0,.int _ x1]]=>x1≠0
 |_=>False) fun
 |[.agg [.int _ x0,.int _ x1]]=>Co x0 x1
 |_=>.any
theorem EO:cr OR 38:=aY tJ fun _ hp=>c9 (Wa ..) (adS _ _ hp)
def dv:Int:=bif decide (x0.tmod x1<0) then wI (wI (x0.tdiv x1)-1) else wI (x0.tdiv x1)
def FY:aZ:=(52,.con HA)::(89,.con O3)::(43,.con Uo)::(84,.con Tz)::(87,.con PN)::(53,.con RN)::(38,.con OR)::zJ
theorem Cq:aO Tryz.prog eqs its FY:=.con GB (.con OG (.con Pb (.con RF (.con Sz (.con Gn (.con EO (tJ)))))))
def ut:Int:=wI (0-rx (wI (0-x0)) x1)
def acC:RT Empty:=.obp (nz x1) (.obt (.ret (vi (wI (0-em (wI (0-x0)) x1)))))
theorem VI:cW cX (aV JJ FY u0 aeZ [vi x0,vi x1]) (acC x0 x1):=bF
def fC:Int:=wI (0-em (wI (0-x0)) x1)
def I8:V:=vi (fC x0 x1)
theorem afs (hp:x1≠0):aX cL (acC x0 x1) (I8 x0 x1):=evObp (by first|assumption|(exact hp)) (evObt (evRet (by unfold I8 fC;rfl)))
def Rf:av:=bL aJ (fun
 |[.int _ x0,.int _ x1]=>x1≠0
 |_=>False) fun
 |[.int _ x0,.int _ x1]=>I8 x0 x1
 |_=>.any
theorem FP:cr Rf 54:=aY Cq fun _ hp=>c9 (VI ..) (afs _ _ hp)
def aar:RT Empty:=.obp (nz x1) (.obt (.ret (vi (wI (0-b9 (wI (0-x0)) x1)))))
theorem VG:cW cX (aV JJ FY u0 agK [V.agg [vi x0,vi x1]]) (aar x0 x1):=bF
def b5:Int:=wI (0-b9 (wI (0-x0)) x1)
def Is:V:=vi (b5 x0 x1)
theorem aiz (hp:x1≠0):aX cL (aar x0 x1) (Is x0 x1):=evObp (by first|assumption|(exact hp)) (evObt (evRet (by unfold Is b5;rfl)))
def Po:av:=bL [.agg aJ] (fun
 |[.agg [.int _ x0,.int _ x1]]=>x1≠0
 |_=>False) fun
 |[.agg [.int _ x0,.int _ x1]]=>Is x0 x1
 |_=>.any
theorem Ez:cr Po 40:=aY Cq fun _ hp=>c9 (VG ..) (aiz _ _ hp)
def eh:Int:=wI (0-dv (wI (0-x0)) x1)
def uR:Bool:=bif decide (x0<=x1) then bif bf x0 x2 x3 then bf x1 x2 x3 else false else false
def ads:RT Empty:=.cb (.ret (V.bool !yaa x0 x1 x2))
theorem ZB:cW cX (aV JJ FY u0 Mx [vi x0,V.pd [vi x1],V.pd [vi x2]]) (ads x0 x1 x2):=bF
def qW:Bool:=!yaa x0 x1 x2
def Qn:V:=.bool (qW x0 x1 x2)
theorem ae4:aX cL (ads x0 x1 x2) (Qn x0 x1 x2):=au (evObt (evRet (by unfold Qn qW;rfl)))
def TK:av:=bL [tI,.pd ac,.pd ac] (fun _=>True) fun
 |[.int _ x0,.pd [.int _ x1],.pd [.int _ x2]]=>Qn x0 x1 x2
 |_=>.any
theorem TE:cr TK 138:=aY Cq fun _ hp=>c9 (ZB ..) (ae4 _ _ _)
theorem ajY (n:Nat) (p:Nat->Bool):en (n+1) p=bif en n p then p n else false:=by
 cases h:en n p with
 | false =>
   cases h2:en (n+1) p with
   |false=>rfl
   |true=>rw[ga fun i hi=>cq h2 i (by omega)]at h;cases h
 | true =>
   cases h3:p n with
   |false=>rw[jN n (by omega) h3];rfl
   | true=>rw[ga fun i hi=>by
      by_cases e:i=n
      ·subst e;exact h3
      ·exact cq h i (by omega)];rfl
theorem aj4 {S:Type} {Nx:S->V->Prop} {r:V} {x:RT S} {c:Bool} {i n:Nat} (h:i<n) (hn:n<=9223372036854775807) (hc:c=true->((i:Int)==0)=false) (hx:aX Nx x r):aX Nx (.obj c (decide (0<=wI ((i:Int)-1)/\wI ((i:Int)-1)<(n:Int))) x) r:=⟨fun hb=>by
 have h0:(i:Int)≠0:=by have:=hc hb;simpa using this
 exact dqt (by rw[wrapI (by omega) (by omega)];omega),hx⟩
def ris (i:Nat):Bool:=bif(i:Int)==0 then true else decide (aw (f0 (wI ((i:Int)-1)).toNat)<aw (f0 (i:Int).toNat))
def rng (i:Nat):Bool:=bf (aw (f0 (i:Int).toNat)) (-5000) 5000
inductive tn where
 |L0 (ia0:Int)
def Zs:tn->bD×List O×Option Ex
 |.L0 ia0=>([(3,vi ia0),(2,V.kb false),(0,V.sl n0 (aa ac f0))],[],none)
def agy:tn->JJ
 |.L0 ia0=>(0,[])
def NY:T (ck JJ):=aV JJ FY u0 agU [V.sl n0 (aa ac f0)]
def Di (cx:List Cx):Lp JJ:=fQ (eZ (NY n0 f0) [])
def aei:JJ->Lp JJ
 |(0,cx)=>Di n0 f0 cx
 |(_,cx)=>Di n0 f0 cx
def alq:LD JJ tn:=⟨agy,aei n0 f0,Zs n0 f0⟩
def AT:tn->RT tn
 |.L0 ia0=>.am n0 (.br (decide (ia0<(n0:Int))) (.ob (dI (wI (ia0-1)) n0) (.ob (dI ia0 n0) (.br (decide (aw (f0 ia0.toNat)<=aw (f0 (wI (ia0-1)).toNat))) (.ret (V.kb false)) (.next [] (tn.L0 (wI (ia0+1))) [])))) (.ret (V.kb true)))
def Mj:RT tn:=dm (n0,f0) (.enter [] (tn.L0 1) [])
theorem Yj:eS FY u0 (alq n0 f0) (NY n0 f0) (Mj n0 f0) (AT n0 f0):=⟨bF,fun s=>by cases s<;>exact bF⟩
def gU:Bool:=en n0 (ris f0)
theorem PK:aX (Ev (AT n0 f0)) (Mj n0 f0) (.bool (gU n0 f0)):=by
 have key:=dO (n:=n0) (P:=fun i=>1<=i->(∀ j,j<i->ris f0 j=true)->Ev (AT n0 f0) (.L0 i) (.bool (gU n0 f0))) fun i hi ih h1 hj=>by
  refine Ev.of rfl (bw fun hn=>evBr (fun h=>?_) (fun h=>evRet ?_))
  ·have hlt:i<n0:=by have:=abg h;omega
   have h0:((i:Int)==0)=false:=by simp;omega
   refine aD (dqt (by rw[wrapI (by omega) (by omega)];omega)) (aD (dqt (by omega)) (evBr (fun hb=>evRet ?_) (fun hb=>aS ?_)))
   ·have hr:ris f0 i=false:=by unfold ris;rw[h0];exact ef (by have:=abg hb;omega)
    simp only [cz];unfold gU;rw[jN i hlt hr]
   ·have hr:ris f0 i=true:=by unfold ris;rw[h0];exact dqt (by have:=abu hb;omega)
    rw [tB hlt hn]
    refine ih hlt (by omega) fun j h2=>?_
    by_cases e:j=i
    ·subst e;exact hr
    ·exact hj j (by omega)
  ·have:i=n0:=by have:=abu h;omega
   subst this
   simp only [cz];unfold gU;rw[ga hj]
 by_cases h0:n0=0
 ·subst h0;exact aM (Ev.of rfl (bw fun _=>cS rfl (evRet rfl)))
 ·exact aM (key 1 (by omega) (by omega) fun j hj=>by
   have:j=0:=by omega
   subst this;rfl)
theorem aeC:aX (Ev (AT n0 f0)) (Mj n0 f0) (.bool (gU n0 (aa ac f0))):=PK n0 f0
def NT:av:=bL [.sl ac] (fun _=>True) fun
 |[.sl n0 f0]=>.bool (gU n0 f0)
 |_=>.any
theorem Ox:cr NT 117:=aY Cq fun _ hp=>nd (Yj ..) (aeC _ _)
def HK:Bool:=bif bif bif decide ((↑s0.size:Int)<1) then true else decide (24<(↑s0.size:Int)) then true else decide ((↑(s0.data.1.getD 0 0).toNat:Int)<97) then true else decide (122<(↑(s0.data.1.getD 0 0).toNat:Int))
def uG (ii:Nat):Bool:=!bif bif bif decide (97<=(↑(s0.data.1.getD ii 0).toNat:Int)) then decide ((↑(s0.data.1.getD ii 0).toNat:Int)<=122) else false then true else bif decide (48<=(↑(s0.data.1.getD ii 0).toNat:Int)) then decide ((↑(s0.data.1.getD ii 0).toNat:Int)<=57) else false then true else(↑(s0.data.1.getD ii 0).toNat:Int)==45
def HY:Bool:=bif HK s0 then false else en s0.size fun i=>!uG s0 i
def Ja:Bool:=en n0 (rng f0)
def Vr:aZ:=(54,.con Rf)::(40,.con Po)::(138,.con TK)::(117,.con NT)::FY
theorem aaJ:aO Tryz.prog eqs its Vr:=.con FP (.con Ez (.con TE (.con Ox (Cq))))
inductive tA where
 |L0 (ia0:Int)
def Za:tA->bD×List O×Option Ex
 |.L0 ia0=>([(8,vi ia0),(7,vi (n0:Int)),(6,V.sl n0 (aa ac f0)),(4,vi 0),(0,V.sl n0 (aa ac f0)),(1,V.fn 138 [] [V.pd [vi x2],V.pd [vi x3]])],[],none)
def ah5:tA->JJ
 |.L0 ia0=>(0,[])
def MA:T (ck JJ):=aV JJ Vr u0 yaJ [V.sl n0 (aa ac f0),V.fn 138 [] [V.pd [vi x2],V.pd [vi x3]]]
def yas (cx:List Cx):Lp JJ:=fQ (eZ (MA n0 f0 x2 x3) [])
def afL:JJ->Lp JJ
 |(0,cx)=>yas n0 f0 x2 x3 cx
 |(_,cx)=>yas n0 f0 x2 x3 cx
def akw:LD JJ tA:=⟨ah5,afL n0 f0 x2 x3,Za n0 f0 x2 x3⟩
def EN:tA->RT tA
 |.L0 ia0=>.br (decide (ia0<(n0:Int))) (.ob (dI ia0 n0) (.cb (.br (qW (aw (f0 ia0.toNat)) x2 x3) (.ret (vi ia0)) (.next [] (tA.L0 (wI (ia0+1))) [])))) (.ret (vi (-1)))
def Oe:RT tA:=dm (f0,x2,x3) (.am n0 (.enter [] (tA.L0 0) []))
theorem Wh:eS Vr u0 (akw n0 f0 x2 x3) (MA n0 f0 x2 x3) (Oe n0 f0 x2 x3) (EN n0 f0 x2 x3):=⟨bF,fun s=>by cases s<;>exact bF⟩
def BV:Int  :=xJ n0 fun ii=>qW (aw (f0 ii)) x2 x3
theorem TH:aX (Ev (EN n0 f0 x2 x3)) (Oe n0 f0 x2 x3) (vi (BV n0 f0 x2 x3)):=bw fun hn=>aM (nX hn fun i=>rfl)
theorem agV:aX (Ev (EN n0 f0 x2 x3)) (Oe n0 f0 x2 x3) (vi (BV n0 (aa ac f0) x2 x3)):=TH n0 f0 x2 x3
def M1:av:=bL [.sl ac,.fn 138 [] [.pd ac,.pd ac]] (fun _=>True) fun
 |[.sl n0 f0,.fn _ [] [.pd [.int _ x2],.pd [.int _ x3]]]=>vi (BV n0 f0 x2 x3)
 |_=>.any
theorem MM:cr M1 77:=aY aaJ fun _ hp=>nd (Wh ..) (agV _ _ _ _)
def ajA:aZ:=(77,.con M1)::Vr
theorem aaA:aO Tryz.prog eqs its ajA:=.con MM (aaJ)
def aoy:RT Empty:=.cb (.ret (V.bool (decide (0<=BV n0 (aa ac f0) x2 x3))))
theorem ael:cW cX (aV JJ ajA u0 Z1 [V.sl n0 (aa ac f0),V.fn 138 [] [V.pd [vi x2],V.pd [vi x3]]]) (aoy n0 f0 x2 x3):=bF
def Ae:Bool:=decide (0<=BV n0 (aa ac f0) x2 x3)
def ajt:V:=.bool (Ae n0 f0 x2 x3)
theorem akq:aX cL (aoy n0 f0 x2 x3) (ajt n0 f0 x2 x3):=au (evObt (evRet (by unfold ajt Ae;rfl)))
def afZ:av:=bL [.sl ac,.fn 138 [] [.pd ac,.pd ac]] (fun _=>True) fun
 |[.sl n0 f0,.fn _ [] [.pd [.int _ x2],.pd [.int _ x3]]]=>ajt n0 f0 x2 x3
 |_=>.any
theorem acv:cr afZ 46:=aY aaA fun _ hp=>c9 (ael ..) (akq _ _ _ _)
def afX:aZ:=(46,.con afZ)::ajA
theorem adv:aO Tryz.prog eqs its afX:=.con acv (aaA)
def ac3:RT Empty:=.cb (.ret (V.bool !Ae n0 (aa ac f0) x2 x3))
theorem Xf:cW cX (aV JJ afX u0 Sm [V.sl n0 (aa ac f0),vi x2,vi x3]) (ac3 n0 f0 x2 x3):=bF
def dE:Bool:=!Ae n0 (aa ac f0) x2 x3
def ND:V:=.bool (dE n0 f0 x2 x3)
theorem aeg:aX cL (ac3 n0 f0 x2 x3) (ND n0 f0 x2 x3):=au (evObt (evRet (by unfold ND dE;rfl)))
def NG:av:=bL [.sl ac,tI,tI] (fun _=>True) fun
 |[.sl n0 f0,.int _ x2,.int _ x3]=>ND n0 f0 x2 x3
 |_=>.any
theorem SI:cr NG 105:=aY adv fun _ hp=>c9 (Xf ..) (aeg _ _ _ _)
def QT:aZ:=(105,.con NG)::afX
theorem G5:aO Tryz.prog eqs its QT:=.con SI (adv)
def acb:RT Empty:=dm (f0,s2,n3,f3,f5,n7,f7,x9,x10) (.am n0 (.am n5 (.ret (V.bool ((n0:Int)!=(n5:Int))))))
theorem ZM:cW cX (aV JJ QT u0 agz [V.sl n0 (aa ac f0),V.pd [V.str s2,V.sl n3 (aa ac f3),V.sl n5 (aa ac f5),V.sl n7 (aa [Ty.sl ac] f7),vi x9,vi x10]]) (acb n0 f0 s2 n3 f3 n5 f5 n7 f7 x9 x10):=bF
def uQ:Bool:=(n0:Int)!=(n5:Int)
def MX:V:=dm (f0,s2,n3,f3,f5,n7,f7,x9,x10) (.bool (uQ n0 n5))
theorem aik:aX cL (acb n0 f0 s2 n3 f3 n5 f5 n7 f7 x9 x10) (MX n0 f0 s2 n3 f3 n5 f5 n7 f7 x9 x10):=evAsm (fun a0=>evAsm (fun a0=>evRet (by unfold MX uQ;rfl)))
def IM:av:=bL [.sl ac,.pd af] (fun _=>True) fun
 |[.sl n0 f0,.pd [.str s2,.sl n3 f3,.sl n5 f5,.sl n7 f7,.int _ x9,.int _ x10]]=>MX n0 f0 s2 n3 f3 n5 f5 n7 f7 x9 x10
 |_=>.any
theorem Gr:cr IM 115:=aY G5 fun _ hp=>c9 (ZM ..) (aik _ _ _ _ _ _ _ _ _ _ _)
def acA:RT Empty:=.cb (.ret (V.bool !dE n0 (aa ac f0) 0 10000000))
theorem X6:cW cX (aV JJ QT u0 adZ [V.sl n0 (aa ac f0)]) (acA n0 f0):=bF
def iq:Bool:=!dE n0 (aa ac f0) 0 10000000
def To:V:=.bool (iq n0 f0)
theorem ae2:aX cL (acA n0 f0) (To n0 f0):=au (evObt (evRet (by unfold To iq;rfl)))
def Im:av:=bL [.sl ac] (fun _=>True) fun
 |[.sl n0 f0]=>To n0 f0
 |_=>.any
theorem FG:cr Im 116:=aY G5 fun _ hp=>c9 (X6 ..) (ae2 _ _)
end
end Go.Dx
