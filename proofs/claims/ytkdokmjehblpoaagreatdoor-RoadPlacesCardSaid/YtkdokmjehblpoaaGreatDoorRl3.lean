/- Part 3 of a proof. No conditions. -/
import Derived.Test.YtkdokmjehblpoaaGreatDoorRl2
import Derived.KernelRfl
import Derived.OpenShut
import Derived.ChangeArms
import Derived.Below
import Derived.ChangeSame
import Derived.Carry
import Derived.Laws.StructEq
import Derived.ChangeKeysEq
set_option maxRecDepth 100000
set_option linter.unusedVariables false
set_option linter.unusedSimpArgs false
namespace Go.Dx
open Go.Sx
def iM (N:Nat):List mg->Bool
 | []=>true
 | .op o::l=>bQ N [o] && iM N l
 | .yld _ d _::l=>(match d with | some d=>Nat.blt d N | none=>true) && iM N l
def ot (N:Nat):eI->Bool
 | .reg ops=>iM N ops
 | .draw ds=>pU N ds
 | .seq a b=>ot N a && ot N b
 | .cond _ a b=>ot N a && ot N b
 | .block _ b=>ot N b
 | .loop b=>ot N b
 | .scope b=>ot N b
 | _=>true
def uW:List fm->Bool
 | []=>true
 | it::l=>ot it.ntmps it.body && uW l
def pX (N:Nat):List Nat->Bool
 | []=>true
 | p::l=>Nat.blt p N && pX N l
def qH (N:Nat):OT->Bool
 | .done=>true
 | .op o r=>bQ N [o] && qH N r
 | .alt a b=>qH N a && qH N b
def dZ (N:Nat):dt->Bool
 | .reg ops=>bQ N ops
 | .draw ds=>pU N ds
 | .allo t=>qH N t
 | .seq a b=>dZ N a && dZ N b
 | .cond _ a b=>dZ N a && dZ N b
 | .block _ b=>dZ N b
 | .loop b=>dZ N b
 | .scope b=>dZ N b
 | .range _ ps a b its=>pX N ps && (dZ N a && (dZ N b && uW its))
 | _=>true
def NuN (nb:Nat) (ν ν':Nu):Prop:=(∀ k x,k < nb->ν k=some x->ν' k=some x)/\zle ν.z ν'.z
theorem NuN.refl (nb:Nat) (ν:Nu):NuN nb ν ν:=⟨fun _ _ _ h=>h,jw _⟩
theorem NuN.trans {nb:Nat} {a b c:Nu} (h:NuN nb a b) (k:NuN nb b c):NuN nb a c:=⟨fun i x hi hx=>k.1 i x hi (h.1 i x hi hx),nJ h.2 k.2⟩
theorem NuN.of {ν ν':Nu} (h:ν.sub ν') (nb:Nat):NuN nb ν ν':=⟨fun k x _ hx=>h.1 k x hx,h.2⟩
theorem NuN.sub {ν ν':Nu} {nb:Nat} (h:NuN nb ν ν') (hd:∀ k,nb<=k->ν k=none):ν.sub ν':=⟨fun k x hx=>(by
 rcases Nat.lt_or_ge k nb with hk | hk
 ·exact h.1 k x hk hx
 ·rw [hd k hk] at hx; exact absurd hx (by simp)),h.2⟩
def Ctx (w0:World) (nb N0:Nat) (e0:Env) (sl0:List ab) (ν:Nu):Prop:=∃ ν0:Nu,(∀ k,nb<=k->ν0 k=none)/\slR w0 ν0 N0 e0 sl0/\ν0.sub ν
theorem Ctx.step {w0:World} {nb N0:Nat} {e0:Env} {sl0:List ab} {ν ν':Nu} (h:Ctx w0 nb N0 e0 sl0 ν) (hn:NuN nb ν ν'):Ctx w0 nb N0 e0 sl0 ν':=by
 obtain ⟨ν0,h1,h2,h3⟩:=h
 exact ⟨ν0,h1,h2,NuN.sub ⟨fun k x hk hx=>hn.1 k x hk (h3.1 k x hx),nJ h3.2 hn.2⟩ h1⟩
theorem Ctx.get {w0:World} {nb N0:Nat} {e0:Env} {sl0:List ab} {ν:Nu} (h:Ctx w0 nb N0 e0 sl0 ν):slR w0 ν N0 e0 sl0:=let ⟨_,_,h2,h3⟩:=h; h2.mono h3
def YA (w0:World) (S:FuncId->bf) (ps:List Nat) (asg body:dt) (sl0:List ab):YH:=fun xs lh K=>xs.length=ps.length/\bj w0 S lh.length asg (gL sl0 ps xs) lh (pc (fun sl lh'=>bj w0 S lh.length body sl lh' fun x _ lh=>K x lh) fun _ _ _=>False)
abbrev vM:=Nat->FuncId->bf
def bK (w0:World) (S:vM):db:=fun fr b e h g Post=>match b with
 | .s body=>∀ (N nbS:Nat) (ν:Nu) (nV nS:Nat) (sl:List ab) (lh:List ac) (QA:Ex->List ab->List ac->Prop),dZ N body=true->slR w0 ν N e sl->HR w0 ν nV nS h lh ->
   (∀ ex e' h' ν' sl' lh' nV' nS',NuN fr.2 ν ν'->slR w0 ν' N e' sl'->HR w0 ν' nV' nS' h' lh'->Post ex e' h' none->QA ex sl' lh')->bj w0 (S fr.1) nbS (.loop body) sl lh QA
 | .i body rd=>∀ (N N0:Nat) (ν:Nu) (nV nS:Nat) (sl sl0:List ab) (lh:List ac) (QA:IQ),ot N body=true->pX N0 rd.ps=true->dZ N0 rd.asg=true->dZ N0 rd.body=true->slR w0 ν N e sl->Ctx w0 fr.2 N0 rd.e0 sl0 ν->HR w0 ν nV nS h lh ->
   (∀ ex e' h' g' ν' sl' lh' nV' nS',NuN fr.2 ν ν'->slR w0 ν' N e' sl'->HR w0 ν' nV' nS' h' lh'->Post ex e' h' g'->QA ex sl' lh' g')->gy w0 (S fr.1) rd.l (YA w0 (S fr.1) rd.ps rd.asg rd.body sl0) (.loop body) sl lh g QA
section
variable {w0:World} {S:vM} {α:Type} {Q:α->Prop} {cf:CF α} {cp:CP α}
theorem od {ν:Nu} {N:Nat}:∀ (ps:List Nat) (e:Env) (sl:List ab) (vs:List V) (az:List ab),pX N ps=true->slR w0 ν N e sl->vrs w0 ν.z ν vs az->vs.length=ps.length->slR w0 ν N (lf e ps vs) (gL sl ps az)
 | [],e,sl,vs,az,_,h,_,_=>by cases vs <;> simpa [lf,gL] using h
 | p::ps,e,sl,[],az,_,_,_,hl=>by cases hl
 | p::ps,e,sl,v::vs,az,hp,h,hv,hl=>by
   simp only [vrs] at hv
   obtain ⟨x,xs,rfl,h1,h2⟩:=hv
   simp only [pX,Bool.and_eq_true] at hp
   simp only [lf,gL]
   exact od ps _ _ vs xs hp.2 (h.set (by simpa [Nat.blt_eq] using hp.1) h1) h2 (by simpa using hl)
def Gj (w0:World) (LP:db) (Q:α->Prop) (nb N0:Nat) (e0:Env) (sl0:List ab) (Y:YV α) (YS:YH):Prop :=
 ∀ (vs:List V) (h:List O) (ν:Nu) (nV nS:Nat) (args:List ab) (lh:List ac) (K:Ex->List O->T α) (KA:Ex->List ac->Prop),Ctx w0 nb N0 e0 sl0 ν->HR w0 ν nV nS h lh->vrs w0 ν.z ν vs args->sat LP (Y vs h K) Q ->
  (∀ x h' ν' nV' nS' lh',ν.sub ν'->HR w0 ν' nV' nS' h' lh'->sat LP (K x h') Q->KA x lh')->YS args lh KA
section it
variable {LP:db} {nb N N0 lv:Nat} {rd:RD} {Y:YV α} {YS:YH} {sl0:List ab} {un:Unr}
theorem gz {S1:FuncId->bf} {l:Nat} (hcf:ph w0 S1 LP false cf) (hY:Gj w0 LP Q nb N0 rd.e0 sl0 Y YS):∀ (ops:List mg) (e:Env) (h:List O) (g:Option Ex) (ν:Nu) (nV nS:Nat) (sl:List ab) (lh:List ac) (K:Env->List O->Option Ex->T α) (KA:List ab->List ac->Option Ex->Prop),iM N ops=true ->
 slR w0 ν N e sl->Ctx w0 nb N0 rd.e0 sl0 ν->HR w0 ν nV nS h lh->sat LP (gM cf l Y ops e h g K) Q->(∀ e' h' g' ν' sl' lh' nV' nS',NuN nb ν ν'->slR w0 ν' N e' sl'->HR w0 ν' nV' nS' h' lh'->sat LP (K e' h' g') Q->KA sl' lh' g')->cN w0 S1 l YS ops sl lh g KA
 | [],e,h,g,ν,nV,nS,sl,lh,K,KA,_,h1,_,h2,h3,h4=>h4 _ _ _ _ _ _ _ _ (NuN.refl _ _) h1 h2 h3
 | .op o::rest,e,h,g,ν,nV,nS,sl,lh,K,KA,hd,h1,hx,h2,h3,h4=>by
   simp only [iM,Bool.and_eq_true] at hd
   simp only [gM] at h3
   simp only [cN]
   exact eV hcf [o] e h ν sl lh _ _ hd.1 h1 h2 h3 fun e' h' ν' sl' lh' k0 k1 k2 k3=>gz hcf hY rest e' h' g ν' nV nS sl' lh' K KA hd.2 k1 (hx.step (NuN.of k0 _)) k2 k3 fun e2 h2 g2 ν2 sl2 lh2 nV2 nS2 q0=>h4 e2 h2 g2 ν2 sl2 lh2 nV2 nS2 ((NuN.of k0 _).trans q0)
 | .yld t d xs::rest,e,h,g,ν,nV,nS,sl,lh,K,KA,hd,h1,hx,h2,h3,h4=>by
   simp only [iM,Bool.and_eq_true] at hd
   simp only [gM] at h3
   split at h3
   ·rename_i l' hy
    simp only [sat] at h3
    obtain ⟨he,h3⟩:=h3
    simp only [List.cons.injEq,V.yl.injEq,and_true] at he
    subst he
    obtain ⟨us,k1,k2⟩:=ja h1 rfl h3
    have h0:=h1.at' t
    rw [hy] at h0
    simp only [vr] at h0
    simp only [cN]
    refine ⟨trivial,h0,?_⟩
    have hdd:∀ i,d=some i->i < N:=fun i hi=>by subst hi; simpa [Nat.blt_eq] using hd.1
    refine hY us h ν nV nS _ lh _ _ hx h2 k1 k2 fun x h' ν' nV' nS' lh' g1 g2 g3=>?_
    have hp:∀ b,slR w0 ν' N (dE e d (.kb b)) (cA sl d (.bool b)):=fun b=>(h1.mono g1).put d hdd (by simp only [vr])
    cases x with
    | normal=>exact gz hcf hY rest _ h' none ν' nV' nS' _ lh' K KA hd.2 (hp true) (hx.step (NuN.of g1 _)) g2 g3 fun e2 h2 g2 ν2 sl2 lh2 nV2 nS2 q0=>h4 e2 h2 g2 ν2 sl2 lh2 nV2 nS2 ((NuN.of g1 _).trans q0)
    | exit i=>exact gz hcf hY rest _ h' _ ν' nV' nS' _ lh' K KA hd.2 (hp false) (hx.step (NuN.of g1 _)) g2 g3 fun e2 h2 g2 ν2 sl2 lh2 nV2 nS2 q0=>h4 e2 h2 g2 ν2 sl2 lh2 nV2 nS2 ((NuN.of g1 _).trans q0)
    | ret=>exact gz hcf hY rest _ h' _ ν' nV' nS' _ lh' K KA hd.2 (hp false) (hx.step (NuN.of g1 _)) g2 g3 fun e2 h2 g2 ν2 sl2 lh2 nV2 nS2 q0=>h4 e2 h2 g2 ν2 sl2 lh2 nV2 nS2 ((NuN.of g1 _).trans q0)
   ·exact h3.elim
structure IUn (w0:World) (LP:db) (Q:α->Prop) (nb N N0:Nat) (e0:Env) (sl0:List ab) (ev:Env->List O->Option Ex->(Ex->Env->List O->Option Ex->T α)->T α) (K:Ex->Env->List O->Option Ex->T α) (ν0:Nu) where
 n:Nat
 e:Env
 h:List O
 g:Option Ex
 ν:Nu
 nV:Nat
 nS:Nat
 sl:List ab
 lh:List ac
 hs:slR w0 ν N e sl
 hx:Ctx w0 nb N0 e0 sl0 ν
 hh:HR w0 ν nV nS h lh
 hn:NuN nb ν0 ν
 st:sat LP (Ff ev n e h g K) Q
theorem Az (hcf:ph w0 (S lv) (bK w0 S) false cf) (hcp:qD w0 (S lv) (bK w0 S) cp) (hp0:pX N0 rd.ps=true) (hp1:dZ N0 rd.asg=true) (hp2:dZ N0 rd.body=true) (hYS:YS=YA w0 (S lv) rd.ps rd.asg rd.body sl0) (hY:Gj w0 (bK w0 S) Q nb N0 rd.e0 sl0 Y YS):∀ (c:eI) (bi:Nat) (e:Env) (h:List O) (g:Option Ex) (ν:Nu) (nV nS:Nat) (sl:List ab) (lh:List ac) (K:Ex->Env->List O->Option Ex->T α) (KA:IQ),
 ot N c=true->slR w0 ν N e sl->Ctx w0 nb N0 rd.e0 sl0 ν->HR w0 ν nV nS h lh->sat (bK w0 S) (iT cf cp un (lv,nb) rd Y bi c e h g K) Q ->
 (∀ x e' h' g' ν' sl' lh' nV' nS',NuN nb ν ν'->slR w0 ν' N e' sl'->HR w0 ν' nV' nS' h' lh'->sat (bK w0 S) (K x e' h' g') Q->KA x sl' lh' g')->gy w0 (S lv) rd.l YS c sl lh g KA:=by
 intro c
 induction c with
 | skip=>intro bi e h g ν nV nS sl lh K KA _ h1 _ h2 h3 h4; exact h4 .normal _ _ _ _ _ _ _ _ (NuN.refl _ _) h1 h2 h3
 | reg ops =>
   intro bi e h g ν nV nS sl lh K KA hd h1 hx h2 h3 h4
   exact gz hcf hY ops e h g ν nV nS sl lh _ _ hd h1 hx h2 h3 fun e' h' g' ν' sl' lh' nV' nS' k0 k1 k2 k3=>h4 .normal _ _ _ _ _ _ _ _ k0 k1 k2 k3
 | draw ds =>
   intro bi e h g ν nV nS sl lh K KA hd h1 hx h2 h3 h4
   exact nK hcp hd h1 h2 h3 fun e' h' ν' sl' lh' _ _ k0 g1 g2 g3=>h4 .normal _ _ _ _ _ _ _ _ (NuN.of k0 _) g1 g2 g3
 | seq a b iha ihb =>
   intro bi e h g ν nV nS sl lh K KA hd h1 hx h2 h3 h4
   simp only [ot,Bool.and_eq_true] at hd
   refine iha bi e h g ν nV nS sl lh _ _ hd.1 h1 hx h2 h3 fun x e' h' g' ν' sl' lh' nV' nS' g0 g1 g2 g3=>?_
   cases x with
   | normal=>exact ihb bi e' h' g' ν' nV' nS' sl' lh' K KA hd.2 g1 (hx.step g0) g2 g3 fun x e2 h2 g2 ν2 sl2 lh2 nV2 nS2 q0=>h4 x e2 h2 g2 ν2 sl2 lh2 nV2 nS2 (g0.trans q0)
   | exit i=>exact h4 _ _ _ _ _ _ _ _ _ g0 g1 g2 g3
   | ret=>exact h4 _ _ _ _ _ _ _ _ _ g0 g1 g2 g3
 | cond c a b iha ihb =>
   intro bi e h g ν nV nS sl lh K KA hd h1 hx h2 h3 h4
   simp only [ot,Bool.and_eq_true] at hd
   simp only [iT] at h3
   have ha:=h1.arg c
   simp only [gy]
   split at h3
   ·rename_i hc
    rw [hc] at ha; simp only [vr] at ha; rw [ha]
    exact ⟨fun _=>iha bi e h g ν nV nS sl lh K KA hd.1 h1 hx h2 h3 h4,(fun he=>by cases he)⟩
   ·rename_i hc
    rw [hc] at ha; simp only [vr] at ha; rw [ha]
    exact ⟨(fun he=>by cases he),fun _=>ihb bi e h g ν nV nS sl lh K KA hd.2 h1 hx h2 h3 h4⟩
   ·rename_i t hc
    rw [hc] at ha; simp only [vr] at ha; rw [ha]
    split at h3
    ·rename_i s
     simp only [sat] at h3
     simp only [arg] at ha
     exact ⟨fun et=>iha bi _ h g ν nV nS sl lh K KA hd.1 (h1.know (by simp only [vr]; rw [ha,et])) hx h2 (h3.1 et) h4,fun et=>ihb bi _ h g ν nV nS sl lh K KA hd.2 (h1.know (by simp only [vr]; rw [ha,et])) hx h2 (h3.2 et) h4⟩
    ·simp only [sat] at h3
     exact ⟨fun et=>iha bi _ h g ν nV nS sl lh K KA hd.1 h1 hx h2 (h3.1 et) h4,fun et=>ihb bi _ h g ν nV nS sl lh K KA hd.2 h1 hx h2 (h3.2 et) h4⟩
   ·exact h3.elim
 | block id b ih =>
   intro bi e h g ν nV nS sl lh K KA hd h1 hx h2 h3 h4
   refine ih id e h g ν nV nS sl lh _ _ hd h1 hx h2 h3 fun x e' h' g' ν' sl' lh' nV' nS' g0 g1 g2 g3=>?_
   cases x with
   | normal=>exact h4 _ _ _ _ _ _ _ _ _ g0 g1 g2 g3
   | ret=>exact h4 _ _ _ _ _ _ _ _ _ g0 g1 g2 g3
   | exit i =>
     simp only [qL]
     by_cases hi:i=id
     ·subst hi; rw [if_pos rfl]; simp only [Nat.beq_refl,cond] at g3; exact h4 _ _ _ _ _ _ _ _ _ g0 g1 g2 g3
     ·rw [if_neg hi]
      have:Nat.beq i id=false:=by cases hb:Nat.beq i id with | false=>rfl | true=>exact (hi (Nat.eq_of_beq_eq_true hb)).elim
      simp only [this,cond] at g3; exact h4 _ _ _ _ _ _ _ _ _ g0 g1 g2 g3
 | loop b ih =>
   intro bi e h g ν nV nS sl lh K KA hd h1 hx h2 h3 h4
   simp only [iT] at h3
   split at h3
   ·subst hYS
    exact h3 N N0 ν nV nS sl sl0 lh KA hd hp0 hp1 hp2 h1 hx h2 h4
   ·rename_i n hn
    simp only [gy]
    refine ⟨IUn w0 (bK w0 S) Q nb N N0 rd.e0 sl0 (iT cf cp un (lv,nb) rd Y bi b) K ν,IUn.sl,IUn.lh,IUn.g,IUn.n,⟨n+1,e,h,g,ν,nV,nS,sl,lh,h1,hx,h2,NuN.refl _ _,h3⟩,rfl,rfl,rfl,fun s=>?_⟩
    have hst:=s.st
    have hsn:=s.hn
    match hm:s.n,hst with
    | 0,hst=>exact hst.elim
    | k+1,hst =>
      simp only [Ff] at hst
      refine ih bi s.e s.h s.g s.ν s.nV s.nS s.sl s.lh _ _ hd s.hs s.hx s.hh hst fun x e' h' g' ν' sl' lh' nV' nS' g0 g1 g2 g3=>?_
      cases x with
      | normal=>exact ⟨⟨k,e',h',g',ν',nV',nS',sl',lh',g1,s.hx.step g0,g2,hsn.trans g0,g3⟩,rfl,rfl,rfl,Nat.lt_succ_self k⟩
      | exit i=>exact h4 _ _ _ _ _ _ _ _ _ (hsn.trans g0) g1 g2 g3
      | ret=>exact h4 _ _ _ _ _ _ _ _ _ (hsn.trans g0) g1 g2 g3
 | exit i=>intro bi e h g ν nV nS sl lh K KA _ h1 _ h2 h3 h4; exact h4 _ _ _ _ _ _ _ _ _ (NuN.refl _ _) h1 h2 h3
 | ret=>intro bi e h g ν nV nS sl lh K KA _ h1 _ h2 h3 h4; exact h4 _ _ _ _ _ _ _ _ _ (NuN.refl _ _) h1 h2 h3
 | scope b ih=>intro bi e h g ν nV nS sl lh K KA hd h1 hx h2 h3 h4; exact ih bi e h g ν nV nS sl lh K KA hd h1 hx h2 h3 h4
end it
structure SUn (w0:World) (LP:db) (Q:α->Prop) (nb N:Nat) (ev:Env->List O->(Ex->Env->List O->T α)->T α) (K:Ex->Env->List O->T α) (ν0:Nu) where
 n:Nat
 e:Env
 h:List O
 ν:Nu
 nV:Nat
 nS:Nat
 sl:List ab
 lh:List ac
 hs:slR w0 ν N e sl
 hh:HR w0 ν nV nS h lh
 hn:NuN nb ν0 ν
 st:sat LP (evL ev n e h K) Q
theorem gj:∀ l:List ab,jj l l
 | []=>by simp [jj]
 | a::l=>by unfold jj; exact ⟨.inr rfl,gj l⟩
theorem qy:∀ {its:List fm} {it:fm},uW its=true->it ∈ its->ot it.ntmps it.body=true
 | [],_,_,h=>by cases h
 | x::l,it,h,hm=>by
   simp only [uW,Bool.and_eq_true] at h
   rcases List.mem_cons.1 hm with rfl | hm
   ·exact h.1
   ·exact qy h.2 hm
theorem pF {lh:List ac} {ν:Nu}:∀ {us:List V} {az rest:List ab} {j i:Nat},vrs w0 lh ν us az->(∀ a,a ∈ rest->True)->vr w0 lh ν (cH (Bk us j) (j+i)) ((az++rest).getD i .any)
 | [],az,rest,j,i,h,_=>by simp only [Bk,cH,vr]
 | u :: us,az,rest,j,i,h,hr=>by
   simp only [vrs] at h; obtain ⟨x,xs,rfl,h1,h2⟩:=h
   simp only [Bk]; rw [eJ]
   cases i with
   | zero=>rw [if_pos (by omega)]; simpa using h1
   | succ i =>
     rw [if_neg (by omega)]
     have:=pF (j:=j+1) (i:=i) (rest:=rest) h2 hr
     rw [show j+1+i=j+(i+1) by omega] at this
     simpa using this
theorem pL {S1:FuncId->bf} {LP:db} {N:Nat} (hcf:ph w0 S1 LP false cf):∀ (t:OT) (e:Env) (h:List O) (ν:Nu) (nV nS:Nat) (sl:List ab) (lh:List ac) (K:Env->List O->T α) (KA:List ab->List ac->Prop),qH N t=true ->
 slR w0 ν N e sl->HR w0 ν nV nS h lh->sat LP (xS cf t e h K) Q->(∀ e' h' ν' sl' lh',ν.sub ν'->slR w0 ν' N e' sl'->HR w0 ν' nV nS h' lh'->sat LP (K e' h') Q->KA sl' lh')->nZ w0 S1 t sl lh KA
 | .done,e,h,ν,nV,nS,sl,lh,K,KA,_,h1,h2,h3,h4=>h4 _ _ _ _ _ (Nu.sub_refl ν) h1 h2 h3
 | .op o r,e,h,ν,nV,nS,sl,lh,K,KA,hd,h1,h2,h3,h4=>by
   simp only [qH,Bool.and_eq_true] at hd
   simp only [xS] at h3
   simp only [nZ]
   exact eV hcf [o] e h ν sl lh _ _ hd.1 h1 h2 h3 fun e' h' ν' sl' lh' k0 k1 k2 k3=>pL hcf r e' h' ν' nV nS sl' lh' K KA hd.2 k1 k2 k3 fun e2 h2 ν2 sl2 lh2 q0=>h4 e2 h2 ν2 sl2 lh2 (Nu.sub_trans k0 q0)
 | .alt a b,e,h,ν,nV,nS,sl,lh,K,KA,hd,h1,h2,h3,h4=>by
   simp only [qH,Bool.and_eq_true] at hd
   simp only [xS,sat] at h3
   exact ⟨pL hcf a e h ν nV nS sl lh K KA hd.1 h1 h2 h3.1 h4,pL hcf b e h ν nV nS sl lh K KA hd.2 h1 h2 h3.2 h4⟩
theorem uP {lv:Nat} (hcf:ph w0 (S lv) (bK w0 S) false cf) (hcp:qD w0 (S lv) (bK w0 S) cp) {un:Unr} {N:Nat}:∀ (c:dt) (nb nbS bi:Nat) (e:Env) (h:List O) (ν:Nu) (nV nS:Nat) (sl:List ab) (lh:List ac) (K:Ex->Env->List O->T α) (KA:Ex->List ab->List ac->Prop),
 dZ N c=true->slR w0 ν N e sl->HR w0 ν nV nS h lh->sat (bK w0 S) (evC cf cp un (lv,nb) bi c e h K) Q ->
 (∀ x e' h' ν' sl' lh' nV' nS',NuN nb ν ν'->slR w0 ν' N e' sl'->HR w0 ν' nV' nS' h' lh'->sat (bK w0 S) (K x e' h') Q->KA x sl' lh')->bj w0 (S lv) nbS c sl lh KA:=by
 intro c
 induction c with
 | skip=>intro nb nbS bi e h ν nV nS sl lh K KA _ h1 h2 h3 h4; exact h4 .normal _ _ _ _ _ _ _ (NuN.refl _ _) h1 h2 h3
 | reg ops =>
   intro nb nbS bi e h ν nV nS sl lh K KA hd h1 h2 h3 h4
   exact eV hcf ops e h ν sl lh _ _ hd h1 h2 h3 fun e' h' ν' sl' lh' g0 g1 g2 g3=>h4 .normal _ _ _ _ _ _ _ (NuN.of g0 _) g1 g2 g3
 | allo t =>
   intro nb nbS bi e h ν nV nS sl lh K KA hd h1 h2 h3 h4
   exact pL hcf t e h ν nV nS sl lh _ _ hd h1 h2 h3 fun e' h' ν' sl' lh' g0 g1 g2 g3=>h4 .normal _ _ _ _ _ _ _ (NuN.of g0 _) g1 g2 g3
 | draw ds =>
   intro nb nbS bi e h ν nV nS sl lh K KA hd h1 h2 h3 h4
   exact nK hcp hd h1 h2 h3 fun e' h' ν' sl' lh' _ _ g0 g1 g2 g3=>h4 .normal _ _ _ _ _ _ _ (NuN.of g0 _) g1 g2 g3
 | seq a b iha ihb =>
   intro nb nbS bi e h ν nV nS sl lh K KA hd h1 h2 h3 h4
   simp only [dZ,Bool.and_eq_true] at hd
   refine iha nb nbS bi e h ν nV nS sl lh _ _ hd.1 h1 h2 h3 fun x e' h' ν' sl' lh' nV' nS' g0 g1 g2 g3=>?_
   cases x with
   | normal=>exact ihb nb nbS bi e' h' ν' nV' nS' sl' lh' K KA hd.2 g1 g2 g3 fun x e2 h2 ν2 sl2 lh2 nV2 nS2 q0=>h4 x e2 h2 ν2 sl2 lh2 nV2 nS2 (g0.trans q0)
   | exit i=>exact h4 _ _ _ _ _ _ _ _ g0 g1 g2 g3
   | ret=>exact h4 _ _ _ _ _ _ _ _ g0 g1 g2 g3
 | cond c a b iha ihb =>
   intro nb nbS bi e h ν nV nS sl lh K KA hd h1 h2 h3 h4
   simp only [dZ,Bool.and_eq_true] at hd
   simp only [evC] at h3
   have ha:=h1.arg c
   simp only [bj]
   split at h3
   ·rename_i hc
    rw [hc] at ha; simp only [vr] at ha; rw [ha]
    exact ⟨fun _=>iha nb nbS bi e h ν nV nS sl lh K KA hd.1 h1 h2 h3 h4,(fun he=>by cases he)⟩
   ·rename_i hc
    rw [hc] at ha; simp only [vr] at ha; rw [ha]
    exact ⟨(fun he=>by cases he),fun _=>ihb nb nbS bi e h ν nV nS sl lh K KA hd.2 h1 h2 h3 h4⟩
   ·rename_i t hc
    rw [hc] at ha; simp only [vr] at ha; rw [ha]
    split at h3
    ·rename_i s
     simp only [sat] at h3
     simp only [arg] at ha
     exact ⟨fun et=>iha nb nbS bi _ h ν nV nS sl lh K KA hd.1 (h1.know (by simp only [vr]; rw [ha,et])) h2 (h3.1 et) h4,fun et=>ihb nb nbS bi _ h ν nV nS sl lh K KA hd.2 (h1.know (by simp only [vr]; rw [ha,et])) h2 (h3.2 et) h4⟩
    ·simp only [sat] at h3
     exact ⟨fun et=>iha nb nbS bi _ h ν nV nS sl lh K KA hd.1 h1 h2 (h3.1 et) h4,fun et=>ihb nb nbS bi _ h ν nV nS sl lh K KA hd.2 h1 h2 (h3.2 et) h4⟩
   ·exact h3.elim
 | block id b ih =>
   intro nb nbS bi e h ν nV nS sl lh K KA hd h1 h2 h3 h4
   refine ih nb nbS id e h ν nV nS sl lh _ _ hd h1 h2 h3 fun x e' h' ν' sl' lh' nV' nS' g0 g1 g2 g3=>?_
   cases x with
   | normal=>exact h4 _ _ _ _ _ _ _ _ g0 g1 g2 g3
   | ret=>exact h4 _ _ _ _ _ _ _ _ g0 g1 g2 g3
   | exit i =>
     simp only [rb]
     by_cases hi:i=id
     ·subst hi; rw [if_pos rfl]; simp only [Nat.beq_refl,cond] at g3; exact h4 _ _ _ _ _ _ _ _ g0 g1 g2 g3
     ·rw [if_neg hi]
      have:Nat.beq i id=false:=by cases hb:Nat.beq i id with | false=>rfl | true=>exact (hi (Nat.eq_of_beq_eq_true hb)).elim
      simp only [this,cond] at g3; exact h4 _ _ _ _ _ _ _ _ g0 g1 g2 g3
 | loop b ih =>
   intro nb nbS bi e h ν nV nS sl lh K KA hd h1 h2 h3 h4
   simp only [evC] at h3
   split at h3
   ·exact h3 N nbS ν nV nS sl lh KA hd h1 h2 h4
   ·rename_i n hn
    simp only [bj]
    refine ⟨SUn w0 (bK w0 S) Q nb N (evC cf cp un (lv,nb) bi b) K ν,SUn.sl,SUn.lh,SUn.n,⟨n+1,e,h,ν,nV,nS,sl,lh,h1,h2,NuN.refl _ _,h3⟩,.inl ⟨rfl,gj _⟩,fun s=>?_⟩
    have hst:=s.st
    have hsn:=s.hn
    match hm:s.n,hst with
    | 0,hst=>exact hst.elim
    | k+1,hst =>
      simp only [evL] at hst
      refine ih nb nbS bi s.e s.h s.ν s.nV s.nS s.sl s.lh _ _ hd s.hs s.hh hst fun x e' h' ν' sl' lh' nV' nS' g0 g1 g2 g3=>?_
      cases x with
      | normal=>exact ⟨⟨k,e',h',ν',nV',nS',sl',lh',g1,g2,hsn.trans g0,g3⟩,.inl ⟨rfl,gj _⟩,Nat.lt_succ_self k⟩
      | exit i=>exact h4 _ _ _ _ _ _ _ _ (hsn.trans g0) g1 g2 g3
      | ret=>exact h4 _ _ _ _ _ _ _ _ (hsn.trans g0) g1 g2 g3
 | exit i=>intro nb nbS bi e h ν nV nS sl lh K KA _ h1 h2 h3 h4; exact h4 _ _ _ _ _ _ _ _ (NuN.refl _ _) h1 h2 h3
 | ret=>intro nb nbS bi e h ν nV nS sl lh K KA _ h1 h2 h3 h4; exact h4 _ _ _ _ _ _ _ _ (NuN.refl _ _) h1 h2 h3
 | scope b ih=>intro nb nbS bi e h ν nV nS sl lh K KA hd h1 h2 h3 h4; exact ih nb nbS bi e h ν nV nS sl lh K KA hd h1 h2 h3 h4
 | range gop ps asg body its iha ihb =>
   intro nb nbS bi e h ν nV nS sl lh K KA hd h1 h2 h3 h4
   simp only [dZ,Bool.and_eq_true] at hd
   simp only [evC] at h3
   have ha:=h1.arg gop
   simp only [bj]
   split at h3
   ·rename_i f ys hg
    rw [hg] at ha
    simp only [vr,vrs] at ha
    obtain ⟨us,vs,hav,rfl,hys⟩:=ha
    rw [hav]
    dsimp only
    split at h3
    ·rename_i it hit
     rw [hit]
     dsimp only
     cases hb:Nat.ble (aY ys+1) it.ntmps with
     | false=>rw [hb] at h3; exact h3.elim
     | true =>
       rw [hb] at h3
       simp only [cond,sat] at h3
       have hle:=Nat.le_of_ble_eq_true hb
       rw [ba] at hle
       have hl:=aU hys
       intro l
       have hdom:∀ k,aY h<=k->ν k=none:=fun k hk=>h2.dom k (by rw [← ba]; exact hk)
       have hctx:Ctx w0 (aY h) N e sl ν:=⟨ν,hdom,h1,Nu.sub_refl ν⟩
       have hY:Gj w0 (bK w0 S) Q (aY h) N e sl (fun vs h K=>cond (Nat.beq (aY vs) (aY ps)) (evC cf cp un (lv,aY h) bi asg (lf e ps vs) h fun x e1 h1=>match x with
        | .normal=>evC cf cp un (lv,aY h) bi body e1 h1 fun x _ h2=>K x h2
        | _=>.fail 94) (.fail 95)) (YA w0 (S lv) ps asg body sl):=by
        intro vs h ν nV nS args lh K KA hx hh hv hs hK
        dsimp only at hs
        cases hb:Nat.beq (aY vs) (aY ps) with
        | false=>rw [hb] at hs; exact hs.elim
        | true =>
          rw [hb] at hs
          simp only [cond] at hs
          have hlen:=Nat.eq_of_beq_eq_true hb
          rw [ba,ba] at hlen
          have hdom:∀ k,aY h<=k->ν k=none:=fun k hk=>hh.dom k (by rw [← ba]; exact hk)
          refine ⟨by rw [aU hv]; exact hlen,?_⟩
          refine iha (aY h) _ bi _ h ν nV nS _ lh _ _ hd.2.1 (od ps e sl vs args hd.1 hx.get hv hlen) hh hs fun x e' h' ν' sl' lh' nV' nS' g0 g1 g2 g3=>?_
          cases x with
          | normal=>exact ihb (aY h) _ bi _ h' ν' nV' nS' _ lh' _ _ hd.2.2.1 g1 g2 g3 fun x e2 h2 ν2 sl2 lh2 nV2 nS2 q0 q1 q2 q3=>hK x h2 ν2 nV2 nS2 lh2 ((g0.trans q0).sub hdom) q2 q3
          | exit i=>exact g3.elim
          | ret=>exact g3.elim
       refine Az (rd:=⟨ps,asg,body,e,l⟩) (Y:=_) (sl0:=sl) (nb:=aY h) hcf hcp hd.1 hd.2.1 hd.2.2.1 rfl hY it.body 0 _ h none ν nV nS _ lh _ _ (qy hd.2.2.2 (kk hit).1) ⟨by simp; omega,fun i=>?_⟩ hctx h2 (h3 l) fun x e' h' g' ν' sl' lh' nV' nS' g0 g1 g2 g3=>?_
       ·rw [eJ]
        cases i with
        | zero=>simp [vr]
        | succ i =>
          rw [if_neg (by omega)]
          have:=pF (j:=1) (i:=i) (rest:=List.replicate (it.ntmps - (vs.length+1)) .any) hys (fun _ _=>trivial)
          rw [show 1+i=i+1 by omega] at this
          simpa using this
       ·have hsub:=g0.sub hdom
        cases x with
        | exit i=>exact g3.elim
        | normal =>
          cases g' with
          | none=>exact h4 .normal e h' ν' sl lh' nV' nS' (NuN.of hsub _) (h1.mono hsub) g2 g3
          | some x=>exact h4 x e h' ν' sl lh' nV' nS' (NuN.of hsub _) (h1.mono hsub) g2 g3
        | ret =>
          cases g' with
          | none=>exact h4 .normal e h' ν' sl lh' nV' nS' (NuN.of hsub _) (h1.mono hsub) g2 g3
          | some x=>exact h4 x e h' ν' sl lh' nV' nS' (NuN.of hsub _) (h1.mono hsub) g2 g3
    ·exact h3.elim
   ·exact h3.elim
theorem jN {LP:db} {ν:Nu} {nV nS N:Nat} {e:Env} {h:List O} {sl:List ab} {lh:List ac} (h1:slR w0 ν N e sl) (h2:HR w0 ν nV nS h lh):∀ (rs:List tV) (K:List V->T α) (KA:List ab->Prop),sat LP (oL e h rs K) Q ->
 (∀ us az,vrs w0 ν.z ν us az->sat LP (K us) Q->KA az)->fj w0 sl lh rs KA
 | [],K,KA,hs,hK=>hK [] [] (by simp only [vrs]) hs
 | .tmp t::l,K,KA,hs,hK=>by
   simp only [oL] at hs
   obtain ⟨u,g1,g2⟩:=Cr rfl (h1.at' t) hs
   exact jN h1 h2 l _ _ g2 fun us az g3 g4=>hK (u::us) _ (by simp only [vrs]; exact ⟨_,_,rfl,g1,g3⟩) g4
 | .cell t n::l,K,KA,hs,hK=>by
   cases n with
   | none =>
     simp only [oL] at hs
     obtain ⟨g0,hs⟩:=pY rfl hs
     split at hs
     ·rename_i v hv
      obtain ⟨p,x,e1,e2,e3⟩:=xQ h2 (h1.at' t) hv g0
      simp only [fj,e1]
      exact ⟨x,e2,jN h1 h2 l _ _ hs fun us az g3 g4=>hK (v::us) _ (by simp only [vrs]; exact ⟨_,_,rfl,e3,g3⟩) g4⟩
     ·exact hs.elim
   | some n =>
     simp only [oL] at hs
     obtain ⟨g0,hs⟩:=pY rfl hs
     split at hs
     ·rename_i cs hv
      obtain ⟨p,x,e1,e2,e3⟩:=AE h2 (h1.at' t) hv g0
      simp only [fj,e1]
      exact ⟨x,e2,jN h1 h2 l _ _ hs fun us az g3 g4=>hK (.agg cs::us) _ (by simp only [vrs]; exact ⟨_,_,rfl,by simp only [vr]; exact ⟨_,rfl,e3⟩,g3⟩) g4⟩
     ·exact hs.elim
theorem AO {lh:List ac} {ν:Nu}:∀ {us:List V} {az:List ab},vrs w0 lh ν us az->vr w0 lh ν (nU us) (mG az)
 | [],az,h=>by simp only [vrs] at h; subst h; simp only [nU,mG,vr]; exact ⟨_,rfl,by simp only [vrs]⟩
 | [u],az,h=>by simp only [vrs] at h; obtain ⟨x,xs,rfl,h1,rfl⟩:=h; exact h1
 | u::v::us,az,h=>by
   have h':=h
   simp only [vrs] at h; obtain ⟨x,xs,rfl,h1,y,ys,rfl,h2⟩:=h
   simp only [nU,mG,vr]; exact ⟨_,rfl,h'⟩
theorem HR.none (w0:World):HR w0 Nu.nil 0 0 [] []:=⟨(fun k o h=>by simp at h),(fun k k' x x' _ _ h=>by cases h),(fun _ _=>rfl),(fun k x h=>by cases h),zF _,(fun k x _ h=>by cases h)⟩
theorem qm {lv:Nat} (hcf:ph w0 (S lv) (bK w0 S) false cf) (hcp:qD w0 (S lv) (bK w0 S) cp) {un:Unr} {sf:aE} {args:List V} {az:List ab} {h:List O} {lh:List ac} {ν:Nu} {nV nS:Nat} {K:V->List O->T α} {KA:ab->List ac->Prop} (hd:dZ sf.ntmps sf.body=true)
 (ha:vrs w0 ν.z ν args az) (hh:HR w0 ν nV nS h lh) (hs:sat (bK w0 S) (kF cf cp un lv sf args h K) Q)
 (hK:∀ v h' ν' a lh',ν.sub ν'->(∀ nV nS,HR w0 ν' nV nS h' lh')->vr w0 ν'.z ν' v a->sat (bK w0 S) (K v h') Q->KA a lh'):AI w0 (S lv) sf az lh KA:=by
 unfold kF at hs
 cases hb:Nat.ble (aY args) sf.ntmps with
 | false=>rw [hb] at hs; exact hs.elim
 | true =>
   rw [hb] at hs
   simp only [cond] at hs
   have hle:=Nat.le_of_ble_eq_true hb
   rw [ba] at hle
   have hl:=aU ha
   have hdom:∀ k,aY h<=k->ν k=none:=fun k hk=>hh.dom k (by rw [← ba]; exact hk)
   unfold AI
   refine uP hcf hcp sf.body (aY h) _ 0 _ h ν nV nS _ lh _ _ hd ⟨by simp; omega,fun i=>?_⟩ hh hs fun x e' h' ν' sl' lh' nV' nS' g0 g1 g2 g3=>?_
   ·have:=pF (j:=0) (i:=i) (rest:=List.replicate (sf.ntmps - az.length) .any) ha (fun _ _=>trivial)
    rwa [Nat.zero_add] at this
   ·cases x with
    | exit i=>exact g3.elim
    | normal=>exact jN g1 g2 _ _ _ g3 fun us vs k1 k2=>hK _ _ ν' _ _ (g0.sub hdom) (fun a b=>g2.undead a b) (AO k1) k2
    | ret=>exact jN g1 g2 _ _ _ g3 fun us vs k1 k2=>hK _ _ ν' _ _ (g0.sub hdom) (fun a b=>g2.undead a b) (AO k1) k2
def eq (w0:World) (nb:Nat) (e:Env) (h:List O) (e1:Env) (h1:List O):Prop :=
 ∀ (N:Nat) (ν:Nu) (nV nS:Nat) (sl:List ab) (lh:List ac),slR w0 ν N e sl->HR w0 ν nV nS h lh->∃ ν1 nV1 nS1,NuN nb ν ν1/\slR w0 ν1 N e1 sl/\HR w0 ν1 nV1 nS1 h1 lh
structure LSt (w0:World) (nb N:Nat) (I:Type) (inv:I->Env × List O) (ν0:Nu) where
 i:I
 ν:Nu
 nV:Nat
 nS:Nat
 sl:List ab
 lh:List ac
 hs:slR w0 ν N (inv i).1 sl
 hh:HR w0 ν nV nS (inv i).2 lh
 hn:NuN nb ν0 ν
theorem F5 {fr:Nat × Nat} {cf:CF (Ex × Env × List O)} {cp:CP (Ex × Env × List O)} (hcf:ph w0 (S fr.1) (bK w0 S) false cf) (hcp:qD w0 (S fr.1) (bK w0 S) cp) {un:Unr} {bi:Nat} {body:dt} {e:Env} {h:List O} {Post:Ex->Env->List O->Option Ex->Prop}
 (I:Type) (inv:I->Env × List O) (μ:I->Nat) (h0:∃ i,eq w0 fr.2 e h (inv i).1 (inv i).2)
 (round:∀ i,sat (bK w0 S) (evC cf cp un fr bi body (inv i).1 (inv i).2 fun x e h=>.ret (x,e,h)) fun r=>match r.1 with
   | .normal=>∃ i',eq w0 fr.2 r.2.1 r.2.2 (inv i').1 (inv i').2/\μ i' < μ i
   | x=>Post x r.2.1 r.2.2 none):bK w0 S fr (.s body) e h none Post:=by
 intro N nbS ν nV nS sl lh QA hd h1 h2 hQ
 obtain ⟨i0,hi0⟩:=h0
 obtain ⟨ν1,nV1,nS1,g0,g1,g2⟩:=hi0 N ν nV nS sl lh h1 h2
 simp only [bj]
 refine ⟨LSt w0 fr.2 N I inv ν,fun s=>s.sl,fun s=>s.lh,fun s=>μ s.i,⟨i0,ν1,nV1,nS1,sl,lh,g1,g2,g0⟩,.inl ⟨rfl,gj _⟩,fun s=>?_⟩
 refine uP hcf hcp body fr.2 nbS bi _ _ s.ν s.nV s.nS s.sl s.lh _ _ hd s.hs s.hh (round s.i) fun x e' h' ν' sl' lh' nV' nS' k0 k1 k2 k3=>?_
 simp only [sat] at k3
 cases x with
 | normal =>
   obtain ⟨i',k4,k5⟩:=k3
   obtain ⟨ν2,nV2,nS2,k8,k6,k7⟩:=k4 N ν' nV' nS' sl' lh' k1 k2
   exact ⟨⟨i',ν2,nV2,nS2,sl',lh',k6,k7,(s.hn.trans k0).trans k8⟩,.inl ⟨rfl,gj _⟩,k5⟩
 | exit i=>exact hQ _ _ _ _ _ _ _ _ (s.hn.trans k0) k1 k2 k3
 | ret=>exact hQ _ _ _ _ _ _ _ _ (s.hn.trans k0) k1 k2 k3
structure Qu (w0:World) (nb N:Nat) (I:Type) (inv:I->Env × List O × Option Ex) (ν0:Nu) where
 i:I
 ν:Nu
 nV:Nat
 nS:Nat
 sl:List ab
 lh:List ac
 hs:slR w0 ν N (inv i).1 sl
 hh:HR w0 ν nV nS (inv i).2.1 lh
 hn:NuN nb ν0 ν
def rdY (cf:CF α) (cp:CP α) (un:Unr) (lv bi:Nat) (rd:RD):YV α:=fun vs h K=>cond (Nat.beq (aY vs) (aY rd.ps)) (evC cf cp un (lv,aY h) bi rd.asg (lf rd.e0 rd.ps vs) h fun x e1 h1=>match x with
 | .normal=>evC cf cp un (lv,aY h) bi rd.body e1 h1 fun x _ h2=>K x h2
 | _=>.fail 94) (.fail 95)
theorem JU {lv bi:Nat} {un:Unr} {rd:RD} {nb N:Nat} {sl:List ab} (hcf:ph w0 (S lv) (bK w0 S) false cf) (hcp:qD w0 (S lv) (bK w0 S) cp) (h0:pX N rd.ps=true) (h1:dZ N rd.asg=true) (h2:dZ N rd.body=true) :
 Gj w0 (bK w0 S) Q nb N rd.e0 sl (rdY cf cp un lv bi rd) (YA w0 (S lv) rd.ps rd.asg rd.body sl):=by
 intro vs h ν nV nS args lh K KA hx hh hv hs hK
 unfold rdY at hs
 cases hb:Nat.beq (aY vs) (aY rd.ps) with
 | false=>rw [hb] at hs; exact hs.elim
 | true =>
   rw [hb] at hs
   simp only [cond] at hs
   have hlen:=Nat.eq_of_beq_eq_true hb
   rw [ba,ba] at hlen
   have hdom:∀ k,aY h<=k->ν k=none:=fun k hk=>hh.dom k (by rw [← ba]; exact hk)
   refine ⟨by rw [aU hv]; exact hlen,?_⟩
   refine uP hcf hcp rd.asg (aY h) _ bi _ h ν nV nS _ lh _ _ h1 (od rd.ps rd.e0 sl vs args h0 hx.get hv hlen) hh hs fun x e' h' ν' sl' lh' nV' nS' g0 g1 g2 g3=>?_
   cases x with
   | normal=>exact uP hcf hcp rd.body (aY h) _ bi _ h' ν' nV' nS' _ lh' _ _ h2 g1 g2 g3 fun x e2 h2 ν2 sl2 lh2 nV2 nS2 q0 q1 q2 q3=>hK x h2 ν2 nV2 nS2 lh2 ((g0.trans q0).sub hdom) q2 q3
   | exit i=>exact g3.elim
   | ret=>exact g3.elim
theorem CY {fr:Nat × Nat} {cf:CF (Ex × Env × List O × Option Ex)} {cp:CP (Ex × Env × List O × Option Ex)} (hcf:ph w0 (S fr.1) (bK w0 S) false cf) (hcp:qD w0 (S fr.1) (bK w0 S) cp) {un:Unr} {bi bi':Nat} {body:eI} {rd:RD} {e:Env} {h:List O} {g:Option Ex} {Post:Ex->Env->List O->Option Ex->Prop}
 (I:Type) (inv:I->Env × List O × Option Ex) (μ:I->Nat) (h0:∃ i,g=(inv i).2.2/\eq w0 fr.2 e h (inv i).1 (inv i).2.1)
 (round:∀ i,sat (bK w0 S) (iT cf cp un fr rd (rdY cf cp un fr.1 bi' rd) bi body (inv i).1 (inv i).2.1 (inv i).2.2 fun x e h g=>.ret (x,e,h,g)) fun r=>match r.1 with
   | .normal=>∃ i',r.2.2.2=(inv i').2.2/\eq w0 fr.2 r.2.1 r.2.2.1 (inv i').1 (inv i').2.1/\μ i' < μ i
   | x=>Post x r.2.1 r.2.2.1 r.2.2.2):bK w0 S fr (.i body rd) e h g Post:=by
 intro N N0 ν nV nS sl sl0 lh QA hd hp0 hp1 hp2 h1 hx h2 hQ
 obtain ⟨i0,rfl,hi0⟩:=h0
 obtain ⟨ν1,nV1,nS1,g0,g1,g2⟩:=hi0 N ν nV nS sl lh h1 h2
 simp only [gy]
 refine ⟨Qu w0 fr.2 N I inv ν,fun s=>s.sl,fun s=>s.lh,fun s=>(inv s.i).2.2,fun s=>μ s.i,⟨i0,ν1,nV1,nS1,sl,lh,g1,g2,g0⟩,rfl,rfl,rfl,fun s=>?_⟩
 refine Az (Y:=rdY cf cp un fr.1 bi' rd) (sl0:=sl0) hcf hcp hp0 hp1 hp2 rfl (JU hcf hcp hp0 hp1 hp2) body bi _ _ _ s.ν s.nV s.nS s.sl s.lh _ _ hd s.hs (hx.step s.hn) s.hh (round s.i) fun x e' h' g' ν' sl' lh' nV' nS' k0 k1 k2 k3=>?_
 simp only [sat] at k3
 cases x with
 | normal =>
   obtain ⟨i',k9,k4,k5⟩:=k3
   obtain ⟨ν2,nV2,nS2,k8,k6,k7⟩:=k4 N ν' nV' nS' sl' lh' k1 k2
   exact ⟨⟨i',ν2,nV2,nS2,sl',lh',k6,k7,(s.hn.trans k0).trans k8⟩,rfl,rfl,k9,k5⟩
 | exit i=>exact hQ _ _ _ _ _ _ _ _ _ (s.hn.trans k0) k1 k2 k3
 | ret=>exact hQ _ _ _ _ _ _ _ _ _ (s.hn.trans k0) k1 k2 k3
end
section
variable {B:bm} {m:ao} {lh:List ac} {w:World}
mutual
theorem ce (h:aw B m lh w):∀ (d:V) (x:ab) (u:Value),d.fc=true->vr B.w0 lh Nu.nil d x->vrel m x u->vr w [] Nu.nil d (aS u)
 | .int ..,x,u,_,hd,hv=>by simp only [vr] at hd; subst hd; simp only [vrel] at hv; subst hv; simp only [aS,vr]
 | .bool _,x,u,_,hd,hv=>by simp only [vr] at hd; subst hd; simp only [vrel] at hv; subst hv; simp only [aS,vr]
 | .kb _,x,u,_,hd,hv=>by simp only [vr] at hd; subst hd; simp only [vrel] at hv; subst hv; simp only [aS,vr]
 | .str _,x,u,_,hd,hv=>by simp only [vr] at hd; subst hd; simp only [vrel] at hv; subst hv; simp only [aS,vr]
 | .agg _,_,_,hc,_,_=>by cases hc
 | .tup _,_,_,hc,_,_=>by cases hc
 | .fn ..,_,_,hc,_,_=>by cases hc
 | .gd ..,_,_,hc,_,_=>by cases hc
 | .yl _,_,_,hc,_,_=>by cases hc
 | .sl n f,x,u,_,hd,hv=>by
   simp only [vr] at hd ⊢
   obtain ⟨p,c,esz,rfl,h2,h3,h4,h5⟩:=hd
   simp only [vrel] at hv
   obtain ⟨q,rfl,hq⟩:=hv
   refine ⟨q.map .g,c,esz,by cases q <;> rfl,h2,h3,by cases q <;> trivial,fun i hi=>?_⟩
   obtain ⟨p',az,rfl,g2,g3,g4⟩:=h5 i hi
   obtain ⟨a,us,hqa,k1,k2⟩:=rB (q:=q.map fun a=>a.add (i * esz)) h (by
    cases p' with
    | g a=>simp only [bN] at hq; subst hq; simp [bN,Ptr.add]
    | l k off=>simp only [bN] at hq; obtain ⟨b,e1,rfl⟩:=hq; simp only [bN,Ptr.add]; exact ⟨b,e1,by simp [Addr.add]⟩) g2
   cases q with
   | none=>cases hqa
   | some a0 =>
     simp at hqa
     subst hqa
     exact ⟨.g a0,_,rfl,k1,j8 h (f i) az us g4 g3 k2,g4⟩
 | .sq n m f,x,u,_,hd,hv=>by
   simp only [vr] at hd ⊢
   obtain ⟨p,c,esz,rfl,h2,h3,h4,h5⟩:=hd
   simp only [vrel] at hv
   obtain ⟨q,rfl,hq⟩:=hv
   refine ⟨q.map .g,c,esz,by cases q <;> rfl,h2,h3,by cases q <;> trivial,fun i hi=>?_⟩
   obtain ⟨p',az,rfl,g2,g3,g4⟩:=h5 i hi
   obtain ⟨a,us,hqa,k1,k2⟩:=rB (q:=q.map fun a=>a.add (i * esz)) h (by
    cases p' with
    | g a=>simp only [bN] at hq; subst hq; simp [bN,Ptr.add]
    | l k off=>simp only [bN] at hq; obtain ⟨b,e1,rfl⟩:=hq; simp only [bN,Ptr.add]; exact ⟨b,e1,by simp [Addr.add]⟩) g2
   cases q with
   | none=>cases hqa
   | some a0 =>
     simp at hqa
     subst hqa
     exact ⟨.g a0,_,rfl,k1,j8 h (f i) az us g4 g3 k2,g4⟩
 | .pd cs,x,u,_,hd,hv=>by
   simp only [vr] at hd ⊢
   obtain ⟨p,az,rfl,_,h3,h4,h5⟩:=hd
   simp only [vrel] at hv
   obtain ⟨q,rfl,hq⟩:=hv
   obtain ⟨a,us,rfl,k1,k2⟩:=rB h hq h3
   exact ⟨.g a,_,rfl,trivial,k1,j8 h cs az us h5 h4 k2,h5⟩
 | .pl k off,x,u,_,hd,hv=>by simp only [vr] at hd; obtain ⟨b,c,e,h1,h2⟩:=hd; cases h1
 | .pe k i j,x,u,_,hd,hv=>by simp only [vr] at hd; obtain ⟨b,c,e,h1,h2⟩:=hd; cases h1
 | .ss k off n c,x,u,_,hd,hv=>by simp only [vr] at hd; obtain ⟨b,c,e,h1,h2⟩:=hd; cases h1
 | .gs k n,x,u,_,hd,hv=>by simp only [vr] at hd; rcases hd with ⟨h1,_⟩ | ⟨b,c,e,h1,_⟩ <;> cases h1
 | .go k off n,x,u,_,hd,hv=>by simp only [vr] at hd; rcases hd with ⟨h1,_⟩ | ⟨b,c,e,o,h1,_⟩ <;> cases h1
 | .ns,x,u,_,hd,hv=>by simp only [vr] at hd; subst hd; simp only [vrel,bN] at hv; obtain ⟨q,rfl,rfl⟩:=hv; simp only [aS,vr]
 | .np,x,u,_,hd,hv=>by simp only [vr] at hd; subst hd; simp only [vrel,bN] at hv; obtain ⟨q,rfl,rfl⟩:=hv; simp only [aS,vr]
 | .any,x,u,_,hd,hv=>by simp only [vr]
theorem j8 (h:aw B m lh w):∀ (ds:List V) (xs:List ab) (us:List Value),ds.all V.fc=true->vrs B.w0 lh Nu.nil ds xs->af m xs us->vrs w [] Nu.nil ds (us.map aS)
 | [],xs,us,_,hd,hv=>by simp only [vrs] at hd; subst hd; simp only [af] at hv; subst hv; simp only [vrs,List.map_nil]
 | d::ds,xs,us,hc,hd,hv=>by
   simp only [List.all_cons,Bool.and_eq_true] at hc
   simp only [vrs] at hd
   obtain ⟨x,xs',rfl,h2,h3⟩:=hd
   simp only [af] at hv
   obtain ⟨u,us',rfl,h4,h5⟩:=hv
   simp only [List.map_cons,vrs]
   exact ⟨_,_,rfl,ce h d x u hc.1 h2 h4,j8 h ds xs' us' hc.2 h3 h5⟩
end
mutual
theorem AY (h:aw B m lh w):∀ (d:V) (x:ab) (u:Value),vr B.w0 lh Nu.nil d x->vrel m x u->∃ x',vrel (fun _=>none) x' u/\vr w [] Nu.nil d x'
 | .agg cs,x,u,hd,hv=>by
   simp only [vr] at hd
   obtain ⟨az,rfl,h1⟩:=hd
   simp only [vrel] at hv
   obtain ⟨us,rfl,h2⟩:=hv
   obtain ⟨xs',g1,g2⟩:=eT h cs az us.toList h1 h2
   exact ⟨.agg xs',by simp only [vrel]; exact ⟨us,rfl,g1⟩,by simp only [vr]; exact ⟨_,rfl,g2⟩⟩
 | .tup cs,x,u,hd,hv=>by
   simp only [vr] at hd
   obtain ⟨az,rfl,h1⟩:=hd
   simp only [vrel] at hv
   obtain ⟨us,rfl,h2⟩:=hv
   obtain ⟨xs',g1,g2⟩:=eT h cs az us.toList h1 h2
   exact ⟨.tup xs',by simp only [vrel]; exact ⟨us,rfl,g1⟩,by simp only [vr]; exact ⟨_,rfl,g2⟩⟩
 | .fn f xs ys,x,u,hd,hv=>by
   simp only [vr] at hd
   obtain ⟨us,vs,rfl,h1,h2⟩:=hd
   simp only [vrel] at hv
   obtain ⟨us',vs',rfl,h3,h4⟩:=hv
   obtain ⟨az,g1,g2⟩:=eT h xs us us'.toList h1 h3
   obtain ⟨bs,g3,g4⟩:=eT h ys vs vs'.toList h2 h4
   exact ⟨.fn (.func f) az bs,by simp only [vrel]; exact ⟨us',vs',rfl,g1,g3⟩,by simp only [vr]; exact ⟨az,bs,rfl,g2,g4⟩⟩
 | .gd b v,x,u,hd,hv=>by
   simp only [vr] at hd
   cases b with
   | true=>obtain ⟨x',g1,g2⟩:=AY h v x u (hd.1 rfl) hv; exact ⟨x',g1,by simp only [vr]; exact ⟨fun _=>g2,fun e=>by cases e⟩⟩
   | false =>
     obtain ⟨l,rfl⟩:=hd.2 rfl
     simp only [vrel] at hv
     obtain ⟨vs,rfl,_⟩:=hv
     exact ⟨.tup (vs.toList.map aS),by simp only [vrel]; exact ⟨vs,rfl,bd _ _⟩,by simp only [vr]; exact ⟨(fun e=>by cases e),fun _=>⟨_,rfl⟩⟩⟩
 | .int k n,x,u,hd,hv=>⟨aS u,bk _ u,ce h (.int k n) x u rfl hd hv⟩
 | .bool b,x,u,hd,hv=>⟨aS u,bk _ u,ce h (.bool b) x u rfl hd hv⟩
 | .kb b,x,u,hd,hv=>⟨aS u,bk _ u,ce h (.kb b) x u rfl hd hv⟩
 | .str b,x,u,hd,hv=>⟨aS u,bk _ u,ce h (.str b) x u rfl hd hv⟩
 | .sl n f,x,u,hd,hv=>⟨aS u,bk _ u,ce h (.sl n f) x u rfl hd hv⟩
 | .sq n m f,x,u,hd,hv=>⟨aS u,bk _ u,ce h (.sq n m f) x u rfl hd hv⟩
 | .pd b,x,u,hd,hv=>⟨aS u,bk _ u,ce h (.pd b) x u rfl hd hv⟩
 | .pl k off,x,u,hd,hv=>⟨aS u,bk _ u,ce h (.pl k off) x u rfl hd hv⟩
 | .pe k i j,x,u,hd,hv=>⟨aS u,bk _ u,ce h (.pe k i j) x u rfl hd hv⟩
 | .ss k off n c,x,u,hd,hv=>⟨aS u,bk _ u,ce h (.ss k off n c) x u rfl hd hv⟩
 | .gs k n,x,u,hd,hv=>⟨aS u,bk _ u,ce h (.gs k n) x u rfl hd hv⟩
 | .ns,x,u,hd,hv=>⟨aS u,bk _ u,ce h .ns x u rfl hd hv⟩
 | .np,x,u,hd,hv=>⟨aS u,bk _ u,ce h .np x u rfl hd hv⟩
 | .any,x,u,hd,hv=>⟨aS u,bk _ u,ce h .any x u rfl hd hv⟩
 | .go k off n,x,u,hd,hv=>⟨aS u,bk _ u,ce h (.go k off n) x u rfl hd hv⟩
 | .yl l,x,u,hd,hv=>⟨jP l,by simp only [vr] at hd; subst hd; simp only [jP,vrel] at hv ⊢; exact hv,by simp only [vr]⟩
theorem eT (h:aw B m lh w):∀ (ds:List V) (xs:List ab) (us:List Value),vrs B.w0 lh Nu.nil ds xs->af m xs us->∃ xs',af (fun _=>none) xs' us/\vrs w [] Nu.nil ds xs'
 | [],xs,us,hd,hv=>by
   simp only [vrs] at hd; subst hd
   simp only [af] at hv; subst hv
   exact ⟨[],by simp only [af],by simp only [vrs]⟩
 | d::ds,xs,us,hd,hv=>by
   simp only [vrs] at hd
   obtain ⟨x,xs',rfl,h2,h3⟩:=hd
   simp only [af] at hv
   obtain ⟨u,us',rfl,h4,h5⟩:=hv
   obtain ⟨a,g1,g2⟩:=AY h d x u h2 h4
   obtain ⟨az,g3,g4⟩:=eT h ds xs' us' h3 h5
   exact ⟨a::az,by simp only [af]; exact ⟨_,_,rfl,g1,g3⟩,by simp only [vrs]; exact ⟨_,_,rfl,g2,g4⟩⟩
end
end
section
variable {w0:World} {ν:Nu} {nV nS:Nat} {h:List O} {lh:List ac}
theorem Ci (v:V):(mR v).fc=true:=by
 unfold mR
 cases hv:v.fc with
 | true=>simpa using hv
 | false=>rfl
theorem E6 {v:V} {a:ab} (hv:vr w0 lh Nu.nil v a):vr w0 lh Nu.nil (mR v) a:=by
 unfold mR
 cases v.fc with
 | true=>exact hv
 | false=>simp only [cond,vr]
theorem nT (g:V->V) (l:List V):(l.map fun v=>mR (g v)).all V.fc=true:=by
 rw [List.all_eq_true]; intro x hx
 rw [List.mem_map] at hx
 obtain ⟨v,_,rfl⟩:=hx
 exact Ci _
theorem pw {lh':List ac} {ν':Nu} {g:V->V} (hg:∀ v a,vr w0 lh ν v a->vr w0 lh' ν' (g v) a):∀ {vs:List V} {az:List ab},vrs w0 lh ν vs az->vrs w0 lh' ν' (vs.map g) az
 | [],az,hv=>by simp only [vrs] at hv ⊢; subst hv; simp only [List.map_nil,vrs]
 | v::vs,az,hv=>by simp only [vrs] at hv; obtain ⟨x,xs,rfl,h1,h2⟩:=hv; simp only [List.map_cons,vrs]; exact ⟨_,_,rfl,hg v x h1,pw hg h2⟩
theorem lI (hh:HR w0 ν nV nS h lh):∀ (fu:Nat) (v:V) (a:ab),vr w0 ν.z ν v a->vr w0 lh Nu.nil (iC h fu v) a
 | 0,v,a,_=>by simp only [iC,vr]
 | fu + 1, v,a,hv=>by
   have ih:∀ {vs:List V} {az:List ab},vrs w0 ν.z ν vs az->vrs w0 lh Nu.nil (vs.map (iC h fu)) az:=fun hvs=>pw (fun v a=>lI hh fu v a) hvs
   have ihc:∀ {vs:List V} {az:List ab},vrs w0 ν.z ν vs az->vrs w0 lh Nu.nil (vs.map fun v=>mR (iC h fu v)) az:=fun hvs=>pw (fun v a hv=>E6 (lI hh fu v a hv)) hvs
   unfold iC
   split
   ·simp only [vr] at hv ⊢; exact hv
   ·simp only [vr] at hv ⊢; exact hv
   ·simp only [vr] at hv ⊢; exact hv
   ·simp only [vr] at hv ⊢; exact hv
   ·rename_i n f
    exact mE hh.zl _ _ (by simp only [vr] at hv ⊢; exact hv)
   ·rename_i n m f
    exact mE hh.zl _ _ (by simp only [vr] at hv ⊢; exact hv)
   ·rename_i cs
    exact mE hh.zl _ _ (by simp only [vr] at hv ⊢; exact hv)
   ·simp only [vr] at hv ⊢; subst hv; exact ⟨none,0,0,rfl,Nat.le_refl _,by omega,trivial,fun i hi=>by omega⟩
   ·simp only [vr] at hv ⊢; obtain ⟨az,h1,h2⟩:=hv; exact ⟨az,h1,ih h2⟩
   ·simp only [vr] at hv ⊢; obtain ⟨us,vs,h1,h2,h3⟩:=hv; exact ⟨us,vs,h1,ih h2,ih h3⟩
   ·rename_i k off
    rw [aF]
    split
    ·rename_i cs ty hk
     rw [ba]
     cases hb:Nat.ble off cs.length with
     | false=>simp only [cond,vr]
     | true =>
       have hle:=Nat.le_of_ble_eq_true hb
       simp only [cond]
       obtain ⟨b,c0,e0,az,h1,h2,h3⟩:=hh.blk k _ hk
       simp only [vr] at hv ⊢
       obtain ⟨b',c',e',g1,rfl⟩:=hv
       rw [h1] at g1
       obtain ⟨rfl,rfl,rfl⟩:b=b'/\c0=c'/\e0=e':=by simpa using g1
       have hl:=aU h3
       refine ⟨.l b off,az.drop off,rfl,by simp [okP,h2,isCells],?_,ihc (dX _ h3),nT _ _⟩
       simp only [lds,h2,List.length_map,List.length_drop]
       rw [if_pos (by omega),List.take_of_length_le (by simp; omega)]
    ·simp only [vr]
   ·rename_i k n
    rw [aF]
    split
    ·rename_i e n' f ty hk
     cases hb:Nat.ble n n' with
     | false=>simp only [cond,vr]
     | true =>
       have hle:=Nat.le_of_ble_eq_true hb
       simp only [cond]
       have hb:=hh.blk k _ hk
       simp only [vr] at hv ⊢
       rcases hb with ⟨h1,h2⟩ | ⟨b,c,az,h1,h2,h3,h4,h5⟩
       ·rcases hv with ⟨_,g2,rfl⟩ | ⟨b,c,e,g1,_⟩
        ·subst g2; exact ⟨none,0,0,rfl,Nat.le_refl _,by omega,trivial,fun i hi=>by omega⟩
        ·rw [h1] at g1; cases g1
       ·rcases hv with ⟨g1,_⟩ | ⟨b',c',e',g1,rfl,g3⟩
        ·rw [h1] at g1; cases g1
        ·rw [h1] at g1
         obtain ⟨rfl,rfl,rfl⟩:b=b'/\c=c'/\e=e':=by simpa using g1
         refine ⟨some (.l b 0),c,e,rfl,g3,by omega,⟨az,ty,h2,Nat.zero_le _⟩,fun i hi=>?_⟩
         have hi':i * e+e<=az.length:=by
          rw [h3,← Nat.succ_mul]; exact Nat.mul_le_mul_right e (by omega)
         refine ⟨_,_,rfl,?_,ihc (h5 i (by omega)).2,nT _ _⟩
         simp only [Ptr.add,lds,h2,Nat.zero_add]
         rw [if_pos (by omega)]
    ·simp only [vr]
   ·rename_i k off n c
    rw [aF]
    split
    ·rename_i cs ty hk
     rw [ba]
     cases hb:(Nat.ble n 9223372036854775807 && (Nat.ble n c && Nat.ble (off+n * ((cs.length - off) / c)) cs.length)) with
     | false=>simp only [cond,vr]
     | true =>
       simp only [Bool.and_eq_true] at hb
       have b1:=Nat.le_of_ble_eq_true hb.1
       have b2:=Nat.le_of_ble_eq_true hb.2.1
       have b3:=Nat.le_of_ble_eq_true hb.2.2
       simp only [cond]
       obtain ⟨b,c0,e0,az,h1,h2,h3⟩:=hh.blk k _ hk
       simp only [vr] at hv ⊢
       obtain ⟨b',c',e',g1,rfl⟩:=hv
       rw [h1] at g1
       obtain ⟨rfl,rfl,rfl⟩:b=b'/\c0=c'/\e0=e':=by simpa using g1
       have hl:=aU h3
       refine ⟨some (.l b off),c,(cs.length - off) / c,rfl,⟨b2,b2⟩,b1,⟨az,ty,h2,by omega⟩,fun i hi=>?_⟩
       have hi':off+i * ((cs.length - off) / c)+(cs.length - off) / c<=cs.length:=by
        have:(i+1) * ((cs.length - off) / c)<=n * ((cs.length - off) / c):=Nat.mul_le_mul_right _ (by omega)
        rw [Nat.succ_mul] at this
        omega
       refine ⟨_,_,rfl,?_,ew _ (dX _ (ihc h3)),zO _ _ (nT _ _)⟩
       simp only [Ptr.add,lds,h2]
       rw [if_pos (by omega)]
    ·simp only [vr]
   ·simp only [vr]
theorem El (hz:zle ν.z lh) {v:V} {a:ab} (hv:vr w0 ν.z ν v a):vr w0 lh Nu.nil (wa v) a:=by
 unfold wa
 split
 ·simp only [vr] at hv ⊢; exact hv
 ·simp only [vr] at hv ⊢; exact hv
 ·simp only [vr] at hv ⊢; exact hv
 ·simp only [vr] at hv ⊢; exact hv
 ·exact mE hz _ _ (by simp only [vr] at hv ⊢; exact hv)
 ·exact mE hz _ _ (by simp only [vr] at hv ⊢; exact hv)
 ·simp only [vr]
theorem C5 (v:V):(wa v).fc=true:=by cases v <;> rfl
theorem BN (l:List V):(l.map wa).all V.fc=true:=by
 rw [List.all_eq_true]; intro x hx
 rw [List.mem_map] at hx
 obtain ⟨v,_,rfl⟩:=hx
 exact C5 _
def okS (l:List (Nat × Nat)):Prop:=∀ p,p ∈ l->p.1<=p.2
theorem A1 {a b:List (Nat × Nat)} (h:okS (rj a b)):okS a/\okS b:=by
 rw [gQ] at h
 exact ⟨fun p hp=>h p (List.mem_append_left _ hp),fun p hp=>h p (List.mem_append_right _ hp)⟩
theorem u6 {α:Type} {LP:db} {Q:α->Prop}:∀ {l:List (Nat × Nat)} {x:T α},sat LP (obs l x) Q->okS l/\sat LP x Q
 | [],x,h=>⟨(fun p hp=>by cases hp),h⟩
 | p::l,x,h=>by
   simp only [obs,sat] at h
   obtain ⟨h1,h2⟩:=u6 h.2
   refine ⟨fun q hq=>?_,h2⟩
   rcases List.mem_cons.1 hq with rfl | hq
   ·exact Nat.le_of_ble_eq_true h.1
   ·exact h1 q hq
theorem ww (hh:HR w0 ν nV nS h lh) {k n:Nat} {a:ab} (hm:okS (zE h k n)) (hv:vr w0 ν.z ν (.gs k n) a):vr w0 lh Nu.nil (z7 h k n) a:=by
 unfold zE at hm
 unfold z7
 rw [aF] at hm ⊢
 split
 ·rename_i e n' f ty hk
  rw [hk] at hm
  have hle:n<=n':=hm (n,n') List.mem_cons_self
  have hb:=hh.blk k _ hk
  simp only [vr] at hv ⊢
  rcases hb with ⟨h1,h2⟩ | ⟨b,c,az,h1,h2,h3,h4,h5⟩
  ·rcases hv with ⟨_,g2,rfl⟩ | ⟨b,c,e,g1,_⟩
   ·subst g2; exact ⟨none,0,0,rfl,Nat.le_refl _,by omega,trivial,fun i hi=>by omega⟩
   ·rw [h1] at g1; cases g1
  ·rcases hv with ⟨g1,_⟩ | ⟨b',c',e',g1,rfl,g3⟩
   ·rw [h1] at g1; cases g1
   ·rw [h1] at g1
    obtain ⟨rfl,rfl,rfl⟩:b=b'/\c=c'/\e=e':=by simpa using g1
    refine ⟨some (.l b 0),c,e,rfl,g3,by omega,⟨az,ty,h2,Nat.zero_le _⟩,fun i hi=>?_⟩
    have hi':i * e+e<=az.length:=by
     rw [h3,← Nat.succ_mul]; exact Nat.mul_le_mul_right e (by omega)
    refine ⟨_,_,rfl,?_,pw (fun v a hv=>El hh.zl hv) (h5 i (by omega)).2,BN _⟩
    simp only [Ptr.add,lds,h2,Nat.zero_add]
    rw [if_pos (by omega)]
 ·simp only [vr]
theorem CB (hh:HR w0 ν nV nS h lh) {v:V} {a:ab} (hb:okS (GQ h v)) (hv:vr w0 ν.z ν v a):vr w0 lh Nu.nil (zD h v) a:=by
 unfold zD
 split
 ·exact ww hh hb hv
 ·exact lI hh 11 _ a hv
theorem tO (hh:HR w0 ν nV nS h lh):∀ {vs:List V} {az:List ab},okS (yG h vs)->vrs w0 ν.z ν vs az->vrs w0 lh Nu.nil (vs.map (zD h)) az
 | [],az,_,hv=>by simp only [vrs,List.map_nil] at hv ⊢; exact hv
 | v::vs,az,hb,hv=>by
   have hb:=A1 hb
   simp only [vrs] at hv
   obtain ⟨x,xs,rfl,h1,h2⟩:=hv
   simp only [List.map_cons,vrs]; exact ⟨_,_,rfl,CB hh hb.1 h1,tO hh hb.2 h2⟩
theorem EX (hh:HR w0 ν nV nS h lh) {v:V} {a:ab} (hb:okS (GR h v)) (hv:vr w0 ν.z ν v a):vr w0 lh Nu.nil (tt h v) a:=by
 unfold tt
 split
 ·exact ww hh hb hv
 ·simp only [vr] at hv ⊢
  obtain ⟨az,h1,h2⟩:=hv
  exact ⟨az,h1,tO hh hb h2⟩
 ·exact lI hh 12 _ a hv
theorem m8 (hh:HR w0 ν nV nS h lh):∀ {vs:List V} {az:List ab},okS (qM h vs)->vrs w0 ν.z ν vs az->vrs w0 lh Nu.nil (vs.map (tt h)) az
 | [],az,_,hv=>by simp only [vrs,List.map_nil] at hv ⊢; exact hv
 | v::vs,az,hb,hv=>by
   have hb:=A1 hb
   simp only [vrs] at hv
   obtain ⟨x,xs,rfl,h1,h2⟩:=hv
   simp only [List.map_cons,vrs]; exact ⟨_,_,rfl,EX hh hb.1 h1,m8 hh hb.2 h2⟩
end
end Go.Dx
namespace Go.Sx
section
variable {P:Program} {S:FuncId->bf} {w0:World}
theorem ed (hS:∀ f,(S f).Ok P f):∀ (ops:List SOp) (sl:List ab) (lh:List ac) {K K':List ab->List ac->Prop},(∀ s l,K s l->K' s l)->cM w0 S ops sl lh K->cM w0 S ops sl lh K'
 | [],_,_,_,_,hk,h=>hk _ _ h
 | o::rest,sl,lh,K,K',hk,h=>by
   have ih:=fun sl lh=>ed hS rest sl lh hk
   simp only [cM] at h ⊢
   split at h
   ·exact cW hS (fun _ _=>ih _ _) h
   ·split at h
    ·exact ⟨fun e=>cW hS (fun _ _=>ih _ _) (h.1 e),fun e=>ih _ _ (h.2 e)⟩
    ·exact ih _ _ h
    ·exact ih _ _ h
    ·exact h.elim
theorem fE (hS:∀ f,(S f).Ok P f) {Q:Prop}:∀ (ops:List SOp) (sl:List ab) (lh:List ac),cM w0 S ops sl lh (fun _ _=>Q)->Q
 | [],_,_,h=>h
 | o :: rest,sl,lh,h=>by
   have ih:=fun sl lh=>fE hS (Q:=Q) rest sl lh
   simp only [cM] at h
   split at h
   ·exact i9 hS (cW hS (fun _ _=>ih _ _) h)
   ·rename_i d want _
    split at h
    ·rename_i b _
     by_cases e:b=want
     ·exact i9 hS (cW hS (fun _ _=>ih _ _) (h.1 e))
     ·exact ih _ _ (h.2 (by cases b <;> cases want <;> simp_all))
    ·exact ih _ _ h
    ·exact ih _ _ h
    ·exact h.elim
theorem oE (hS:∀ f,(S f).Ok P f) {Ws:List (List Nat)} {n0:Nat} {K K':List ab->List ac->Prop} (hk:∀ s l,K s l->K' s l):∀ (ds:List DOp) (i:Nat) (sl:List ab) (lh:List ac),d9 w0 S Ws n0 K ds i sl lh->d9 w0 S Ws n0 K' ds i sl lh
 | [],_,_,_,h=>hk _ _ h
 | d::rest,i,sl,lh,h=>pV hS (fun s l=>oE hS hk rest (i+1) s l) h
theorem kK (hS:∀ f,(S f).Ok P f) {Ws:List (List Nat)} {n0:Nat} {Q:Prop}:∀ (ds:List DOp) (i:Nat) (sl:List ab) (lh:List ac),d9 w0 S Ws n0 (fun _ _=>Q) ds i sl lh->Q
 | [],_,_,_,h=>h
 | d::rest,i,sl,lh,h=>jG hS (fO hS (fun _=>kK hS rest (i+1) _ _) h)
theorem gP (hS:∀ f,(S f).Ok P f) {ds:List DOp} {sl:List ab} {lh:List ac} {K K':List ab->List ac->Prop} (hk:∀ s l,K s l->K' s l) (h:jT w0 S ds sl lh K):jT w0 S ds sl lh K':=⟨h.1,oE hS hk ds 0 _ _ h.2⟩
theorem kH (hS:∀ f,(S f).Ok P f) {ds:List DOp} {sl:List ab} {lh:List ac} {Q:Prop} (h:jT w0 S ds sl lh (fun _ _=>Q)):Q:=kK hS ds 0 _ _ h.2
section it
variable {l:Nat} {Y:YH}
theorem fG (hS:∀ f,(S f).Ok P f) (hY:∀ xs lh K K',(∀ x l,K x l->K' x l)->Y xs lh K->Y xs lh K'):∀ (ops:List mg) (sl:List ab) (lh:List ac) (g:Option Ex) {K K':List ab->List ac->Option Ex->Prop},(∀ s l g,K s l g->K' s l g)->cN w0 S l Y ops sl lh g K->cN w0 S l Y ops sl lh g K'
 | [],_,_,_,_,_,hk,h=>hk _ _ _ h
 | .op o::rest,sl,lh,g,_,_,hk,h=>by
   simp only [cN] at h ⊢
   exact ed hS _ _ _ (fun _ _=>fG hS hY rest _ _ g hk) h
 | .yld t d xs::rest,sl,lh,g,_,_,hk,h=>by
   simp only [cN] at h ⊢
   refine ⟨h.1,h.2.1,hY _ _ _ _ (fun x l hx=>?_) h.2.2⟩
   cases x <;> exact fG hS hY rest _ _ _ hk hx
theorem gq (hS:∀ f,(S f).Ok P f) (hY:∀ xs lh K K',(∀ x l,K x l->K' x l)->Y xs lh K->Y xs lh K') (hY':∀ xs lh (Q:Prop),Y xs lh (fun _ _=>Q)->Q) {Q:Prop}:∀ (ops:List mg) (sl:List ab) (lh:List ac) (g:Option Ex),cN w0 S l Y ops sl lh g (fun _ _ _=>Q)->Q
 | [],_,_,_,h=>h
 | .op o::rest,sl,lh,g,h=>by
   simp only [cN] at h
   exact fE hS _ _ _ (ed hS _ _ _ (fun _ _=>gq hS hY hY' rest _ _ g) h)
 | .yld t d xs::rest,sl,lh,g,h=>by
   simp only [cN] at h
   refine hY' _ _ _ (hY _ _ _ _ (fun x l hx=>?_) h.2.2)
   cases x <;> exact gq hS hY hY' rest _ _ _ hx
theorem Bp (hS:∀ f,(S f).Ok P f) (hY:∀ xs lh K K',(∀ x l,K x l->K' x l)->Y xs lh K->Y xs lh K'):∀ (c:eI) (sl:List ab) (lh:List ac) (g:Option Ex) {Q Q':IQ},(∀ x s l g,Q x s l g->Q' x s l g)->gy w0 S l Y c sl lh g Q->gy w0 S l Y c sl lh g Q':=by
 intro c
 induction c with
 | reg ops=>intro sl lh g Q Q' hq h; exact fG hS hY ops sl lh g (fun _ _ _=>hq _ _ _ _) h
 | draw ds=>intro sl lh g Q Q' hq h; exact gP hS (fun _ _=>hq _ _ _ _) h
 | seq a b iha ihb =>
   intro sl lh g Q Q' hq h
   refine iha sl lh g (fun x s l g hx=>?_) h
   cases x with
   | normal=>exact ihb _ _ _ hq hx
   | exit i=>exact hq _ _ _ _ hx
   | ret=>exact hq _ _ _ _ hx
 | cond c a b iha ihb =>
   intro sl lh g Q Q' hq h
   simp only [gy] at h ⊢
   split at h
   ·exact ⟨fun e=>iha _ _ _ hq (h.1 e),fun e=>ihb _ _ _ hq (h.2 e)⟩
   ·exact h.elim
 | block id b ih =>
   intro sl lh g Q Q' hq h
   refine ih sl lh g (fun x s l g hx=>?_) h
   cases x with
   | normal=>exact hq _ _ _ _ hx
   | ret=>exact hq _ _ _ _ hx
   | exit i=>simp only [qL] at hx ⊢; split at hx <;> rename_i e <;> simp only [e,if_true,if_false] <;> exact hq _ _ _ _ hx
 | loop b ih =>
   intro sl lh g Q Q' hq h
   simp only [gy] at h ⊢
   obtain ⟨ι,shs,shl,shg,μ,i0,h1,h2,h3,hr⟩:=h
   refine ⟨ι,shs,shl,shg,μ,i0,h1,h2,h3,fun i=>ih _ _ _ (fun x s l g hx=>?_) (hr i)⟩
   cases x with
   | normal=>exact hx
   | exit i=>exact hq _ _ _ _ hx
   | ret=>exact hq _ _ _ _ hx
 | scope b ih=>intro sl lh g Q Q' hq h; exact ih sl lh g hq h
 | skip=>intro sl lh g Q Q' hq h; exact hq _ _ _ _ h
 | exit i=>intro sl lh g Q Q' hq h; exact hq _ _ _ _ h
 | ret=>intro sl lh g Q Q' hq h; exact hq _ _ _ _ h
theorem xB (hS:∀ f,(S f).Ok P f) (hY:∀ xs lh K K',(∀ x l,K x l->K' x l)->Y xs lh K->Y xs lh K') (hY':∀ xs lh (Q:Prop),Y xs lh (fun _ _=>Q)->Q) {R:Prop}:∀ (c:eI) (sl:List ab) (lh:List ac) (g:Option Ex) {Q:IQ},(∀ x s l g,Q x s l g->R)->gy w0 S l Y c sl lh g Q->R:=by
 intro c
 induction c with
 | reg ops=>intro sl lh g Q hq h; exact gq hS hY hY' ops sl lh g (fG hS hY ops sl lh g (fun _ _ _=>hq _ _ _ _) h)
 | draw ds=>intro sl lh g Q hq h; exact kH hS (gP hS (K':=fun _ _=>R) (fun _ _=>hq _ _ _ _) h)
 | seq a b iha ihb =>
   intro sl lh g Q hq h
   refine iha sl lh g (fun x s l g hx=>?_) h
   cases x with
   | normal=>exact ihb _ _ _ hq hx
   | exit i=>exact hq _ _ _ _ hx
   | ret=>exact hq _ _ _ _ hx
 | cond c a b iha ihb =>
   intro sl lh g Q hq h
   simp only [gy] at h
   split at h
   ·rename_i t _
    cases t with
    | true=>exact iha _ _ _ hq (h.1 rfl)
    | false=>exact ihb _ _ _ hq (h.2 rfl)
   ·exact h.elim
 | block id b ih =>
   intro sl lh g Q hq h
   refine ih sl lh g (fun x s l g hx=>?_) h
   cases x with
   | normal=>exact hq _ _ _ _ hx
   | ret=>exact hq _ _ _ _ hx
   | exit i=>simp only [qL] at hx; split at hx <;> exact hq _ _ _ _ hx
 | loop b ih =>
   intro sl lh g Q hq h
   simp only [gy] at h
   obtain ⟨ι,shs,shl,shg,μ,i0,h1,h2,h3,hr⟩:=h
   have key:∀ k i,μ i=k->R:=fun k=>by
    induction k using Nat.strongRecOn with
    | _ k ihk =>
      intro i hi
      refine ih _ _ _ (fun x s l g hx=>?_) (hr i)
      cases x with
      | normal=>obtain ⟨i',_,_,_,hlt⟩:=hx; exact ihk _ (by rw [← hi]; exact hlt) i' rfl
      | exit i=>exact hq _ _ _ _ hx
      | ret=>exact hq _ _ _ _ hx
   exact key _ i0 rfl
 | scope b ih=>intro sl lh g Q hq h; exact ih sl lh g hq h
 | skip=>intro sl lh g Q hq h; exact hq _ _ _ _ h
 | exit i=>intro sl lh g Q hq h; exact hq _ _ _ _ h
 | ret=>intro sl lh g Q hq h; exact hq _ _ _ _ h
end it
theorem iq (hS:∀ f,(S f).Ok P f):∀ (t:OT) (sl:List ab) (lh:List ac) {K K':List ab->List ac->Prop},(∀ s l,K s l->K' s l)->nZ w0 S t sl lh K->nZ w0 S t sl lh K'
 | .done,sl,lh,K,K',hk,h=>hk _ _ h
 | .op o r,sl,lh,K,K',hk,h=>ed hS [o] sl lh (fun s l h=>iq hS r s l hk h) h
 | .alt a b,sl,lh,K,K',hk,h=>⟨iq hS a sl lh hk h.1,iq hS b sl lh hk h.2⟩
theorem jV (hS:∀ f,(S f).Ok P f):∀ (t:OT) (sl:List ab) (lh:List ac) {R:Prop},nZ w0 S t sl lh (fun _ _=>R)->R
 | .done,sl,lh,R,h=>h
 | .op o r,sl,lh,R,h=>fE hS [o] sl lh (ed hS [o] sl lh (K':=fun _ _=>R) (fun s l h=>jV hS r s l h) h)
 | .alt a b,sl,lh,R,h=>jV hS a sl lh h.1
theorem tv (hS:∀ f,(S f).Ok P f):∀ (c:dt),(∀ (nb:Nat) (sl:List ab) (lh:List ac) {Q Q':Ex->List ab->List ac->Prop},(∀ x s l,Q x s l->Q' x s l)->bj w0 S nb c sl lh Q->bj w0 S nb c sl lh Q') /\
 ∀ (nb:Nat) (sl:List ab) (lh:List ac) {Q:Ex->List ab->List ac->Prop} {R:Prop},(∀ x s l,Q x s l->R)->bj w0 S nb c sl lh Q->R:=by
 intro c
 induction c with
 | reg ops=>exact ⟨fun nb sl lh Q Q' hq h=>ed hS ops sl lh (fun _ _=>hq _ _ _) h,fun nb sl lh Q R hq h=>fE hS ops sl lh (ed hS ops sl lh (fun _ _=>hq _ _ _) h)⟩
 | allo t=>exact ⟨fun nb sl lh Q Q' hq h=>iq hS t sl lh (fun _ _=>hq _ _ _) h,fun nb sl lh Q R hq h=>jV hS t sl lh (iq hS t sl lh (K':=fun _ _=>R) (fun _ _=>hq _ _ _) h)⟩
 | draw ds=>exact ⟨fun nb sl lh Q Q' hq h=>gP hS (fun _ _=>hq _ _ _) h,fun nb sl lh Q R hq h=>kH hS (gP hS (K':=fun _ _=>R) (fun _ _=>hq _ _ _) h)⟩
 | seq a b iha ihb =>
   refine ⟨fun nb sl lh Q Q' hq h=>iha.1 nb sl lh (fun x s l hx=>?_) h,fun nb sl lh Q R hq h=>iha.2 nb sl lh (fun x s l hx=>?_) h⟩
   ·cases x with
    | normal=>exact ihb.1 nb _ _ hq hx
    | exit i=>exact hq _ _ _ hx
    | ret=>exact hq _ _ _ hx
   ·cases x with
    | normal=>exact ihb.2 nb _ _ hq hx
    | exit i=>exact hq _ _ _ hx
    | ret=>exact hq _ _ _ hx
 | cond c a b iha ihb =>
   refine ⟨fun nb sl lh Q Q' hq h=>?_,fun nb sl lh Q R hq h=>?_⟩
   ·simp only [bj] at h ⊢
    split at h
    ·exact ⟨fun e=>iha.1 nb _ _ hq (h.1 e),fun e=>ihb.1 nb _ _ hq (h.2 e)⟩
    ·exact h.elim
   ·simp only [bj] at h
    split at h
    ·rename_i t _
     cases t with
     | true=>exact iha.2 nb _ _ hq (h.1 rfl)
     | false=>exact ihb.2 nb _ _ hq (h.2 rfl)
    ·exact h.elim
 | block id b ih =>
   refine ⟨fun nb sl lh Q Q' hq h=>ih.1 nb sl lh (fun x s l hx=>?_) h,fun nb sl lh Q R hq h=>ih.2 nb sl lh (fun x s l hx=>?_) h⟩
   ·cases x with
    | normal=>exact hq _ _ _ hx
    | ret=>exact hq _ _ _ hx
    | exit i=>simp only [rb] at hx ⊢; split at hx <;> rename_i e <;> simp only [e,if_true,if_false] <;> exact hq _ _ _ hx
   ·cases x with
    | normal=>exact hq _ _ _ hx
    | ret=>exact hq _ _ _ hx
    | exit i=>simp only [rb] at hx; split at hx <;> exact hq _ _ _ hx
 | loop b ih =>
   refine ⟨fun nb sl lh Q Q' hq h=>?_,fun nb sl lh Q R hq h=>?_⟩
   ·simp only [bj] at h ⊢
    obtain ⟨ι,shs,shl,μ,i0,h1,hr⟩:=h
    refine ⟨ι,shs,shl,μ,i0,h1,fun i=>ih.1 nb _ _ (fun x s l hx=>?_) (hr i)⟩
    cases x with
    | normal=>exact hx
    | exit i=>exact hq _ _ _ hx
    | ret=>exact hq _ _ _ hx
   ·simp only [bj] at h
    obtain ⟨ι,shs,shl,μ,i0,h1,hr⟩:=h
    have key:∀ k i,μ i=k->R:=fun k=>by
     induction k using Nat.strongRecOn with
     | _ k ihk =>
       intro i hi
       refine ih.2 nb _ _ (fun x s l hx=>?_) (hr i)
       cases x with
       | normal=>obtain ⟨i',_,hlt⟩:=hx; exact ihk _ (by rw [← hi]; exact hlt) i' rfl
       | exit i=>exact hq _ _ _ hx
       | ret=>exact hq _ _ _ hx
    exact key _ i0 rfl
 | scope b ih=>exact ⟨fun nb sl lh Q Q' hq h=>ih.1 nb sl lh hq h,fun nb sl lh Q R hq h=>ih.2 nb sl lh hq h⟩
 | skip=>exact ⟨fun nb sl lh Q Q' hq h=>hq _ _ _ h,fun nb sl lh Q R hq h=>hq _ _ _ h⟩
 | exit i=>exact ⟨fun nb sl lh Q Q' hq h=>hq _ _ _ h,fun nb sl lh Q R hq h=>hq _ _ _ h⟩
 | ret=>exact ⟨fun nb sl lh Q Q' hq h=>hq _ _ _ h,fun nb sl lh Q R hq h=>hq _ _ _ h⟩
 | range g ps asg body its iha ihb =>
   have hY:∀ (sl xs:List ab) (lh:List ac) (K K':Ex->List ac->Prop),(∀ x l,K x l->K' x l)->(xs.length=ps.length/\bj w0 S lh.length asg (gL sl ps xs) lh (pc (fun sl lh'=>bj w0 S lh.length body sl lh' fun x _ lh=>K x lh) fun _ _ _=>False))->(xs.length=ps.length/\bj w0 S lh.length asg (gL sl ps xs) lh (pc (fun sl lh'=>bj w0 S lh.length body sl lh' fun x _ lh=>K' x lh) fun _ _ _=>False)):=fun sl xs lh K K' hk h=>by
    refine ⟨h.1,iha.1 _ _ _ (fun x s l hx=>?_) h.2⟩
    cases x with
    | normal=>exact ihb.1 _ _ _ (fun _ _ _=>hk _ _) hx
    | exit i=>exact hx
    | ret=>exact hx
   have hY':∀ (sl xs:List ab) (lh:List ac) (Q:Prop),(xs.length=ps.length/\bj w0 S lh.length asg (gL sl ps xs) lh (pc (fun sl lh'=>bj w0 S lh.length body sl lh' fun _ _ _=>Q) fun _ _ _=>False))->Q:=fun sl xs lh Q h=>by
    refine iha.2 _ _ _ (fun x s l hx=>?_) h.2
    cases x with
    | normal=>exact ihb.2 _ _ _ (fun _ _ _ h=>h) hx
    | exit i=>exact hx.elim
    | ret=>exact hx.elim
   refine ⟨fun nb sl lh Q Q' hq h=>?_,fun nb sl lh Q R hq h=>?_⟩
   ·simp only [bj] at h ⊢
    split at h
    ·split at h
     ·exact fun l=>Bp hS (fun xs lh K K'=>hY sl xs lh K K') _ _ _ _ (fun x s l g hx=>by cases x <;> cases g <;> first | exact hx | exact hq _ _ _ hx) (h l)
     ·exact h.elim
    ·exact h.elim
   ·simp only [bj] at h
    split at h
    ·split at h
     ·exact xB hS (fun xs lh K K'=>hY sl xs lh K K') (fun xs lh Q=>hY' sl xs lh Q) _ _ _ _ (fun x s l g hx=>by cases x <;> cases g <;> first | exact hx.elim | exact hq _ _ _ hx) (h 0)
     ·exact h.elim
    ·exact h.elim
theorem i5:∀ (rs:List tV) (sl:List ab) (lh:List ac) {K K':List ab->Prop},(∀ vs,K vs->K' vs)->fj w0 sl lh rs K->fj w0 sl lh rs K'
 | [],_,_,_,_,hk,h=>hk _ h
 | .tmp t::l,sl,lh,_,_,hk,h=>i5 l sl lh (fun _=>hk _) h
 | .cell t n::l,sl,lh,_,_,hk,h=>by
   simp only [fj] at h ⊢
   split at h
   ·split at h
    ·obtain ⟨v,h1,h2⟩:=h; exact ⟨v,h1,i5 l sl lh (fun _=>hk _) h2⟩
    ·obtain ⟨v,h1,h2⟩:=h; exact ⟨v,h1,i5 l sl lh (fun _=>hk _) h2⟩
   ·exact h.elim
theorem fL {R:Prop}:∀ (rs:List tV) (sl:List ab) (lh:List ac),fj w0 sl lh rs (fun _=>R)->R
 | [],_,_,h=>h
 | .tmp t::l,sl,lh,h=>fL l sl lh h
 | .cell t n::l,sl,lh,h=>by
   simp only [fj] at h
   split at h
   ·split at h
    ·obtain ⟨v,h1,h2⟩:=h; exact fL l sl lh h2
    ·obtain ⟨v,h1,h2⟩:=h; exact fL l sl lh h2
   ·exact h.elim
def CZ (S:FuncId->bf) (sf:aE):bf:=fun w0 args lh K=>AI w0 S sf args lh K
theorem Gc {eqs : List TypeId} {its : List fm} {f : FuncId} {fn : Func} {sf : aE} (hS : ∀ g, (S g).Ok P g) (hE : ∀ t ∈ eqs, cm P t) (hI : jK P eqs its) (hf : P.funcs[f]? = some fn) (hn : (fn.name == "runtime.NumGoroutine") = false) (hc : dO P eqs its fn = some sf) : (CZ S sf).Ok P f := by
 have mono:∀ w0 args lh K K',(∀ r l,K r l->K' r l)->CZ S sf w0 args lh K->CZ S sf w0 args lh K':=fun w0 args lh K K' hk h =>
  (tv hS sf.body).1 _ _ _ (fun x s l hx=>by cases x <;> first | exact hx | exact i5 _ _ _ (fun _=>hk _ _) hx) h
 refine ⟨nB hS hE hI hf hn hc fun w0 args lh K _ _ h=>?_,mono,fun w0 args lh Q h=>(tv hS sf.body).2 _ _ _ (fun x s l hx=>by cases x <;> first | exact hx.elim | exact fL _ _ _ hx) h⟩
 exact mono w0 args lh K _ (fun r l hk=>⟨r,l,.inl ⟨rfl,by unfold jj; exact ⟨.inr rfl,by simp [jj]⟩⟩,hk⟩) h
end
end Go.Sx
namespace Go.Dx
open Go.Sx
mutual
def toA:V->ab
 | .int k n=>.int k n
 | .bool b=>.bool b
 | .kb b=>.bool b
 | .str s=>.str s
 | .agg cs=>.agg (ck cs)
 | .tup cs=>.tup (ck cs)
 | .sl n f=>.fn (.func 0) [] ((List.range n).map fun i=>.agg (ck (f i)))
 | _=>.any
def ck:List V->List ab
 | []=>[]
 | v::vs=>toA v::ck vs
end
section
variable {w0:World} {lh:List ac} {ν:Nu}
theorem iO:∀ {v:V},aQ (toA v)=true->∀ a,vr w0 lh ν v a ↔ a=toA v
 | .int ..,_,a=>by simp only [vr,toA]
 | .bool _,_,a=>by simp only [vr,toA]
 | .kb _,_,a=>by simp only [vr,toA]
 | .str _,_,a=>by simp only [vr,toA]
 | .agg _,h,_=>by simp [toA,aQ] at h
 | .tup _,h,_=>by simp [toA,aQ] at h
 | .fn ..,h,_=>by simp [toA,aQ] at h
 | .sl ..,h,_=>by simp [toA,aQ] at h
 | .pd ..,h,_=>by simp [toA,aQ] at h
 | .pl ..,h,_=>by simp [toA,aQ] at h
 | .pe ..,h,_=>by simp [toA,aQ] at h
 | .ss ..,h,_=>by simp [toA,aQ] at h
 | .gs ..,h,_=>by simp [toA,aQ] at h
 | .ns,h,_=>by simp [toA,aQ] at h
 | .np,h,_=>by simp [toA,aQ] at h
 | .any,h,_=>by simp [toA,aQ] at h
 | .gd ..,h,_=>by simp [toA,aQ] at h
 | .yl _,h,_=>by simp [toA,aQ] at h
 | .go ..,h,_=>by simp [toA,aQ] at h
 | .sq ..,h,_=>by simp [toA,aQ] at h
theorem dc:∀ {vs:List V},(ck vs).all aQ=true->∀ az,vrs w0 lh ν vs az ↔ az=ck vs
 | [],_,az=>by simp only [vrs,ck]
 | v::vs,h,az=>by
   simp only [ck,List.all_cons,Bool.and_eq_true] at h
   simp only [vrs,ck]
   constructor
   ·rintro ⟨x,xs,rfl,h1,h2⟩; rw [(iO h.1 x).1 h1,(dc h.2 xs).1 h2]
   ·rintro rfl; exact ⟨_,_,rfl,(iO h.1 _).2 rfl,(dc h.2 _).2 rfl⟩
theorem lr {v:V} (h:(match toA v with | .agg ds=>ds.all aQ | a=>aQ a)=true) (a:ab):vr w0 lh ν v a ↔ a=toA v:=by
 cases v with
 | agg cs =>
   simp only [toA] at h
   simp only [vr,toA]
   constructor
   ·rintro ⟨az,rfl,h1⟩; rw [(dc h az).1 h1]
   ·rintro rfl; exact ⟨_,rfl,(dc h _).2 rfl⟩
 | _=>first | exact iO (by simpa [toA] using h) a | (simp [toA,aQ] at h)
theorem iY:∀ {vs:List V},((ck vs).all fun | .agg ds=>ds.all aQ | a=>aQ a)=true->∀ az,vrs w0 lh ν vs az ↔ az=ck vs
 | [],_,az=>by simp only [vrs,ck]
 | v::vs,h,az=>by
   simp only [ck,List.all_cons,Bool.and_eq_true] at h
   simp only [vrs,ck]
   constructor
   ·rintro ⟨x,xs,rfl,h1,h2⟩; rw [(lr h.1 x).1 h1,(iY h.2 xs).1 h2]
   ·rintro rfl; exact ⟨_,_,rfl,(lr h.1 _).2 rfl,(iY h.2 _).2 rfl⟩
theorem ti {v:V} (h:jR (toA v)=true) (a:ab):vr w0 lh ν v a ↔ a=toA v:=by
 cases v with
 | tup cs =>
   simp only [toA,jR] at h
   simp only [vr,toA]
   constructor
   ·rintro ⟨az,rfl,h1⟩; rw [(iY h az).1 h1]
   ·rintro rfl; exact ⟨_,rfl,(iY h _).2 rfl⟩
 | agg cs=>exact lr (by simpa [toA,jR] using h) a
 | _=>first | exact iO (by simpa [toA,jR] using h) a | (simp [toA,jR,aQ] at h)
end
theorem wl:∀ vs:List V,(ck vs).length=vs.length
 | []=>by simp [ck]
 | v::vs=>by simp [ck,wl vs]
theorem C9 {n m:Nat} {f g:Nat->List V} (h:toA (.sl n f)=toA (.sl m g)):n=m/\∀ i,i < n->ck (f i)=ck (g i):=by
 simp only [toA,ab.fn.injEq,true_and] at h
 have hl:=congrArg List.length h
 simp only [List.length_map,List.length_range] at hl
 subst hl
 refine ⟨rfl,fun i hi=>?_⟩
 have:=congrArg (fun l=>l[i]?) h
 simpa [hi] using this
def lM:V->Option (Nat × (Nat->List V))
 | .sl n f=>some (n,f)
 | .tup (.sl n f::_)=>some (n,f)
 | _=>none
def EU:V->List V
 | .tup (_::vs)=>vs
 | _=>[]
def GT (v:V):V->V
 | .tup (_::vs)=>.tup (v::vs)
 | _=>v
def jY (a:ab):V->ab
 | .tup (_::vs)=>.tup (a::ck vs)
 | _=>a
theorem jQ {r:V} {n:Nat} {f:Nat->List V} (h:lM r=some (n,f)):r=.sl n f ∨ ∃ vs,r=.tup (.sl n f::vs):=by
 unfold lM at h
 split at h
 ·cases h; exact .inl rfl
 ·cases h; exact .inr ⟨_,rfl⟩
 ·cases h
def okL (e:Nat) (r:V):Prop:=∃ n f,lM r=some (n,f)/\n<=9223372036854775807/\(∀ i,i < n->okE e (f i)=true/\(ck (f i)).all aQ=true)/\(ck (EU r)).all aQ=true
def BP (e:Nat) (ty:TypeId) (nb:Nat) (lh:List ac) (n:Nat) (f:FnV) (x:ab):Prop :=
 (n=0/\x=.slice none 0 0) ∨ ∃ b c az,nb<=b/\lh[b]? = some (.cells az ty)/\x=.slice (some (.l b 0)) n c/\az.length=c * e/\n<=c/\∀ i,i < n->(az.drop (i * e)).take e=ck (f i)
theorem tN {m m':ao} {x x':ab} {r:V} {n:Nat} {f:Nat->List V} {v:Value} (hr:lM r=some (n,f)) (hs:(ck (EU r)).all aQ=true) (hx:∀ u,vrel m x u->vrel m' x' u) (h:vrel m (jY x r) v):vrel m' (jY x' r) v:=by
 rcases jQ hr with rfl | ⟨vs,rfl⟩
 ·exact hx v h
 ·simp only [jY,vrel] at h ⊢
  obtain ⟨us,rfl,h2⟩:=h
  refine ⟨us,rfl,?_⟩
  simp only [af] at h2 ⊢
  obtain ⟨u,us',e,h3,h4⟩:=h2
  exact ⟨u,us',e,hx u h3,eQ hs h4⟩
theorem Ae {e:Nat} {f:Nat->List V}:∀ {n:Nat},(∀ i,i < n->(ck (f i)).length=e)->((List.range n).flatMap fun i=>ck (f i)).length=n * e/\∀ i,i < n->(((List.range n).flatMap fun i=>ck (f i)).drop (i * e)).take e=ck (f i)
 | 0,_=>⟨by simp,fun i hi=>by omega⟩
 | n+1,h=>by
   obtain ⟨h1,h2⟩:=Ae (n:=n) fun i hi=>h i (by omega)
   rw [List.range_succ,List.flatMap_append]
   simp only [List.flatMap_cons,List.flatMap_nil,List.append_nil]
   have hn:=h n (by omega)
   refine ⟨by rw [List.length_append,h1,hn,Nat.succ_mul],fun i hi=>?_⟩
   by_cases e1:i=n
   ·subst e1
    rw [List.drop_append_of_le_length (by omega),List.drop_of_length_le (by omega),List.nil_append,List.take_of_length_le (by omega)]
   ·have hle:i * e+e<=n * e:=by rw [← Nat.succ_mul]; exact Nat.mul_le_mul_right e (by omega)
    rw [List.drop_append_of_le_length (by omega),List.take_append_of_le_length (by rw [List.length_drop]; omega)]
    exact h2 i (by omega)
theorem vC {α:Type} {l l':List α} {N a e:Nat} (h:l.take N=l'.take N) (ha:a+e<=N):(l.drop a).take e=(l'.drop a).take e:=by
 have key:∀ l:List α,(l.drop a).take e=((l.take N).drop a).take e:=fun l=>by
  rw [List.drop_take,List.take_take,Nat.min_eq_left (by omega)]
 rw [key l,key l',h]
theorem lx {az:List ab} {e:Nat}:∀ {n:Nat},(∀ i,i < n->((az.drop (i * e)).take e).all aQ=true)->(az.take (n * e)).all aQ=true
 | 0,_=>by simp
 | n+1,h=>by
   rw [Nat.succ_mul,List.take_add,List.all_append,lx fun i hi=>h i (by omega),h n (by omega)]; rfl
theorem i8 {m:ao}:∀ vs:List Value,af m (List.replicate vs.length .any) vs
 | []=>by simp [af]
 | v::vs=>by simp only [List.length_cons,List.replicate_succ,af]; exact ⟨v,vs,rfl,trivial,i8 vs⟩
theorem nf {B:bm} {m:ao} {lh:List ac} {w:World} (h:aw B m lh w) {b:Nat} {az:List ab} {vs:Array Value} {ty:TypeId} (hb:w.heap[b]? = some (.cells vs ty (0,0)))
 (hs:af (fun k=>if k=lh.length then some b else m k) az vs.toList) (h0:B.w0.heap.size<=b) (h1:B.wf.heap.size<=b) (hn:∀ k b',m k=some b'->b' ≠ b):aw B (fun k=>if k=lh.length then some b else m k) (lh++[.cells az ty]) w/\m.le (fun k=>if k=lh.length then some b else m k):=by
 have hle:m.le (fun k=>if k=lh.length then some b else m k):=fun k x hk=>by
  have:k ≠ lh.length:=fun e=>by rw [e,h.dom _ (Nat.le_refl _)] at hk; cases hk
  simp only [if_neg this]; exact hk
 have hget:∀ k cs ty',(lh++[ac.cells az ty])[k]? = some (.cells cs ty')->(k=lh.length/\cs=az/\ty'=ty) ∨ (k < lh.length/\lh[k]? = some (.cells cs ty')):=fun k cs ty' hk=>by
  rw [List.getElem?_append] at hk
  split at hk
  ·rename_i hlt; exact .inr ⟨hlt,hk⟩
  ·rename_i hge
   have:k - lh.length=0:=by
    apply Classical.byContradiction; intro hne
    rw [List.getElem?_eq_none (by simp; omega)] at hk; cases hk
   rw [this] at hk
   simp only [List.getElem?_cons_zero,Option.some.injEq,ac.cells.injEq] at hk
   exact .inl ⟨by omega,hk.1.symm,hk.2.symm⟩
 refine ⟨⟨h.os,h.tape,h.output,h.size,h.old,h.fsize,h.kept,fun k cs ty' hk=>?_,fun k k' b' cs cs' ty1 ty2 hk hk' hm hm'=>?_,fun k hk=>?_,fun k hk=>?_,fun k b' hk=>?_⟩,hle⟩
 ·rcases hget k cs ty' hk with ⟨rfl,rfl,rfl⟩ | ⟨hlt,hk⟩
  ·exact ⟨b,vs,by simp,hs,hb,h0,.inl h1⟩
  ·obtain ⟨b',vs',g1,g2,g3,g4,g5⟩:=h.loc k cs ty' hk
   exact ⟨b',vs',hle _ _ g1,bl hle _ _ g2,g3,g4,g5⟩
 ·rcases hget k cs ty1 hk with ⟨e1,_,_⟩ | ⟨l1,g1⟩ <;> rcases hget k' cs' ty2 hk' with ⟨e2,_,_⟩ | ⟨l2,g2⟩
  ·omega
  ·simp only [e1,if_true] at hm; simp only [if_neg (Nat.ne_of_lt l2)] at hm'; cases hm; exact (hn _ _ hm' rfl).elim
  ·simp only [e2,if_true] at hm'; simp only [if_neg (Nat.ne_of_lt l1)] at hm; cases hm'; exact (hn _ _ hm rfl).elim
  ·simp only [if_neg (Nat.ne_of_lt l1)] at hm; simp only [if_neg (Nat.ne_of_lt l2)] at hm'; exact h.inj k k' b' cs cs' ty1 ty2 g1 g2 hm hm'
 ·simp only [List.length_append,List.length_cons,List.length_nil] at hk
  simp only [if_neg (show k ≠ lh.length by omega)]; exact h.dom k (by omega)
 ·rw [List.getElem?_append] at hk
  split at hk
  ·rename_i hlt; simp only [if_neg (Nat.ne_of_lt hlt)]; exact h.dead k hk
  ·rename_i hge
   have:k - lh.length=0:=by
    apply Classical.byContradiction; intro hne
    rw [List.getElem?_eq_none (by simp; omega)] at hk; cases hk
   rw [this] at hk; simp at hk
 ·by_cases e1:k=lh.length
  ·simp only [e1,if_true,Option.some.injEq] at hk; subst hk; exact (Array.getElem?_eq_some_iff.1 hb).1
  ·simp only [if_neg e1] at hk; exact h.rng k b' hk
abbrev aJ:=List V->Option ((List V × List V) × Prop × V)
def okN (r:V):Prop:=∀ (w0:World) (lh:List ac),∃ x new,vr w0 (List.replicate lh.length .dead++new) Nu.nil r x
inductive Ent where
 | con (C:aJ)
 | conL (e:Nat) (ty:TypeId) (C:aJ) (h:∀ ds d p r,C ds=some (d,p,r)->d.1=d.2->p->okL e r)
 | conN (C:aJ) (h:∀ ds d p r,C ds=some (d,p,r)->d.1=d.2->p->okN r)
 | inl (sf:aE) (un:Unr)
abbrev aX:=List (FuncId × Ent)
def iD:aX->FuncId->Option Ent
 | [],_=>none
 | (k,c)::l,f=>cond (Nat.beq f k) (some c) (iD l f)
def vP (C:aJ):bf:=fun w0 args lh K=>∃ ds d p r,vrs w0 lh Nu.nil ds args/\C ds=some (d,p,r)/\(d.1=d.2/\p)/\jR (toA r)=true/\K (toA r) lh
def vL (e:Nat) (ty:TypeId) (C:aJ):bf:=fun w0 args lh K=>∃ ds d p r n f,vrs w0 lh Nu.nil ds args/\C ds=some (d,p,r)/\(d.1=d.2/\p)/\lM r=some (n,f)/\okL e r/\∀ x new,BP e ty lh.length (lh++new) n f x->K (jY x r) (lh++new)
def vN (C:aJ):bf:=fun w0 args lh K=>∃ ds d p r,vrs w0 lh Nu.nil ds args/\C ds=some (d,p,r)/\(d.1=d.2/\p)/\okN r/\∀ x new,vr w0 (List.replicate lh.length .dead++new) Nu.nil r x->K x (lh++new)
def SV (ct:aX):vM
 | 0,f=>match iD ct f with
   | some (.con C)=>vP C
   | some (.conL e ty C _)=>vL e ty C
   | some (.conN C _)=>vN C
   | _=>IC
 | n+1,f=>match iD ct f with
   | some (.con C)=>vP C
   | some (.conL e ty C _)=>vL e ty C
   | some (.conN C _)=>vN C
   | some (.inl sf _)=>CZ (SV ct n) sf
   | none=>IC
section
variable {α:Type}
def wy (C:aJ) (vs:List V) (h:List O) (K:V->T α):T α:=match C (vs.map (tt h)) with
 | none=>.fail 81
 | some (d,p,r)=>.obq d.1 d.2 (.obp p (.ob (jR (toA r)) (obs (qM h vs) (K r))))
def u4 (e:Nat) (ty:TypeId) (C:aJ) (vs:List V) (h:List O) (K:V->List O->T α):T α:=match C (vs.map (tt h)) with
 | none=>.fail 81
 | some (d,p,r)=>match lM r with
   | none=>.fail 85
   | some (n,f)=>.obq d.1 d.2 (.obp p (obs (qM h vs) (K (GT (.gs (aY h) n) r) (wB h (.gl e n f ty)))))
def tZ (C:aJ) (vs:List V) (h:List O) (K:V->T α):T α:=match C (vs.map (tt h)) with
 | none=>.fail 86
 | some (d,p,r)=>.obq d.1 d.2 (.obp p (obs (qM h vs) (K r)))
def ju (ct:aX):CP α:=fun f vs h K=>match iD ct f with
 | some (.con C)=>wy C vs h K
 | _=>.fail 80
def jb (ct:aX):Nat->CF α
 | 0,f,vs,h,K=>match iD ct f with
   | some (.con C)=>wy C vs h fun v=>K v h
   | some (.conL e ty C _)=>u4 e ty C vs h K
   | some (.conN C _)=>tZ C vs h fun v=>K v h
   | _=>.fail 82
 | n+1,f,vs,h,K=>match iD ct f with
   | some (.con C)=>wy C vs h fun v=>K v h
   | some (.conL e ty C _)=>u4 e ty C vs h K
   | some (.conN C _)=>tZ C vs h fun v=>K v h
   | some (.inl sf un)=>kF (jb ct n) (ju ct) un n sf vs h K
   | none=>.fail 83
theorem pW {w0:World} {LP:db} {C:aJ} {vs:List V} {h:List O} {K:V->T α} {Q:α->Prop} {ν:Nu} {nV nS:Nat} {args:List ab} {lh:List ac} {KA:ab->List ac->Prop} (hv:vrs w0 ν.z ν vs args) (hh:HR w0 ν nV nS h lh) (hs:sat LP (wy C vs h K) Q)
 (hK:∀ v a,vr w0 ν.z ν v a->sat LP (K v) Q->KA a lh):vP C w0 args lh KA:=by
 unfold wy at hs
 split at hs
 ·exact hs.elim
 ·rename_i d p r hr
  simp only [sat] at hs
  obtain ⟨hb,hs4⟩:=u6 hs.2.2.2
  exact ⟨_,d,p,r,m8 hh hb hv,hr,⟨hs.1,hs.2.1⟩,hs.2.2.1,hK r (toA r) ((ti hs.2.2.1 _).2 rfl) hs4⟩
theorem tn {w0:World} {LP:db} {e:Nat} {ty:TypeId} {C:aJ} (hC:∀ ds d p r,C ds=some (d,p,r)->d.1=d.2->p->okL e r) {vs:List V} {h:List O} {K:V->List O->T α} {Q:α->Prop} {ν:Nu} {nV nS:Nat} {args:List ab} {lh:List ac} {KA:ab->List ac->Prop} (hv:vrs w0 ν.z ν vs args) (hh:HR w0 ν nV nS h lh) (hs:sat LP (u4 e ty C vs h K) Q)
 (hK:∀ v h' ν' a lh',ν.sub ν'->HR w0 ν' nV nS h' lh'->vr w0 ν'.z ν' v a->sat LP (K v h') Q->KA a lh'):vL e ty C w0 args lh KA:=by
 unfold u4 at hs
 split at hs
 ·exact hs.elim
 ·rename_i d p r hr
  split at hs
  ·exact hs.elim
  ·rename_i n f hl
   simp only [sat] at hs
   obtain ⟨hb,hs4⟩:=u6 hs.2.2
   have ho:=hC _ _ _ _ hr hs.1 hs.2.1
   refine ⟨_,d,p,r,n,f,m8 hh hb hv,hr,⟨hs.1,hs.2.1⟩,hl,ho,fun x new hx=>?_⟩
   obtain ⟨n',f',hl',hn,hel,hrs⟩:=ho
   rw [hl] at hl'; cases hl'
   have hp:=hh.dom h.length (Nat.le_refl _)
   have key:∃ y:Option (Nat × Nat × Nat),vr w0 ν.z (upd ν h.length y) (.gs h.length n) x/\vq w0 (upd ν h.length y) nV nS (lh++new) h.length (.gl e n f ty)/\∀ z,y=some z->lh.length<=z.1/\z.1 < (lh++new).length:=by
    rcases hx with ⟨rfl,rfl⟩ | ⟨b,c,az,hb,hbl,rfl,hal,hnc,hall⟩
    ·exact ⟨none,by simp only [vr]; exact .inl ⟨bY _ _ _,by simp⟩,.inl ⟨bY _ _ _,rfl⟩,fun z hz=>by cases hz⟩
    ·refine ⟨some (b,c,e),by simp only [vr]; exact .inr ⟨b,c,e,bY _ _ _,rfl,hnc⟩,.inr ⟨b,c,az,bY _ _ _,hbl,hal,⟨hnc,hn⟩,fun i hi=>⟨(hel i hi).1,?_⟩⟩,fun z hz=>?_⟩
     ·rw [hall i hi]; exact (dc (hel i hi).2 _).2 rfl
     ·cases hz; exact ⟨hb,(List.getElem?_eq_some_iff.1 hbl).1⟩
   obtain ⟨y,k1,k2,k3⟩:=key
   have hsub:=dN (x:=y) hp
   refine hK _ _ (upd ν h.length y) _ _ hsub ?_ ?_ hs4
   ·rw [lZ]
    have hcell:∀ k o,(h++[O.gl e n f ty])[k]? = some o->(k=h.length/\o=.gl e n f ty) ∨ (k < h.length/\h[k]? = some o):=fun k o hk=>by
     rw [List.getElem?_append] at hk
     split at hk
     ·rename_i hlt; exact .inr ⟨hlt,hk⟩
     ·have:k - h.length=0:=by
       apply Classical.byContradiction; intro hne
       rw [List.getElem?_eq_none (by simp; omega)] at hk; cases hk
      rw [this] at hk; simp at hk
      exact .inl ⟨by omega,hk.symm⟩
    have hlive:∀ k,aA (h++[O.gl e n f ty]) k->k=h.length ∨ aA h k:=fun k hl=>by
     rcases cy hl with ⟨cs,t,hk⟩ | ⟨_,_,_,_,hk⟩
     ·rcases hcell k _ hk with ⟨e1,_⟩ | ⟨_,g⟩
      ·exact .inl e1
      ·exact .inr (bT g)
     ·rcases hcell k _ hk with ⟨e1,_⟩ | ⟨_,g⟩
      ·exact .inl e1
      ·exact .inr (di g)
    have hne:∀ k,aA h k->k ≠ h.length:=fun k hl e1=>by
     rcases cy hl with ⟨cs,t,hk⟩ | ⟨_,_,_,_,hk⟩ <;> (have:=(List.getElem?_eq_some_iff.1 hk).1; omega)
    refine ⟨fun k o hk=>?_,fun k k' x1 x2 h1 h2 h3 h4 h5=>?_,fun k hk=>?_,fun k x1 hk=>?_,fun j az ty hj=>?_,fun k x1 hl hk=>?_⟩
    ·rcases hcell k o hk with ⟨rfl,rfl⟩ | ⟨hlt,hk⟩
     ·exact k2
     ·by_cases hd:o=.dead
      ·subst hd
       obtain ⟨g1,g2,g3⟩:=hh.blk k _ hk
       exact ⟨by rw [cg,if_neg (Nat.ne_of_lt hlt)]; exact g1,g2,by rw [List.getElem?_append_left (List.getElem?_eq_some_iff.1 g3).1]; exact g3⟩
      ·exact bS hsub hd (fun b az ty' g1 _=>by rw [List.getElem?_append_left (List.getElem?_eq_some_iff.1 g1).1]; exact g1) (hh.blk k _ hk)
    ·rw [cg] at h3 h4
     rcases hlive k h1 with e1 | e1 <;> rcases hlive k' h2 with e2 | e2
     ·omega
     ·rw [if_pos e1] at h3; rw [if_neg (hne _ e2)] at h4; simp only [Option.some.injEq] at h3
      have:=(k3 _ h3).1; have:=hh.rng _ _ h4; omega
     ·rw [if_neg (hne _ e1)] at h3; rw [if_pos e2] at h4; simp only [Option.some.injEq] at h4
      have:=(k3 _ h4).1; have:=hh.rng _ _ h3; omega
     ·rw [if_neg (hne _ e1)] at h3; rw [if_neg (hne _ e2)] at h4
      exact hh.inj k k' x1 x2 e1 e2 h3 h4 h5
    ·simp only [List.length_append,List.length_cons,List.length_nil] at hk
     rw [cg,if_neg (by omega)]; exact hh.dom k (by omega)
    ·rw [cg] at hk
     split at hk
     ·simp only [Option.some.injEq] at hk; exact (k3 _ hk).2
     ·rw [List.length_append]; exact Nat.lt_of_lt_of_le (hh.rng k x1 hk) (by omega)
    ·have g1:=hh.zl j az ty hj
     rw [List.getElem?_append_left (List.getElem?_eq_some_iff.1 g1).1]; exact g1
    ·rw [cg] at hk
     rcases hlive k hl with e1 | e1
     ·rw [if_pos e1] at hk; simp only [Option.some.injEq] at hk
      have:=(k3 _ hk).1
      exact Ag hh.zl (by rw [List.getElem?_eq_none (by omega)]; rfl)
     ·rw [if_neg (hne _ e1)] at hk; exact hh.zn k x1 e1 hk
   ·rw [ba]
    rcases jQ hl with rfl | ⟨us,rfl⟩
    ·exact k1
    ·simp only [GT,jY,vr]
     refine ⟨_,rfl,?_⟩
     simp only [vrs]
     exact ⟨_,_,rfl,k1,(dc hrs _).2 rfl⟩
theorem tI {w0:World} {LP:db} {C:aJ} (hC:∀ ds d p r,C ds=some (d,p,r)->d.1=d.2->p->okN r) {vs:List V} {h:List O} {K:V->T α} {Q:α->Prop} {ν:Nu} {nV nS:Nat} {args:List ab} {lh:List ac} {KA:ab->List ac->Prop} (hv:vrs w0 ν.z ν vs args) (hh:HR w0 ν nV nS h lh) (hs:sat LP (tZ C vs h K) Q)
 (hK:∀ v ν' a lh',ν.sub ν'->HR w0 ν' nV nS h lh'->vr w0 ν'.z ν' v a->sat LP (K v) Q->KA a lh'):vN C w0 args lh KA:=by
 unfold tZ at hs
 split at hs
 ·exact hs.elim
 ·rename_i d p r hr
  simp only [sat] at hs
  obtain ⟨hb,hs4⟩:=u6 hs.2.2
  refine ⟨_,d,p,r,m8 hh hb hv,hr,⟨hs.1,hs.2.1⟩,hC _ _ _ _ hr hs.1 hs.2.1,fun x new hx=>?_⟩
  have hz:∀ k,k < lh.length->((List.range lh.length).map (fun k=>(ν.z[k]?).getD ac.dead)++new)[k]? = some ((ν.z[k]?).getD .dead):=fun k hk=>by
   rw [List.getElem?_append_left (by simpa using hk)]; simp [hk]
  have hz2:∀ k,lh.length<=k->((List.range lh.length).map (fun k=>(ν.z[k]?).getD ac.dead)++new)[k]? = new[k - lh.length]? := fun k hk=>by
   rw [List.getElem?_append_right (by simpa using hk)]; simp
  have hsub:ν.sub ⟨ν.m,(List.range lh.length).map (fun k=>(ν.z[k]?).getD ac.dead)++new⟩:=⟨fun _ _ h=>h,fun k az ty hk=>by
   have g:=hh.zl k az ty hk
   have hlt:=(List.getElem?_eq_some_iff.1 g).1
   show ((List.range lh.length).map (fun k=>(ν.z[k]?).getD ac.dead)++new)[k]? = _
   rw [hz k hlt,hk]; rfl⟩
  refine hK r _ x _ hsub ⟨fun k o hk=>?_,hh.inj,hh.dom,fun k x1 hk=>by rw [List.length_append]; exact Nat.lt_of_lt_of_le (hh.rng k x1 hk) (by omega),fun j az ty hj=>?_,fun k x1 hl hk=>?_⟩ ?_ hs4
  ·by_cases hd:o=.dead
   ·subst hd
    obtain ⟨g1,g2,g3⟩:=hh.blk k _ hk
    exact ⟨g1,g2,by rw [List.getElem?_append_left (List.getElem?_eq_some_iff.1 g3).1]; exact g3⟩
   ·exact bS hsub hd (fun b az ty' g1 _=>by rw [List.getElem?_append_left (List.getElem?_eq_some_iff.1 g1).1]; exact g1) (hh.blk k _ hk)
  ·by_cases hlt:j < lh.length
   ·rw [hz j hlt] at hj
    cases hg:ν.z[j]? with
    | none=>rw [hg] at hj; cases hj
    | some o =>
      rw [hg] at hj
      simp only [Option.getD_some,Option.some.injEq] at hj
      subst hj
      rw [List.getElem?_append_left hlt]; exact hh.zl j az ty hg
   ·rw [hz2 j (by omega)] at hj
    rw [List.getElem?_append_right (by omega)]; exact hj
  ·have hlt:=hh.rng k x1 hk
   have:=hh.zn k x1 hl hk
   show isCells ((List.range lh.length).map (fun k=>(ν.z[k]?).getD ac.dead)++new)[x1.1]? = false
   rw [hz _ hlt]
   cases hg:ν.z[x1.1]? with
   | none=>rfl
   | some o=>rw [hg] at this; exact this
  ·refine lH (fun k x h=>by cases h) r x (mE (fun k az ty hk=>?_) r x hx)
   by_cases hlt:k < lh.length
   ·rw [List.getElem?_append_left (by simpa using hlt)] at hk
    simp [hlt] at hk
   ·rw [List.getElem?_append_right (by simp; omega)] at hk
    rw [hz2 k (by omega)]
    simpa using hk
theorem ke (w0:World) (ct:aX) (LP:db) (lv:Nat):qD w0 (SV ct lv) LP (ju (α:=α) ct):=by
 intro f vs h K Q ν nV nS args lh KA hv hh hs hK
 unfold ju at hs
 split at hs
 ·rename_i C hC
  have:SV ct lv f=vP C:=by cases lv <;> simp only [SV,hC]
  rw [this]
  exact pW hv hh hs hK
 ·exact hs.elim
def ks:aX->Bool
 | []=>true
 | (_,.con _)::l=>ks l
 | (_,.conL ..)::l=>ks l
 | (_,.conN ..)::l=>ks l
 | (_,.inl sf _)::l=>dZ sf.ntmps sf.body && ks l
theorem sX:∀ {ct:aX} {f:FuncId} {sf:aE} {un:Unr},ks ct=true->iD ct f=some (.inl sf un)->dZ sf.ntmps sf.body=true
 | [],_,_,_,_,h=>by cases h
 | (k,c)::l,f,sf,un,hd,h=>by
   simp only [iD] at h
   cases hb:Nat.beq f k with
   | true =>
     rw [hb] at h; simp only [cond] at h; cases h
     simp only [ks,Bool.and_eq_true] at hd; exact hd.1
   | false =>
     rw [hb] at h; simp only [cond] at h
     refine sX (ct:=l) ?_ h
     cases c with
     | con C=>exact hd
     | conL e ty C h=>exact hd
     | conN C h=>exact hd
     | inl sf' un'=>simp only [ks,Bool.and_eq_true] at hd; exact hd.2
theorem kq (w0:World) (ct:aX) (hd:ks ct=true):∀ (lv:Nat),ph w0 (SV ct lv) (bK w0 (SV ct)) false (jb (α:=α) ct lv)
 | 0=>by
   intro f vs h K Q ν nV nS args lh KA hv hh hs hK
   simp only [jb] at hs
   split at hs
   ·rename_i C hC
    have:SV ct 0 f=vP C:=by simp only [SV,hC]
    rw [this]
    exact pW hv hh hs fun v a hv hs=>hK v h ν a lh (fun e=>by cases e) (Nu.sub_refl ν) hh hv hs
   ·rename_i e ty C hC0 hC
    have:SV ct 0 f=vL e ty C:=by simp only [SV,hC]
    rw [this]
    exact tn hC0 hv hh hs fun v h' ν' a lh' g0 g1 g2 g3=>hK v h' ν' a lh' (fun e=>by cases e) g0 g1 g2 g3
   ·rename_i C hC0 hC
    have:SV ct 0 f=vN C:=by simp only [SV,hC]
    rw [this]
    exact tI hC0 hv hh hs fun v ν' a lh' g0 g1 g2 g3=>hK v h ν' a lh' (fun e=>by cases e) g0 g1 g2 g3
   ·exact hs.elim
 | n+1=>by
   intro f vs h K Q ν nV nS args lh KA hv hh hs hK
   simp only [jb] at hs
   split at hs
   ·rename_i C hC
    have:SV ct (n+1) f=vP C:=by simp only [SV,hC]
    rw [this]
    exact pW hv hh hs fun v a hv hs=>hK v h ν a lh (fun e=>by cases e) (Nu.sub_refl ν) hh hv hs
   ·rename_i e ty C hC0 hC
    have:SV ct (n+1) f=vL e ty C:=by simp only [SV,hC]
    rw [this]
    exact tn hC0 hv hh hs fun v h' ν' a lh' g0 g1 g2 g3=>hK v h' ν' a lh' (fun e=>by cases e) g0 g1 g2 g3
   ·rename_i C hC0 hC
    have:SV ct (n+1) f=vN C:=by simp only [SV,hC]
    rw [this]
    exact tI hC0 hv hh hs fun v ν' a lh' g0 g1 g2 g3=>hK v h ν' a lh' (fun e=>by cases e) g0 g1 g2 g3
   ·rename_i sf un hC
    have:SV ct (n+1) f=CZ (SV ct n) sf:=by simp only [SV,hC]
    rw [this]
    exact qm (kq w0 ct hd n) (ke w0 ct _ n) (sX hd hC) hv hh hs fun v h' ν' a lh' g0 g1 g2 g3=>hK v h' ν' a lh' (fun e=>by cases e) g0 (g1 nV nS) g2 g3
   ·exact hs.elim
end
inductive aW (P:Program) (eqs:List TypeId) (its:List fm):aX->Prop
 | nil:aW P eqs its []
 | con {f:FuncId} {C:aJ} {ct:aX} (h:(vP C).Ok P f) (hl:aW P eqs its ct):aW P eqs its ((f,.con C)::ct)
 | conL {f:FuncId} {e:Nat} {ty:TypeId} {C:aJ} {hC:∀ ds d p r,C ds=some (d,p,r)->d.1=d.2->p->okL e r} {ct:aX} (h:(vL e ty C).Ok P f) (hl:aW P eqs its ct):aW P eqs its ((f,.conL e ty C hC)::ct)
 | conN {f:FuncId} {C:aJ} {hC:∀ ds d p r,C ds=some (d,p,r)->d.1=d.2->p->okN r} {ct:aX} (h:(vN C).Ok P f) (hl:aW P eqs its ct):aW P eqs its ((f,.conN C hC)::ct)
 | inl {f : FuncId} {fn : Func} {sf : aE} {un : Unr} {ct : aX} (hf : P.funcs[f]? = some fn) (hn : (fn.name == "runtime.NumGoroutine") = false) (hc : dO P eqs its fn = some sf) (hd : dZ sf.ntmps sf.body = true) (hl : aW P eqs its ct) : aW P eqs its ((f, .inl sf un) :: ct)
theorem aW.look {P:Program} {eqs:List TypeId} {its:List fm} {ct:aX} (h:aW P eqs its ct):∀ {f:FuncId} {x:Ent},iD ct f=some x->match x with
 | .con C=>(vP C).Ok P f
 | .conL e ty C _=>(vL e ty C).Ok P f
 | .conN C _=>(vN C).Ok P f
 | .inl sf _ => ∃ fn, P.funcs[f]? = some fn /\ (fn.name == "runtime.NumGoroutine") = false /\ dO P eqs its fn = some sf := by
 induction h with
 | nil=>intro f x h; cases h
 | @con k C ct h hl ih =>
   intro f x hx
   simp only [iD] at hx
   cases hb:Nat.beq f k with
   | true=>rw [hb] at hx; simp only [cond] at hx; cases hx; have:=Nat.eq_of_beq_eq_true hb; subst this; exact h
   | false=>rw [hb] at hx; simp only [cond] at hx; exact ih hx
 | @conL k e ty C hC ct h hl ih =>
   intro f x hx
   simp only [iD] at hx
   cases hb:Nat.beq f k with
   | true=>rw [hb] at hx; simp only [cond] at hx; cases hx; have:=Nat.eq_of_beq_eq_true hb; subst this; exact h
   | false=>rw [hb] at hx; simp only [cond] at hx; exact ih hx
 | @conN k C hC ct h hl ih =>
   intro f x hx
   simp only [iD] at hx
   cases hb:Nat.beq f k with
   | true=>rw [hb] at hx; simp only [cond] at hx; cases hx; have:=Nat.eq_of_beq_eq_true hb; subst this; exact h
   | false=>rw [hb] at hx; simp only [cond] at hx; exact ih hx
 | @inl k fn sf un ct hf hn hc hd hl ih =>
   intro f x hx
   simp only [iD] at hx
   cases hb:Nat.beq f k with
   | true=>rw [hb] at hx; simp only [cond] at hx; cases hx; have:=Nat.eq_of_beq_eq_true hb; subst this; exact ⟨fn,hf,hn,hc⟩
   | false=>rw [hb] at hx; simp only [cond] at hx; exact ih hx
theorem aW.dst {P:Program} {eqs:List TypeId} {its:List fm} {ct:aX} (h:aW P eqs its ct):ks ct=true:=by
 induction h with
 | nil=>rfl
 | con h hl ih=>exact ih
 | conL h hl ih=>exact ih
 | conN h hl ih=>exact ih
 | inl hf hn hc hd hl ih=>simp only [ks,hd,ih,Bool.and_self]
theorem aW.ok {P:Program} {eqs:List TypeId} {its:List fm} {ct:aX} (h:aW P eqs its ct) (hE:∀ t ∈ eqs,cm P t) (hI:jK P eqs its):∀ (lv:Nat) (g:FuncId),(SV ct lv g).Ok P g
 | 0,g=>by
   simp only [SV]
   split
   ·rename_i C hC; exact h.look hC
   ·rename_i e ty C hC0 hC; exact h.look hC
   ·rename_i C hC0 hC; exact h.look hC
   ·exact DZ g
 | n+1,g=>by
   simp only [SV]
   split
   ·rename_i C hC; exact h.look hC
   ·rename_i e ty C hC0 hC; exact h.look hC
   ·rename_i C hC0 hC; exact h.look hC
   ·rename_i sf un hC
    obtain ⟨fn,h1,h2,h3⟩:=h.look hC
    exact Gc (h.ok hE hI n) hE hI h1 h2 h3
   ·exact DZ g
def LV:Nat:=12
def run (ct:aX) (un:Unr) (sf:aE) (ds:List V):T V:=kF (jb ct LV) (ju ct) un LV sf ds [] fun v _=>.ret v
theorem HB {α:Type} {P:Program} {eqs:List TypeId} {its:List fm} {ct:aX} {f:FuncId} {fn:Func} {sf:aE} {un:Unr} {C:aJ} {K0:V->T α} {Q0:V->α->Prop} (hK0:∀ w0 r v,sat (bK w0 (SV ct)) (K0 v) (Q0 r)->toA v=toA r) (hT:aW P eqs its ct) (hE:∀ t ∈ eqs,cm P t) (hI:jK P eqs its) (hf:P.funcs[f]? = some fn)
 (hn : (fn.name == "runtime.NumGoroutine") = false) (hc : dO P eqs its fn = some sf) (hd : dZ sf.ntmps sf.body = true)
 (h:∀ w0 ds d p r,C ds=some (d,p,r)->d.1=d.2->p->jR (toA r)=true->sat (bK w0 (SV ct)) (kF (jb ct LV) (ju ct) un LV sf ds [] fun v _=>K0 v) (Q0 r)):(vP C).Ok P f:=by
 refine ⟨fun B m lh w args vs K hrel hargs hsp=>?_,fun _ _ _ _ _ hk ⟨ds,d,p,r,h1,h2,h3,h4,h5⟩=>⟨ds,d,p,r,h1,h2,h3,h4,hk _ _ h5⟩,fun _ _ _ _ ⟨_,_,_,_,_,_,_,_,h⟩=>h⟩
 obtain ⟨ds,d,p,r,h1,h2,⟨h30,h3⟩,h4,h5⟩:=hsp
 obtain ⟨args',g1,g2⟩:=eT hrel ds args vs h1 hargs
 have hs:=nB (Sp:=fun w0 args lh K=>lh=[]/\∃ ds d p r,vrs w0 [] Nu.nil ds args/\C ds=some (d,p,r)/\(d.1=d.2/\p)/\jR (toA r)=true/\K (toA r) []) (hT.ok hE hI LV) hE hI hf hn hc (fun w0 args lh K hw ha ⟨e,ds,d,p,r,k1,k2,⟨k30,k3⟩,k4,k5⟩=>by
  subst e
  refine qm (kq w0 ct hT.dst LV) (ke w0 ct _ LV) hd k1 (HR.none w0) (h w0 ds d p r k2 k30 k3 k4) fun v h' ν' a lh' _ q1 q2 q3=>?_
  have q3:=hK0 _ _ _ q3
  have:=(ti (by rw [q3]; exact k4) a).1 q2
  rw [q3] at this
  subst this
  exact Dq (lh:=[]) (l:=lh') (Cp k4) hw k5)
 obtain ⟨e1,e2⟩:=hs ⟨w,w,fun _=>False,[]⟩ (fun _=>none) [] w args' vs (fun r' _=>r'=toA r) (aw.start w) g1 ⟨rfl,ds,d,p,r,g2,h2,⟨h30,h3⟩,h4,rfl⟩
 refine ⟨e1,e2.mono fun e w' ⟨v,r',m1,lh1,he,hv,_,hr,hk⟩=>?_⟩
 subst hk
 exact ⟨v,_,m,lh,he,BH h4 hv,Ext.refl _ _,hrel.back hr,h5⟩
def yp (e:Nat) (ty:TypeId) (h:List O):V->V
 | .gs k n=>match nth h k with
   | some (.gl e' _ f ty')=>cond (Nat.beq e' e && Nat.beq ty' ty) (.sl n f) .any
   | _=>.any
 | .ns=>.sl 0 fun _=>[]
 | _=>.any
def AU (h:List O):V->Bool
 | .gs k n=>match nth h k with
   | some (.gl _ n' _ _)=>decide (n<=n')
   | _=>true
 | _=>true
def Bb (h:List O):V->Bool
 | .tup (v::_)=>AU h v
 | v=>AU h v
def Bt (e:Nat) (ty:TypeId) (h:List O):V->V
 | .tup (v::vs)=>.tup (yp e ty h v::vs)
 | v=>yp e ty h v
section
variable {w0:World} {ν:Nu} {nV nS:Nat} {h:List O} {lh:List ac}
theorem zB (hh:HR w0 ν nV nS h lh) {e:Nat} {ty:TypeId} {v:V} {a:ab} {n:Nat} {f:Nat->List V} (hv:vr w0 ν.z ν v a) (hs:∀ i,i < n->(ck (f i)).all aQ=true) (hc:AU h v=true) (ht:toA (yp e ty h v)=toA (.sl n f)):BP e ty 0 lh n f a:=by
 unfold yp at ht
 split at ht
 ·rename_i k n1
  unfold AU at hc; dsimp only at hc
  rw [aF] at ht hc
  split at ht
  ·rename_i e' n' g ty' hk
   cases hb:(Nat.beq e' e && Nat.beq ty' ty) with
   | false=>rw [hb] at ht; simp [toA] at ht
   | true =>
     rw [hb] at ht
     simp only [Bool.and_eq_true] at hb
     have e1:=Nat.eq_of_beq_eq_true hb.1
     have e2:=Nat.eq_of_beq_eq_true hb.2
     rw [hk] at hc
     have e3:=of_decide_eq_true hc
     subst e1; subst e2
     obtain ⟨rfl,hel⟩:=C9 ht
     simp only [vr] at hv
     rcases hv with ⟨g1,rfl,rfl⟩ | ⟨b,c,e2,g1,rfl,g3⟩
     ·exact .inl ⟨rfl,rfl⟩
     ·rcases hh.blk k _ hk with ⟨h1,h2⟩ | ⟨b',c',az,h1,h2,h3,h4,h5⟩
      ·rw [h1] at g1; cases g1
      ·rw [h1] at g1
       obtain ⟨rfl,rfl,rfl⟩:b'=b/\c'=c/\e'=e2:=by simpa using g1
       refine .inr ⟨b',c',az,Nat.zero_le _,h2,rfl,h3,g3,fun i hi=>?_⟩
       have:=(dc (by rw [hel i hi]; exact hs i hi) _).1 (h5 i (by omega)).2
       rw [this,hel i hi]
  ·simp [toA] at ht
 ·simp only [vr] at hv
  obtain ⟨rfl,_⟩:=C9 ht
  exact .inl ⟨rfl,hv⟩
 ·simp [toA] at ht
theorem GD (hh:HR w0 ν nV nS h lh) {e:Nat} {ty:TypeId} {v r:V} {a:ab} {n:Nat} {f:Nat->List V} (hv:vr w0 ν.z ν v a) (hr:lM r=some (n,f)) (ho:okL e r) (hc:Bb h v=true) (ht:toA (Bt e ty h v)=toA r):∃ x,BP e ty 0 lh n f x/\a=jY x r:=by
 obtain ⟨n',f',hl,_,hel,hrs⟩:=ho
 rw [hr] at hl; cases hl
 have hs:=fun i hi=>(hel i hi).2
 unfold Bt at ht
 rcases jQ hr with rfl | ⟨us,rfl⟩
 ·split at ht
  ·simp [toA] at ht
  ·rename_i hv0
   exact ⟨a,zB hh hv hs (by unfold Bb at hc; split at hc <;> first | exact (hv0 _ _ rfl).elim | exact hc) ht,rfl⟩
 ·split at ht
  ·rename_i u vs
   have ht1:toA (yp e ty h u)=toA (.sl n f):=by simp only [toA,ck,ab.tup.injEq,List.cons.injEq] at ht ⊢; exact ht.1
   have ht2:ck vs=ck us:=by simp only [toA,ck,ab.tup.injEq,List.cons.injEq] at ht; exact ht.2
   simp only [vr] at hv
   obtain ⟨az,rfl,hv⟩:=hv
   simp only [vrs] at hv
   obtain ⟨x,xs,rfl,h1,h2⟩:=hv
   refine ⟨x,zB hh h1 hs hc ht1,?_⟩
   simp only [jY]
   rw [(dc (by rw [ht2]; exact hrs) _).1 h2,ht2]
  ·have:∀ u,toA (yp e ty h u) ≠ .tup (ck (.sl n f::us)):=fun u=>by
    unfold yp
    split
    ·split
     ·rename_i e' n' g ty' _
      cases (Nat.beq e' e && Nat.beq ty' ty) <;> simp [toA]
     ·simp [toA]
    ·simp [toA]
    ·simp [toA]
   exact (this _ (by rw [ht]; simp only [toA])).elim
end
theorem exL {e:Nat} {ty:TypeId} {r:V} {n:Nat} {f:Nat->List V} (hr:lM r=some (n,f)) (ho:okL e r) (lh:List ac):∃ x new,BP e ty lh.length (lh++new) n f x:=by
 obtain ⟨n',f',hl,_,hel,_⟩:=ho
 rw [hr] at hl; cases hl
 obtain ⟨h1,h2⟩:=Ae (e:=e) (f:=f) (n:=n) fun i hi=>by rw [wl]; exact (km (hel i hi).1).1
 exact ⟨_,[.cells ((List.range n).flatMap fun i=>ck (f i)) ty],.inr ⟨lh.length,n,(List.range n).flatMap fun i=>ck (f i),Nat.le_refl _,by simp,rfl,h1,Nat.le_refl _,h2⟩⟩
theorem HF {α:Type} {P:Program} {eqs:List TypeId} {its:List fm} {ct:aX} {f:FuncId} {fn:Func} {sf:aE} {un:Unr} {e:Nat} {ty:TypeId} {C:aJ} {K0:V->List O->T α} {Q0:V->α->Prop} (hK0:∀ w0 r v h,sat (bK w0 (SV ct)) (K0 v h) (Q0 r)->Bb h v=true/\toA (Bt e ty h v)=toA r) (hT:aW P eqs its ct) (hE:∀ t ∈ eqs,cm P t) (hI:jK P eqs its) (hf:P.funcs[f]? = some fn)
 (hn : (fn.name == "runtime.NumGoroutine") = false) (hc : dO P eqs its fn = some sf) (hd : dZ sf.ntmps sf.body = true)
 (h:∀ w0 ds d p r,C ds=some (d,p,r)->d.1=d.2->p->sat (bK w0 (SV ct)) (kF (jb ct LV) (ju ct) un LV sf ds [] K0) (Q0 r)):(vL e ty C).Ok P f:=by
 refine ⟨fun B m lh w args vs K hrel hargs hsp=>?_,fun _ _ _ _ _ hk ⟨ds,d,p,r,n,g,h1,h2,h3,h4,h5,h6⟩=>⟨ds,d,p,r,n,g,h1,h2,h3,h4,h5,fun x new hx=>hk _ _ (h6 x new hx)⟩,fun _ _ lh _ ⟨_,_,_,_,_,_,_,_,_,h4,h5,h6⟩=>let ⟨x,new,hx⟩:=exL (ty:=ty) h4 h5 lh; h6 x new hx⟩
 obtain ⟨ds,d,p,r,n,g,h1,h2,⟨h30,h3⟩,h4,h5,h6⟩:=hsp
 obtain ⟨args',g1,g2⟩:=eT hrel ds args vs h1 hargs
 have hs:=nB (Sp:=fun w0 args lh K=>lh=[]/\∃ ds d p r n g,vrs w0 [] Nu.nil ds args/\C ds=some (d,p,r)/\(d.1=d.2/\p)/\lM r=some (n,g)/\okL e r/\∀ x lh1,BP e ty 0 lh1 n g x->K (jY x r) lh1) (hT.ok hE hI LV) hE hI hf hn hc (fun w0 args lh K hw ha ⟨e,ds,d,p,r,n,g,k1,k2,⟨k30,k3⟩,k4,k5,k6⟩=>by
  subst e
  refine qm (kq w0 ct hT.dst LV) (ke w0 ct _ LV) hd k1 (HR.none w0) (h w0 ds d p r k2 k30 k3) fun v h' ν' a lh' _ q1 q2 q3=>?_
  have q3:=hK0 _ _ _ _ q3
  obtain ⟨x,hx,rfl⟩:=GD (q1 0 0) q2 k4 k5 q3.1 q3.2
  exact ⟨_,lh',.inl ⟨rfl,(⟨.inr rfl,trivial⟩:jj [_] [_])⟩,k6 x lh' hx⟩)
 obtain ⟨e1,e2⟩:=hs ⟨w,w,fun _=>False,[]⟩ (fun _=>none) [] w args' vs (fun r' lh1=>∃ x,BP e ty 0 lh1 n g x/\r'=jY x r) (aw.start w) g1 ⟨rfl,ds,d,p,r,n,g,g2,h2,⟨h30,h3⟩,h4,h5,fun x lh1 hx=>⟨x,hx,rfl⟩⟩
 refine ⟨e1,e2.mono fun ee w' ⟨v,r',m1,lh1,he,hv,_,hr,⟨x,hx,hk⟩⟩=>?_⟩
 subst hk
 obtain ⟨n',g',hl,hmax,hel,hrs⟩:=h5
 have hl':=hl
 rw [h4] at hl'; cases hl'
 have hback:=hrel.back hr
 rcases hx with ⟨rfl,rfl⟩ | ⟨b,c,az,_,hbl,rfl,hal,hnc,hall⟩
 ·refine ⟨v,jY (.slice none 0 0) r,m,lh,he,tN h4 hrs (fun u hu=>?_) hv,Ext.refl _ _,hback,?_⟩
  ·simp only [vrel] at hu ⊢; exact hu
  ·have:=h6 (.slice none 0 0) [] (.inl ⟨rfl,rfl⟩)
   rwa [List.append_nil] at this
 ·obtain ⟨b0,us,m1b,hus,hheap,hge,_⟩:=hr.loc b az ty hbl
  have hle:n * e<=az.length:=by rw [hal]; exact Nat.mul_le_mul_right e hnc
  have hlen:=bo hus
  have hnew:∀ k b',m k=some b'->b' ≠ b0:=fun k b' hk e0=>by
   have:=hrel.rng k b' hk; simp only at hge; omega
  have hsc:(az.take (n * e)).all aQ=true:=lx fun i hi=>by rw [hall i hi]; exact (hel i hi).2
  have hvs:af (fun k=>if k=lh.length then some b0 else m k) (az.take (n * e)++List.replicate (us.toList.drop (n * e)).length .any) us.toList:=by
   have:=bC (eQ (m':=fun k=>if k=lh.length then some b0 else m k) hsc (gA (n * e) hus)) (i8 (us.toList.drop (n * e)))
   rwa [List.take_append_drop] at this
  obtain ⟨hH,hle'⟩:=nf hback (b:=b0) (ty:=ty) hheap hvs (Nat.le_trans hrel.size hge) (Nat.le_trans hrel.fsize hge) hnew
  refine ⟨v,jY (.slice (some (.l lh.length 0)) n c) r,_,_,he,tN h4 hrs (fun u hu=>?_) hv,⟨hle',fun k hk=>⟨?_,?_⟩⟩,hH,h6 _ _ (.inr ⟨lh.length,c,az.take (n * e)++List.replicate (us.toList.drop (n * e)).length .any,Nat.le_refl _,by rw [List.getElem?_append_right (Nat.le_refl _),Nat.sub_self]; rfl,rfl,?_,hnc,fun i hi=>?_⟩)⟩
  ·simp only [vrel,bN] at hu ⊢
   obtain ⟨q,rfl,b',hb',rfl⟩:=hu
   rw [m1b] at hb'; cases hb'
   exact ⟨_,rfl,b0,by simp,rfl⟩
  ·rw [List.getElem?_append_left (List.getElem?_eq_some_iff.1 hk).1]; exact hk
  ·have:=(List.getElem?_eq_some_iff.1 hk).1
   simp only [if_neg (Nat.ne_of_lt this)]
  ·simp only [List.length_append,List.length_take,List.length_replicate,List.length_drop]; omega
  ·rw [← hall i hi]
   refine vC (N:=n * e) ?_ (by rw [← Nat.succ_mul]; exact Nat.mul_le_mul_right e (by omega))
   rw [List.take_append_of_le_length (by simp; omega),List.take_take,Nat.min_self]
inductive Ty where
 | int (k:IntKind)
 | bool
 | str
 | agg (ts:List Ty)
 | sl (ts:List Ty)
 | fn (f:FuncId) (xs ys:List Ty)
 | pd (ts:List Ty)
def iv:V->Int
 | .int _ n=>n
 | _=>0
def bv:V->Bool
 | .bool b=>b
 | .kb b=>b
 | _=>false
def sv:V->ByteArray
 | .str s=>s
 | _=>ByteArray.empty
def ap:V->Nat
 | .sl n _=>n
 | .sq n _ _=>n
 | _=>0
def A4:V->Nat
 | .sl n _=>n
 | .sq _ m _=>m
 | _=>0
def atV:V->Nat->List V
 | .sl _ f,i=>f i
 | .sq _ _ f,i=>f i
 | _,_=>[]
def aR:V->List V
 | .agg cs=>cs
 | _=>[]
def fxs:V->List V
 | .fn _ xs _=>xs
 | _=>[]
def fys:V->List V
 | .fn _ _ ys=>ys
 | _=>[]
def pdV:V->List V
 | .pd cs=>cs
 | _=>[]
def hdV:List V->V
 | v::_=>v
 | []=>.any
def tlV:List V->List V
 | _::vs=>vs
 | []=>[]
def be:Ty->Bool
 | .agg _=>false
 | .fn ..=>false
 | .pd _=>false
 | _=>true
mutual
def bD:Ty->V->V
 | .int k,v=>.int k (iv v)
 | .bool,v=>.bool (bv v)
 | .str,v=>.str (sv v)
 | .agg ts,v=>.agg (ak ts (aR v))
 | .sl ts,v=>.sl (ap v) fun i=>ak ts (atV v i)
 | .fn f xs ys,v=>.fn f (ak xs (fxs v)) (ak ys (fys v))
 | .pd ts,v=>.pd (ak ts (pdV v))
def ak:List Ty->List V->List V
 | [],_=>[]
 | t::ts,vs=>bD t (hdV vs)::ak ts (tlV vs)
end
mutual
def bO:Ty->V->Prop
 | .int k,v=>v=.int k (iv v)
 | .bool,v=>v=.bool (bv v) ∨ v=.kb (bv v)
 | .str,v=>v=.str (sv v)
 | .agg ts,v=>v=.agg (aR v)/\aP ts (aR v)
 | .sl ts,v=>(v=.sl (ap v) (atV v) ∨ v=.sq (ap v) (A4 v) (atV v))/\ts.all be=true/\∀ i,i < A4 v->aP ts (atV v i)
 | .fn f xs ys,v=>v=.fn f (fxs v) (fys v)/\aP xs (fxs v)/\aP ys (fys v)
 | .pd ts,v=>v=.pd (pdV v)/\ts.all be=true/\aP ts (pdV v)
def aP:List Ty->List V->Prop
 | [],vs=>vs=[]
 | t::ts,vs=>vs=hdV vs::tlV vs/\bO t (hdV vs)/\aP ts (tlV vs)
end
theorem jX:∀ (ts:List Ty) (vs:List V),ts.all be=true->(ak ts vs).all V.fc=true
 | [],_,_=>by simp [ak]
 | t::ts,vs,h=>by
   simp only [List.all_cons,Bool.and_eq_true] at h
   simp only [ak,List.all_cons,Bool.and_eq_true]
   refine ⟨?_,jX ts _ h.2⟩
   cases t <;> first | rfl | (simp [be] at h) | (simp only [bD]; rfl)
theorem qT:∀ {ts:List Ty} {vs:List V},aP ts vs->vs.length=ts.length
 | [],vs,h=>by simp only [aP] at h; subst h; rfl
 | t::ts,vs,h=>by simp only [aP] at h; rw [h.1]; simp [qT h.2.2]
section
variable {w0:World} {lh:List ac}
theorem oa:∀ (ts:List Ty) (vs:List V),(ak ts vs).length=ts.length
 | [],_=>by simp [ak]
 | t::ts,vs=>by simp [ak,oa ts]
mutual
theorem F7:∀ (t:Ty) (v:V) (a:ab),bO t v->vr w0 lh Nu.nil v a->vr w0 lh Nu.nil (bD t v) a
 | .int k,v,a,h,hv=>by simp only [bO] at h; simp only [bD]; rw [h] at hv; exact hv
 | .bool,v,a,h,hv=>by
   simp only [bO] at h; simp only [bD,vr]
   rcases h with h | h <;> (rw [h] at hv; simp only [vr] at hv; exact hv)
 | .str,v,a,h,hv=>by simp only [bO] at h; simp only [bD]; rw [h] at hv; exact hv
 | .agg ts,v,a,h,hv=>by
   simp only [bO] at h
   rw [h.1] at hv
   simp only [bD,vr] at hv ⊢
   obtain ⟨az,h1,h2⟩:=hv
   exact ⟨az,h1,dG ts _ az h.2 h2⟩
 | .sl ts,v,a,h,hv=>by
   simp only [bO] at h
   rcases h.1 with h0 | h0
   ·have hb:A4 v=ap v:=by rw [h0]; rfl
    rw [h0] at hv
    simp only [bD,vr] at hv ⊢
    obtain ⟨p,c,esz,h1,h2,h3,h4,h5⟩:=hv
    exact ⟨p,c,esz,h1,h2,h3,h4,fun i hi=>let ⟨q,az,g1,g2,g3,g4⟩:=h5 i hi; ⟨q,az,g1,g2,dG ts _ az (h.2.2 i (by omega)) g3,jX ts _ h.2.1⟩⟩
   ·rw [h0] at hv
    simp only [bD,vr] at hv ⊢
    obtain ⟨p,c,esz,h1,⟨h2,h2'⟩,h3,h4,h5⟩:=hv
    exact ⟨p,c,esz,h1,h2,h3,h4,fun i hi=>let ⟨q,az,g1,g2,g3,g4⟩:=h5 i hi; ⟨q,az,g1,g2,dG ts _ az (h.2.2 i (by omega)) g3,jX ts _ h.2.1⟩⟩
 | .fn f xs ys,v,a,h,hv=>by
   simp only [bO] at h
   rw [h.1] at hv
   simp only [bD,vr] at hv ⊢
   obtain ⟨us,vs,h1,h2,h3⟩:=hv
   exact ⟨us,vs,h1,dG xs _ us h.2.1 h2,dG ys _ vs h.2.2 h3⟩
 | .pd ts,v,a,h,hv=>by
   simp only [bO] at h
   rw [h.1] at hv
   simp only [bD,vr] at hv ⊢
   obtain ⟨p,az,h1,h2,h3,h4,h5⟩:=hv
   have hl:=qT h.2.2
   refine ⟨p,az,h1,h2,by rw [oa,← hl]; exact h3,dG ts _ az h.2.2 h4,jX ts _ h.2.1⟩
theorem dG:∀ (ts:List Ty) (vs:List V) (az:List ab),aP ts vs->vrs w0 lh Nu.nil vs az->vrs w0 lh Nu.nil (ak ts vs) az
 | [],vs,az,h,hv=>by simp only [aP] at h; subst h; simpa only [ak] using hv
 | t::ts,vs,az,h,hv=>by
   simp only [aP] at h
   rw [h.1] at hv
   simp only [vrs] at hv
   obtain ⟨x,xs,rfl,h1,h2⟩:=hv
   simp only [ak,vrs]
   exact ⟨x,xs,rfl,F7 t _ x h.2.1 h1,dG ts _ xs h.2.2 h2⟩
end
end
mutual
def qU:Ty->Bool
 | .agg ts=>er ts
 | .sl ts=>ts.all be && er ts
 | .fn _ xs ys=>er xs && er ys
 | .pd ts=>ts.all be && er ts
 | _=>true
def er:List Ty->Bool
 | []=>true
 | t::ts=>qU t && er ts
end
def By:Nat->(Nat->List V->List V)->List V->List V
 | 0,_,k=>k
 | j+1,g,k=>g j (By j g k)
mutual
def fxL:Ty->V->List V->List V
 | .agg ts,v,k=>.agg (aR v)::gZ ts (aR v) k
 | .sl ts,v,k=>match v with
   | .sq _ m f=>By m (fun j k=>gZ ts (f j) k) k
   | v=>bD (.sl ts) v::k
 | .fn f xs ys,v,k=>.fn f (fxs v) (fys v)::gZ xs (fxs v) (gZ ys (fys v) k)
 | .pd ts,v,k=>.pd (pdV v)::gZ ts (pdV v) k
 | t,v,k=>bD t v::k
def gZ:List Ty->List V->List V->List V
 | [],_,k=>.agg []::k
 | t::ts,vs,k=>.agg (hdV vs::tlV vs)::fxL t (hdV vs) (gZ ts (tlV vs) k)
end
mutual
def fxR:Ty->V->List V->List V
 | .agg ts,v,k=>v::hZ ts (aR v) k
 | .sl ts,v,k=>match v with
   | .sq _ m f=>By m (fun j k=>hZ ts (f j) k) k
   | v=>v::k
 | .fn _ xs ys,v,k=>v::hZ xs (fxs v) (hZ ys (fys v) k)
 | .pd ts,v,k=>v::hZ ts (pdV v) k
 | _,v,k=>v::k
def hZ:List Ty->List V->List V->List V
 | [],vs,k=>.agg vs::k
 | t::ts,vs,k=>.agg vs::fxR t (hdV vs) (hZ ts (tlV vs) k)
end
theorem uR {P:Nat->Prop} {g g':Nat->List V->List V} (hg:∀ j k k',g j k=g' j k'->P j/\k=k'):∀ (m:Nat) (k k':List V),By m g k=By m g' k'->(∀ j,j < m->P j)/\k=k'
 | 0,k,k',h=>⟨fun j hj=>by omega,h⟩
 | m+1,k,k',h=>by
   simp only [By] at h
   obtain ⟨h1,h2⟩:=hg m _ _ h
   obtain ⟨h3,h4⟩:=uR hg m k k' h2
   exact ⟨fun j hj=>by
    by_cases e:j=m
    ·subst e; exact h1
    ·exact h3 j (by omega),h4⟩
theorem uL:∀ (ts:List Ty) (vs:List V),er ts=true->ak ts vs=vs->aP ts vs:=by
 have key:∀ (ts:List Ty),er ts=true->∀ vs,ak ts vs=vs->aP ts vs:=fun ts ho vs h=>hasTys_of' ts vs ho h
 exact fun ts vs ho h=>key ts ho vs h
where
 hasTy_of':∀ (t:Ty) (v:V),qU t=true->bD t v=v->bO t v
 | .int k,v,_,h=>by simp only [bD] at h; simp only [bO]; exact h.symm
 | .bool,v,_,h=>by simp only [bD] at h; simp only [bO]; exact .inl h.symm
 | .str,v,_,h=>by simp only [bD] at h; simp only [bO]; exact h.symm
 | .agg ts,v,ho,h=>by
   simp only [bD] at h; simp only [qU] at ho
   have h2:ak ts (aR v)=aR v:=by have:=congrArg aR h; simpa only [aR] using this
   simp only [bO]
   exact ⟨by rw [h2] at h; exact h.symm,hasTys_of' ts _ ho h2⟩
 | .sl ts,v,ho,h=>by
   simp only [bD] at h; simp only [qU,Bool.and_eq_true] at ho
   have h2:∀ i,ak ts (atV v i)=atV v i:=fun i=>by
    have:=congrArg (fun u=>atV u i) h
    simpa only [atV] using this
   simp only [bO]
   refine ⟨.inl ?_,ho.1,fun i _=>hasTys_of' ts _ ho.2 (h2 i)⟩
   have h3:(fun i=>ak ts (atV v i))=atV v:=funext h2
   rw [h3] at h; exact h.symm
 | .fn f xs ys,v,ho,h=>by
   simp only [bD] at h; simp only [qU,Bool.and_eq_true] at ho
   have h2:ak xs (fxs v)=fxs v:=by have:=congrArg fxs h; simpa only [fxs] using this
   have h3:ak ys (fys v)=fys v:=by have:=congrArg fys h; simpa only [fys] using this
   simp only [bO]
   exact ⟨by rw [h2,h3] at h; exact h.symm,hasTys_of' xs _ ho.1 h2,hasTys_of' ys _ ho.2 h3⟩
 | .pd ts,v,ho,h=>by
   simp only [bD] at h; simp only [qU,Bool.and_eq_true] at ho
   have h2:ak ts (pdV v)=pdV v:=by have:=congrArg pdV h; simpa only [pdV] using this
   simp only [bO]
   exact ⟨by rw [h2] at h; exact h.symm,ho.1,hasTys_of' ts _ ho.2 h2⟩
 hasTys_of':∀ (ts:List Ty) (vs:List V),er ts=true->ak ts vs=vs->aP ts vs
 | [],vs,_,h=>by simp only [ak] at h; simp only [aP]; exact h.symm
 | t::ts,vs,ho,h=>by
   simp only [ak] at h; simp only [er,Bool.and_eq_true] at ho
   have h2:bD t (hdV vs)=hdV vs:=by have:=congrArg hdV h; simpa only [hdV] using this
   have h3:ak ts (tlV vs)=tlV vs:=by have:=congrArg tlV h; simpa only [tlV] using this
   simp only [aP]
   exact ⟨by rw [h2,h3] at h; exact h.symm,hasTy_of' t _ ho.1 h2,hasTys_of' ts _ ho.2 h3⟩
def elV (ts:List Ty) (f:FnV):Nat->List V:=fun i=>ak ts (f i)
mutual
def unq:Ty->V->V
 | .agg ts,v=>match v with
   | .agg cs=>.agg (kv ts cs)
   | v=>v
 | .sl ts,v=>match v with
   | .sq n _ f=>.sl n (elV ts f)
   | v=>v
 | .fn _ xs ys,v=>match v with
   | .fn f us vs=>.fn f (kv xs us) (kv ys vs)
   | v=>v
 | .pd ts,v=>match v with
   | .pd cs=>.pd (kv ts cs)
   | v=>v
 | _,v=>v
def kv:List Ty->List V->List V
 | [],_=>[]
 | t::ts,vs=>match vs with
   | v::vs=>unq t v::kv ts vs
   | []=>[]
end
mutual
theorem Ih:∀ (t:Ty) (v:V) (k k':List V),fxL t v k=fxR t v k'->unq t v=bD t v/\k=k'
 | .int _,v,k,k',h=>by
   simp only [fxL,fxR,List.cons.injEq] at h
   simp only [unq]; exact ⟨h.1.symm,h.2⟩
 | .bool,v,k,k',h=>by
   simp only [fxL,fxR,List.cons.injEq] at h
   simp only [unq]; exact ⟨h.1.symm,h.2⟩
 | .str,v,k,k',h=>by
   simp only [fxL,fxR,List.cons.injEq] at h
   simp only [unq]; exact ⟨h.1.symm,h.2⟩
 | .agg ts,v,k,k',h=>by
   simp only [fxL,fxR,List.cons.injEq] at h
   obtain ⟨h1,h2⟩:=d6 ts _ k k' h.2
   obtain ⟨cs,rfl⟩:∃ cs,v=.agg cs:=⟨_,h.1.symm⟩
   simp only [aR] at h1
   simp only [unq,bD,aR,h1]; exact ⟨trivial,h2⟩
 | .sl ts,v,k,k',h=>by
   by_cases hv:∃ n m f,v=.sq n m f
   ·obtain ⟨n,m,f,rfl⟩:=hv
    simp only [fxL,fxR] at h
    obtain ⟨_,h2⟩:=uR (P:=fun _=>True) (fun j k k' hj=>⟨trivial,(d6 ts (f j) k k' hj).2⟩) m k k' h
    exact ⟨rfl,h2⟩
   ·cases v <;> first | exact (hv ⟨_,_,_,rfl⟩).elim | (simp only [fxL,fxR,List.cons.injEq] at h; simp only [unq]; exact ⟨h.1.symm,h.2⟩)
 | .fn f xs ys,v,k,k',h=>by
   simp only [fxL,fxR,List.cons.injEq] at h
   obtain ⟨h1,h2⟩:=d6 xs _ _ _ h.2
   obtain ⟨h3,h4⟩:=d6 ys _ _ _ h2
   obtain ⟨us,vs,rfl⟩:∃ us vs,v=.fn f us vs:=⟨_,_,h.1.symm⟩
   simp only [fxs] at h1
   simp only [fys] at h3
   simp only [unq,bD,fxs,fys,h1,h3]; exact ⟨trivial,h4⟩
 | .pd ts,v,k,k',h=>by
   simp only [fxL,fxR,List.cons.injEq] at h
   obtain ⟨h1,h2⟩:=d6 ts _ k k' h.2
   obtain ⟨cs,rfl⟩:∃ cs,v=.pd cs:=⟨_,h.1.symm⟩
   simp only [pdV] at h1
   simp only [unq,bD,pdV,h1]; exact ⟨trivial,h2⟩
theorem d6:∀ (ts:List Ty) (vs:List V) (k k':List V),gZ ts vs k=hZ ts vs k'->kv ts vs=ak ts vs/\k=k'
 | [],vs,k,k',h=>by
   simp only [gZ,hZ,List.cons.injEq,V.agg.injEq] at h
   simp only [kv,ak]; exact ⟨trivial,h.2⟩
 | t :: ts,vs,k,k',h=>by
   simp only [gZ,hZ,List.cons.injEq,V.agg.injEq] at h
   obtain ⟨h1,h2⟩:=Ih t _ _ _ h.2
   obtain ⟨h3,h4⟩:=d6 ts _ _ _ h2
   have h0:=h.1
   cases vs with
   | nil=>cases h0
   | cons v vs =>
     simp only [hdV,tlV] at h1 h3
     simp only [kv,ak,hdV,tlV,h1,h3]; exact ⟨trivial,h4⟩
end
mutual
theorem Lg:∀ (t:Ty) (v:V) (k k':List V),qU t=true->fxL t v k=fxR t v k'->bO t v/\k=k'
 | .int _,v,k,k',_,h=>by
   simp only [fxL,fxR,List.cons.injEq] at h
   simp only [bD] at h; simp only [bO]; exact ⟨h.1.symm,h.2⟩
 | .bool,v,k,k',_,h=>by
   simp only [fxL,fxR,List.cons.injEq,bD] at h
   simp only [bO]
   exact ⟨.inl h.1.symm,h.2⟩
 | .str,v,k,k',_,h=>by
   simp only [fxL,fxR,List.cons.injEq] at h
   simp only [bD] at h; simp only [bO]; exact ⟨h.1.symm,h.2⟩
 | .agg ts,v,k,k',ho,h=>by
   simp only [fxL,fxR,List.cons.injEq] at h; simp only [qU] at ho
   obtain ⟨h1,h2⟩:=g9 ts _ k k' ho h.2
   simp only [bO]; exact ⟨⟨h.1.symm,h1⟩,h2⟩
 | .sl ts,v,k,k',ho,h=>by
   have ho':=ho
   simp only [qU,Bool.and_eq_true] at ho
   by_cases hv:∃ n m f,v=.sq n m f
   ·obtain ⟨n,m,f,rfl⟩:=hv
    simp only [fxL,fxR] at h
    obtain ⟨h1,h2⟩:=uR (P:=fun j=>aP ts (f j)) (fun j k k' hj=>g9 ts (f j) k k' ho.2 hj) m k k' h
    simp only [bO,ap,atV,A4]
    exact ⟨⟨.inr rfl,ho.1,h1⟩,h2⟩
   ·have h':bD (.sl ts) v=v/\k=k':=by
     cases v <;> first | exact (hv ⟨_,_,_,rfl⟩).elim | (simp only [fxL,fxR,List.cons.injEq] at h; exact h)
    have:=uL [.sl ts] [v] (by simp only [er,ho',Bool.and_true]) (by simp only [ak,hdV,tlV,h'.1])
    simp only [aP,hdV] at this
    exact ⟨this.2.1,h'.2⟩
 | .fn f xs ys,v,k,k',ho,h=>by
   simp only [fxL,fxR,List.cons.injEq] at h; simp only [qU,Bool.and_eq_true] at ho
   obtain ⟨h1,h2⟩:=g9 xs _ _ _ ho.1 h.2
   obtain ⟨h3,h4⟩:=g9 ys _ _ _ ho.2 h2
   simp only [bO]; exact ⟨⟨h.1.symm,h1,h3⟩,h4⟩
 | .pd ts,v,k,k',ho,h=>by
   simp only [fxL,fxR,List.cons.injEq] at h; simp only [qU,Bool.and_eq_true] at ho
   obtain ⟨h1,h2⟩:=g9 ts _ k k' ho.2 h.2
   simp only [bO]; exact ⟨⟨h.1.symm,ho.1,h1⟩,h2⟩
theorem g9:∀ (ts:List Ty) (vs:List V) (k k':List V),er ts=true->gZ ts vs k=hZ ts vs k'->aP ts vs/\k=k'
 | [],vs,k,k',_,h=>by
   simp only [gZ,hZ,List.cons.injEq,V.agg.injEq] at h
   simp only [aP]; exact ⟨h.1.symm,h.2⟩
 | t::ts,vs,k,k',ho,h=>by
   simp only [gZ,hZ,List.cons.injEq,V.agg.injEq] at h; simp only [er,Bool.and_eq_true] at ho
   obtain ⟨h1,h2⟩:=Lg t _ _ _ ho.1 h.2
   obtain ⟨h3,h4⟩:=g9 ts _ _ _ ho.2 h2
   simp only [aP]; exact ⟨⟨h.1.symm,h1,h3⟩,h4⟩
end
def mkC (ts:List Ty) (pre:List V->Prop) (r:List V->V):aJ:=fun ds=>some ((gZ ts ds [],hZ ts ds []),pre (kv ts ds),r (kv ts ds))
theorem Gi {α:Type} {P:Program} {eqs:List TypeId} {its:List fm} {ct:aX} {f:FuncId} {fn:Func} {sf:aE} {un:Unr} {ts:List Ty} {pre:List V->Prop} {r:List V->V} {K0:V->T α} {Q0:V->α->Prop} (hK0:∀ w0 r v,sat (bK w0 (SV ct)) (K0 v) (Q0 r)->toA v=toA r) (hT:aW P eqs its ct) (hE:∀ t ∈ eqs,cm P t) (hI:jK P eqs its) (hf:P.funcs[f]? = some fn)
 (hn : (fn.name == "runtime.NumGoroutine") = false) (hc : dO P eqs its fn = some sf) (hd : dZ sf.ntmps sf.body = true) (ho : er ts = true)
 (h:∀ w0 ds,pre (ak ts ds)->sat (bK w0 (SV ct)) (kF (jb ct LV) (ju ct) un LV sf (ak ts ds) [] fun v _=>K0 v) (Q0 (r (ak ts ds)))):(vP (mkC ts pre r)).Ok P f:=by
 refine ⟨fun B m lh w args vs K hrel hargs hsp=>?_,fun _ _ _ _ _ hk ⟨ds,d,p,r,h1,h2,h3,h4,h5⟩=>⟨ds,d,p,r,h1,h2,h3,h4,hk _ _ h5⟩,fun _ _ _ _ ⟨_,_,_,_,_,_,_,_,h⟩=>h⟩
 obtain ⟨ds,d,p,r',h1,h2,⟨h30,h3⟩,h4,h5⟩:=hsp
 simp only [mkC,Option.some.injEq,Prod.mk.injEq] at h2
 obtain ⟨rfl,rfl,rfl⟩:=h2
 have hty:=(g9 ts ds [] [] ho h30).1
 rw [(d6 ts ds [] [] h30).1] at h3 h4 h5
 have key2:=HB (C:=fun ds'=>some ((ds',ak ts ds),pre (ak ts ds),r (ak ts ds))) (P:=P) (f:=f) hK0 hT hE hI hf hn hc hd (fun w0 ds' d' p' r' e he hp _=>by
  simp only [Option.some.injEq,Prod.mk.injEq] at e
  obtain ⟨rfl,rfl,rfl⟩:=e
  simp only at he
  subst he
  exact h w0 ds hp)
 exact key2.sound B m lh w args vs K hrel hargs ⟨ak ts ds,_,_,_,dG ts ds args hty h1,rfl,⟨rfl,h3⟩,h4,h5⟩
theorem pG {ts:List Ty} {pre:List V->Prop} {r:List V->V} {e:Nat} (hL:∀ ds,pre (ak ts ds)->okL e (r (ak ts ds))):∀ ds d p r',mkC ts pre r ds=some (d,p,r')->d.1=d.2->p->okL e r':=by
 intro ds d p r' h h1 h2
 simp only [mkC,Option.some.injEq,Prod.mk.injEq] at h
 obtain ⟨rfl,rfl,rfl⟩:=h
 rw [(d6 ts ds [] [] h1).1] at h2 ⊢
 exact hL ds h2
theorem EH {α:Type} {P:Program} {eqs:List TypeId} {its:List fm} {ct:aX} {f:FuncId} {fn:Func} {sf:aE} {un:Unr} {e:Nat} {ty:TypeId} {ts:List Ty} {pre:List V->Prop} {r:List V->V} {K0:V->List O->T α} {Q0:V->α->Prop} (hK0:∀ w0 r v h,sat (bK w0 (SV ct)) (K0 v h) (Q0 r)->Bb h v=true/\toA (Bt e ty h v)=toA r) (hT:aW P eqs its ct) (hE:∀ t ∈ eqs,cm P t) (hI:jK P eqs its) (hf:P.funcs[f]? = some fn)
 (hn : (fn.name == "runtime.NumGoroutine") = false) (hc : dO P eqs its fn = some sf) (hd : dZ sf.ntmps sf.body = true) (ho : er ts = true)
 (h:∀ w0 ds,pre (ak ts ds)->sat (bK w0 (SV ct)) (kF (jb ct LV) (ju ct) un LV sf (ak ts ds) [] K0) (Q0 (r (ak ts ds)))):(vL e ty (mkC ts pre r)).Ok P f:=by
 refine ⟨fun B m lh w args vs K hrel hargs hsp=>?_,fun _ _ _ _ _ hk ⟨ds,d,p,r,n,g,h1,h2,h3,h4,h5,h6⟩=>⟨ds,d,p,r,n,g,h1,h2,h3,h4,h5,fun x new hx=>hk _ _ (h6 x new hx)⟩,fun _ _ lh _ ⟨_,_,_,_,_,_,_,_,_,h4,h5,h6⟩=>let ⟨x,new,hx⟩:=exL (ty:=ty) h4 h5 lh; h6 x new hx⟩
 obtain ⟨ds,d,p,r',n,g,h1,h2,⟨h30,h3⟩,h4,h5,h6⟩:=hsp
 simp only [mkC,Option.some.injEq,Prod.mk.injEq] at h2
 obtain ⟨rfl,rfl,rfl⟩:=h2
 have hty:=(g9 ts ds [] [] ho h30).1
 rw [(d6 ts ds [] [] h30).1] at h3 h4 h5 h6
 have key2:=HF (e:=e) (ty:=ty) (C:=fun ds'=>some ((ds',ak ts ds),pre (ak ts ds),r (ak ts ds))) (P:=P) (f:=f) hK0 hT hE hI hf hn hc hd (fun w0 ds' d' p' r' e he hp=>by
  simp only [Option.some.injEq,Prod.mk.injEq] at e
  obtain ⟨rfl,rfl,rfl⟩:=e
  simp only at he
  subst he
  exact h w0 ds hp)
 exact key2.sound B m lh w args vs K hrel hargs ⟨ak ts ds,_,_,_,n,g,dG ts ds args hty h1,rfl,⟨rfl,h3⟩,h4,h5,h6⟩
abbrev Rho:=List (Option (Option Nat))
def b9 (ρ:Rho) (k:Nat):Option (Option Nat):=match nth ρ k with
 | some x=>x
 | none=>none
mutual
def bw (ρ:Rho):V->V->Prop
 | v,.any=>True ∨ v=.any
 | .int k a,.int k' b=>k=k'/\a=b
 | .bool a,.bool b=>a=b
 | .kb a,.bool b=>a=b
 | .kb a,.kb b=>a=b
 | .str a,.str b=>a=b
 | .agg xs,.agg ys=>dm ρ xs ys
 | .tup xs,.tup ys=>dm ρ xs ys
 | .fn f xs ys,.fn g us vs=>f=g/\dm ρ xs us/\dm ρ ys vs
 | .sl n f,.sl m g=>n=m/\f=g
 | .pd cs,.pd ds=>cs=ds
 | .pl k o,.pl k1 o1=>b9 ρ k1=some (some k)/\o=o1
 | .pe k i j,.pe k1 i1 j1=>b9 ρ k1=some (some k)/\i=i1/\j=j1
 | .ss k o n c,.ss k1 o1 n1 c1=>b9 ρ k1=some (some k)/\o=o1/\n=n1/\c=c1
 | .gs k n,.gs k1 n1=>b9 ρ k1=some (some k)/\n=n1
 | .ns,.gs k1 n1=>b9 ρ k1=some none/\n1=0
 | .ns,.ns=>True
 | .np,.np=>True
 | .yl l,.yl l1=>l=l1
 | .go k o n,.go k1 o1 n1=>b9 ρ k1=some (some k)/\o=o1/\n=n1
 | _,_=>False
def dm (ρ:Rho):List V->List V->Prop
 | [],[]=>True
 | x::xs,y::ys=>bw ρ x y/\dm ρ xs ys
 | _,_=>False
end
def kZ (ρ:Rho) (e:Env):Env->Prop
 | []=>True
 | (s,v)::l=>bw ρ (cH e s) v/\kZ ρ e l
def yJ (ρ:Rho) (h:List O) (k:Nat):O->Prop
 | .cells cs ty=>∃ j ds,b9 ρ k=some (some j)/\nth h j=some (.cells ds ty)/\dm ρ ds cs
 | .gl e n f ty=>(b9 ρ k=some none/\n=0) ∨ ∃ j m g,b9 ρ k=some (some j)/\nth h j=some (.gl e m g ty)/\n<=m/\∀ i,i < n->okE e (f i)=true/\dm ρ (g i) (f i)
 | .dead=>False
 | .hid=>True
def pO (ρ:Rho) (h:List O):Nat->List O->Prop
 | _,[]=>True
 | k,o::l=>yJ ρ h k o/\pO ρ h (k+1) l
def mo (x:Option (Option Nat)):Rho->Bool
 | []=>true
 | y::l=>(match x,y with
   | some (some a),some (some b)=>!Nat.beq a b
   | _,_=>true) && mo x l
def zb:Rho->Bool
 | []=>true
 | x::l=>mo x l && zb l
def Eo (ρ:Rho):Nat->Bool
 | 0=>true
 | k+1=>(match b9 ρ k with
   | some (some j)=>Nat.beq j k
   | _=>false) && Eo ρ k
def ge (ρ:Rho) (ν:Nu):Nu:=⟨fun k=>match b9 ρ k with
 | some (some j)=>ν j
 | some none=>some none
 | none=>none,ν.z⟩
section
variable {w0:World} {ν:Nu} {ρ:Rho} {lh:List ac}
mutual
theorem uY:∀ (v v1:V) (a:ab),bw ρ v v1->vr w0 ν.z ν v a->vr w0 ν.z (ge ρ ν) v1 a
 | .int k n,v1,a,h,hv=>by
   cases v1 <;> simp only [bw] at h
   case int=>obtain ⟨rfl,rfl⟩:=h; simp only [vr] at hv ⊢; exact hv
   case any=>simp only [vr]
 | .bool b,v1,a,h,hv=>by
   cases v1 <;> simp only [bw] at h
   case bool=>subst h; simp only [vr] at hv ⊢; exact hv
   case any=>simp only [vr]
 | .kb b,v1,a,h,hv=>by
   cases v1 <;> simp only [bw] at h
   case bool=>subst h; simp only [vr] at hv ⊢; exact hv
   case kb=>subst h; simp only [vr] at hv ⊢; exact hv
   case any=>simp only [vr]
 | .str b,v1,a,h,hv=>by
   cases v1 <;> simp only [bw] at h
   case str=>subst h; simp only [vr] at hv ⊢; exact hv
   case any=>simp only [vr]
 | .agg xs,v1,a,h,hv=>by
   cases v1 <;> simp only [bw] at h
   case agg=>simp only [vr] at hv ⊢; obtain ⟨az,h1,h2⟩:=hv; exact ⟨az,h1,eX xs _ az h h2⟩
   case any=>simp only [vr]
 | .tup xs,v1,a,h,hv=>by
   cases v1 <;> simp only [bw] at h
   case tup=>simp only [vr] at hv ⊢; obtain ⟨az,h1,h2⟩:=hv; exact ⟨az,h1,eX xs _ az h h2⟩
   case any=>simp only [vr]
 | .fn f xs ys,v1,a,h,hv=>by
   cases v1 <;> simp only [bw] at h
   case fn=>obtain ⟨rfl,g1,g2⟩:=h; simp only [vr] at hv ⊢; obtain ⟨az,bs,h1,h2,h3⟩:=hv; exact ⟨az,bs,h1,eX xs _ az g1 h2,eX ys _ bs g2 h3⟩
   case any=>simp only [vr]
 | .sl n f,v1,a,h,hv=>by
   cases v1 <;> simp only [bw] at h
   case sl=>obtain ⟨rfl,rfl⟩:=h; simp only [vr] at hv ⊢; exact hv
   case any=>simp only [vr]
 | .pd cs,v1,a,h,hv=>by
   cases v1 <;> simp only [bw] at h
   case pd=>subst h; simp only [vr] at hv ⊢; exact hv
   case any=>simp only [vr]
 | .pl k o,v1,a,h,hv=>by
   cases v1 <;> simp only [bw] at h
   case pl=>obtain ⟨h1,rfl⟩:=h; simp only [vr] at hv ⊢; simp only [ge,h1]; exact hv
   case any=>simp only [vr]
 | .pe k i j,v1,a,h,hv=>by
   cases v1 <;> simp only [bw] at h
   case pe=>obtain ⟨h1,rfl,rfl⟩:=h; simp only [vr] at hv ⊢; simp only [ge,h1]; exact hv
   case any=>simp only [vr]
 | .ss k o n c,v1,a,h,hv=>by
   cases v1 <;> simp only [bw] at h
   case ss=>obtain ⟨h1,rfl,rfl,rfl⟩:=h; simp only [vr] at hv ⊢; simp only [ge,h1]; exact hv
   case any=>simp only [vr]
 | .gs k n,v1,a,h,hv=>by
   cases v1 <;> simp only [bw] at h
   case gs=>obtain ⟨h1,rfl⟩:=h; simp only [vr] at hv ⊢; simp only [ge,h1]; exact hv
   case any=>simp only [vr]
 | .ns,v1,a,h,hv=>by
   cases v1 <;> simp only [bw] at h
   case gs=>obtain ⟨h1,rfl⟩:=h; simp only [vr] at hv ⊢; simp only [ge,h1]; exact .inl ⟨trivial,trivial,hv⟩
   case ns=>simp only [vr] at hv ⊢; exact hv
   case any=>simp only [vr]
 | .np,v1,a,h,hv=>by
   cases v1 <;> simp only [bw] at h
   case np=>simp only [vr] at hv ⊢; exact hv
   case any=>simp only [vr]
 | .any,v1,a,h,hv=>by
   cases v1 <;> simp only [bw] at h
   case any=>simp only [vr]
 | .gd b v,v1,a,h,hv=>by
   cases v1 <;> simp only [bw] at h
   case any=>simp only [vr]
 | .yl l,v1,a,h,hv=>by
   cases v1 <;> simp only [bw] at h
   case yl=>subst h; simp only [vr] at hv ⊢; exact hv
   case any=>simp only [vr]
 | .go k o n,v1,a,h,hv=>by
   cases v1 <;> simp only [bw] at h
   case go=>obtain ⟨h1,rfl,rfl⟩:=h; simp only [vr] at hv ⊢; simp only [ge,h1]; exact hv
   case any=>simp only [vr]
 | .sq n m f,v1,a,h,hv=>by
   cases v1 <;> simp only [bw] at h
   case any=>simp only [vr]
theorem eX:∀ (vs us:List V) (az:List ab),dm ρ vs us->vrs w0 ν.z ν vs az->vrs w0 ν.z (ge ρ ν) us az
 | [],[],az,_,hv=>by simp only [vrs] at hv ⊢; exact hv
 | v::vs,u::us,az,h,hv=>by
   simp only [dm] at h
   simp only [vrs] at hv ⊢
   obtain ⟨x,xs,h1,h2,h3⟩:=hv
   exact ⟨x,xs,h1,uY v u x h.1 h2,eX vs us xs h.2 h3⟩
 | [],_::_,_,h,_=>by simp only [dm] at h
 | _::_,[],_,h,_=>by simp only [dm] at h
end
theorem nq:∀ {e e1:Env} (s:Nat),kZ ρ e e1->cH e1 s=.any ∨ bw ρ (cH e s) (cH e1 s)
 | e,[],s,_=>.inl rfl
 | e,(d,v)::l,s,h=>by
   simp only [kZ] at h
   rw [eJ]
   by_cases hd:s=d
   ·subst hd; rw [if_pos rfl]; exact .inr h.1
   ·rw [if_neg hd]; exact nq s h.2
theorem iS {h:List O}:∀ {l:List O} {k i:Nat} {o:O},pO ρ h k l->l[i]? = some o->yJ ρ h (k+i) o
 | [],_,_,_,_,hi=>by simp at hi
 | x::l,k,0,o,hh,hi=>by simp at hi; subst hi; exact hh.1
 | x::l,k,i+1,o,hh,hi=>by
   have:=iS (i:=i) hh.2 (by simpa using hi)
   rwa [show k+1+i=k+(i+1) by omega] at this
theorem kT:∀ {l:Rho} {a i:Nat},mo (some (some a)) l=true->nth l i=some (some (some a))->False
 | [],_,_,_,h=>by cases h
 | y::l,a,0,h,hi=>by
   simp only [nth,Option.some.injEq] at hi; subst hi
   simp [mo] at h
 | y::l,a,i+1,h,hi=>by
   simp only [mo,Bool.and_eq_true] at h
   exact kT h.2 hi
theorem AJ:∀ {l:Rho} {a i j:Nat},zb l=true->nth l i=some (some (some a))->nth l j=some (some (some a))->i=j
 | [],_,_,_,_,h,_=>by cases h
 | x::l,a,0,0,_,_,_=>rfl
 | x::l,a,i+1,0,h,hi,hj=>by
   simp only [zb,Bool.and_eq_true] at h
   simp only [nth,Option.some.injEq] at hj; subst hj
   exact (kT h.1 hi).elim
 | x::l,a,0,j+1,h,hi,hj=>by
   simp only [zb,Bool.and_eq_true] at h
   simp only [nth,Option.some.injEq] at hi; subst hi
   exact (kT h.1 hj).elim
 | x::l,a,i+1,j+1,h,hi,hj=>by
   simp only [zb,Bool.and_eq_true] at h
   rw [AJ h.2 hi hj]
theorem Ad:∀ {n k:Nat},Eo ρ n=true->k < n->b9 ρ k=some (some k)
 | n+1,k,h,hk=>by
   simp only [Eo,Bool.and_eq_true] at h
   rcases Nat.lt_succ_iff_lt_or_eq.1 hk with hk | rfl
   ·exact Ad h.2 hk
   ·have h1:=h.1
    split at h1
    ·rename_i j hj; rw [hj,Nat.eq_of_beq_eq_true h1]
    ·cases h1
theorem qw {k j:Nat} (h:b9 ρ k=some (some j)):nth ρ k=some (some (some j)):=by
 unfold b9 at h
 split at h
 ·rename_i x hx; rw [hx,h]
 ·cases h
theorem eq.ren (w0:World) {nb:Nat} {e e1:Env} {h h1:List O} (ρ:Rho) (hl:Nat.beq (aY ρ) (aY h1)=true) (hi:zb ρ=true) (hid:Eo ρ nb=true) (he:kZ ρ e e1) (hh:pO ρ h 0 h1):eq w0 nb e h e1 h1:=by
 intro N ν nV nS sl lh hs hr
 have hlen:ρ.length=h1.length:=by have:=Nat.eq_of_beq_eq_true hl; rwa [ba,ba] at this
 have hlive:∀ k,aA h1 k->∀ x,ge ρ ν k=some (some x)->∃ j,b9 ρ k=some (some j)/\aA h j/\ν j=some (some x):=fun k hk x hx=>by
  have hx':=hx
  simp only [ge] at hx
  split at hx
  ·rename_i j hj
   refine ⟨j,hj,?_,hx⟩
   rcases cy hk with ⟨cs,ty,hc⟩ | ⟨e',n,f,ty,hc⟩
   ·obtain ⟨j',ds,g1,g2,g3⟩:=iS (k:=0) (i:=k) hh hc
    rw [Nat.zero_add,hj] at g1; cases g1
    exact bT (by rwa [aF] at g2)
   ·rcases iS (k:=0) (i:=k) hh hc with ⟨g1,_⟩ | ⟨j',m,g,g1,g2,_⟩
    ·rw [Nat.zero_add,hj] at g1; cases g1
    ·rw [Nat.zero_add,hj] at g1; cases g1
     exact di (by rwa [aF] at g2)
  ·cases hx
  ·cases hx
 refine ⟨ge ρ ν,0,0,⟨fun k x hk hx=>by simp only [ge,Ad hid hk]; exact hx,jw _⟩,⟨hs.len,fun i=>?_⟩,⟨fun k o hk=>?_,fun k k' x x' hk hk' hx hx' hxx=>?_,fun k hk=>?_,fun k x hx=>?_,hr.zl,fun k x hk hx=>let ⟨j,_,g2,g3⟩:=hlive k hk x hx; hr.zn j x g2 g3⟩⟩
 ·rcases nq i he with h0 | h0
  ·rw [h0]; simp only [vr]
  ·exact uY _ _ _ h0 (hs.at' i)
 ·have hb:=iS (k:=0) (i:=k) hh hk
  rw [Nat.zero_add] at hb
  cases o with
  | cells cs ty =>
    obtain ⟨j,ds,g1,g2,g3⟩:=hb
    rw [aF] at g2
    obtain ⟨b,c,e',az,k1,k2,k3⟩:=hr.blk j _ g2
    exact ⟨b,c,e',az,by simp only [ge,g1]; exact k1,k2,eX _ _ _ g3 k3⟩
  | gl e' n f ty =>
    rcases hb with ⟨g1,rfl⟩ | ⟨j,m,g,g1,g2,g3,g4⟩
    ·exact .inl ⟨by simp only [ge,g1],rfl⟩
    ·rw [aF] at g2
     rcases hr.blk j _ g2 with ⟨k1,k2⟩ | ⟨b,c,az,k1,k2,k3,k4,k5⟩
     ·exact .inl ⟨by simp only [ge,g1]; exact k1,by omega⟩
     ·exact .inr ⟨b,c,az,by simp only [ge,g1]; exact k1,k2,k3,⟨by omega,by omega⟩,fun i hi=>⟨(g4 i hi).1,eX _ _ _ (g4 i hi).2 (k5 i (by omega)).2⟩⟩
  | dead=>exact hb.elim
  | hid=>trivial
 ·obtain ⟨j,g1,g2,g3⟩:=hlive k hk x hx
  obtain ⟨j',g1',g2',g3'⟩:=hlive k' hk' x' hx'
  have:=hr.inj j j' x x' g2 g2' g3 g3' hxx
  subst this
  exact AJ hi (qw g1) (qw g1')
 ·simp only [ge,b9,aF]
  rw [List.getElem?_eq_none (by omega)]
 ·simp only [ge] at hx
  split at hx
  ·exact hr.rng _ x hx
  ·cases hx
  ·cases hx
theorem eq.env (w0:World) {nb:Nat} {e e1:Env} {h:List O} (he:∀ s,cH e1 s=.any ∨ cH e s=cH e1 s):eq w0 nb e h e1 h:=by
 intro N ν nV nS sl lh hs hr
 refine ⟨ν,nV,nS,NuN.refl _ _,⟨hs.len,fun i=>?_⟩,hr⟩
 rcases he i with h0 | h0
 ·rw [h0]; simp only [vr]
 ·rw [← h0]; exact hs.at' i
theorem eq.refl (w0:World) (nb:Nat) (e:Env) (h:List O):eq w0 nb e h e h:=fun N ν nV nS sl lh hs hr=>⟨ν,nV,nS,NuN.refl _ _,hs,hr⟩
theorem eq.trans {w0:World} {nb:Nat} {e e1 e2:Env} {h h1 h2:List O} (a:eq w0 nb e h e1 h1) (b:eq w0 nb e1 h1 e2 h2):eq w0 nb e h e2 h2:=fun N ν nV nS sl lh hs hr=>by
 obtain ⟨ν1,nV1,nS1,g0,g1,g2⟩:=a N ν nV nS sl lh hs hr
 obtain ⟨ν2,nV2,nS2,k0,k1,k2⟩:=b N ν1 nV1 nS1 sl lh g1 g2
 exact ⟨ν2,nV2,nS2,g0.trans k0,k1,k2⟩
end
def rV {α:Type}:T α->List Bool->T α
 | t,[]=>t
 | .br _ x y,p::ps=>cond p (rV x ps) (rV y ps)
 | .und x y,p::ps=>cond p (rV x ps) (rV y ps)
 | .asm _ x,ps=>rV x ps
 | .ob _ x,ps=>rV x ps
 | .obi _ _ x,ps=>rV x ps
 | .obp _ x,ps=>rV x ps
 | .obq _ _ x,ps=>rV x ps
 | t,_=>t
def tL {α:Type}:T α->T α
 | .ob _ x=>tL x
 | .obi _ _ x=>tL x
 | .obp _ x=>tL x
 | .obq _ _ x=>tL x
 | .asm _ x=>tL x
 | t=>t
def hT:T (Ex × Env × List O)->List O
 | .ret r=>r.2.2
 | _=>[]
def afT {α:Type}:T α->Nat->T α
 | .all f=>f
 | _=>fun _=>.fail 0
def atT {α:Type} (t:T α) (p:List Bool):T α:=tL (rV t p)
def pE (e:Env):Env->Prop
 | []=>True
 | (s,v)::l=>cH e s=v/\pE e l
theorem qR:∀ {e e1:Env} (s:Nat),pE e e1->cH e1 s=.any ∨ cH e s=cH e1 s
 | e,[],s,_=>.inl rfl
 | e,(d,v)::l,s,h=>by
   simp only [pE] at h
   rw [eJ]
   by_cases hd:s=d
   ·subst hd; rw [if_pos rfl]; exact .inr h.1
   ·rw [if_neg hd]; exact qR s h.2
theorem eq.slots (w0:World) {nb:Nat} {e e1:Env} {h h1:List O} (hh:h=h1) (he:pE e e1):eq w0 nb e h e1 h1:=by
 subst hh; exact eq.env w0 fun s=>qR s he
theorem Ll {ct:aX} {w0:World} (hd:ks ct=true) {lv nb:Nat} {un:Unr} {body:dt} {e:Env} {h:List O} {Post:Ex->Env->List O->Option Ex->Prop} (bi:Nat)
 (I:Type) (inv:I->Env × List O) (μ:I->Nat) (h0:∃ i,eq w0 nb e h (inv i).1 (inv i).2)
 (round:∀ i,sat (bK w0 (SV ct)) (evC (jb ct lv) (ju ct) un (lv,nb) bi body (inv i).1 (inv i).2 fun x e h=>.ret (x,e,h)) fun r=>match r.1 with
   | .normal=>∃ i',eq w0 nb r.2.1 r.2.2 (inv i').1 (inv i').2/\μ i' < μ i
   | x=>Post x r.2.1 r.2.2 none):bK w0 (SV ct) (lv,nb) (.s body) e h none Post :=
 F5 (fr:=(lv,nb)) (kq w0 ct hd lv) (ke w0 ct _ lv) I inv μ h0 round
theorem Jq {ct:aX} {w0:World} (hd:ks ct=true) {lv nb:Nat} {un:Unr} {body:eI} {rd:RD} {e:Env} {h:List O} {g:Option Ex} {Post:Ex->Env->List O->Option Ex->Prop} (bi bi':Nat)
 (I:Type) (inv:I->Env × List O × Option Ex) (μ:I->Nat) (h0:∃ i,g=(inv i).2.2/\eq w0 nb e h (inv i).1 (inv i).2.1)
 (round:∀ i,sat (bK w0 (SV ct)) (iT (jb ct lv) (ju ct) un (lv,nb) rd (rdY (jb ct lv) (ju ct) un lv bi' rd) bi body (inv i).1 (inv i).2.1 (inv i).2.2 fun x e h g=>.ret (x,e,h,g)) fun r=>match r.1 with
   | .normal=>∃ i',r.2.2.2=(inv i').2.2/\eq w0 nb r.2.1 r.2.2.1 (inv i').1 (inv i').2.1/\μ i' < μ i
   | x=>Post x r.2.1 r.2.2.1 r.2.2.2):bK w0 (SV ct) (lv,nb) (.i body rd) e h g Post :=
 CY (fr:=(lv,nb)) (kq w0 ct hd lv) (ke w0 ct _ lv) I inv μ h0 round
def ek (P:Program) (rec:TypeId->Option (List Ty)):List Field->Nat->Option (List Ty × Nat)
 | [],off=>some ([],off)
 | f::l,off=>match rec f.type,ek P rec l (off+P.cellsOf f.type) with
   | some ts,some (us,n)=>if f.offset=off/\ts.length=P.cellsOf f.type then some (ts++us,n) else none
   | _,_=>none
def fM (P:Program):Nat->TypeId->Option (List Ty)
 | 0,_=>none
 | fu+1,t=>match P.underlying t with
   | some .bool=>some [.bool]
   | some (.int k)=>some [.int k]
   | some .string=>some [.str]
   | some (.slice e)=>match fM P fu e with
     | some ts=>if ts.length=P.cellsOf e then some [.sl ts] else none
     | none=>none
   | some (.struct fs)=>match ek P (fM P fu) fs.toList 0 with
     | some (ts,n)=>if n=P.cellsOf t then some ts else none
     | none=>none
   | some (.array n e)=>match fM P fu e with
     | some ts=>if ts.length=P.cellsOf e/\P.cellsOf t=n * P.cellsOf e then some (List.replicate n ts).flatten else none
     | none=>none
   | _=>none
def rgI:IntKind->Int->Prop
 | .u8,n=>0<=n/\n<=255
 | _,_=>True
theorem CS {k:IntKind} {n:Int} (h:(Lit.int k n).wf=true):rgI k n:=by
 have h1:(decide (k.min<=n) && decide (n<=k.max))=true:=h
 rw [Bool.and_eq_true,decide_eq_true_eq,decide_eq_true_eq] at h1
 cases k <;> first | trivial | exact ⟨h1.1,h1.2⟩
mutual
def r9:Ty->V->Prop
 | .int k,v=>rgI k (iv v)
 | .str,v=>(sv v).size<=9223372036854775807
 | .agg ts,v=>eg ts (aR v)
 | .sl ts,v=>∀ i,i < ap v->eg ts (atV v i)
 | _,_=>True
def eg:List Ty->List V->Prop
 | [],_=>True
 | t::ts,vs=>r9 t (hdV vs)/\eg ts (tlV vs)
end
mutual
theorem Bq:∀ (t:Ty) (v:V),r9 t v->r9 t (bD t v)
 | .int k,v,h=>by simp only [bD,r9,iv] at h ⊢; exact h
 | .bool,_,_=>trivial
 | .str,v,h=>by simp only [bD,r9,sv] at h ⊢; exact h
 | .agg ts,v,h=>by simp only [bD,r9,aR] at h ⊢; exact fe ts _ h
 | .sl ts,v,h=>by simp only [bD,r9,ap,atV] at h ⊢; exact fun i hi=>fe ts _ (h i hi)
 | .fn ..,_,_=>trivial
 | .pd _,_,_=>trivial
theorem fe:∀ (ts:List Ty) (vs:List V),eg ts vs->eg ts (ak ts vs)
 | [],_,_=>trivial
 | t::ts,vs,h=>by simp only [eg,ak,hdV,tlV] at h ⊢; exact ⟨Bq t _ h.1,fe ts _ h.2⟩
end
section
variable {w:World}
theorem jh:∀ {ts us:List Ty} {vs xs:List V},aP ts vs->eg ts vs->eg us xs->eg (ts++us) (vs++xs)
 | [],_,_,_,h,_,k=>by simp only [aP] at h; subst h; simpa using k
 | t::ts,us,vs,xs,h,hz,k=>by
   simp only [aP] at h
   rw [h.1]
   simp only [eg] at hz
   simp only [List.cons_append,eg,hdV,tlV]
   exact ⟨hz.1,jh h.2.2 hz.2 k⟩
theorem hU:∀ {ts us:List Ty} {vs xs:List V},aP ts vs->aP us xs->aP (ts++us) (vs++xs)
 | [],_,_,_,h,k=>by simp only [aP] at h; subst h; simpa using k
 | t::ts,us,vs,xs,h,k=>by
   simp only [aP] at h
   rw [h.1]
   simp only [List.cons_append,aP,hdV,tlV]
   exact ⟨trivial,h.2.1,hU h.2.2 k⟩
theorem fU {w:World} {a:Addr}:∀ (n i:Nat) (cs:List Value),(List.range' i n).mapM (fun j=>w.cell? (a.add j))=some cs->dV w a i n=some (cs.map aS):=by
 intro n
 induction n with
 | zero=>intro i cs h; simp at h; subst h; rfl
 | succ n ih =>
   intro i cs h
   simp only [List.range'_succ,List.mapM_cons] at h
   cases hc:w.cell? (a.add i) with
   | none=>simp [hc] at h
   | some v =>
     cases hr:(List.range' (i+1) n).mapM (fun j=>w.cell? (a.add j)) with
     | none=>simp [hc,hr] at h
     | some l =>
       simp [hc,hr] at h
       subst h
       simp [dV,hc,ih (i+1) l hr]
theorem Dp {a:Addr} {n c esz:Nat} {ts:List Ty} (hn:n<=c) (hc:c<=maxLen) (hcell:ts.all be=true)
 (h:∀ i,i < n->∃ cs:List Value,dV w (a.add (i * esz)) 0 esz=some (cs.map aS)/\∃ vs,vrs w [] Nu.nil vs (cs.map aS)/\(aP ts vs/\eg ts vs)/\vs.all V.fc=true) :
 ∃ v,vr w [] Nu.nil v (.slice (some (.g a)) n c)/\(bO (.sl ts) v/\r9 (.sl ts) v)/\v.fc=true:=by
 classical
 refine ⟨.sl n fun i=>if hi:i < n then (Classical.choose (Classical.choose_spec (h i hi)).2) else [],?_,?_,rfl⟩
 ·simp only [vr]
  refine ⟨some (.g a),c,esz,rfl,hn,by unfold maxLen at hc; omega,trivial,fun i hi=>?_⟩
  have h1:=Classical.choose_spec (h i hi)
  have h2:=Classical.choose_spec h1.2
  refine ⟨.g a,(Classical.choose (h i hi)).map aS,rfl,?_,?_,?_⟩
  ·simp only [Ptr.add,lds]; exact h1.1
  ·simp only [hi,dite_true]; exact h2.1
  ·simp only [hi,dite_true]; exact h2.2.2
 ·simp only [bO,r9,ap,atV,A4]
  refine ⟨⟨.inl rfl,hcell,fun i hi=>?_⟩,fun i hi=>?_⟩
  ·simp only [hi,dite_true]
   exact (Classical.choose_spec (Classical.choose_spec (h i hi)).2).2.1.1
  ·simp only [hi,dite_true]
   exact (Classical.choose_spec (Classical.choose_spec (h i hi)).2).2.1.2
end
theorem lT:∀ {ts:List Ty} {vs:List V},aP ts vs->ts.all be=true->vs.all V.fc=true
 | [],vs,h,_=>by simp only [aP] at h; subst h; rfl
 | t::ts,vs,h,ho=>by
   simp only [aP] at h
   simp only [List.all_cons,Bool.and_eq_true] at ho
   rw [h.1]
   simp only [List.all_cons,Bool.and_eq_true]
   refine ⟨?_,lT h.2.2 ho.2⟩
   have h1:=h.2.1
   cases t <;> simp only [bO] at h1
   case int=>rw [h1]; rfl
   case bool=>rcases h1 with h1 | h1 <;> (rw [h1]; rfl)
   case str=>rw [h1]; rfl
   case sl=>rcases h1.1 with h0 | h0 <;> (rw [h0]; rfl)
   all_goals simp [be] at ho
section
variable {P:Program}
theorem jo {rec:TypeId->Option (List Ty)} (hr:∀ t ts,rec t=some ts->ts.all be=true):∀ {fs:List Field} {off n:Nat} {ts:List Ty},ek P rec fs off=some (ts,n)->ts.all be=true
 | [],off,n,ts,h=>by simp [ek] at h; rw [h.1]; rfl
 | f::l,off,n,ts,h=>by
   simp only [ek] at h
   split at h
   ·rename_i us vs m h1 h2
    split at h
    ·cases h; rw [List.all_append,hr _ _ h1,jo hr h2]; rfl
    ·cases h
   ·cases h
theorem eP:∀ {fu:Nat} {t:TypeId} {ts:List Ty},fM P fu t=some ts->ts.all be=true
 | 0,_,_,h=>by cases h
 | fu + 1,t,ts,h=>by
   simp only [fM] at h
   split at h
   ·cases h; rfl
   ·cases h; rfl
   ·cases h; rfl
   ·split at h
    ·split at h
     ·cases h; rfl
     ·cases h
    ·cases h
   ·split at h
    ·rename_i us n hf
     split at h
     ·cases h; exact jo (fun t ts=>eP (fu:=fu)) hf
     ·cases h
    ·cases h
   ·split at h
    ·rename_i us hu
     split at h
     ·cases h
      rw [List.all_eq_true]; intro x hx
      obtain ⟨l,hl,hx⟩:=List.mem_flatten.1 hx
      rw [(List.mem_replicate.1 hl).2] at hx
      exact List.all_eq_true.1 (eP hu) x hx
     ·cases h
    ·cases h
   ·cases h
variable {H:Type} {enc:TypeId × Value->H} {w:World} {base:Nat} {spare:Nat->Bool} {held:Bool}
theorem oH {rec:TypeId->Option (List Ty)} {fuel:Nat} (hr:∀ t ts cs d ps,rec t=some ts->DataW.trod enc P w base spare held fuel t cs=some (d,ps)->∃ vs,vrs w [] Nu.nil vs (cs.map aS)/\aP ts vs/\eg ts vs) (cs:List Value) :
 ∀ {fs:List Field} {off n:Nat} {ts:List Ty},ek P rec fs off=some (ts,n)->(∀ f ∈ fs,∃ x,DataW.trod enc P w base spare held fuel f.type ((cs.drop f.offset).take (P.cellsOf f.type))=some x)->cs.length=n ->
 ∃ vs,vrs w [] Nu.nil vs ((cs.drop off).map aS)/\aP ts vs/\eg ts vs
 | [],off,n,ts,h,_,hl=>by
   simp [ek] at h
   obtain ⟨rfl,rfl⟩:=h
   exact ⟨[],by rw [List.drop_eq_nil_of_le (by omega)]; simp [vrs],by simp [aP],trivial⟩
 | f :: l,off,n,ts,h,hx,hl=>by
   simp only [ek] at h
   split at h
   ·rename_i us vs m h1 h2
    split at h
    ·rename_i hc
     cases h
     obtain ⟨rfl,hlen⟩:=hc
     obtain ⟨⟨d,ps⟩,ha⟩:=hx f List.mem_cons_self
     obtain ⟨v1,g1,g2,z1⟩:=hr _ _ _ _ _ h1 ha
     obtain ⟨v2,g3,g4,z2⟩:=oH hr cs h2 (fun g hg=>hx g (List.mem_cons_of_mem _ hg)) hl
     refine ⟨v1++v2,?_,hU g2 g4,jh g2 z1 z2⟩
     have e:cs.drop f.offset=(cs.drop f.offset).take (P.cellsOf f.type)++cs.drop (f.offset+P.cellsOf f.type):=by
      rw [← List.drop_drop]; exact (List.take_append_drop _ _).symm
     rw [e,List.map_append]
     exact gp g1 g3
    ·cases h
   ·cases h
theorem xT {fuel k:Nat} {e:TypeId} {us:List Ty} (hr:∀ cs d ps,DataW.trod enc P w base spare held fuel e cs=some (d,ps)->∃ vs,vrs w [] Nu.nil vs (cs.map aS)/\aP us vs/\eg us vs) (cs:List Value) :
 ∀ (n m:Nat),cs.length=(m+n) * k->(∀ i,m<=i->i < m+n->∃ x,DataW.trod enc P w base spare held fuel e ((cs.drop (i * k)).take k)=some x)->∃ vs,vrs w [] Nu.nil vs ((cs.drop (m * k)).map aS)/\aP (List.replicate n us).flatten vs/\eg (List.replicate n us).flatten vs:=by
 intro n
 induction n with
 | zero=>intro m hl _; exact ⟨[],by rw [List.drop_eq_nil_of_le (by simp at hl; omega)]; simp [vrs],by simp [aP],trivial⟩
 | succ n ih =>
   intro m hl h
   obtain ⟨x,hx⟩:=h m (Nat.le_refl _) (by omega)
   obtain ⟨d,ps⟩:=x
   obtain ⟨v1,g1,g2,z1⟩:=hr _ _ _ hx
   obtain ⟨v2,g3,g4,z2⟩:=ih (m+1) (by rw [hl]; congr 1; omega) (fun i h1 h2=>h i (by omega) (by omega))
   refine ⟨v1++v2,?_,by rw [List.replicate_succ,List.flatten_cons]; exact hU g2 g4,by rw [List.replicate_succ,List.flatten_cons]; exact jh g2 z1 z2⟩
   have e:cs.drop (m * k)=(cs.drop (m * k)).take k++cs.drop ((m+1) * k):=by
    rw [Nat.succ_mul,← List.drop_drop]; exact (List.take_append_drop _ _).symm
   rw [e,List.map_append]
   exact gp g1 g3
theorem D6 : ∀ (fuel fu:Nat) (t:TypeId) (ts:List Ty) (cs:List Value) (d:DataW H) (ps:List MemPlace),fM P fu t=some ts->DataW.trod enc P w base spare held fuel t cs=some (d,ps)->∃ vs,vrs w [] Nu.nil vs (cs.map aS)/\aP ts vs/\eg ts vs:=by
 intro fuel
 induction fuel with
 | zero=>intro fu t ts cs d ps _ h; cases h
 | succ fuel ih =>
   intro fu t ts cs d ps ht h
   cases fu with
   | zero=>cases ht
   | succ fu =>
     have hok:=eP ht
     simp only [fM] at ht
     split at ht
     ·rename_i hu
      cases ht
      obtain ⟨b,rfl,_⟩:=DataW.trod_bool hu h
      exact ⟨[.bool b],by simp [vrs,vr,aS],by simp [aP,bO,hdV,tlV,bv],trivial,trivial⟩
     ·rename_i k hu
      cases ht
      obtain ⟨n,rfl,_,hwf⟩:=DataW.trod_int hu h
      exact ⟨[.int k n],by simp [vrs,vr,aS],by simp [aP,bO,hdV,tlV,iv],CS hwf,trivial⟩
     ·rename_i hu
      cases ht
      obtain ⟨b,rfl,_,hb⟩:=DataW.trod_string hu h
      exact ⟨[.str b],by simp [vrs,vr,aS],by simp [aP,bO,hdV,tlV,sv],(show b.size<=9223372036854775807 by unfold maxLen at hb; omega),trivial⟩
     ·rename_i e hu
      split at ht
      ·rename_i us hus
       split at ht
       ·rename_i hlen
        cases ht
        have hcell:=eP hus
        rcases DataW.trod_slice hu h with ⟨rfl,_⟩ | ⟨a,len,cap,elems,rest,n,hn,rfl,_,_,h3,h4,h5,h6,_⟩
        ·exact ⟨[.sl 0 fun _=>[]],by simp only [List.map_cons,List.map_nil,aS,vrs,vr]; exact ⟨_,_,rfl,⟨none,0,0,rfl,Nat.le_refl _,by omega,trivial,fun i hi=>by omega⟩,rfl⟩,by simp only [aP,bO,hdV,tlV,ap,A4]; exact ⟨trivial,⟨.inl rfl,hcell,fun i hi=>by omega⟩,trivial⟩,(fun i hi=>by simp [ap,hdV] at hi),trivial⟩
        ·cases hn
         obtain ⟨v,g1,g2,_⟩:=Dp (w:=w) (a:=a) (n:=len) (c:=cap) (esz:=P.cellsOf e) (ts:=us) h3 h4 hcell (fun i hi=>by
          have h7:=h6 i hi
          rw [List.getElem?_eq_getElem (by omega)] at h7
          cases hcs:w.cells? base (a.add (i * P.cellsOf e)) (P.cellsOf e) with
          | none=>rw [hcs] at h7; cases h7
          | some cs' =>
            rw [hcs] at h7
            obtain ⟨vs,g1,g2,z2⟩:=ih fu e us cs' elems[i].1 elems[i].2 hus h7
            unfold World.cells? at hcs
            split at hcs
            ·rw [List.range_eq_range'] at hcs
             exact ⟨cs',fU _ 0 cs' hcs,vs,g1,⟨g2,z2⟩,lT g2 hcell⟩
            ·cases hcs)
         exact ⟨[v],by simp only [List.map_cons,List.map_nil,aS,vrs]; exact ⟨_,_,rfl,g1,rfl⟩,by simp only [aP,hdV,tlV]; exact ⟨trivial,g2.1,trivial⟩,g2.2,trivial⟩
       ·cases ht
      ·cases ht
     ·rename_i fs hu
      split at ht
      ·rename_i us n hf
       split at ht
       ·rename_i hn
        cases ht
        obtain ⟨xs,m,hm,_,h3,h4,h5⟩:=DataW.trod_struct hu h
        cases hm
        have:=oH (off:=0) (fun t ts cs d ps=>ih fu t ts cs d ps) cs hf (fun f hf'=>by
         obtain ⟨i,hi,rfl⟩:=List.getElem_of_mem hf'
         simp at hi
         have h6:=h5 i fs[i] (by simp [hi])
         rw [List.getElem?_eq_getElem (by omega)] at h6
         exact ⟨_,by simpa using h6⟩) (by rw [h3,hn])
        simpa using this
       ·cases ht
      ·cases ht
     ·rename_i n e hu
      split at ht
      ·rename_i us hus
       split at ht
       ·rename_i hc
        cases ht
        obtain ⟨xs,m,hm,_,h3,h4,h5⟩:=DataW.trod_array hu h
        cases hm
        have:=xT (k:=P.cellsOf e) (fun cs d ps=>ih fu e us cs d ps hus) cs n 0 (by rw [h3,hc.2]; simp) (fun i _ hi=>by
         have h6:=h5 i (by omega)
         rw [List.getElem?_eq_getElem (by omega)] at h6
         exact ⟨_,h6⟩)
        simpa using this
       ·cases ht
      ·cases ht
     ·cases ht
end
end Go.Dx
namespace Go.Dx
open Go.Sx Go.RowKit
def kB:Value->ab
 | .agg cs=>.agg (cs.toList.map aS)
 | v=>aS v
theorem yN (v:Value):vrel (fun _=>none) (kB v) v:=by
 unfold kB; split
 ·rename_i cs; simp only [vrel]; exact ⟨cs,rfl,bd _ _⟩
 ·exact bk _ _
theorem oY:∀ vs:List Value,af (fun _=>none) (vs.map kB) vs
 | []=>by simp [af]
 | v::vs=>by simp only [List.map_cons,af]; exact ⟨_,_,rfl,yN v,oY vs⟩
def Cm (P:Program) (fu:Nat) (t:TypeId):Option Ty:=match P.underlying t with
 | some (.struct _)=>(fM P fu t).map .agg
 | some (.array _ _)=>(fM P fu t).map .agg
 | some (.int k)=>some (.int k)
 | some .bool=>some .bool
 | _=>none
def argTys (P:Program) (fu:Nat):List TypeId->Option (List Ty)
 | []=>some []
 | t::ts=>match Cm P fu t,argTys P fu ts with
   | some x,some xs=>some (x::xs)
   | _,_=>none
section
variable {P:Program} {H:Type} {enc:TypeId × Value->H} {W:World} {base:Nat}
theorem Ky {fu:Nat} {t:TypeId} {ty:Ty} {v:Value} {d:DataW H} {ps:List MemPlace} {b:Nat} {spare:Nat->Bool} {held:Bool} (ht:Cm P fu t=some ty) (hv:Value.okWide P W .any base t v) (h:DataW.Trod enc P W b spare held t v d ps) :
 ∃ x,vr W [] Nu.nil x (kB v)/\bO ty x/\r9 ty x:=by
 obtain ⟨fuel,h⟩:=h
 unfold Cm at ht
 unfold Value.okWide at hv
 split at ht
 ·rename_i fs hu
  rw [hu] at hv
  obtain ⟨cs,rfl,_,_⟩:=hv
  simp only [Option.map_eq_some_iff] at ht
  obtain ⟨ts,hts,rfl⟩:=ht
  obtain ⟨vs,g1,g2,z2⟩:=D6 fuel fu t ts _ d ps hts h
  exact ⟨.agg vs,by simp only [kB,vr]; exact ⟨_,rfl,g1⟩,by simp only [bO,aR]; exact ⟨trivial,g2⟩,z2⟩
 ·rename_i n e hu
  rw [hu] at hv
  obtain ⟨cs,rfl,_,_⟩:=hv
  simp only [Option.map_eq_some_iff] at ht
  obtain ⟨ts,hts,rfl⟩:=ht
  obtain ⟨vs,g1,g2,z2⟩:=D6 fuel fu t ts _ d ps hts h
  exact ⟨.agg vs,by simp only [kB,vr]; exact ⟨_,rfl,g1⟩,by simp only [bO,aR]; exact ⟨trivial,g2⟩,z2⟩
 ·rename_i k hu
  cases ht
  obtain ⟨n,hc,_,hwf⟩:=DataW.trod_int hu h
  have:v=.int k n:=by
   rw [hu] at hv
   unfold Cell.okWide at hv
   rw [hu] at hv
   cases v <;> simp_all [Value.cells,Cell.ok]
  subst this
  exact ⟨.int k n,by simp [kB,aS,vr],by simp [bO,iv],CS hwf⟩
 ·rename_i hu
  cases ht
  obtain ⟨n,hc,_⟩:=DataW.trod_bool hu h
  have:v=.bool n:=by
   rw [hu] at hv
   unfold Cell.okWide at hv
   rw [hu] at hv
   cases v <;> simp_all [Value.cells,Cell.ok]
  subst this
  exact ⟨.bool n,by simp [kB,aS,vr],by simp [bO,bv],trivial⟩
 ·cases ht
theorem DV {fu:Nat} {b:Nat} {spare:Nat->Bool} {held:Bool}:∀ {ts:List TypeId} {tys:List Ty} {vs:List Value} {ds:List (DataW H)} {ps:List MemPlace},argTys P fu ts=some tys->(∀ (j:Nat) t v,ts[j]? = some t->vs[j]? = some v->Value.okWide P W .any base t v)->DataW.TrodAll enc P W b spare held ts vs ds ps ->
 ∃ xs,vrs W [] Nu.nil xs (vs.map kB)/\aP tys xs/\eg tys xs
 | [],tys,[],[],ps,ht,_,h=>by simp only [argTys,Option.some.injEq] at ht; subst ht; exact ⟨[],by simp [vrs],by simp [aP],trivial⟩
 | t::ts,tys,v::vs,d::ds,ps,ht,hv,h=>by
   simp only [argTys] at ht
   split at ht
   ·rename_i x xs hx hxs
    cases ht
    obtain ⟨p,q,h1,h2,_⟩:=h
    obtain ⟨y,g1,g2,z1⟩:=Ky hx (hv 0 t v rfl rfl) h1
    obtain ⟨ys,g3,g4,z2⟩:=DV hxs (fun j t v hj hvj=>hv (j+1) t v (by simpa using hj) (by simpa using hvj)) h2
    exact ⟨y::ys,by simp only [List.map_cons,vrs]; exact ⟨_,_,rfl,g1,g3⟩,by simp only [aP,hdV,tlV]; exact ⟨trivial,g2,g4⟩,z1,z2⟩
   ·cases ht
 | [],_,_::_,_,_,_,_,h=>by simp [DataW.TrodAll] at h
 | [],_,[],_::_,_,_,_,h=>by simp [DataW.TrodAll] at h
 | _::_,_,[],_,_,_,_,h=>by simp [DataW.TrodAll] at h
 | _::_,_,_::_,[],_,_,_,h=>by simp [DataW.TrodAll] at h
mutual
theorem sG:∀ (t:Ty) (v:V),bD t (bD t v)=bD t v
 | .int k,v=>by simp only [bD,iv]
 | .bool,v=>by simp only [bD,bv]
 | .str,v=>by simp only [bD,sv]
 | .agg ts,v=>by simp only [bD,aR]; rw [bL ts]
 | .sl ts,v=>by simp only [bD,ap,atV]; congr 1; funext i; exact bL ts _
 | .fn f xs ys,v=>by simp only [bD,fxs,fys]; rw [bL xs,bL ys]
 | .pd ts,v=>by simp only [bD,pdV]; rw [bL ts]
theorem bL:∀ (ts:List Ty) (vs:List V),ak ts (ak ts vs)=ak ts vs
 | [],vs=>by simp only [ak]
 | t::ts,vs=>by simp only [ak,hdV,tlV]; rw [sG t,bL ts]
end
mutual
theorem C7:∀ (t:Ty) (v:V) (k:List V),fxL t (bD t v) k=fxR t (bD t v) k
 | .int k,v,_=>by simp only [bD,fxL,fxR,iv]
 | .bool,v,_=>by simp only [bD,fxL,fxR,bv]
 | .str,v,_=>by simp only [bD,fxL,fxR,sv]
 | .agg ts,v,k=>by simp only [bD,fxL,fxR,aR]; rw [dP ts]
 | .sl ts,v,k=>by
   have:=sG (.sl ts) v
   simp only [bD] at this ⊢
   simp only [fxL,fxR,bD,this]
 | .fn f xs ys,v,k=>by simp only [bD,fxL,fxR,fxs,fys]; rw [dP ys,dP xs]
 | .pd ts,v,k=>by simp only [bD,fxL,fxR,pdV]; rw [dP ts]
theorem dP:∀ (ts:List Ty) (vs:List V) (k:List V),gZ ts (ak ts vs) k=hZ ts (ak ts vs) k
 | [],vs,k=>by simp only [ak,gZ,hZ]
 | t::ts,vs,k=>by simp only [ak,gZ,hZ,hdV,tlV]; rw [dP ts,C7 t]
end
def lawC (tys:List Ty):aJ:=mkC tys (eg tys) fun _=>.bool true
theorem law_calls {f:FuncId} {fu b:Nat} {spare:Nat->Bool} {held:Bool} {tys:List Ty} {ts:List TypeId} {args:Array Value} {ds:List (DataW H)} {ps:List MemPlace} (hOk:(vP (lawC tys)).Ok P f) (ht:argTys P fu ts=some tys)
 (hv:∀ (j:Nat) t v,ts[j]? = some t->args[j]? = some v->Value.okWide P W .any base t v) (hA:DataW.TrodAll enc P W b spare held ts args.toList ds ps) :
 Calls P f args W fun e W'=>e=.returned (.bool true)/\Below W.heap.size W W':=by
 obtain ⟨xs,g1,g2,z2⟩:=DV (vs:=args.toList) ht (fun j t v hj hvj=>hv j t v hj (by simpa using hvj)) hA
 obtain ⟨_,hc⟩:=hOk.sound ⟨W,W,fun _=>False,[]⟩ (fun _=>none) [] W (args.toList.map kB) args.toList (fun r _=>r=.bool true) (aw.start W) (oY _)
  ⟨ak tys xs,_,_,_,dG tys xs _ g2 g1,rfl,⟨dP tys xs [],by rw [(d6 tys _ [] [] (dP tys xs [])).1]; exact fe tys _ (fe tys xs z2)⟩,rfl,rfl⟩
 refine hc.mono fun e w' ⟨v,r,m',lh',he,hr,_,hh,hk⟩=>?_
 subst hk
 simp only [vrel] at hr
 subst hr
 exact ⟨he,hh.os,hh.tape,hh.output,hh.fsize,hh.old⟩
end
end Go.Dx
namespace Go.Dx
open Go.Sx
inductive bF (J:Type) where
 | res (v:V)
 | head (j:J) (e:Env) (h:List O) (g:Option Ex)
structure Lp (J:Type) where
 fr:Nat × Nat
 body:wv
 k:Ex->Env->List O->Option Ex->T (bF J)
section
variable {α β:Type}
def dL:T α->(α->T β)->T β
 | .ret a,f=>f a
 | .br b x y,f=>.br b (dL x f) (dL y f)
 | .ob b x,f=>.ob b (dL x f)
 | .obi c d x,f=>.obi c d (dL x f)
 | .obp p x,f=>.obp p (dL x f)
 | .obq a b x,f=>.obq a b (dL x f)
 | .fail n,_=>.fail n
 | .loop fr b e h g k,f=>.loop fr b e h g fun x e h g=>dL (k x e h g) f
 | .all t,f=>.all fun l=>dL (t l) f
 | .und x y,f=>.und (dL x f) (dL y f)
 | .asm p x,f=>.asm p (dL x f)
theorem xp {LP:db} {Q:β->Prop} (f:α->T β):∀ t:T α,sat LP (dL t f) Q=sat LP t fun a=>sat LP (f a) Q:=by
 intro t
 induction t with
 | ret a=>rfl
 | br b x y hx hy=>simp only [dL,sat,hx,hy]
 | ob b x hx=>simp only [dL,sat,hx]
 | obi c d x hx=>simp only [dL,sat,hx]
 | obp p x hx=>simp only [dL,sat,hx]
 | obq a b x hx=>simp only [dL,sat,hx]
 | fail n=>rfl
 | loop fr b e h g k hk=>simp only [dL,sat,hk]
 | all t ht=>simp only [dL,sat,ht]
 | und x y hx hy=>simp only [dL,sat,hx,hy]
 | asm p x hx=>simp only [dL,sat,hx]
theorem gD {LP:db} (hLP:∀ fr b e h g (P P':Ex->Env->List O->Option Ex->Prop),(∀ x e h g,P x e h g->P' x e h g)->LP fr b e h g P->LP fr b e h g P') {Q Q':α->Prop} (hQ:∀ a,Q a->Q' a):∀ t:T α,sat LP t Q->sat LP t Q':=by
 intro t
 induction t with
 | ret a=>exact hQ a
 | br b x y hx hy=>exact fun h=>⟨fun e=>hx (h.1 e),fun e=>hy (h.2 e)⟩
 | ob b x hx=>exact fun h=>⟨h.1,hx h.2⟩
 | obi c d x hx=>exact fun h=>⟨h.1,hx h.2⟩
 | obp p x hx=>exact fun h=>⟨h.1,hx h.2⟩
 | obq a b x hx=>exact fun h=>⟨h.1,hx h.2⟩
 | fail n=>exact id
 | loop fr b e h g k hk=>exact fun hs=>hLP _ _ _ _ _ _ _ (fun x e h g=>hk x e h g) hs
 | all t ht=>exact fun h l=>ht l (h l)
 | und x y hx hy=>exact fun h=>⟨hx h.1,hy h.2⟩
 | asm p x hx=>exact fun h hp=>hx (h hp)
theorem em (w0:World) (S:vM):∀ fr b e h g (P P':Ex->Env->List O->Option Ex->Prop),(∀ x e h g,P x e h g->P' x e h g)->bK w0 S fr b e h g P->bK w0 S fr b e h g P':=by
 intro fr b e h g P P' hP
 cases b with
 | s body=>exact fun hl N nbS ν nV nS sl lh QA h1 h2 h3 h4=>hl N nbS ν nV nS sl lh QA h1 h2 h3 fun ex e' h' ν' sl' lh' nV' nS' g0 g1 g2 g3=>h4 ex e' h' ν' sl' lh' nV' nS' g0 g1 g2 (hP _ _ _ _ g3)
 | i body rd=>exact fun hl N N0 ν nV nS sl sl0 lh QA h1 h2 h3 h4 h5 h6 h7 h8=>hl N N0 ν nV nS sl sl0 lh QA h1 h2 h3 h4 h5 h6 h7 fun ex e' h' g' ν' sl' lh' nV' nS' g0 g1 g2 g3=>h8 ex e' h' g' ν' sl' lh' nV' nS' g0 g1 g2 (hP _ _ _ _ g3)
end
mutual
def gF (ρ:Rho):V->V->V
 | .any,_=>.any
 | .int _ _,.int k a=>.int k a
 | .bool _,.bool a=>.bool a
 | .bool _,.kb a=>.bool a
 | .kb _,.kb a=>.kb a
 | .str _,.str a=>.str a
 | .agg ys,.agg xs=>.agg (jl ρ ys xs)
 | .tup ys,.tup xs=>.tup (jl ρ ys xs)
 | .fn _ us vs,.fn f xs ys=>.fn f (jl ρ us xs) (jl ρ vs ys)
 | .sl _ _,.sl n f=>.sl n f
 | .pd _,.pd cs=>.pd cs
 | .pl k1 _,.pl k o=>match b9 ρ k1 with
   | some (some k')=>cond (Nat.beq k' k) (.pl k1 o) .any
   | _=>.any
 | .pe k1 _ _,.pe k i j=>match b9 ρ k1 with
   | some (some k')=>cond (Nat.beq k' k) (.pe k1 i j) .any
   | _=>.any
 | .ss k1 _ _ _,.ss k o n c=>match b9 ρ k1 with
   | some (some k')=>cond (Nat.beq k' k) (.ss k1 o n c) .any
   | _=>.any
 | .gs k1 _,.gs k n=>match b9 ρ k1 with
   | some (some k')=>cond (Nat.beq k' k) (.gs k1 n) .any
   | _=>.any
 | .gs k1 _,.ns=>match b9 ρ k1 with
   | some none=>.gs k1 0
   | _=>.any
 | .ns,.ns=>.ns
 | .np,.np=>.np
 | .yl _,.yl l=>.yl l
 | .go k1 _ _,.go k o n=>match b9 ρ k1 with
   | some (some k')=>cond (Nat.beq k' k) (.go k1 o n) .any
   | _=>.any
 | _,_=>.any
def jl (ρ:Rho):List V->List V->List V
 | [],[]=>[]
 | y::ys,x::xs=>gF ρ y x::jl ρ ys xs
 | [],_::_=>[.any]
 | _::_,[]=>[]
end
section
variable {ρ:Rho}
theorem C2 {k k':Nat} {x y:V} (hb:cond (Nat.beq k' k) x V.any=y) (hy:y ≠ V.any):k'=k/\x=y:=by
 cases hc:Nat.beq k' k with
 | false=>rw [hc] at hb; exact (hy hb.symm).elim
 | true=>rw [hc] at hb; exact ⟨Nat.eq_of_beq_eq_true hc,hb⟩
mutual
theorem zm:∀ (t v:V),gF ρ t v=t->bw ρ v t
 | .any,v,_=>by cases v <;> simp [bw]
 | .int k n,v,h=>by cases v <;> simp only [gF] at h <;> cases h <;> simp [bw]
 | .bool b,v,h=>by cases v <;> simp only [gF] at h <;> cases h <;> simp [bw]
 | .kb b,v,h=>by cases v <;> simp only [gF] at h <;> cases h <;> simp [bw]
 | .str b,v,h=>by cases v <;> simp only [gF] at h <;> cases h <;> simp [bw]
 | .agg ys,v,h=>by
   cases v <;> simp only [gF] at h <;> first | (cases h; done) | skip
   simp only [V.agg.injEq] at h; simp only [bw]; exact eU ys _ h
 | .tup ys,v,h=>by
   cases v <;> simp only [gF] at h <;> first | (cases h; done) | skip
   simp only [V.tup.injEq] at h; simp only [bw]; exact eU ys _ h
 | .fn f us vs,v,h=>by
   cases v <;> simp only [gF] at h <;> first | (cases h; done) | skip
   simp only [V.fn.injEq] at h; simp only [bw]; exact ⟨h.1,eU us _ h.2.1,eU vs _ h.2.2⟩
 | .sl n f,v,h=>by cases v <;> simp only [gF] at h <;> cases h <;> simp [bw]
 | .pd cs,v,h=>by cases v <;> simp only [gF] at h <;> cases h <;> simp [bw]
 | .pl k1 o1,v,h=>by
   cases v <;> simp only [gF] at h <;> first | (cases h; done) | skip
   split at h
   ·rename_i k' hk
    obtain ⟨rfl,e⟩:=C2 h (by simp)
    simp only [V.pl.injEq,true_and] at e
    simp only [bw]; exact ⟨hk,e⟩
   ·cases h
 | .pe k1 i1 j1,v,h=>by
   cases v <;> simp only [gF] at h <;> first | (cases h; done) | skip
   split at h
   ·rename_i k' hk
    obtain ⟨rfl,e⟩:=C2 h (by simp)
    simp only [V.pe.injEq,true_and] at e
    simp only [bw]; exact ⟨hk,e⟩
   ·cases h
 | .ss k1 i1 j1 c1,v,h=>by
   cases v <;> simp only [gF] at h <;> first | (cases h; done) | skip
   split at h
   ·rename_i k' hk
    obtain ⟨rfl,e⟩:=C2 h (by simp)
    simp only [V.ss.injEq,true_and] at e
    simp only [bw]; exact ⟨hk,e⟩
   ·cases h
 | .gs k1 n1,v,h=>by
   cases v <;> simp only [gF] at h <;> first | (cases h; done) | skip
   ·split at h
    ·rename_i k' hk
     obtain ⟨rfl,e⟩:=C2 h (by simp)
     simp only [V.gs.injEq,true_and] at e
     simp only [bw]; exact ⟨hk,e⟩
    ·cases h
   ·split at h
    ·rename_i hk
     simp only [V.gs.injEq,true_and] at h
     simp only [bw]; exact ⟨hk,h.symm⟩
    ·cases h
 | .ns,v,h=>by cases v <;> simp only [gF] at h <;> cases h <;> simp [bw]
 | .np,v,h=>by cases v <;> simp only [gF] at h <;> cases h <;> simp [bw]
 | .yl l,v,h=>by cases v <;> simp only [gF] at h <;> cases h <;> simp [bw]
 | .gd b x,v,h=>by cases v <;> simp only [gF] at h <;> cases h
 | .go k1 i1 j1,v,h=>by
   cases v <;> simp only [gF] at h <;> first | (cases h; done) | skip
   split at h
   ·rename_i k' hk
    obtain ⟨rfl,e⟩:=C2 h (by simp)
    simp only [V.go.injEq,true_and] at e
    simp only [bw]; exact ⟨hk,e⟩
   ·cases h
 | .sq n m f,v,h=>by cases v <;> simp only [gF] at h <;> cases h
theorem eU:∀ (ts vs:List V),jl ρ ts vs=ts->dm ρ vs ts
 | [],[],_=>by simp [dm]
 | y::ys,x::xs,h=>by
   simp only [jl,List.cons.injEq] at h
   simp only [dm]; exact ⟨zm y x h.1,eU ys xs h.2⟩
 | [],_::_,h=>by simp [jl] at h
 | _::_,[],h=>by simp [jl] at h
end
mutual
theorem B9:∀ (v t:V),bw [] v t->bw ρ v t
 | .int ..,t,h=>by cases t <;> simp only [bw] at h ⊢ <;> exact h
 | .bool _,t,h=>by cases t <;> simp only [bw] at h ⊢ <;> exact h
 | .kb _,t,h=>by cases t <;> simp only [bw] at h ⊢ <;> exact h
 | .str _,t,h=>by cases t <;> simp only [bw] at h ⊢ <;> exact h
 | .agg xs,t,h=>by cases t <;> simp only [bw] at h ⊢ <;> first | exact fN _ _ h | exact h
 | .tup xs,t,h=>by cases t <;> simp only [bw] at h ⊢ <;> first | exact fN _ _ h | exact h
 | .fn f xs ys,t,h=>by cases t <;> simp only [bw] at h ⊢ <;> first | exact ⟨h.1,fN _ _ h.2.1,fN _ _ h.2.2⟩ | exact h
 | .sl ..,t,h=>by cases t <;> simp only [bw] at h ⊢ <;> exact h
 | .pd ..,t,h=>by cases t <;> simp only [bw] at h ⊢ <;> exact h
 | .pl ..,t,h=>by cases t <;> simp only [bw] at h ⊢ <;> first | exact h | (simp [b9,nth] at h)
 | .pe ..,t,h=>by cases t <;> simp only [bw] at h ⊢ <;> first | exact h | (simp [b9,nth] at h)
 | .ss ..,t,h=>by cases t <;> simp only [bw] at h ⊢ <;> first | exact h | (simp [b9,nth] at h)
 | .gs ..,t,h=>by cases t <;> simp only [bw] at h ⊢ <;> first | exact h | (simp [b9,nth] at h)
 | .ns,t,h=>by cases t <;> simp only [bw] at h ⊢ <;> first | exact h | (simp [b9,nth] at h)
 | .np,t,h=>by cases t <;> simp only [bw] at h ⊢ <;> exact h
 | .any,t,h=>by cases t <;> simp only [bw] at h ⊢ <;> exact h
 | .gd ..,t,h=>by cases t <;> simp only [bw] at h ⊢ <;> exact h
 | .yl _,t,h=>by cases t <;> simp only [bw] at h ⊢ <;> exact h
 | .go ..,t,h=>by cases t <;> simp only [bw] at h ⊢ <;> first | exact h | (simp [b9,nth] at h)
 | .sq ..,t,h=>by cases t <;> simp only [bw] at h ⊢ <;> exact h
theorem fN:∀ (vs ts:List V),dm [] vs ts->dm ρ vs ts
 | [],[],_=>by simp [dm]
 | v::vs,t::ts,h=>by simp only [dm] at h ⊢; exact ⟨B9 v t h.1,fN vs ts h.2⟩
 | [],_::_,h=>by simp [dm] at h
 | _::_,[],h=>by simp [dm] at h
end
end
def u9 (ts:List Ty) (n:Nat) (f:FnV):Prop:=∀ i,i < n->okE (aY ts) (ak ts (f i))=true/\dm [] (f i) (ak ts (f i))
structure VF where
 k:Nat
 ts:List Ty
 n:Nat
 f:Nat->List V
 ok:u9 ts n f
theorem EY {t:Ty} (h:be t=true) (v:V):(bD t v).one=true:=by cases t <;> first | (simp [be] at h; done) | (simp only [bD]; rfl)
theorem tM:∀ {ts:List Ty},ts.all be=true->∀ vs,(ak ts vs).all V.one=true
 | [],_,_=>by simp [ak]
 | t::ts,h,vs=>by
   simp only [List.all_cons,Bool.and_eq_true] at h
   simp only [ak,List.all_cons,Bool.and_eq_true]; exact ⟨EY h.1 _,tM h.2 _⟩
theorem fT {ts:List Ty} (h:ts.all be=true) (vs:List V):okE (aY ts) (ak ts vs)=true:=ye (by rw [oa,ba]) (tM h vs)
theorem BV {t:Ty} (h:be t=true) (v:V):bw [] (bD t v) (bD t v):=by cases t <;> first | (simp [be] at h; done) | (simp only [bD,bw]; try simp)
theorem jO:∀ {ts:List Ty},ts.all be=true->∀ vs,dm [] (ak ts vs) (ak ts vs)
 | [],_,_=>by simp [ak,dm]
 | t::ts,h,vs=>by
   simp only [List.all_cons,Bool.and_eq_true] at h
   simp only [ak,dm]; exact ⟨BV h.1 _,jO h.2 _⟩
theorem ah {ts:List Ty} (h:ts.all be=true) (n:Nat) (f:FnV):u9 ts n (elV ts f):=fun i _=>by
 simp only [elV,bL]
 exact ⟨fT h _,jO h _⟩
theorem gW {ts:List Ty} {n m:Nat} {f g:Nat->List V} (h1:u9 ts n f) (h2:u9 ts m g):u9 ts (n+m) (bb n f g):=fun i hi=>by
 unfold bb
 by_cases hlt:i < n
 ·have hb:Nat.blt i n=true:=Nat.ble_eq_true_of_le hlt
  rw [hb]; exact h1 i hlt
 ·have hb:Nat.blt i n=false:=by
   cases hb:Nat.blt i n with
   | false=>rfl
   | true=>have:=Nat.le_of_ble_eq_true hb; omega
  rw [hb]; exact h2 _ (by omega)
theorem gk {ts:List Ty} (h:ts.all be=true) (n:Nat) {ds:List V} (hf:jl [] (ak ts ds) ds=ak ts ds):u9 ts n fun _=>ds:=fun i _=>⟨fT h _,eU _ _ hf⟩
theorem vp {ts:List Ty} (h:ts.all be=true) {n j:Nat} {ds:List V} {f:Nat->List V} (h1:u9 ts n f) (hf:jl [] (ak ts ds) ds=ak ts ds):u9 ts n fun i=>cond (Nat.beq i j) ds (f i):=fun i hi=>by
 show okE _ (ak ts (cond (Nat.beq i j) ds (f i)))=true/\dm [] (cond (Nat.beq i j) ds (f i)) (ak ts (cond (Nat.beq i j) ds (f i)))
 cases Nat.beq i j with
 | true=>exact ⟨fT h _,eU _ _ hf⟩
 | false=>exact h1 i hi
def xb (ρ:Rho) (e:Env):Env->Env
 | []=>[]
 | (s,t)::l=>(s,gF ρ t (cH e s))::xb ρ e l
theorem zW {ρ:Rho} {e:Env}:∀ {e1:Env},xb ρ e e1=e1->kZ ρ e e1
 | [],_=>trivial
 | (s,t)::l,h=>by
   simp only [xb,List.cons.injEq,Prod.mk.injEq,true_and] at h
   exact ⟨zm _ _ h.1,zW h.2⟩
def rM:List VF->Nat->Option VF
 | [],_=>none
 | v::l,k=>cond (Nat.beq k v.k) (some v) (rM l k)
def EK (ρ:Rho) (h:List O) (vf:List VF) (k:Nat):O->O
 | .cells cs ty=>match b9 ρ k with
   | some (some j)=>match nth h j with
     | some (.cells ds ty')=>.cells (jl ρ cs ds) ty'
     | _=>.dead
   | _=>.dead
 | .gl e n f ty=>match b9 ρ k with
   | some none=>.gl e 0 f ty
   | some (some j)=>match nth h j with
     | some (.gl e' m g ty')=>match rM vf k with
       | some v=>.gl e' m (elV v.ts g) ty'
       | none=>.dead
     | _=>.dead
   | none=>.dead
 | .dead=>.hid
 | .hid=>.hid
def wK (ρ:Rho) (h:List O) (vf:List VF):Nat->List O->List O
 | _,[]=>[]
 | k,o::l=>EK ρ h vf k o::wK ρ h vf (k+1) l
def kP (ρ:Rho) (h:List O):List VF->List (Nat × Nat × (Nat->List V))
 | []=>[]
 | v :: l=>(match b9 ρ v.k with
   | some (some j)=>match nth h j with
     | some (.gl e m g _)=>(e,m,g)
     | _=>(0,0,fun _=>[])
   | _=>(0,0,fun _=>[]))::kP ρ h l
def kw:List VF->List (Nat × Nat × (Nat->List V))
 | []=>[]
 | v::l=>(aY v.ts,v.n,v.f)::kw l
theorem vJ {ρ:Rho} {h:List O} {k:Nat} {v:VF}:∀ {vf:List VF},rM vf k=some v->kP ρ h vf=kw vf->v.k=k/\(match b9 ρ v.k with
 | some (some j)=>match nth h j with
   | some (.gl e m g _)=>(e,m,g)
   | _=>(0,0,fun _=>[])
 | _=>(0,0,fun _=>[]))=(aY v.ts,v.n,v.f)
 | [],h1,_=>by cases h1
 | x::l,h1,h2=>by
   simp only [kP,kw,List.cons.injEq] at h2
   simp only [rM] at h1
   cases hb:Nat.beq k x.k with
   | true=>rw [hb] at h1; cases h1; exact ⟨(Nat.eq_of_beq_eq_true hb).symm,h2.1⟩
   | false=>rw [hb] at h1; exact vJ h1 h2.2
theorem FI {ρ:Rho} {h:List O} {vf:List VF} {k:Nat} {o:O} (hf:EK ρ h vf k o=o) (hg:kP ρ h vf=kw vf):yJ ρ h k o:=by
 cases o with
 | cells cs ty =>
   simp only [EK] at hf
   split at hf
   ·rename_i j hj
    split at hf
    ·rename_i ds ty' hn
     simp only [O.cells.injEq] at hf
     exact ⟨j,ds,hj,by rw [hn,hf.2],eU _ _ hf.1⟩
    ·cases hf
   ·cases hf
 | gl e n f ty =>
   simp only [EK] at hf
   split at hf
   ·rename_i hj
    simp only [O.gl.injEq,true_and,and_true] at hf
    exact .inl ⟨hj,hf.symm⟩
   ·rename_i j hj
    split at hf
    ·rename_i e' m g ty' hn
     split at hf
     ·rename_i v hv
      obtain ⟨rfl,h2⟩:=vJ hv hg
      rw [hj] at h2
      simp only [hn,Prod.mk.injEq] at h2
      simp only [O.gl.injEq] at hf
      obtain ⟨rfl,rfl,rfl,rfl⟩:=hf
      obtain ⟨h3,h4,h5⟩:=h2
      refine .inr ⟨j,m,g,hj,hn,Nat.le_refl _,fun i hi=>?_⟩
      have:=v.ok i (by rw [← h4]; exact hi)
      rw [← h5,← h3] at this
      exact ⟨this.1,fN _ _ this.2⟩
     ·cases hf
    ·cases hf
   ·cases hf
 | dead=>simp only [EK] at hf; cases hf
 | hid=>trivial
theorem Ay {ρ:Rho} {h:List O} {vf:List VF} (hg:kP ρ h vf=kw vf):∀ {l:List O} {k:Nat},wK ρ h vf k l=l->pO ρ h k l
 | [],_,_=>trivial
 | o::l,k,hf=>by
   simp only [wK,List.cons.injEq] at hf
   exact ⟨FI hf.1 hg,Ay hg hf.2⟩
def sZ (ρ:Rho) (nb:Nat) (h1:List O):Bool:=Nat.beq (aY ρ) (aY h1) && (zb ρ && Eo ρ nb)
theorem pn (w0:World) {ρ:Rho} {nb:Nat} {e e1:Env} {h h1:List O} {vf:List VF} (h0:sZ ρ nb h1=true) (he:xb ρ e e1=e1) (hh:wK ρ h vf 0 h1=h1) (hg:kP ρ h vf=kw vf):eq w0 nb e h e1 h1:=by
 unfold sZ at h0
 simp only [Bool.and_eq_true] at h0
 exact eq.ren w0 ρ h0.1 h0.2.1 h0.2.2 (zW he) (Ay hg hh)
def frR (zs:List VF) (v v':V):Prop:=v'=v ∨ ∃ k n z,v=.gs k n/\z ∈ zs/\z.k=k/\n<=z.n/\v'=.sl n (elV z.ts z.f)
def qN (zs:List VF):List V->List V->Prop
 | [],[]=>True
 | a::l,b::m=>frR zs a b/\qN zs l m
 | _,_=>False
structure FR (zs:List VF) where
 k:Nat
 n:Nat
 f:Nat->List V
 g:Nat->List V
 ok:∀ i,i < n->qN zs (f i) (g i)
section
variable {zs:List VF}
theorem frE (v:V):frR zs v v:=.inl rfl
theorem frG {z:VF} {k n:Nat} {ts:List Ty} {f:Nat->List V} (hz:z ∈ zs) (hk:z.k=k) (ht:z.ts=ts) (hf:z.f=f) (hn:n<=z.n):frR zs (.gs k n) (.sl n (elV ts f)):=.inr ⟨k,n,z,rfl,hz,hk,hn,by rw [ht,hf]⟩
theorem tu:∀ l:List V,qN zs l l
 | []=>trivial
 | a::l=>⟨.inl rfl,tu l⟩
theorem zJ (n:Nat) (f:FnV):∀ i,i < n->qN zs (f i) (f i):=fun i _=>tu _
theorem qk (n:Nat) {ds ds':List V} (h:qN zs ds ds'):∀ i,i < n->qN zs ((fun _=>ds) i) ((fun _=>ds') i):=fun _ _=>h
theorem pP {n m:Nat} {f f' g g':Nat->List V} (h1:∀ i,i < n->qN zs (f i) (f' i)) (h2:∀ i,i < m->qN zs (g i) (g' i)):∀ i,i < n+m->qN zs (bb n f g i) (bb n f' g' i):=fun i hi=>by
 unfold bb
 by_cases hlt:i < n
 ·have hb:Nat.blt i n=true:=Nat.ble_eq_true_of_le hlt
  rw [hb]; exact h1 i hlt
 ·have hb:Nat.blt i n=false:=by
   cases hb:Nat.blt i n with
   | false=>rfl
   | true=>have:=Nat.le_of_ble_eq_true hb; omega
  rw [hb]; exact h2 _ (by omega)
def A9:List (FR zs)->Nat->Option (FR zs)
 | [],_=>none
 | v::l,k=>cond (Nat.beq k v.k) (some v) (A9 l k)
def Jd (fr:List (FR zs)) (k:Nat) (o:O):O:=match rM zs k with
 | some _=>.hid
 | none=>match o with
   | .gl e n f ty=>match A9 fr k with
     | some r=>.gl e n r.g ty
     | none=>.gl e n f ty
   | o=>o
def frzH (fr:List (FR zs)):Nat->List O->List O
 | _,[]=>[]
 | k,o::l=>Jd fr k o::frzH fr (k+1) l
def FB (zs:List VF):Bool:=zs.all fun v=>v.ts.all be
def Be (h:List O):List VF->List (Option (Nat × Nat × (Nat->List V)))
 | []=>[]
 | v::l=>(match nth h v.k with
   | some (.gl e m g _)=>some (e,m,g)
   | _=>none)::Be h l
def ol:List VF->List (Option (Nat × Nat × (Nat->List V)))
 | []=>[]
 | v::l=>some (aY v.ts,v.n,v.f)::ol l
def BE (h:List O):List (FR zs)->List (Option (Nat × (Nat->List V)))
 | []=>[]
 | v::l=>(match nth h v.k with
   | some (.gl _ m g _)=>some (m,g)
   | _=>none)::BE h l
def BW:List (FR zs)->List (Option (Nat × (Nat->List V)))
 | []=>[]
 | v::l=>some (v.n,v.f)::BW l
theorem zV {h:List O} {v:VF}:∀ {l:List VF},Be h l=ol l->v ∈ l->∃ ty,h[v.k]? = some (.gl (aY v.ts) v.n v.f ty)
 | [],_,hm=>by cases hm
 | x :: l,he,hm=>by
   simp only [Be,ol,List.cons.injEq] at he
   rcases List.mem_cons.1 hm with rfl | hm
   ·have h1:=he.1
    rw [aF] at h1
    split at h1
    ·rename_i e m g ty hk
     simp only [Option.some.injEq,Prod.mk.injEq] at h1
     obtain ⟨rfl,rfl,rfl⟩:=h1
     exact ⟨ty,hk⟩
    ·cases h1
   ·exact zV he.2 hm
theorem AD {h:List O} {k:Nat} {r:FR zs}:∀ {l:List (FR zs)},BE h l=BW l->A9 l k=some r->∃ e ty,h[k]? = some (.gl e r.n r.f ty)
 | [],_,hm=>by cases hm
 | x :: l,he,hm=>by
   simp only [BE,BW,List.cons.injEq] at he
   simp only [A9] at hm
   cases hb:Nat.beq k x.k with
   | true =>
     rw [hb] at hm; cases hm
     have h1:=he.1
     rw [aF,← Nat.eq_of_beq_eq_true hb] at h1
     split at h1
     ·rename_i e m g ty hk
      simp only [Option.some.injEq,Prod.mk.injEq] at h1
      obtain ⟨rfl,rfl⟩:=h1
      exact ⟨e,ty,hk⟩
     ·cases h1
   | false=>rw [hb] at hm; exact AD he.2 hm
theorem tm {v:VF}:∀ {l:List VF},v ∈ l->rM l v.k ≠ none
 | x :: l,hm=>by
   simp only [rM]
   cases hb:Nat.beq v.k x.k with
   | true=>simp
   | false =>
     rcases List.mem_cons.1 hm with rfl | hm
     ·simp at hb
     ·exact tm hm
theorem vZ (fr:List (FR zs)):∀ (l:List O) (b k:Nat),(frzH fr b l)[k]? = (l[k]?).map (Jd fr (b+k))
 | [],b,k=>by simp [frzH]
 | o::l,b,0=>by simp [frzH]
 | o::l,b,k+1=>by
   simp only [frzH,List.getElem?_cons_succ]
   rw [vZ fr l (b+1) k,show b+1+k=b+(k+1) by omega]
theorem FM {v v':V} (h:frR zs v v') (hv:v.one=true):v'.one=true:=by
 rcases h with rfl | ⟨k,n,z,_,_,_,_,rfl⟩
 ·exact hv
 ·rfl
theorem vR:∀ {l m:List V},qN zs l m->l.all V.one=true->aY m=aY l/\m.all V.one=true
 | [],[],_,_=>⟨rfl,rfl⟩
 | a::l,b::m,h,ho=>by
   simp only [List.all_cons,Bool.and_eq_true] at ho ⊢
   obtain ⟨h1,h2⟩:=vR h.2 ho.2
   exact ⟨by simp only [aY,h1],FM h.1 ho.1,h2⟩
 | [],_::_,h,_=>h.elim
 | _::_,[],h,_=>h.elim
theorem AH (w0:World) {nb:Nat} {e:Env} {h:List O} {fr:List (FR zs)} (hc:FB zs=true) (hz:Be h zs=ol zs) (hf:BE h fr=BW fr):eq w0 nb e h e (frzH fr 0 h):=by
 classical
 intro N ν nV nS sl lh hs hr
 have hB:∀ v,v ∈ zs->∃ ty,h[v.k]? = some (.gl (aY v.ts) v.n v.f ty):=fun v hv=>zV hz hv
 let Bf:Nat->Prop:=fun j=>∃ v x,v ∈ zs/\ν v.k=some (some x)/\x.1=j
 let z1:List ac:=lh.mapIdx fun j o=>if isCells ν.z[j]? = true ∨ Bf j then o else .hid
 have z1get:∀ j,z1[j]? = (lh[j]?).map fun o=>if isCells ν.z[j]? = true ∨ Bf j then o else .hid:=fun j=>by simp only [z1,List.getElem?_mapIdx]
 have hza:zle ν.z z1:=fun j az ty hj=>by
  rw [z1get,hr.zl j az ty hj]
  simp only [Option.map_some]
  rw [if_pos (.inl (by rw [hj]; rfl))]
 have hzb:zle z1 lh:=fun j az ty hj=>by
  rw [z1get] at hj
  cases hl:lh[j]? with
  | none=>rw [hl] at hj; cases hj
  | some o =>
    rw [hl] at hj
    simp only [Option.map_some,Option.some.injEq] at hj
    split at hj
    ·rw [hj]
    ·cases hj
 let ν1:Nu:=⟨ν.m,z1⟩
 have hsub:ν.sub ν1:=⟨fun _ _ h=>h,hza⟩
 have hfr:∀ {v v':V} {a:ab},frR zs v v'->vr w0 ν.z ν v a->vr w0 z1 ν1 v' a:=by
  intro v v' a hv hx
  rcases hv with rfl | ⟨k,n,z,rfl,hm,rfl,hn,rfl⟩
  ·exact G0 hsub _ _ hx
  ·obtain ⟨ty,hk⟩:=hB z hm
   have hts:z.ts.all be=true:=by unfold FB at hc; exact List.all_eq_true.1 hc z hm
   simp only [vr] at hx ⊢
   rcases hr.blk _ _ hk with ⟨h1,h2⟩ | ⟨b,c,az,h1,h2,h3,h4,h5⟩
   ·rcases hx with ⟨_,g2,rfl⟩ | ⟨b,c,e,g1,_⟩
    ·subst g2; exact ⟨none,0,0,rfl,Nat.le_refl _,by omega,trivial,fun i hi=>by omega⟩
    ·rw [h1] at g1; cases g1
   ·rcases hx with ⟨g1,_⟩ | ⟨b',c',e',g1,rfl,g3⟩
    ·rw [h1] at g1; cases g1
    ·rw [h1] at g1
     obtain ⟨rfl,rfl,rfl⟩:b=b'/\c=c'/\aY z.ts=e':=by simpa using g1
     have hb:z1[b]? = some (.cells az ty):=by
      rw [z1get,h2]
      simp only [Option.map_some]
      rw [if_pos (.inr ⟨z,_,hm,h1,rfl⟩)]
     refine ⟨some (.l b 0),c,aY z.ts,rfl,g3,by omega,⟨az,ty,hb,Nat.zero_le _⟩,fun i hi=>?_⟩
     have hi':i * aY z.ts+aY z.ts<=az.length:=by
      rw [h3,← Nat.succ_mul]; exact Nat.mul_le_mul_right _ (by omega)
     have hok:=z.ok i (by omega)
     refine ⟨_,_,rfl,?_,ij hza _ _ (eM (ν:=ge [] ν) (fun k x hx=>?_) _ _ (eX _ _ _ hok.2 (h5 i (by omega)).2)),jX _ _ hts⟩
     ·simp only [Ptr.add,lds,hb,Nat.zero_add]
      rw [if_pos (by omega)]
     ·simp only [ge,b9,nth] at hx; cases hx
 have hfrs:∀ {l m:List V} {az:List ab},qN zs l m->vrs w0 ν.z ν l az->vrs w0 z1 ν1 m az:=by
  intro l
  induction l with
  | nil=>intro m az h1 h2; cases m with | nil=>simp only [vrs] at h2 ⊢; exact h2 | cons=>exact h1.elim
  | cons a l ih =>
    intro m az h1 h2
    cases m with
    | nil=>exact h1.elim
    | cons b m =>
      simp only [vrs] at h2 ⊢
      obtain ⟨x,xs,rfl,g1,g2⟩:=h2
      exact ⟨x,xs,rfl,hfr h1.1 g1,ih h1.2 g2⟩
 have hget:∀ k o,(frzH fr 0 h)[k]? = some o->o ≠ .hid->rM zs k=none/\∃ o',h[k]? = some o'/\o=(match o' with
  | .gl e n f ty=>match A9 fr k with
    | some r=>O.gl e n r.g ty
    | none=>.gl e n f ty
  | o=>o):=fun k o hk ho=>by
  rw [vZ,Nat.zero_add] at hk
  cases hg:h[k]? with
  | none=>rw [hg] at hk; cases hk
  | some o' =>
    rw [hg] at hk
    simp only [Option.map_some,Option.some.injEq,Jd] at hk
    cases hv:rM zs k with
    | some v=>rw [hv] at hk; exact (ho hk.symm).elim
    | none=>rw [hv] at hk; exact ⟨rfl,o',rfl,hk.symm⟩
 have hlive:∀ k,aA (frzH fr 0 h) k->rM zs k=none/\aA h k:=fun k hk=>by
  rcases cy hk with ⟨cs,ty,g⟩ | ⟨e,n,f,ty,g⟩
  ·obtain ⟨h1,o',h2,h3⟩:=hget k _ g (by simp)
   refine ⟨h1,?_⟩
   cases o' with
   | cells cs' ty'=>exact bT h2
   | gl e n f ty=>exact di h2
   | dead=>cases h3
   | hid=>cases h3
  ·obtain ⟨h1,o',h2,h3⟩:=hget k _ g (by simp)
   refine ⟨h1,?_⟩
   cases o' with
   | cells cs' ty'=>exact bT h2
   | gl e n f ty=>exact di h2
   | dead=>cases h3
   | hid=>cases h3
 refine ⟨ν1,nV,nS,NuN.of hsub _,hs.mono hsub,⟨fun k o hk=>?_,fun k k' x x' h1 h2=>hr.inj k k' x x' (hlive k h1).2 (hlive k' h2).2,fun k hk=>hr.dom k ?_,hr.rng,hzb,fun k x hk hx=>?_⟩⟩
 ·by_cases ho:o=.hid
  ·subst ho; trivial
  ·obtain ⟨h1,o',h2,h3⟩:=hget k o hk ho
   have hb:=hr.blk k o' h2
   cases o' with
   | cells cs ty=>subst h3; exact bS hsub (by simp) (fun b az ty g _=>g) hb
   | dead=>subst h3; exact hb
   | hid=>subst h3; trivial
   | gl e n f ty =>
     cases hfa:A9 fr k with
     | none=>rw [hfa] at h3; subst h3; exact bS hsub (by simp) (fun b az ty g _=>g) hb
     | some r =>
       rw [hfa] at h3; subst h3
       obtain ⟨e',ty',g⟩:=AD hf hfa
       rw [h2] at g
       simp only [Option.some.injEq,O.gl.injEq] at g
       obtain ⟨_,rfl,rfl,_⟩:=g
       rcases hb with ⟨k1,k2⟩ | ⟨b,c,az,k1,k2,k3,k4,k5⟩
       ·exact .inl ⟨k1,k2⟩
       ·refine .inr ⟨b,c,az,k1,k2,k3,k4,fun i hi=>?_⟩
        obtain ⟨q1,q2⟩:=k5 i hi
        unfold okE at q1 ⊢
        simp only [Bool.and_eq_true] at q1 ⊢
        obtain ⟨p1,p2⟩:=vR (r.ok i hi) q1.2
        exact ⟨⟨by rw [p1]; exact q1.1,p2⟩,hfrs (r.ok i hi) q2⟩
 ·have hl:(frzH fr 0 h).length=h.length:=by
   have gen:∀ (l:List O) (b:Nat),(frzH fr b l).length=l.length:=fun l=>by
    induction l with
    | nil=>intro b; rfl
    | cons o l ih=>intro b; simp [frzH,ih]
   exact gen h 0
  omega
 ·obtain ⟨h1,h2⟩:=hlive k hk
  have hx':ν k=some (some x):=hx
  have g1:=hr.zn k x h2 hx'
  show isCells z1[x.1]? = false
  rw [z1get]
  cases hl:lh[x.1]? with
  | none=>rfl
  | some o =>
    simp only [Option.map_some]
    rw [if_neg]
    ·rfl
    ·rintro (g2 | ⟨v,x',hv,g2,g3⟩)
     ·rw [g1] at g2; cases g2
     ·obtain ⟨ty,hk'⟩:=hB v hv
      have:=hr.inj v.k k x' x (di hk') h2 g2 hx' g3
      rw [← this] at h1
      exact tm hv h1
end
inductive RT (S:Type) where
 | ret (v:V)
 | next (ρ:Rho) (s:S) (vf:List VF)
 | enter (ρ:Rho) (s:S) (vf:List VF)
 | nextz (zs:List VF) (fr:List (FR zs)) (ρ:Rho) (s:S) (vf:List VF)
 | enterz (zs:List VF) (fr:List (FR zs)) (ρ:Rho) (s:S) (vf:List VF)
 | br (b:Bool) (x y:RT S)
 | brt (x:RT S)
 | brf (y:RT S)
 | brx (b:Bool) (x:RT S)
 | bry (b:Bool) (y:RT S)
 | ob (b:Bool) (x:RT S)
 | obt (x:RT S)
 | obv (b:Bool) (h:b=true) (x:RT S)
 | obi (x:RT S)
 | obj (c b:Bool) (x:RT S)
 | obc (x:RT S)
 | obp (p:Prop) (x:RT S)
 | obe (ts:List Ty) (ds:List V) (x:RT S)
 | und (x y:RT S)
 | asm (p:Prop) (x:RT S)
 | all (f:Nat->RT S)
 | fail
structure LD (J S:Type) where
 id:S->J
 lp:J->Lp J
 inv:S->Env × List O × Option Ex
inductive FT (J:Type) where
 | res (v:V)
 | head (j:J) (g:Option Ex) (ok:Bool) (e:Env) (h:List O) (vs:List (Nat × Nat × (Nat->List V)))
 | loop (fr:Nat × Nat) (b:wv) (k:Ex->Env->List O->Option Ex->T (bF J)) (g:Option Ex) (ok:Bool) (e:Env) (h:List O) (vs:List (Nat × Nat × (Nat->List V)))
 | headz (c:Bool) (zg:List (Option (Nat × Nat × (Nat->List V)))) (fg:List (Option (Nat × (Nat->List V)))) (j:J) (g:Option Ex) (ok:Bool) (e:Env) (h:List O) (vs:List (Nat × Nat × (Nat->List V)))
 | loopz (c:Bool) (zg:List (Option (Nat × Nat × (Nat->List V)))) (fg:List (Option (Nat × (Nat->List V)))) (fr:Nat × Nat) (b:wv) (k:Ex->Env->List O->Option Ex->T (bF J)) (g:Option Ex) (ok:Bool) (e:Env) (h:List O) (vs:List (Nat × Nat × (Nat->List V)))
 | br (b:Bool) (x y:FT J)
 | brt (b:Bool) (x:FT J)
 | brf (b:Bool) (y:FT J)
 | brx (b:Bool) (x:FT J)
 | bry (b:Bool) (y:FT J)
 | ob (b:Bool) (x:FT J)
 | obt (b:Bool) (x:FT J)
 | obi (x:FT J)
 | obj (c b:Bool) (x:FT J)
 | obp (p:Prop) (x:FT J)
 | obe (a b:List V) (x:FT J)
 | und (x y:FT J)
 | asm (p:Prop) (x:FT J)
 | all (f:Nat->FT J)
 | fail (n:Nat)
section
variable {J S:Type}
def Mm (a b:List V) (k:RT S->FT J):RT S->FT J
 | .obe _ _ x=>.obe a b (k x)
 | t=>k t
def Kq (a b:List V) (k:RT S->T (bF J)):RT S->T (bF J)
 | .obe _ _ x=>.obq a b (k x)
 | t=>.obq a a (k t)
def cS (D:LD J S):T (bF J)->RT S->FT J
 | .ret (.res v),.ret _=>.res v
 | .ret (.head j e h g),.next ρ s vf=>.head j g (sZ ρ (D.lp j).fr.2 (D.inv s).2.1) (xb ρ e (D.inv s).1) (wK ρ h vf 0 (D.inv s).2.1) (kP ρ h vf)
 | .loop fr b e h g k,.enter ρ s vf=>.loop fr b k g (sZ ρ fr.2 (D.inv s).2.1) (xb ρ e (D.inv s).1) (wK ρ h vf 0 (D.inv s).2.1) (kP ρ h vf)
 | .ret (.head j e h g),.nextz zs fz ρ s vf=>.headz (FB zs) (Be h zs) (BE h fz) j g (sZ ρ (D.lp j).fr.2 (D.inv s).2.1) (xb ρ e (D.inv s).1) (wK ρ (frzH fz 0 h) vf 0 (D.inv s).2.1) (kP ρ (frzH fz 0 h) vf)
 | .loop fr b e h g k,.enterz zs fz ρ s vf=>.loopz (FB zs) (Be h zs) (BE h fz) fr b k g (sZ ρ fr.2 (D.inv s).2.1) (xb ρ e (D.inv s).1) (wK ρ (frzH fz 0 h) vf 0 (D.inv s).2.1) (kP ρ (frzH fz 0 h) vf)
 | .br b x y,.br _ x' y'=>.br b (cS D x x') (cS D y y')
 | .br b x _,.brt x'=>.brt b (cS D x x')
 | .br b _ y,.brf y'=>.brf b (cS D y y')
 | .br b x _,.brx _ x'=>.brx b (cS D x x')
 | .br b _ y,.bry _ y'=>.bry b (cS D y y')
 | .ob b x,.ob _ x'=>.ob b (cS D x x')
 | .ob b x,.obt x'=>.obt b (cS D x x')
 | .ob b x,.obv _ _ x'=>.ob b (cS D x x')
 | .obp p x,.obc x'=>.obp p (cS D x x')
 | .obi _ d x,.obt x'=>.obt d (cS D x x')
 | .obi _ d x,.ob _ x'=>.ob d (cS D x x')
 | .obi _ d x,.obv _ _ x'=>.ob d (cS D x x')
 | .obi _ _ x,.obi x'=>.obi (cS D x x')
 | .obi c d x,.obj _ _ x'=>.obj c d (cS D x x')
 | .obp p x,.obp _ x'=>.obp p (cS D x x')
 | .obq a b x,t=>Mm a b (cS D x) t
 | .und x y,.und x' y'=>.und (cS D x x') (cS D y y')
 | .asm p x,.asm _ x'=>.asm p (cS D x x')
 | .all f,.all g=>.all fun l=>cS D (f l) (g l)
 | .fail _,.fail=>.fail 1
 | _,_=>.fail 0
def bn:T (bF J)->RT S->T (bF J)
 | .br b x y,.br _ x' y'=>.br b (bn x x') (bn y y')
 | .br b x y,.brt x'=>.br b (bn x x') y
 | .br b x y,.brf y'=>.br b x (bn y y')
 | .br b x y,.brx _ x'=>.br b (bn x x') y
 | .br b x y,.bry _ y'=>.br b x (bn y y')
 | .ob b x,.ob _ x'=>.ob b (bn x x')
 | .ob b x,.obt x'=>.ob b (bn x x')
 | .ob b x,.obv _ _ x'=>.ob b (bn x x')
 | .obp p x,.obp _ x'=>.obp p (bn x x')
 | .obp p x,.obc x'=>.obp p (bn x x')
 | .obi c d x,.obt x'=>.obi c d (bn x x')
 | .obi c d x,.ob _ x'=>.obi c d (bn x x')
 | .obi c d x,.obv _ _ x'=>.obi c d (bn x x')
 | .obi c _ x,.obi x'=>.obi c c (bn x x')
 | .obi c d x,.obj _ _ x'=>.obi c d (bn x x')
 | .obq a b x,t=>Kq a b (bn x) t
 | .und x y,.und x' y'=>.und (bn x x') (bn y y')
 | .asm p x,.asm _ x'=>.asm p (bn x x')
 | .all f,.all g=>.all fun l=>bn (f l) (g l)
 | t,_=>t
def toF (D:LD J S):RT S->FT J
 | .ret v=>.res v
 | .next _ s vf=>.head (D.id s) (D.inv s).2.2 true (D.inv s).1 (D.inv s).2.1 (kw vf)
 | .enter _ s vf=>.loop (D.lp (D.id s)).fr (D.lp (D.id s)).body (D.lp (D.id s)).k (D.inv s).2.2 true (D.inv s).1 (D.inv s).2.1 (kw vf)
 | .nextz zs fz _ s vf=>.headz true (ol zs) (BW fz) (D.id s) (D.inv s).2.2 true (D.inv s).1 (D.inv s).2.1 (kw vf)
 | .enterz zs fz _ s vf=>.loopz true (ol zs) (BW fz) (D.lp (D.id s)).fr (D.lp (D.id s)).body (D.lp (D.id s)).k (D.inv s).2.2 true (D.inv s).1 (D.inv s).2.1 (kw vf)
 | .br b x y=>.br b (toF D x) (toF D y)
 | .brt x=>.brt true (toF D x)
 | .brf y=>.brf false (toF D y)
 | .brx b x=>.brx b (toF D x)
 | .bry b y=>.bry b (toF D y)
 | .ob b x=>.ob b (toF D x)
 | .obt x=>.obt true (toF D x)
 | .obv b _ x=>.ob b (toF D x)
 | .obi x=>.obi (toF D x)
 | .obj c b x=>.obj c b (toF D x)
 | .obc x=>.obp True (toF D x)
 | .obp p x=>.obp p (toF D x)
 | .obe ts ds x=>.obe (gZ ts ds []) (hZ ts ds []) (toF D x)
 | .und x y=>.und (toF D x) (toF D y)
 | .asm p x=>.asm p (toF D x)
 | .all f=>.all fun l=>toF D (f l)
 | .fail=>.fail 1
def evR (Nx:S->V->Prop):RT S->V->Prop
 | .ret v,r=>toA v=toA r
 | .next _ s _,r=>Nx s r
 | .enter _ s _,r=>Nx s r
 | .nextz _ _ _ s _,r=>Nx s r
 | .enterz _ _ _ s _,r=>Nx s r
 | .br b x y,r=>(b=true->evR Nx x r)/\(b=false->evR Nx y r)
 | .brt x,r=>evR Nx x r
 | .brf y,r=>evR Nx y r
 | .brx b x,r=>b=true/\evR Nx x r
 | .bry b y,r=>b=false/\evR Nx y r
 | .ob b x,r=>b=true/\evR Nx x r
 | .obt x,r=>evR Nx x r
 | .obv _ _ x,r=>evR Nx x r
 | .obi x,r=>evR Nx x r
 | .obj c b x,r=>(c=true->b=true)/\evR Nx x r
 | .obc x,r=>evR Nx x r
 | .obp p x,r=>p/\evR Nx x r
 | .obe ts ds x,r=>gZ ts ds []=hZ ts ds []/\evR Nx x r
 | .und x y,r=>evR Nx x r/\evR Nx y r
 | .asm p x,r=>p->evR Nx x r
 | .all f,r=>∀ l,evR Nx (f l) r
 | .fail,_=>False
def EvN (step:S->RT S):Nat->S->V->Prop
 | 0,_,_=>False
 | n+1,s,r=>evR (EvN step n) (step s) r
def Ev (step:S->RT S) (s:S) (r:V):Prop:=∃ n,EvN step n s r
theorem rv {Nx Ny:S->V->Prop} {r:V} (h:∀ s,Nx s r->Ny s r):∀ t:RT S,evR Nx t r->evR Ny t r:=by
 intro t
 induction t with
 | ret v=>exact id
 | next ρ s vf=>exact h s
 | enter ρ s vf=>exact h s
 | nextz zs fz ρ s vf=>exact h s
 | enterz zs fz ρ s vf=>exact h s
 | br b x y hx hy=>exact fun k=>⟨fun e=>hx (k.1 e),fun e=>hy (k.2 e)⟩
 | brt x hx=>exact hx
 | brf y hy=>exact hy
 | brx b x hx=>exact fun k=>⟨k.1,hx k.2⟩
 | bry b y hy=>exact fun k=>⟨k.1,hy k.2⟩
 | ob b x hx=>exact fun k=>⟨k.1,hx k.2⟩
 | obt x hx=>exact hx
 | obv b h x hx=>exact hx
 | obi x hx=>exact hx
 | obj c b x hx=>exact fun k=>⟨k.1,hx k.2⟩
 | obc x hx=>exact hx
 | obp p x hx=>exact fun k=>⟨k.1,hx k.2⟩
 | obe a b x hx=>exact fun k=>⟨k.1,hx k.2⟩
 | und x y hx hy=>exact fun k=>⟨hx k.1,hy k.2⟩
 | asm p x hx=>exact fun k hp=>hx (k hp)
 | all f hf=>exact fun k l=>hf l (k l)
 | fail=>exact id
theorem wM {step:S->RT S} {r:V}:∀ {n:Nat} {s:S},EvN step n s r->EvN step (n+1) s r
 | 0,s,h=>h.elim
 | n+1,s,h=>rv (fun s hs=>wM hs) _ h
theorem q9 {step:S->RT S} {r:V} {n m:Nat} {s:S} (h:EvN step n s r) (hm:n<=m):EvN step m s r:=by
 induction hm with
 | refl=>exact h
 | step _ ih=>exact wM ih
section
variable {Nx:S->V->Prop} {r:V}
theorem evRet {v:V} (h:toA v=toA r):evR Nx (.ret v) r:=h
theorem aC {b:Bool} {x y:RT S} (h1:b=true->evR Nx x r) (h2:b=false->evR Nx y r):evR Nx (.br b x y) r:=⟨h1,h2⟩
theorem bV {x:RT S} (h:evR Nx x r):evR Nx (.brt x) r:=h
theorem ca {x:RT S} (h:evR Nx x r):evR Nx (.brf x) r:=h
theorem Oh {b:Bool} {x:RT S} (h1:b=true) (h:evR Nx x r):evR Nx (.brx b x) r:=⟨h1,h⟩
theorem tnT {b:Bool} (h:(!b)=false):b=true:=by cases b; cases h; rfl
theorem tnF {b:Bool} (h:(!b)=true):b=false:=by cases b; rfl; cases h
theorem ar {b:Bool} {x:RT S} (h1:b=true) (h2:evR Nx x r):evR Nx (.ob b x) r:=⟨h1,h2⟩
theorem evObt {x:RT S} (h:evR Nx x r):evR Nx (.obt x) r:=h
theorem LK {b:Bool} {hb:b=true} {x:RT S} (h:evR Nx x r):evR Nx (.obv b hb x) r:=h
theorem ae {x:RT S} (h:evR Nx x r):evR Nx (.obi x) r:=h
theorem ef {c b:Bool} {x:RT S} (h1:c=true->b=true) (h2:evR Nx x r):evR Nx (.obj c b x) r:=⟨h1,h2⟩
theorem evObc {x:RT S} (h:evR Nx x r):evR Nx (.obc x) r:=h
theorem cD {p:Prop} {x:RT S} (h1:p) (h2:evR Nx x r):evR Nx (.obp p x) r:=⟨h1,h2⟩
theorem K6 {x y:RT S} (h1:evR Nx x r) (h2:evR Nx y r):evR Nx (.und x y) r:=⟨h1,h2⟩
theorem bH {p:Prop} {x:RT S} (h:p->evR Nx x r):evR Nx (.asm p x) r:=h
theorem bt {p:Prop} {x:RT S} (h:p->evR Nx x r):evR Nx (.asm (true=true->p) x) r:=fun k=>h (k rfl)
theorem Cw {f:Nat->RT S} (h:∀ l,evR Nx (f l) r):evR Nx (.all f) r:=h
theorem aG {ρ:Rho} {s:S} {vf:List VF} (h:Nx s r):evR Nx (.enter ρ s vf) r:=h
theorem z6 {zs:List VF} {fz:List (FR zs)} {ρ:Rho} {s:S} {vf:List VF} (h:Nx s r):evR Nx (.nextz zs fz ρ s vf) r:=h
theorem aL {ρ:Rho} {s:S} {vf:List VF} (h:Nx s r):evR Nx (.next ρ s vf) r:=h
end
def cE:RT S->Bool
 | .br _ x y=>cE x && cE y
 | .brt x=>cE x
 | .brf y=>cE y
 | .brx _ x=>cE x
 | .bry _ y=>cE y
 | .ob _ x=>cE x
 | .obt x=>cE x
 | .obv _ _ x=>cE x
 | .obi x=>cE x
 | .obj _ _ x=>cE x
 | .obc x=>cE x
 | .obp _ x=>cE x
 | .obe _ _ x=>cE x
 | .und x y=>cE x && cE y
 | .asm _ x=>cE x
 | .all _=>false
 | _=>true
theorem JM {step:S->RT S} {r:V}:∀ t:RT S,cE t=true->evR (Ev step) t r->∃ n,evR (EvN step n) t r:=by
 intro t
 induction t with
 | ret v=>exact fun _ h=>⟨0,h⟩
 | next ρ s vf=>exact fun _ ⟨n,h⟩=>⟨n,h⟩
 | enter ρ s vf=>exact fun _ ⟨n,h⟩=>⟨n,h⟩
 | nextz zs fz ρ s vf=>exact fun _ ⟨n,h⟩=>⟨n,h⟩
 | enterz zs fz ρ s vf=>exact fun _ ⟨n,h⟩=>⟨n,h⟩
 | br b x y hx hy =>
   intro h0 h
   simp only [cE,Bool.and_eq_true] at h0
   cases b with
   | true=>obtain ⟨n,hn⟩:=hx h0.1 (h.1 rfl); exact ⟨n,fun _=>hn,fun e=>by cases e⟩
   | false=>obtain ⟨n,hn⟩:=hy h0.2 (h.2 rfl); exact ⟨n,(fun e=>by cases e),fun _=>hn⟩
 | brt x hx=>exact fun h0 h=>hx h0 h
 | brf y hy=>exact fun h0 h=>hy h0 h
 | brx b x hx=>exact fun h0 h=>let ⟨n,hn⟩:=hx h0 h.2; ⟨n,h.1,hn⟩
 | bry b y hy=>exact fun h0 h=>let ⟨n,hn⟩:=hy h0 h.2; ⟨n,h.1,hn⟩
 | ob b x hx=>exact fun h0 h=>let ⟨n,hn⟩:=hx h0 h.2; ⟨n,h.1,hn⟩
 | obt x hx=>exact fun h0 h=>hx h0 h
 | obv b h x hx=>exact fun h0 h=>hx h0 h
 | obi x hx=>exact fun h0 h=>hx h0 h
 | obj c b x hx=>exact fun h0 h=>let ⟨n,hn⟩:=hx h0 h.2; ⟨n,h.1,hn⟩
 | obc x hx=>exact fun h0 h=>hx h0 h
 | obp p x hx=>exact fun h0 h=>let ⟨n,hn⟩:=hx h0 h.2; ⟨n,h.1,hn⟩
 | obe a b x hx=>exact fun h0 h=>let ⟨n,hn⟩:=hx h0 h.2; ⟨n,h.1,hn⟩
 | und x y hx hy =>
   intro h0 h
   simp only [cE,Bool.and_eq_true] at h0
   obtain ⟨n,hn⟩:=hx h0.1 h.1
   obtain ⟨m,hm⟩:=hy h0.2 h.2
   exact ⟨max n m,rv (fun s hs=>q9 hs (Nat.le_max_left _ _)) _ hn,rv (fun s hs=>q9 hs (Nat.le_max_right _ _)) _ hm⟩
 | asm p x hx =>
   intro h0 h
   by_cases hp:p
   ·obtain ⟨n,hn⟩:=hx h0 (h hp); exact ⟨n,fun _=>hn⟩
   ·exact ⟨0,fun k=>(hp k).elim⟩
 | all f hf=>intro h0; cases h0
 | fail=>exact fun _ h=>h.elim
theorem Ev.of {step:S->RT S} {s:S} {r:V} (h0:cE (step s)=true) (h:evR (Ev step) (step s) r):Ev step s r :=
 let ⟨n,hn⟩:=JM _ h0 h; ⟨n+1,hn⟩
theorem up {w0:World} {LP:db} {D:LD J S} {Q:bF J->Prop} {Nx:S->V->Prop} {r:V} (hres:∀ v,toA v=toA r->Q (.res v))
 (hhead:∀ s e h,Nx s r->eq w0 (D.lp (D.id s)).fr.2 e h (D.inv s).1 (D.inv s).2.1->Q (.head (D.id s) e h (D.inv s).2.2))
 (hloop:∀ s e h,Nx s r->eq w0 (D.lp (D.id s)).fr.2 e h (D.inv s).1 (D.inv s).2.1->LP (D.lp (D.id s)).fr (D.lp (D.id s)).body e h (D.inv s).2.2 fun x e h g=>sat LP ((D.lp (D.id s)).k x e h g) Q) :
 ∀ (t:T (bF J)) (rt:RT S),cS D t rt=toF D rt->bn t rt=t->evR Nx rt r->sat LP t Q:=by
 intro t
 induction t with
 | ret a =>
   intro rt hf _ hr
   cases a with
   | res v=>cases rt <;> simp only [cS,toF] at hf <;> cases hf; exact hres _ hr
   | head j e h g =>
     cases rt <;> simp only [cS,toF] at hf <;> first | (cases hf; done) | skip
     ·simp only [FT.head.injEq] at hf
      obtain ⟨rfl,rfl,h1,h2,h3,h4⟩:=hf
      exact hhead _ e h hr (pn w0 h1 h2 h3 h4)
     ·simp only [FT.headz.injEq] at hf
      obtain ⟨hc,hz,hfr,rfl,rfl,h1,h2,h3,h4⟩:=hf
      exact hhead _ e h hr ((AH w0 hc hz hfr).trans (pn w0 h1 h2 h3 h4))
 | br b x y hx hy =>
   intro rt hf hs hr
   cases rt <;> simp only [cS,toF] at hf <;> first | (cases hf; done) | skip
   ·simp only [FT.br.injEq] at hf
    simp only [bn,T.br.injEq,true_and] at hs
    obtain ⟨rfl,h1,h2⟩:=hf
    exact ⟨fun e=>hx _ h1 hs.1 (hr.1 e),fun e=>hy _ h2 hs.2 (hr.2 e)⟩
   ·simp only [FT.brt.injEq] at hf
    simp only [bn,T.br.injEq,true_and] at hs
    obtain ⟨rfl,h1⟩:=hf
    exact ⟨fun e=>hx _ h1 hs.1 hr,fun e=>by cases e⟩
   ·simp only [FT.brf.injEq] at hf
    simp only [bn,T.br.injEq,true_and] at hs
    obtain ⟨rfl,h1⟩:=hf
    exact ⟨(fun e=>by cases e),fun e=>hy _ h1 hs hr⟩
   ·simp only [FT.brx.injEq] at hf
    simp only [bn,T.br.injEq,true_and] at hs
    obtain ⟨rfl,h1⟩:=hf
    exact ⟨fun e=>hx _ h1 hs.1 hr.2,fun e=>by rw [hr.1] at e; cases e⟩
   ·simp only [FT.bry.injEq] at hf
    simp only [bn,T.br.injEq,true_and] at hs
    obtain ⟨rfl,h1⟩:=hf
    exact ⟨(fun e=>by rw [hr.1] at e; cases e),fun e=>hy _ h1 hs hr.2⟩
 | ob b x hx =>
   intro rt hf hs hr
   cases rt <;> simp only [cS,toF] at hf <;> first | (cases hf; done) | skip
   ·simp only [FT.ob.injEq] at hf
    simp only [bn,T.ob.injEq,true_and] at hs
    obtain ⟨rfl,h1⟩:=hf
    exact ⟨hr.1,hx _ h1 hs hr.2⟩
   ·simp only [FT.obt.injEq] at hf
    simp only [bn,T.ob.injEq,true_and] at hs
    obtain ⟨rfl,h1⟩:=hf
    exact ⟨rfl,hx _ h1 hs hr⟩
   ·rename_i b' hb' x'
    simp only [FT.ob.injEq] at hf
    simp only [bn,T.ob.injEq,true_and] at hs
    obtain ⟨rfl,h1⟩:=hf
    exact ⟨hb',hx _ h1 hs hr⟩
 | obp p x hx =>
   intro rt hf hs hr
   cases rt <;> simp only [cS,toF] at hf <;> first | (cases hf; done) | skip
   ·simp only [FT.obp.injEq] at hf
    simp only [bn,T.obp.injEq,true_and] at hs
    obtain ⟨rfl,h1⟩:=hf
    exact ⟨trivial,hx _ h1 hs hr⟩
   ·simp only [FT.obp.injEq] at hf
    simp only [bn,T.obp.injEq,true_and] at hs
    obtain ⟨rfl,h1⟩:=hf
    exact ⟨hr.1,hx _ h1 hs hr.2⟩
 | obi c d x hx =>
   intro rt hf hs hr
   cases rt <;> simp only [cS,toF] at hf <;> first | (cases hf; done) | skip
   ·simp only [FT.ob.injEq] at hf
    simp only [bn,T.obi.injEq,true_and] at hs
    obtain ⟨rfl,h1⟩:=hf
    exact ⟨fun _=>hr.1,hx _ h1 hs hr.2⟩
   ·simp only [FT.obt.injEq] at hf
    simp only [bn,T.obi.injEq,true_and] at hs
    obtain ⟨rfl,h1⟩:=hf
    exact ⟨fun _=>rfl,hx _ h1 hs hr⟩
   ·rename_i b' hb' x'
    simp only [FT.ob.injEq] at hf
    simp only [bn,T.obi.injEq,true_and] at hs
    obtain ⟨rfl,h1⟩:=hf
    exact ⟨fun _=>hb',hx _ h1 hs hr⟩
   ·simp only [FT.obi.injEq] at hf
    simp only [bn,T.obi.injEq,true_and] at hs
    obtain ⟨h0,h1⟩:=hs
    subst h0
    exact ⟨id,hx _ hf h1 hr⟩
   ·simp only [FT.obj.injEq] at hf
    simp only [bn,T.obi.injEq,true_and] at hs
    obtain ⟨rfl,rfl,h1⟩:=hf
    exact ⟨hr.1,hx _ h1 hs hr.2⟩
 | obq a b x hx =>
   intro rt hf hs hr
   have gen:Mm a b (cS D x) rt=cS D x rt->Kq a b (bn x) rt=.obq a a (bn x rt)->sat LP (.obq a b x) Q:=fun e1 e2=>by
    have hs':T.obq a a (bn x rt)=T.obq a b x:=e2.symm.trans hs
    simp only [T.obq.injEq,true_and] at hs'
    exact ⟨hs'.1,hx _ (e1.symm.trans hf) hs'.2 hr⟩
   cases rt <;> first | exact gen rfl rfl | skip
   rename_i ts ds x'
   have hf':FT.obe a b (cS D x x')=FT.obe (gZ ts ds []) (hZ ts ds []) (toF D x'):=hf
   have hs':T.obq a b (bn x x')=T.obq a b x:=hs
   simp only [FT.obe.injEq] at hf'
   simp only [T.obq.injEq,true_and] at hs'
   obtain ⟨rfl,rfl,h1⟩:=hf'
   exact ⟨hr.1,hx _ h1 hs' hr.2⟩
 | fail n =>
   intro rt hf hs hr
   cases rt <;> simp only [cS,toF] at hf <;> first | (cases hf; done) | exact hr.elim
 | loop fr b e h g k hk =>
   intro rt hf hs hr
   cases rt <;> simp only [cS,toF] at hf <;> first | (cases hf; done) | skip
   ·simp only [FT.loop.injEq] at hf
    obtain ⟨rfl,rfl,rfl,rfl,h1,h2,h3,h4⟩:=hf
    exact hloop _ e h hr (pn w0 h1 h2 h3 h4)
   ·simp only [FT.loopz.injEq] at hf
    obtain ⟨hc,hz,hfr,rfl,rfl,rfl,rfl,h1,h2,h3,h4⟩:=hf
    exact hloop _ e h hr ((AH w0 hc hz hfr).trans (pn w0 h1 h2 h3 h4))
 | all f hf0 =>
   intro rt hf hs hr
   cases rt <;> simp only [cS,toF] at hf <;> first | (cases hf; done) | skip
   simp only [FT.all.injEq] at hf
   simp only [bn,T.all.injEq] at hs
   exact fun l=>hf0 l _ (congrFun hf l) (congrFun hs l) (hr l)
 | und x y hx hy =>
   intro rt hf hs hr
   cases rt <;> simp only [cS,toF] at hf <;> first | (cases hf; done) | skip
   simp only [FT.und.injEq] at hf
   simp only [bn,T.und.injEq] at hs
   exact ⟨hx _ hf.1 hs.1 hr.1,hy _ hf.2 hs.2 hr.2⟩
 | asm p x hx =>
   intro rt hf hs hr
   cases rt <;> simp only [cS,toF] at hf <;> first | (cases hf; done) | skip
   simp only [FT.asm.injEq] at hf
   simp only [bn,T.asm.injEq,true_and] at hs
   obtain ⟨rfl,h1⟩:=hf
   exact fun hp=>hx _ h1 hs (hr hp)
def rdT (ct:aX) (un:Unr) (j:J) (l:Lp J) (e:Env) (h:List O) (g:Option Ex):T (bF J) :=
 match l.body with
 | .s body=>dL (evC (jb ct l.fr.1) (ju ct) un l.fr 0 body e h fun x e h=>.ret (x,e,h)) fun r=>match r.1 with
   | .normal=>.ret (.head j r.2.1 r.2.2 none)
   | x=>l.k x r.2.1 r.2.2 none
 | .i body rd=>dL (iT (jb ct l.fr.1) (ju ct) un l.fr rd (rdY (jb ct l.fr.1) (ju ct) un l.fr.1 0 rd) 0 body e h g fun x e h g=>.ret (x,e,h,g)) fun r=>match r.1 with
   | .normal=>.ret (.head j r.2.1 r.2.2.1 r.2.2.2)
   | x=>l.k x r.2.1 r.2.2.1 r.2.2.2
def rdS (ct:aX) (un:Unr) (D:LD J S) (s:S):T (bF J):=rdT ct un (D.id s) (D.lp (D.id s)) (D.inv s).1 (D.inv s).2.1 (D.inv s).2.2
def QN (w0:World) (D:LD J S) (step:S->RT S) (r:V) (n:Nat):bF J->Prop
 | .res v=>toA v=toA r
 | .head j e h g=>∃ s,D.id s=j/\(D.inv s).2.2=g/\eq w0 (D.lp (D.id s)).fr.2 e h (D.inv s).1 (D.inv s).2.1/\EvN step n s r
theorem pq {w0:World} {D:LD J S} {step:S->RT S} {r:V} {n m:Nat} (hm:n<=m):∀ a,QN w0 D step r n a->QN w0 D step r m a
 | .res v,h=>h
 | .head j e h g,⟨s,h1,h2,h3,h4⟩=>⟨s,h1,h2,h3,q9 h4 hm⟩
theorem JA {w0:World} {S:vM} {fr:Nat × Nat} {body:dt} {e:Env} {h:List O} {g:Option Ex} {P:Ex->Env->List O->Option Ex->Prop} (hl:bK w0 S (fr.1,fr.2) (.s body) e h none P):bK w0 S fr (.s body) e h g P:=hl
theorem OC {ct:aX} {un:Unr} {w0:World} (hd:ks ct=true) {D:LD J S} {step:S->RT S} {r:V} (hs:∀ s,cS D (rdS ct un D s) (step s)=toF D (step s)) (hq:∀ s,bn (rdS ct un D s) (step s)=rdS ct un D s) :
 ∀ (n:Nat) (s:S) (e:Env) (h:List O),EvN step n s r->eq w0 (D.lp (D.id s)).fr.2 e h (D.inv s).1 (D.inv s).2.1 ->
 bK w0 (SV ct) (D.lp (D.id s)).fr (D.lp (D.id s)).body e h (D.inv s).2.2 fun x e h g=>sat (bK w0 (SV ct)) ((D.lp (D.id s)).k x e h g) (QN w0 D step r n):=by
 intro n
 induction n using Nat.strongRecOn with
 | ind n ih =>
   intro s e h hn hsub
   have key:∀ (p:Nat) (s':S),p<=n->EvN step p s' r->∃ m,p=m+1/\sat (bK w0 (SV ct)) (rdS ct un D s') (QN w0 D step r m):=by
    intro p s' hp he
    match p,hp,he with
    | 0,_,he=>exact he.elim
    | m+1,hp,he =>
      exact ⟨m,rfl,up (w0:=w0) (Nx:=EvN step m) (fun v hv=>hv) (fun s e h h1 h2=>⟨s,rfl,rfl,h2,h1⟩) (fun s e h h1 h2=>ih m (by omega) s e h h1 h2) _ _ (hs s') (hq s') he⟩
   generalize hj:D.id s=j at *
   match hb:(D.lp j).body with
   | .s body =>
     refine JA (Ll (un:=un) hd 0 {p:Nat × S // p.1<=n/\EvN step p.1 p.2 r/\D.id p.2=j} (fun p=>((D.inv p.1.2).1,(D.inv p.1.2).2.1)) (fun p=>p.1.1) ⟨⟨(n,s),Nat.le_refl _,hn,hj⟩,hsub⟩ ?_)
     rintro ⟨⟨p,s'⟩,hp,he,hj'⟩
     obtain ⟨m,hpm,hk⟩:=key p s' hp he
     simp only at hj' hp hpm
     unfold rdS rdT at hk
     rw [hj',hb] at hk
     simp only [xp] at hk
     refine gD (em _ _) (fun a ha=>?_) _ hk
     obtain ⟨x,e',h'⟩:=a
     cases x with
     | normal =>
       obtain ⟨s2,g1,g2,g3,g4⟩:=ha
       rw [g1] at g3
       exact ⟨⟨(m,s2),by omega,g4,g1⟩,g3,by simp only; omega⟩
     | exit i=>exact gD (em _ _) (pq (by omega)) _ ha
     | ret=>exact gD (em _ _) (pq (by omega)) _ ha
   | .i body rd =>
     refine Jq (un:=un) hd 0 0 {p:Nat × S // p.1<=n/\EvN step p.1 p.2 r/\D.id p.2=j} (fun p=>D.inv p.1.2) (fun p=>p.1.1) ⟨⟨(n,s),Nat.le_refl _,hn,hj⟩,rfl,hsub⟩ ?_
     rintro ⟨⟨p,s'⟩,hp,he,hj'⟩
     obtain ⟨m,hpm,hk⟩:=key p s' hp he
     simp only at hj' hp hpm
     unfold rdS rdT at hk
     rw [hj',hb] at hk
     simp only [xp] at hk
     refine gD (em _ _) (fun a ha=>?_) _ hk
     obtain ⟨x,e',h',g'⟩:=a
     cases x with
     | normal =>
       obtain ⟨s2,g1,g2,g3,g4⟩:=ha
       rw [g1] at g3
       exact ⟨⟨(m,s2),by omega,g4,g1⟩,g2.symm,g3,by simp only; omega⟩
     | exit i=>exact gD (em _ _) (pq (by omega)) _ ha
     | ret=>exact gD (em _ _) (pq (by omega)) _ ha
def aZ (J:Type) (ct:aX) (un:Unr) (sf:aE) (ds:List V):T (bF J):=kF (jb ct LV) (ju ct) un LV sf ds [] fun v _=>.ret (.res v)
def lA (r:V):bF J->Prop
 | .res v=>toA v=toA r
 | .head ..=>True
theorem Iy {w0:World} {D:LD J S} {step:S->RT S} {r:V} {n:Nat}:∀ a,QN w0 D step r n a->lA r a
 | .res v,h=>h
 | .head ..,_=>trivial
theorem Ib {ct:aX} {un:Unr} {w0:World} (hd:ks ct=true) {t:T (bF J)} (D:LD J S) (step:S->RT S) (m:RT S) {r:V} (h1:cS D t m=toF D m) (h2:bn t m=t)
 (hs:∀ s,cS D (rdS ct un D s) (step s)=toF D (step s)) (hq:∀ s,bn (rdS ct un D s) (step s)=rdS ct un D s) (hr:evR (Ev step) m r):sat (bK w0 (SV ct)) t (lA r) :=
 up (w0:=w0) (Nx:=Ev step) (fun v hv=>hv) (fun _ _ _ _ _=>trivial) (fun s e h ⟨n,hn⟩ hsub=>em _ _ _ _ _ _ _ _ _ (fun x e h g hk=>gD (em _ _) Iy _ hk) (OC hd hs hq n s e h hn hsub)) _ _ h1 h2 hr
theorem uN {ts:List Ty} (h:ts.all be=true) (n:Nat) (f:FnV):iL n (fun i=>okE (aY ts) (elV ts f i))=true:=iQ fun i _=>fT h _
def lpT:T (bF J)->Lp J
 | .loop fr b _ _ _ k=>⟨fr,b,k⟩
 | _=>⟨(0,0),.s .skip,fun _ _ _ _=>.fail 0⟩
def noD:LD J Empty:=⟨fun s=>(Empty.elim s),fun _=>⟨(0,0),.s .skip,fun _ _ _ _=>.fail 0⟩,fun s=>(Empty.elim s)⟩
def noE:Empty->V->Prop:=fun s=>Empty.elim s
theorem Gk {ct:aX} {w0:World} (hd:ks ct=true) {t:T (bF J)} (m:RT Empty) {r:V} (h1:cS noD t m=toF noD m) (h2:bn t m=t) (hr:evR noE m r):sat (bK w0 (SV ct)) t (lA r) :=
 up (w0:=w0) (Nx:=noE) (fun v hv=>hv) (fun s=>(Empty.elim s)) (fun s=>(Empty.elim s)) _ _ h1 h2 hr
def Fit (D:LD J S) (t:T (bF J)) (m:RT S):Prop:=cS D t m=toF D m/\bn t m=t
def ep (ct:aX) (un:Unr) (D:LD J S) (t:T (bF J)) (m:RT S) (st:S->RT S):Prop:=Fit D t m/\∀ s,Fit D (rdS ct un D s) (st s)
def Run (ct:aX) (t:T (bF J)) (r:V):Prop:=ks ct=true->∀ w0,sat (bK w0 (SV ct)) t (lA r)
theorem rf0 {ct:aX} {t:T (bF J)} {m:RT Empty} {r:V} (h:Fit noD t m) (hr:evR noE m r):Run ct t r:=fun hd _=>Gk hd m h.1 h.2 hr
theorem rfs {ct:aX} {un:Unr} {D:LD J S} {t:T (bF J)} {m:RT S} {st:S->RT S} {r:V} (h:ep ct un D t m st) (hr:evR (Ev st) m r):Run ct t r:=fun hd _=>Ib hd D st m h.1.1 h.1.2 (fun s=>(h.2 s).1) (fun s=>(h.2 s).2) hr
inductive Cx where
 | i (n:Int)
 | n (n:Nat)
 | b (b:Bool)
 | s (s:ByteArray)
 | f (f:FnV)
def cxi:List Cx->Nat->Int
 | .i n::_,0=>n
 | _::l,k+1=>cxi l k
 | _,_=>0
def cxn:List Cx->Nat->Nat
 | .n n::_,0=>n
 | _::l,k+1=>cxn l k
 | _,_=>0
def cxf:List Cx->Nat->Nat->List V
 | .f n::_,0=>n
 | _::l,k+1=>cxf l k
 | _,_=>fun _=>[]
abbrev JJ:=Nat × List Cx
def tA (J:Type) (e:Nat) (ty:TypeId) (ct:aX) (un:Unr) (sf:aE) (ds:List V):T (bF J):=kF (jb ct LV) (ju ct) un LV sf ds [] fun v h=>.ob (Bb h v) (.ret (.res (Bt e ty h v)))
theorem y6 {P:Program} {eqs:List TypeId} {its:List fm} {ct:aX} {f:FuncId} {fn:Func} {sf:aE} {un:Unr} {ts:List Ty} {pre:List V->Prop} {r:List V->V} (hT:aW P eqs its ct) (hE:∀ t ∈ eqs,cm P t) (hI:jK P eqs its) (hf:P.funcs[f]? = some fn)
 (hn : (fn.name == "runtime.NumGoroutine") = false) (hc : dO P eqs its fn = some sf) (hd : dZ sf.ntmps sf.body = true) (ho : er ts = true)
 (h:∀ w0 ds,pre (ak ts ds)->sat (bK w0 (SV ct)) (aZ J ct un sf (ak ts ds)) (lA (r (ak ts ds)))):(vP (mkC ts pre r)).Ok P f :=
 Gi (α:=bF J) (K0:=fun v=>.ret (.res v)) (Q0:=lA) (fun _ _ _ h=>h) hT hE hI hf hn hc hd ho h
theorem FN {P:Program} {eqs:List TypeId} {its:List fm} {ct:aX} {f:FuncId} {fn:Func} {sf:aE} {un:Unr} {e:Nat} {ty:TypeId} {ts:List Ty} {pre:List V->Prop} {r:List V->V} (hT:aW P eqs its ct) (hE:∀ t ∈ eqs,cm P t) (hI:jK P eqs its) (hf:P.funcs[f]? = some fn)
 (hn : (fn.name == "runtime.NumGoroutine") = false) (hc : dO P eqs its fn = some sf) (hd : dZ sf.ntmps sf.body = true) (ho : er ts = true)
 (h:∀ w0 ds,pre (ak ts ds)->sat (bK w0 (SV ct)) (tA J e ty ct un sf (ak ts ds)) (lA (r (ak ts ds)))):(vL e ty (mkC ts pre r)).Ok P f :=
 EH (α:=bF J) (K0:=fun v h=>.ob (Bb h v) (.ret (.res (Bt e ty h v)))) (Q0:=lA) (fun _ _ _ _ h=>h) hT hE hI hf hn hc hd ho h
end
def Df:Ty->Bool
 | .int _ | .bool | .str=>true
 | _=>false
theorem to:∀ {ts:List Ty},ts.all Df=true->ts.all be=true
 | [],_=>rfl
 | t::ts,h=>by
   simp only [List.all_cons,Bool.and_eq_true] at h ⊢
   exact ⟨by cases t <;> first | rfl | (simp [Df] at h),to h.2⟩
theorem wO:∀ {ts:List Ty} (vs:List V),ts.all Df=true->(ck (ak ts vs)).all aQ=true
 | [],_,_=>by simp [ak,ck]
 | t::ts,vs,h=>by
   simp only [List.all_cons,Bool.and_eq_true] at h
   simp only [ak,ck,List.all_cons,Bool.and_eq_true]
   exact ⟨by cases t <;> first | (simp [Df] at h; done) | simp [bD,toA,aQ],wO _ h.2⟩
theorem pp {ts:List Ty} {e n:Nat} {f:Nat->List V} {rest:List V} (he:aY ts=e) (hs:ts.all Df=true) (hr:(ck rest).all aQ=true) (hn:n<=9223372036854775807):okL e (.tup (.sl n (elV ts f)::rest)) :=
 ⟨n,_,rfl,hn,fun i _=>⟨by rw [← he]; exact fT (to hs) _,wO _ hs⟩,hr⟩
theorem eR {n m:Nat} {f g:Nat->List V} (h:n=m) (hf:∀ i,i < n->ck (f i)=ck (g i)):toA (.sl n f)=toA (.sl m g):=by
 subst h
 simp only [toA,ab.fn.injEq,true_and]
 exact List.map_congr_left fun i hi=>by rw [hf i (List.mem_range.1 hi)]
theorem gT {v w:V} {vs ws:List V} (h:toA v=toA w) (hs:ck vs=ck ws):toA (.tup (v::vs))=toA (.tup (w::ws)):=by
 simp only [toA,ck,h,hs]
end Go.Dx
namespace Go.Sx
def lQ (P:Program) (t:TypeId):Bool:=match P.underlying t with
 | some (.int _)=>true
 | _=>false
def kg (P:Program):List Field->Nat->Bool
 | [],_=>true
 | f :: fs, i => decide (f.name ≠ "_") && Nat.beq f.offset i && lQ P f.type && kg P fs (i + 1)
section
variable {P:Program} {m:ao}
theorem p9 {t:TypeId} (h:lQ P t=true):∃ k,P.underlying t=some (.int k):=by
 unfold lQ at h
 split at h
 ·rename_i k hk; exact ⟨k,hk⟩
 ·cases h
theorem fK {t:TypeId} {k:IntKind} (ht:P.underlying t=some (.int k)) {us:Array Value} {i:Nat} {v:Value} (hv:us[i]? = some v) (w:World):(part t us i).run P w=.ok v w:=by
 unfold part
 have hi:(isAgg t).run P w=.ok false w:=by
  unfold isAgg
  rw [aa (am ht w)]; rfl
 rw [aa hi]
 simp only [Bool.false_eq_true,if_false,hv]
 rfl
theorem kL {d:Nat}:∀ (fs:List Field) (i:Nat) (xs ys:List ab) (us vs:Array Value) (b:Bool) (w:World),kg P fs i=true->fs.length=xs.length->af m xs (us.toList.drop i)->af m ys (vs.toList.drop i)->bX xs ys=some b ->
 (Op.eqFields (d+1) us vs fs).run P w=.ok b w
 | [],i,xs,ys,us,vs,b,w,_,hl,_,_,hb=>by
   cases xs with
   | cons _ _=>simp at hl
   | nil=>cases ys with
     | nil=>simp [bX] at hb; subst hb; rfl
     | cons _ _=>simp [bX] at hb
 | f :: fs,i,xs,ys,us,vs,b,w,hf,hl,hx,hy,hb=>by
   simp only [kg,Bool.and_eq_true,decide_eq_true_eq] at hf
   obtain ⟨⟨⟨h1,h2⟩,h3⟩,h4⟩:=hf
   obtain ⟨k,hk⟩:=p9 h3
   have ho:=Nat.eq_of_beq_eq_true h2
   cases xs with
   | nil=>simp at hl
   | cons x xs=>cases ys with
     | nil=>cases x <;> simp [bX] at hb
     | cons y ys =>
       cases x <;> try (simp [bX] at hb; done)
       rename_i ka a
       cases y <;> try (simp [bX] at hb; done)
       rename_i kb c
       simp only [bX] at hb
       split at hb
       ·rename_i hkk
        subst hkk
        simp only [Option.map_eq_some_iff] at hb
        obtain ⟨b',hb',rfl⟩:=hb
        simp only [af] at hx hy
        obtain ⟨u,us',hu,hur,hus⟩:=hx
        obtain ⟨v,vs',hv,hvr,hvs⟩:=hy
        simp only [vrel] at hur hvr
        subst hur; subst hvr
        have gu:us[i]? = some (.int ka a):=by
         have:=congrArg (·[0]?) hu
         simpa using this
        have gv:vs[i]? = some (.int ka c):=by
         have:=congrArg (·[0]?) hv
         simpa using this
        have du:us.toList.drop (i+1)=us':=by rw [← List.drop_drop,hu]; rfl
        have dv:vs.toList.drop (i+1)=vs':=by rw [← List.drop_drop,hv]; rfl
        simp only [Op.eqFields]
        rw [if_pos h1,ho,aa (fK hk gu w),aa (fK hk gv w),aa (run_equalIn_int w d f.type ka k a c hk)]
        cases hac:(a == c) with
        | false=>simp only [Bool.not_false,if_true,Bool.false_and]; rfl
        | true =>
          simp only [Bool.not_true,Bool.false_eq_true,if_false,Bool.true_and]
          exact kL fs (i+1) xs ys us vs b' w h4 (by simpa using hl) (by rw [du]; exact hus) (by rw [dv]; exact hvs) hb'
       ·cases hb
theorem eN {t:TypeId} (ht:P.underlying t=some (.struct (P.fieldsOf t))) (hp:P.stoodInHeld t=false) (hg:P.eqGuardType P.depth t=false) (hn:(P.info? t).map (·.size)=some (P.fieldsOf t).toList.length) (hf:kg P (P.fieldsOf t).toList 0=true):cm P t:=by
 refine ⟨hg,fun n hn' xs ys us vs m b w hl hx hy hb=>?_⟩
 rw [hn] at hn'; cases hn'
 unfold Op.equal
 rw [show Op.maxDepth=9998+1+1 from rfl,run_equalIn_struct w _ t us vs ht hp]
 exact kL (d:=9998) _ 0 xs ys us vs b w hf hl.symm (by simpa using hx) (by simpa using hy) hb
theorem mK {d:Nat} {e:TypeId} (he:lQ P e=true) (h1:P.cellsOf e=1):∀ (n i:Nat) (xs ys:List ab) (us vs:Array Value) (b:Bool) (w:World),n=xs.length->af m xs (us.toList.drop i)->af m ys (vs.toList.drop i)->bX xs ys=some b ->
 (Op.eqItems (d+1) e (P.cellsOf e) us vs (List.range' i n)).run P w=.ok b w
 | 0, i,xs,ys,us,vs,b,w,hl,_,_,hb=>by
   cases xs with
   | cons _ _=>simp at hl
   | nil=>cases ys with
     | nil=>simp [bX] at hb; subst hb; rfl
     | cons _ _=>simp [bX] at hb
 | n + 1, i,xs,ys,us,vs,b,w,hl,hx,hy,hb=>by
   obtain ⟨k,hk⟩:=p9 he
   cases xs with
   | nil=>simp at hl
   | cons x xs=>cases ys with
     | nil=>cases x <;> simp [bX] at hb
     | cons y ys =>
       cases x <;> try (simp [bX] at hb; done)
       rename_i ka a
       cases y <;> try (simp [bX] at hb; done)
       rename_i kb c
       simp only [bX] at hb
       split at hb
       ·rename_i hkk
        subst hkk
        simp only [Option.map_eq_some_iff] at hb
        obtain ⟨b',hb',rfl⟩:=hb
        simp only [af] at hx hy
        obtain ⟨u,us',hu,hur,hus⟩:=hx
        obtain ⟨v,vs',hv,hvr,hvs⟩:=hy
        simp only [vrel] at hur hvr
        subst hur; subst hvr
        have gu:us[i]? = some (.int ka a):=by
         have:=congrArg (·[0]?) hu
         simpa using this
        have gv:vs[i]? = some (.int ka c):=by
         have:=congrArg (·[0]?) hv
         simpa using this
        have du:us.toList.drop (i+1)=us':=by rw [← List.drop_drop,hu]; rfl
        have dv:vs.toList.drop (i+1)=vs':=by rw [← List.drop_drop,hv]; rfl
        rw [List.range'_succ]
        simp only [Op.eqItems,h1,Nat.mul_one]
        rw [aa (fK hk gu w),aa (fK hk gv w),aa (run_equalIn_int w d e ka k a c hk)]
        cases hac:(a == c) with
        | false=>simp only [Bool.not_false,if_true,Bool.false_and]; rfl
        | true =>
          simp only [Bool.not_true,Bool.false_eq_true,if_false,Bool.true_and]
          have:=mK (d:=d) he h1 n (i+1) xs ys us vs b' w (by simpa using hl) (by rw [du]; exact hus) (by rw [dv]; exact hvs) hb'
          rw [h1] at this; exact this
       ·cases hb
theorem u3 {t:TypeId} (e:TypeId) (n:Nat) (ht:P.underlying t=some (.array n e)) (hi:(P.info? e).isSome=true) (hg:P.eqGuardType P.depth t=false) (hn:(P.info? t).map (·.size)=some n) (h1:P.cellsOf e=1) (hf:lQ P e=true):cm P t:=by
 obtain ⟨ie,hi⟩:=Option.isSome_iff_exists.1 hi
 refine ⟨hg,fun n' hn' xs ys us vs m b w hl hx hy hb=>?_⟩
 rw [hn] at hn'; cases hn'
 unfold Op.equal
 rw [show Op.maxDepth=9998+1+1 from rfl,run_equalIn_array w _ us vs ht hi,List.range_eq_range']
 exact mK (d:=9998) hf h1 n 0 xs ys us vs b w hl.symm (by simpa using hx) (by simpa using hy) hb
end
end Go.Sx
