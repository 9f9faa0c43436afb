/- Part 3 of a proof. No conditions. -/
import Derived.Test.YtkdokmjehblpoaaGreatDoorRk2
import Derived.KernelRfl
import Derived.OpenShut
import Derived.ChangeArms
import Derived.Below
import Derived.ChangeSame
import Derived.Carry
import Derived.Laws.StructEq
import Derived.ChangeKeysEq
set_option maxRecDepth 100000
set_option linter.unusedVariables false
set_option linter.unusedSimpArgs false
namespace Go.Dx
open Go.Sx
def fM (N : Nat) : List jP -> Bool
 | [] => true
 | .op o :: l => bf N [o] && fM N l
 | .yld _ d _ :: l => (match d with | some d => Nat.blt d N | none => true) && fM N l
def kH (N : Nat) : dG -> Bool
 | .reg ops => fM N ops
 | .draw ds => l6 N ds
 | .seq a b => kH N a && kH N b
 | .cond _ a b => kH N a && kH N b
 | .block _ b => kH N b
 | .loop b => kH N b
 | .scope b => kH N b
 | _ => true
def oY : List e9 -> Bool
 | [] => true
 | it :: l => kH it.ntmps it.body && oY l
def mE (N : Nat) : List Nat -> Bool
 | [] => true
 | p :: l => Nat.blt p N && mE N l
def nf (N : Nat) : OT -> Bool
 | .done => true
 | .op o r => bf N [o] && nf N r
 | .alt a b => nf N a && nf N b
def dt (N : Nat) : cK -> Bool
 | .reg ops => bf N ops
 | .draw ds => l6 N ds
 | .allo t => nf N t
 | .seq a b => dt N a && dt N b
 | .cond _ a b => dt N a && dt N b
 | .block _ b => dt N b
 | .loop b => dt N b
 | .scope b => dt N b
 | .range _ ps a b its => mE N ps && (dt N a && (dt N b && oY its))
 | _ => true
def NuN (nb : Nat) (ν ν' : Nu) : Prop := (∀ k x, k < nb -> ν k = some x -> ν' k = some x) /\ zle ν.z ν'.z
theorem NuN.refl (nb : Nat) (ν : Nu) : NuN nb ν ν := ⟨fun _ _ _ h => h, gV _⟩
theorem NuN.trans {nb : Nat} {a b c : Nu} (h : NuN nb a b) (k : NuN nb b c) : NuN nb a c := ⟨fun i x hi hx => k.1 i x hi (h.1 i x hi hx), kK h.2 k.2⟩
theorem NuN.of {ν ν' : Nu} (h : ν.sub ν') (nb : Nat) : NuN nb ν ν' := ⟨fun k x _ hx => h.1 k x hx, h.2⟩
theorem NuN.sub {ν ν' : Nu} {nb : Nat} (h : NuN nb ν ν') (hd : ∀ k, nb <= k -> ν k = none) : ν.sub ν' := ⟨fun k x hx => (by
 rcases Nat.lt_or_ge k nb with hk | hk
 ·exact h.1 k x hk hx
 ·rw [hd k hk] at hx; exact absurd hx (by simp)), h.2⟩
def Ctx (w0 : World) (nb N0 : Nat) (e0 : Env) (sl0 : List ab) (ν : Nu) : Prop := ∃ ν0 : Nu, (∀ k, nb <= k -> ν0 k = none) /\ slR w0 ν0 N0 e0 sl0 /\ ν0.sub ν
theorem Ctx.step {w0 : World} {nb N0 : Nat} {e0 : Env} {sl0 : List ab} {ν ν' : Nu} (h : Ctx w0 nb N0 e0 sl0 ν) (hn : NuN nb ν ν') : Ctx w0 nb N0 e0 sl0 ν' := by
 obtain ⟨ν0, h1, h2, h3⟩ := h
 exact ⟨ν0, h1, h2, NuN.sub ⟨fun k x hk hx => hn.1 k x hk (h3.1 k x hx), kK h3.2 hn.2⟩ h1⟩
theorem Ctx.get {w0 : World} {nb N0 : Nat} {e0 : Env} {sl0 : List ab} {ν : Nu} (h : Ctx w0 nb N0 e0 sl0 ν) : slR w0 ν N0 e0 sl0 := let ⟨_, _, h2, h3⟩ := h; h2.mono h3
def YA (w0 : World) (S : FuncId -> aP) (ps : List Nat) (asg body : cK) (sl0 : List ab) : YH := fun xs lh K => xs.length = ps.length /\ aR w0 S lh.length asg (ft sl0 ps xs) lh (lr (fun sl lh' => aR w0 S lh.length body sl lh' fun x _ lh => K x lh) fun _ _ _ => False)
abbrev qk := Nat -> FuncId -> aP
def bu (w0 : World) (S : qk) : cg := fun fr b e h g Post => match b with
 | .s body => ∀ (N nbS : Nat) (ν : Nu) (nV nS : Nat) (sl : List ab) (lh : List ac) (QA : Ex -> List ab -> List ac -> Prop), dt N body = true -> slR w0 ν N e sl -> HR w0 ν nV nS h lh ->
   (∀ ex e' h' ν' sl' lh' nV' nS', NuN fr.2 ν ν' -> slR w0 ν' N e' sl' -> HR w0 ν' nV' nS' h' lh' -> Post ex e' h' none -> QA ex sl' lh') -> aR w0 (S fr.1) nbS (.loop body) sl lh QA
 | .i body rd => ∀ (N N0 : Nat) (ν : Nu) (nV nS : Nat) (sl sl0 : List ab) (lh : List ac) (QA : IQ), kH N body = true -> mE N0 rd.ps = true -> dt N0 rd.asg = true -> dt N0 rd.body = true -> slR w0 ν N e sl -> Ctx w0 fr.2 N0 rd.e0 sl0 ν -> HR w0 ν nV nS h lh ->
   (∀ ex e' h' g' ν' sl' lh' nV' nS', NuN fr.2 ν ν' -> slR w0 ν' N e' sl' -> HR w0 ν' nV' nS' h' lh' -> Post ex e' h' g' -> QA ex sl' lh' g') -> eU w0 (S fr.1) rd.l (YA w0 (S fr.1) rd.ps rd.asg rd.body sl0) (.loop body) sl lh g QA
section
variable {w0 : World} {S : qk} {α : Type} {Q : α -> Prop} {cf : CF α} {cp : CP α}
theorem kc {ν : Nu} {N : Nat} : ∀ (ps : List Nat) (e : Env) (sl : List ab) (vs : List V) (az : List ab), mE N ps = true -> slR w0 ν N e sl -> vrs w0 ν.z ν vs az -> vs.length = ps.length -> slR w0 ν N (jb e ps vs) (ft sl ps az)
 | [], e, sl, vs, az, _, h, _, _ => by cases vs <;> simpa [jb, ft] using h
 | p :: ps, e, sl, [], az, _, _, _, hl => by cases hl
 | p :: ps, e, sl, v :: vs, az, hp, h, hv, hl => by
   simp only [vrs] at hv
   obtain ⟨x, xs, rfl, h1, h2⟩ := hv
   simp only [mE, Bool.and_eq_true] at hp
   simp only [jb, ft]
   exact kc ps _ _ vs xs hp.2 (h.set (by simpa [Nat.blt_eq] using hp.1) h1) h2 (by simpa using hl)
def yZ (w0 : World) (LP : cg) (Q : α -> Prop) (nb N0 : Nat) (e0 : Env) (sl0 : List ab) (Y : YV α) (YS : YH) : Prop :=
 ∀ (vs : List V) (h : List O) (ν : Nu) (nV nS : Nat) (args : List ab) (lh : List ac) (K : Ex -> List O -> T α) (KA : Ex -> List ac -> Prop), Ctx w0 nb N0 e0 sl0 ν -> HR w0 ν nV nS h lh -> vrs w0 ν.z ν vs args -> sat LP (Y vs h K) Q ->
  (∀ x h' ν' nV' nS' lh', ν.sub ν' -> HR w0 ν' nV' nS' h' lh' -> sat LP (K x h') Q -> KA x lh') -> YS args lh KA
section it
variable {LP : cg} {nb N N0 lv : Nat} {rd : RD} {Y : YV α} {YS : YH} {sl0 : List ab} {un : Unr}
theorem e8 {S1 : FuncId -> aP} {l : Nat} (hcf : lz w0 S1 LP false cf) (hY : yZ w0 LP Q nb N0 rd.e0 sl0 Y YS) : ∀ (ops : List jP) (e : Env) (h : List O) (g : Option Ex) (ν : Nu) (nV nS : Nat) (sl : List ab) (lh : List ac) (K : Env -> List O -> Option Ex -> T α) (KA : List ab -> List ac -> Option Ex -> Prop), fM N ops = true ->
 slR w0 ν N e sl -> Ctx w0 nb N0 rd.e0 sl0 ν -> HR w0 ν nV nS h lh -> sat LP (fk cf l Y ops e h g K) Q -> (∀ e' h' g' ν' sl' lh' nV' nS', NuN nb ν ν' -> slR w0 ν' N e' sl' -> HR w0 ν' nV' nS' h' lh' -> sat LP (K e' h' g') Q -> KA sl' lh' g') -> ca w0 S1 l YS ops sl lh g KA
 | [], e, h, g, ν, nV, nS, sl, lh, K, KA, _, h1, _, h2, h3, h4 => h4 _ _ _ _ _ _ _ _ (NuN.refl _ _) h1 h2 h3
 | .op o :: rest, e, h, g, ν, nV, nS, sl, lh, K, KA, hd, h1, hx, h2, h3, h4 => by
   simp only [fM, Bool.and_eq_true] at hd
   simp only [fk] at h3
   simp only [ca]
   exact dW hcf [o] e h ν sl lh _ _ hd.1 h1 h2 h3 fun e' h' ν' sl' lh' k0 k1 k2 k3 => e8 hcf hY rest e' h' g ν' nV nS sl' lh' K KA hd.2 k1 (hx.step (NuN.of k0 _)) k2 k3 fun e2 h2 g2 ν2 sl2 lh2 nV2 nS2 q0 => h4 e2 h2 g2 ν2 sl2 lh2 nV2 nS2 ((NuN.of k0 _).trans q0)
 | .yld t d xs :: rest, e, h, g, ν, nV, nS, sl, lh, K, KA, hd, h1, hx, h2, h3, h4 => by
   simp only [fM, Bool.and_eq_true] at hd
   simp only [fk] at h3
   split at h3
   ·rename_i l' hy
    simp only [sat] at h3
    obtain ⟨he, h3⟩ := h3
    simp only [List.cons.injEq, V.yl.injEq, and_true] at he
    subst he
    obtain ⟨us, k1, k2⟩ := fT h1 rfl h3
    have h0 := h1.at' t
    rw [hy] at h0
    simp only [vr] at h0
    simp only [ca]
    refine ⟨trivial, h0, ?_⟩
    have hdd : ∀ i, d = some i -> i < N := fun i hi => by subst hi; simpa [Nat.blt_eq] using hd.1
    refine hY us h ν nV nS _ lh _ _ hx h2 k1 k2 fun x h' ν' nV' nS' lh' g1 g2 g3 => ?_
    have hp : ∀ b, slR w0 ν' N (cO e d (.kb b)) (co sl d (.bool b)) := fun b => (h1.mono g1).put d hdd (by simp only [vr])
    cases x with
    | normal => exact e8 hcf hY rest _ h' none ν' nV' nS' _ lh' K KA hd.2 (hp true) (hx.step (NuN.of g1 _)) g2 g3 fun e2 h2 g2 ν2 sl2 lh2 nV2 nS2 q0 => h4 e2 h2 g2 ν2 sl2 lh2 nV2 nS2 ((NuN.of g1 _).trans q0)
    | exit i => exact e8 hcf hY rest _ h' _ ν' nV' nS' _ lh' K KA hd.2 (hp false) (hx.step (NuN.of g1 _)) g2 g3 fun e2 h2 g2 ν2 sl2 lh2 nV2 nS2 q0 => h4 e2 h2 g2 ν2 sl2 lh2 nV2 nS2 ((NuN.of g1 _).trans q0)
    | ret => exact e8 hcf hY rest _ h' _ ν' nV' nS' _ lh' K KA hd.2 (hp false) (hx.step (NuN.of g1 _)) g2 g3 fun e2 h2 g2 ν2 sl2 lh2 nV2 nS2 q0 => h4 e2 h2 g2 ν2 sl2 lh2 nV2 nS2 ((NuN.of g1 _).trans q0)
   ·exact h3.elim
structure IUn (w0 : World) (LP : cg) (Q : α -> Prop) (nb N N0 : Nat) (e0 : Env) (sl0 : List ab) (ev : Env -> List O -> Option Ex -> (Ex -> Env -> List O -> Option Ex -> T α) -> T α) (K : Ex -> Env -> List O -> Option Ex -> T α) (ν0 : Nu) where
 n : Nat
 e : Env
 h : List O
 g : Option Ex
 ν : Nu
 nV : Nat
 nS : Nat
 sl : List ab
 lh : List ac
 hs : slR w0 ν N e sl
 hx : Ctx w0 nb N0 e0 sl0 ν
 hh : HR w0 ν nV nS h lh
 hn : NuN nb ν0 ν
 st : sat LP (zZ ev n e h g K) Q
theorem tG (hcf : lz w0 (S lv) (bu w0 S) false cf) (hcp : mW w0 (S lv) (bu w0 S) cp) (hp0 : mE N0 rd.ps = true) (hp1 : dt N0 rd.asg = true) (hp2 : dt N0 rd.body = true) (hYS : YS = YA w0 (S lv) rd.ps rd.asg rd.body sl0) (hY : yZ w0 (bu w0 S) Q nb N0 rd.e0 sl0 Y YS) : ∀ (c : dG) (bi : Nat) (e : Env) (h : List O) (g : Option Ex) (ν : Nu) (nV nS : Nat) (sl : List ab) (lh : List ac) (K : Ex -> Env -> List O -> Option Ex -> T α) (KA : IQ),
 kH N c = true -> slR w0 ν N e sl -> Ctx w0 nb N0 rd.e0 sl0 ν -> HR w0 ν nV nS h lh -> sat (bu w0 S) (gi cf cp un (lv, nb) rd Y bi c e h g K) Q ->
 (∀ x e' h' g' ν' sl' lh' nV' nS', NuN nb ν ν' -> slR w0 ν' N e' sl' -> HR w0 ν' nV' nS' h' lh' -> sat (bu w0 S) (K x e' h' g') Q -> KA x sl' lh' g') -> eU w0 (S lv) rd.l YS c sl lh g KA := by
 intro c
 induction c with
 | skip => intro bi e h g ν nV nS sl lh K KA _ h1 _ h2 h3 h4; exact h4 .normal _ _ _ _ _ _ _ _ (NuN.refl _ _) h1 h2 h3
 | reg ops =>
   intro bi e h g ν nV nS sl lh K KA hd h1 hx h2 h3 h4
   exact e8 hcf hY ops e h g ν nV nS sl lh _ _ hd h1 hx h2 h3 fun e' h' g' ν' sl' lh' nV' nS' k0 k1 k2 k3 => h4 .normal _ _ _ _ _ _ _ _ k0 k1 k2 k3
 | draw ds =>
   intro bi e h g ν nV nS sl lh K KA hd h1 hx h2 h3 h4
   exact kG hcp hd h1 h2 h3 fun e' h' ν' sl' lh' _ _ k0 g1 g2 g3 => h4 .normal _ _ _ _ _ _ _ _ (NuN.of k0 _) g1 g2 g3
 | seq a b iha ihb =>
   intro bi e h g ν nV nS sl lh K KA hd h1 hx h2 h3 h4
   simp only [kH, Bool.and_eq_true] at hd
   refine iha bi e h g ν nV nS sl lh _ _ hd.1 h1 hx h2 h3 fun x e' h' g' ν' sl' lh' nV' nS' g0 g1 g2 g3 => ?_
   cases x with
   | normal => exact ihb bi e' h' g' ν' nV' nS' sl' lh' K KA hd.2 g1 (hx.step g0) g2 g3 fun x e2 h2 g2 ν2 sl2 lh2 nV2 nS2 q0 => h4 x e2 h2 g2 ν2 sl2 lh2 nV2 nS2 (g0.trans q0)
   | exit i => exact h4 _ _ _ _ _ _ _ _ _ g0 g1 g2 g3
   | ret => exact h4 _ _ _ _ _ _ _ _ _ g0 g1 g2 g3
 | cond c a b iha ihb =>
   intro bi e h g ν nV nS sl lh K KA hd h1 hx h2 h3 h4
   simp only [kH, Bool.and_eq_true] at hd
   simp only [gi] at h3
   have ha := h1.arg c
   simp only [eU]
   split at h3
   ·rename_i hc
    rw [hc] at ha; simp only [vr] at ha; rw [ha]
    exact ⟨fun _ => iha bi e h g ν nV nS sl lh K KA hd.1 h1 hx h2 h3 h4, (fun he => by cases he)⟩
   ·rename_i hc
    rw [hc] at ha; simp only [vr] at ha; rw [ha]
    exact ⟨(fun he => by cases he), fun _ => ihb bi e h g ν nV nS sl lh K KA hd.2 h1 hx h2 h3 h4⟩
   ·rename_i t hc
    rw [hc] at ha; simp only [vr] at ha; rw [ha]
    split at h3
    ·rename_i s
     simp only [sat] at h3
     simp only [arg] at ha
     exact ⟨fun et => iha bi _ h g ν nV nS sl lh K KA hd.1 (h1.know (by simp only [vr]; rw [ha, et])) hx h2 (h3.1 et) h4, fun et => ihb bi _ h g ν nV nS sl lh K KA hd.2 (h1.know (by simp only [vr]; rw [ha, et])) hx h2 (h3.2 et) h4⟩
    ·simp only [sat] at h3
     exact ⟨fun et => iha bi _ h g ν nV nS sl lh K KA hd.1 h1 hx h2 (h3.1 et) h4, fun et => ihb bi _ h g ν nV nS sl lh K KA hd.2 h1 hx h2 (h3.2 et) h4⟩
   ·exact h3.elim
 | block id b ih =>
   intro bi e h g ν nV nS sl lh K KA hd h1 hx h2 h3 h4
   refine ih id e h g ν nV nS sl lh _ _ hd h1 hx h2 h3 fun x e' h' g' ν' sl' lh' nV' nS' g0 g1 g2 g3 => ?_
   cases x with
   | normal => exact h4 _ _ _ _ _ _ _ _ _ g0 g1 g2 g3
   | ret => exact h4 _ _ _ _ _ _ _ _ _ g0 g1 g2 g3
   | exit i =>
     simp only [nq]
     by_cases hi : i = id
     ·subst hi; rw [if_pos rfl]; simp only [Nat.beq_refl, cond] at g3; exact h4 _ _ _ _ _ _ _ _ _ g0 g1 g2 g3
     ·rw [if_neg hi]
      have : Nat.beq i id = false := by cases hb : Nat.beq i id with | false => rfl | true => exact (hi (Nat.eq_of_beq_eq_true hb)).elim
      simp only [this, cond] at g3; exact h4 _ _ _ _ _ _ _ _ _ g0 g1 g2 g3
 | loop b ih =>
   intro bi e h g ν nV nS sl lh K KA hd h1 hx h2 h3 h4
   simp only [gi] at h3
   split at h3
   ·subst hYS
    exact h3 N N0 ν nV nS sl sl0 lh KA hd hp0 hp1 hp2 h1 hx h2 h4
   ·rename_i n hn
    simp only [eU]
    refine ⟨IUn w0 (bu w0 S) Q nb N N0 rd.e0 sl0 (gi cf cp un (lv, nb) rd Y bi b) K ν, IUn.sl, IUn.lh, IUn.g, IUn.n, ⟨n + 1, e, h, g, ν, nV, nS, sl, lh, h1, hx, h2, NuN.refl _ _, h3⟩, rfl, rfl, rfl, fun s => ?_⟩
    have hst := s.st
    have hsn := s.hn
    match hm : s.n, hst with
    | 0, hst => exact hst.elim
    | k + 1, hst =>
      simp only [zZ] at hst
      refine ih bi s.e s.h s.g s.ν s.nV s.nS s.sl s.lh _ _ hd s.hs s.hx s.hh hst fun x e' h' g' ν' sl' lh' nV' nS' g0 g1 g2 g3 => ?_
      cases x with
      | normal => exact ⟨⟨k, e', h', g', ν', nV', nS', sl', lh', g1, s.hx.step g0, g2, hsn.trans g0, g3⟩, rfl, rfl, rfl, Nat.lt_succ_self k⟩
      | exit i => exact h4 _ _ _ _ _ _ _ _ _ (hsn.trans g0) g1 g2 g3
      | ret => exact h4 _ _ _ _ _ _ _ _ _ (hsn.trans g0) g1 g2 g3
 | exit i => intro bi e h g ν nV nS sl lh K KA _ h1 _ h2 h3 h4; exact h4 _ _ _ _ _ _ _ _ _ (NuN.refl _ _) h1 h2 h3
 | ret => intro bi e h g ν nV nS sl lh K KA _ h1 _ h2 h3 h4; exact h4 _ _ _ _ _ _ _ _ _ (NuN.refl _ _) h1 h2 h3
 | scope b ih => intro bi e h g ν nV nS sl lh K KA hd h1 hx h2 h3 h4; exact ih bi e h g ν nV nS sl lh K KA hd h1 hx h2 h3 h4
end it
structure SUn (w0 : World) (LP : cg) (Q : α -> Prop) (nb N : Nat) (ev : Env -> List O -> (Ex -> Env -> List O -> T α) -> T α) (K : Ex -> Env -> List O -> T α) (ν0 : Nu) where
 n : Nat
 e : Env
 h : List O
 ν : Nu
 nV : Nat
 nS : Nat
 sl : List ab
 lh : List ac
 hs : slR w0 ν N e sl
 hh : HR w0 ν nV nS h lh
 hn : NuN nb ν0 ν
 st : sat LP (evL ev n e h K) Q
theorem eZ : ∀ l : List ab, hJ l l
 | [] => by simp [hJ]
 | a :: l => by unfold hJ; exact ⟨.inr rfl, eZ l⟩
theorem nd : ∀ {its : List e9} {it : e9}, oY its = true -> it ∈ its -> kH it.ntmps it.body = true
 | [], _, _, h => by cases h
 | x :: l, it, h, hm => by
   simp only [oY, Bool.and_eq_true] at h
   rcases List.mem_cons.1 hm with rfl | hm
   ·exact h.1
   ·exact nd h.2 hm
theorem lJ {lh : List ac} {ν : Nu} : ∀ {us : List V} {az rest : List ab} {j i : Nat}, vrs w0 lh ν us az -> (∀ a, a ∈ rest -> True) -> vr w0 lh ν (bb (uz us j) (j + i)) ((az ++ rest).getD i .any)
 | [], az, rest, j, i, h, _ => by simp only [uz, bb, vr]
 | u :: us, az, rest, j, i, h, hr => by
   simp only [vrs] at h; obtain ⟨x, xs, rfl, h1, h2⟩ := h
   simp only [uz]; rw [cE]
   cases i with
   | zero => rw [if_pos (by omega)]; simpa using h1
   | succ i =>
     rw [if_neg (by omega)]
     have := lJ (j := j + 1) (i := i) (rest := rest) h2 hr
     rw [show j + 1 + i = j + (i + 1) by omega] at this
     simpa using this
theorem lP {S1 : FuncId -> aP} {LP : cg} {N : Nat} (hcf : lz w0 S1 LP false cf) : ∀ (t : OT) (e : Env) (h : List O) (ν : Nu) (nV nS : Nat) (sl : List ab) (lh : List ac) (K : Env -> List O -> T α) (KA : List ab -> List ac -> Prop), nf N t = true ->
 slR w0 ν N e sl -> HR w0 ν nV nS h lh -> sat LP (rT cf t e h K) Q -> (∀ e' h' ν' sl' lh', ν.sub ν' -> slR w0 ν' N e' sl' -> HR w0 ν' nV nS h' lh' -> sat LP (K e' h') Q -> KA sl' lh') -> kI w0 S1 t sl lh KA
 | .done, e, h, ν, nV, nS, sl, lh, K, KA, _, h1, h2, h3, h4 => h4 _ _ _ _ _ (Nu.sub_refl ν) h1 h2 h3
 | .op o r, e, h, ν, nV, nS, sl, lh, K, KA, hd, h1, h2, h3, h4 => by
   simp only [nf, Bool.and_eq_true] at hd
   simp only [rT] at h3
   simp only [kI]
   exact dW hcf [o] e h ν sl lh _ _ hd.1 h1 h2 h3 fun e' h' ν' sl' lh' k0 k1 k2 k3 => lP hcf r e' h' ν' nV nS sl' lh' K KA hd.2 k1 k2 k3 fun e2 h2 ν2 sl2 lh2 q0 => h4 e2 h2 ν2 sl2 lh2 (Nu.sub_trans k0 q0)
 | .alt a b, e, h, ν, nV, nS, sl, lh, K, KA, hd, h1, h2, h3, h4 => by
   simp only [nf, Bool.and_eq_true] at hd
   simp only [rT, sat] at h3
   exact ⟨lP hcf a e h ν nV nS sl lh K KA hd.1 h1 h2 h3.1 h4, lP hcf b e h ν nV nS sl lh K KA hd.2 h1 h2 h3.2 h4⟩
theorem o9 {lv : Nat} (hcf : lz w0 (S lv) (bu w0 S) false cf) (hcp : mW w0 (S lv) (bu w0 S) cp) {un : Unr} {N : Nat} : ∀ (c : cK) (nb nbS bi : Nat) (e : Env) (h : List O) (ν : Nu) (nV nS : Nat) (sl : List ab) (lh : List ac) (K : Ex -> Env -> List O -> T α) (KA : Ex -> List ab -> List ac -> Prop),
 dt N c = true -> slR w0 ν N e sl -> HR w0 ν nV nS h lh -> sat (bu w0 S) (evC cf cp un (lv, nb) bi c e h K) Q ->
 (∀ x e' h' ν' sl' lh' nV' nS', NuN nb ν ν' -> slR w0 ν' N e' sl' -> HR w0 ν' nV' nS' h' lh' -> sat (bu w0 S) (K x e' h') Q -> KA x sl' lh') -> aR w0 (S lv) nbS c sl lh KA := by
 intro c
 induction c with
 | skip => intro nb nbS bi e h ν nV nS sl lh K KA _ h1 h2 h3 h4; exact h4 .normal _ _ _ _ _ _ _ (NuN.refl _ _) h1 h2 h3
 | reg ops =>
   intro nb nbS bi e h ν nV nS sl lh K KA hd h1 h2 h3 h4
   exact dW hcf ops e h ν sl lh _ _ hd h1 h2 h3 fun e' h' ν' sl' lh' g0 g1 g2 g3 => h4 .normal _ _ _ _ _ _ _ (NuN.of g0 _) g1 g2 g3
 | allo t =>
   intro nb nbS bi e h ν nV nS sl lh K KA hd h1 h2 h3 h4
   exact lP hcf t e h ν nV nS sl lh _ _ hd h1 h2 h3 fun e' h' ν' sl' lh' g0 g1 g2 g3 => h4 .normal _ _ _ _ _ _ _ (NuN.of g0 _) g1 g2 g3
 | draw ds =>
   intro nb nbS bi e h ν nV nS sl lh K KA hd h1 h2 h3 h4
   exact kG hcp hd h1 h2 h3 fun e' h' ν' sl' lh' _ _ g0 g1 g2 g3 => h4 .normal _ _ _ _ _ _ _ (NuN.of g0 _) g1 g2 g3
 | seq a b iha ihb =>
   intro nb nbS bi e h ν nV nS sl lh K KA hd h1 h2 h3 h4
   simp only [dt, Bool.and_eq_true] at hd
   refine iha nb nbS bi e h ν nV nS sl lh _ _ hd.1 h1 h2 h3 fun x e' h' ν' sl' lh' nV' nS' g0 g1 g2 g3 => ?_
   cases x with
   | normal => exact ihb nb nbS bi e' h' ν' nV' nS' sl' lh' K KA hd.2 g1 g2 g3 fun x e2 h2 ν2 sl2 lh2 nV2 nS2 q0 => h4 x e2 h2 ν2 sl2 lh2 nV2 nS2 (g0.trans q0)
   | exit i => exact h4 _ _ _ _ _ _ _ _ g0 g1 g2 g3
   | ret => exact h4 _ _ _ _ _ _ _ _ g0 g1 g2 g3
 | cond c a b iha ihb =>
   intro nb nbS bi e h ν nV nS sl lh K KA hd h1 h2 h3 h4
   simp only [dt, Bool.and_eq_true] at hd
   simp only [evC] at h3
   have ha := h1.arg c
   simp only [aR]
   split at h3
   ·rename_i hc
    rw [hc] at ha; simp only [vr] at ha; rw [ha]
    exact ⟨fun _ => iha nb nbS bi e h ν nV nS sl lh K KA hd.1 h1 h2 h3 h4, (fun he => by cases he)⟩
   ·rename_i hc
    rw [hc] at ha; simp only [vr] at ha; rw [ha]
    exact ⟨(fun he => by cases he), fun _ => ihb nb nbS bi e h ν nV nS sl lh K KA hd.2 h1 h2 h3 h4⟩
   ·rename_i t hc
    rw [hc] at ha; simp only [vr] at ha; rw [ha]
    split at h3
    ·rename_i s
     simp only [sat] at h3
     simp only [arg] at ha
     exact ⟨fun et => iha nb nbS bi _ h ν nV nS sl lh K KA hd.1 (h1.know (by simp only [vr]; rw [ha, et])) h2 (h3.1 et) h4, fun et => ihb nb nbS bi _ h ν nV nS sl lh K KA hd.2 (h1.know (by simp only [vr]; rw [ha, et])) h2 (h3.2 et) h4⟩
    ·simp only [sat] at h3
     exact ⟨fun et => iha nb nbS bi _ h ν nV nS sl lh K KA hd.1 h1 h2 (h3.1 et) h4, fun et => ihb nb nbS bi _ h ν nV nS sl lh K KA hd.2 h1 h2 (h3.2 et) h4⟩
   ·exact h3.elim
 | block id b ih =>
   intro nb nbS bi e h ν nV nS sl lh K KA hd h1 h2 h3 h4
   refine ih nb nbS id e h ν nV nS sl lh _ _ hd h1 h2 h3 fun x e' h' ν' sl' lh' nV' nS' g0 g1 g2 g3 => ?_
   cases x with
   | normal => exact h4 _ _ _ _ _ _ _ _ g0 g1 g2 g3
   | ret => exact h4 _ _ _ _ _ _ _ _ g0 g1 g2 g3
   | exit i =>
     simp only [nr]
     by_cases hi : i = id
     ·subst hi; rw [if_pos rfl]; simp only [Nat.beq_refl, cond] at g3; exact h4 _ _ _ _ _ _ _ _ g0 g1 g2 g3
     ·rw [if_neg hi]
      have : Nat.beq i id = false := by cases hb : Nat.beq i id with | false => rfl | true => exact (hi (Nat.eq_of_beq_eq_true hb)).elim
      simp only [this, cond] at g3; exact h4 _ _ _ _ _ _ _ _ g0 g1 g2 g3
 | loop b ih =>
   intro nb nbS bi e h ν nV nS sl lh K KA hd h1 h2 h3 h4
   simp only [evC] at h3
   split at h3
   ·exact h3 N nbS ν nV nS sl lh KA hd h1 h2 h4
   ·rename_i n hn
    simp only [aR]
    refine ⟨SUn w0 (bu w0 S) Q nb N (evC cf cp un (lv, nb) bi b) K ν, SUn.sl, SUn.lh, SUn.n, ⟨n + 1, e, h, ν, nV, nS, sl, lh, h1, h2, NuN.refl _ _, h3⟩, .inl ⟨rfl, eZ _⟩, fun s => ?_⟩
    have hst := s.st
    have hsn := s.hn
    match hm : s.n, hst with
    | 0, hst => exact hst.elim
    | k + 1, hst =>
      simp only [evL] at hst
      refine ih nb nbS bi s.e s.h s.ν s.nV s.nS s.sl s.lh _ _ hd s.hs s.hh hst fun x e' h' ν' sl' lh' nV' nS' g0 g1 g2 g3 => ?_
      cases x with
      | normal => exact ⟨⟨k, e', h', ν', nV', nS', sl', lh', g1, g2, hsn.trans g0, g3⟩, .inl ⟨rfl, eZ _⟩, Nat.lt_succ_self k⟩
      | exit i => exact h4 _ _ _ _ _ _ _ _ (hsn.trans g0) g1 g2 g3
      | ret => exact h4 _ _ _ _ _ _ _ _ (hsn.trans g0) g1 g2 g3
 | exit i => intro nb nbS bi e h ν nV nS sl lh K KA _ h1 h2 h3 h4; exact h4 _ _ _ _ _ _ _ _ (NuN.refl _ _) h1 h2 h3
 | ret => intro nb nbS bi e h ν nV nS sl lh K KA _ h1 h2 h3 h4; exact h4 _ _ _ _ _ _ _ _ (NuN.refl _ _) h1 h2 h3
 | scope b ih => intro nb nbS bi e h ν nV nS sl lh K KA hd h1 h2 h3 h4; exact ih nb nbS bi e h ν nV nS sl lh K KA hd h1 h2 h3 h4
 | range gop ps asg body its iha ihb =>
   intro nb nbS bi e h ν nV nS sl lh K KA hd h1 h2 h3 h4
   simp only [dt, Bool.and_eq_true] at hd
   simp only [evC] at h3
   have ha := h1.arg gop
   simp only [aR]
   split at h3
   ·rename_i f ys hg
    rw [hg] at ha
    simp only [vr, vrs] at ha
    obtain ⟨us, vs, hav, rfl, hys⟩ := ha
    rw [hav]
    dsimp only
    split at h3
    ·rename_i it hit
     rw [hit]
     dsimp only
     cases hb : Nat.ble (aK ys + 1) it.ntmps with
     | false => rw [hb] at h3; exact h3.elim
     | true =>
       rw [hb] at h3
       simp only [cond, sat] at h3
       have hle := Nat.le_of_ble_eq_true hb
       rw [aJ] at hle
       have hl := aF hys
       intro l
       have hdom : ∀ k, aK h <= k -> ν k = none := fun k hk => h2.dom k (by rw [← aJ]; exact hk)
       have hctx : Ctx w0 (aK h) N e sl ν := ⟨ν, hdom, h1, Nu.sub_refl ν⟩
       have hY : yZ w0 (bu w0 S) Q (aK h) N e sl (fun vs h K => cond (Nat.beq (aK vs) (aK ps)) (evC cf cp un (lv, aK h) bi asg (jb e ps vs) h fun x e1 h1 => match x with
        | .normal => evC cf cp un (lv, aK h) bi body e1 h1 fun x _ h2 => K x h2
        | _ => .fail 94) (.fail 95)) (YA w0 (S lv) ps asg body sl) := by
        intro vs h ν nV nS args lh K KA hx hh hv hs hK
        dsimp only at hs
        cases hb : Nat.beq (aK vs) (aK ps) with
        | false => rw [hb] at hs; exact hs.elim
        | true =>
          rw [hb] at hs
          simp only [cond] at hs
          have hlen := Nat.eq_of_beq_eq_true hb
          rw [aJ, aJ] at hlen
          have hdom : ∀ k, aK h <= k -> ν k = none := fun k hk => hh.dom k (by rw [← aJ]; exact hk)
          refine ⟨by rw [aF hv]; exact hlen, ?_⟩
          refine iha (aK h) _ bi _ h ν nV nS _ lh _ _ hd.2.1 (kc ps e sl vs args hd.1 hx.get hv hlen) hh hs fun x e' h' ν' sl' lh' nV' nS' g0 g1 g2 g3 => ?_
          cases x with
          | normal => exact ihb (aK h) _ bi _ h' ν' nV' nS' _ lh' _ _ hd.2.2.1 g1 g2 g3 fun x e2 h2 ν2 sl2 lh2 nV2 nS2 q0 q1 q2 q3 => hK x h2 ν2 nV2 nS2 lh2 ((g0.trans q0).sub hdom) q2 q3
          | exit i => exact g3.elim
          | ret => exact g3.elim
       refine tG (rd := ⟨ps, asg, body, e, l⟩) (Y := _) (sl0 := sl) (nb := aK h) hcf hcp hd.1 hd.2.1 hd.2.2.1 rfl hY it.body 0 _ h none ν nV nS _ lh _ _ (nd hd.2.2.2 (ic hit).1) ⟨by simp; omega, fun i => ?_⟩ hctx h2 (h3 l) fun x e' h' g' ν' sl' lh' nV' nS' g0 g1 g2 g3 => ?_
       ·rw [cE]
        cases i with
        | zero => simp [vr]
        | succ i =>
          rw [if_neg (by omega)]
          have := lJ (j := 1) (i := i) (rest := List.replicate (it.ntmps - (vs.length + 1)) .any) hys (fun _ _ => trivial)
          rw [show 1 + i = i + 1 by omega] at this
          simpa using this
       ·have hsub := g0.sub hdom
        cases x with
        | exit i => exact g3.elim
        | normal =>
          cases g' with
          | none => exact h4 .normal e h' ν' sl lh' nV' nS' (NuN.of hsub _) (h1.mono hsub) g2 g3
          | some x => exact h4 x e h' ν' sl lh' nV' nS' (NuN.of hsub _) (h1.mono hsub) g2 g3
        | ret =>
          cases g' with
          | none => exact h4 .normal e h' ν' sl lh' nV' nS' (NuN.of hsub _) (h1.mono hsub) g2 g3
          | some x => exact h4 x e h' ν' sl lh' nV' nS' (NuN.of hsub _) (h1.mono hsub) g2 g3
    ·exact h3.elim
   ·exact h3.elim
theorem gP {LP : cg} {ν : Nu} {nV nS N : Nat} {e : Env} {h : List O} {sl : List ab} {lh : List ac} (h1 : slR w0 ν N e sl) (h2 : HR w0 ν nV nS h lh) : ∀ (rs : List oW) (K : List V -> T α) (KA : List ab -> Prop), sat LP (lc e h rs K) Q ->
 (∀ us az, vrs w0 ν.z ν us az -> sat LP (K us) Q -> KA az) -> dU w0 sl lh rs KA
 | [], K, KA, hs, hK => hK [] [] (by simp only [vrs]) hs
 | .tmp t :: l, K, KA, hs, hK => by
   simp only [lc] at hs
   obtain ⟨u, g1, g2⟩ := xC rfl (h1.at' t) hs
   exact gP h1 h2 l _ _ g2 fun us az g3 g4 => hK (u :: us) _ (by simp only [vrs]; exact ⟨_, _, rfl, g1, g3⟩) g4
 | .cell t n :: l, K, KA, hs, hK => by
   cases n with
   | none =>
     simp only [lc] at hs
     obtain ⟨g0, hs⟩ := nA rfl hs
     split at hs
     ·rename_i v hv
      obtain ⟨p, x, e1, e2, e3⟩ := r3 h2 (h1.at' t) hv g0
      simp only [dU, e1]
      exact ⟨x, e2, gP h1 h2 l _ _ hs fun us az g3 g4 => hK (v :: us) _ (by simp only [vrs]; exact ⟨_, _, rfl, e3, g3⟩) g4⟩
     ·exact hs.elim
   | some n =>
     simp only [lc] at hs
     obtain ⟨g0, hs⟩ := nA rfl hs
     split at hs
     ·rename_i cs hv
      obtain ⟨p, x, e1, e2, e3⟩ := tl h2 (h1.at' t) hv g0
      simp only [dU, e1]
      exact ⟨x, e2, gP h1 h2 l _ _ hs fun us az g3 g4 => hK (.agg cs :: us) _ (by simp only [vrs]; exact ⟨_, _, rfl, by simp only [vr]; exact ⟨_, rfl, e3⟩, g3⟩) g4⟩
     ·exact hs.elim
theorem sK {lh : List ac} {ν : Nu} : ∀ {us : List V} {az : List ab}, vrs w0 lh ν us az -> vr w0 lh ν (kr us) (jS az)
 | [], az, h => by simp only [vrs] at h; subst h; simp only [kr, jS, vr]; exact ⟨_, rfl, by simp only [vrs]⟩
 | [u], az, h => by simp only [vrs] at h; obtain ⟨x, xs, rfl, h1, rfl⟩ := h; exact h1
 | u :: v :: us, az, h => by
   have h' := h
   simp only [vrs] at h; obtain ⟨x, xs, rfl, h1, y, ys, rfl, h2⟩ := h
   simp only [kr, jS, vr]; exact ⟨_, rfl, h'⟩
theorem HR.none (w0 : World) : HR w0 Nu.nil 0 0 [] [] := ⟨(fun k o h => by simp at h), (fun k k' x x' _ _ h => by cases h), (fun _ _ => rfl), (fun k x h => by cases h), tQ _, (fun k x _ h => by cases h)⟩
theorem qo {lv : Nat} (hcf : lz w0 (S lv) (bu w0 S) false cf) (hcp : mW w0 (S lv) (bu w0 S) cp) {un : Unr} {sf : aw} {args : List V} {az : List ab} {h : List O} {lh : List ac} {ν : Nu} {nV nS : Nat} {K : V -> List O -> T α} {KA : ab -> List ac -> Prop} (hd : dt sf.ntmps sf.body = true)
 (ha : vrs w0 ν.z ν args az) (hh : HR w0 ν nV nS h lh) (hs : sat (bu w0 S) (nk cf cp un lv sf args h K) Q)
 (hK : ∀ v h' ν' a lh', ν.sub ν' -> (∀ nV nS, HR w0 ν' nV nS h' lh') -> vr w0 ν'.z ν' v a -> sat (bu w0 S) (K v h') Q -> KA a lh') : tC w0 (S lv) sf az lh KA := by
 unfold nk at hs
 cases hb : Nat.ble (aK args) sf.ntmps with
 | false => rw [hb] at hs; exact hs.elim
 | true =>
   rw [hb] at hs
   simp only [cond] at hs
   have hle := Nat.le_of_ble_eq_true hb
   rw [aJ] at hle
   have hl := aF ha
   have hdom : ∀ k, aK h <= k -> ν k = none := fun k hk => hh.dom k (by rw [← aJ]; exact hk)
   unfold tC
   refine o9 hcf hcp sf.body (aK h) _ 0 _ h ν nV nS _ lh _ _ hd ⟨by simp; omega, fun i => ?_⟩ hh hs fun x e' h' ν' sl' lh' nV' nS' g0 g1 g2 g3 => ?_
   ·have := lJ (j := 0) (i := i) (rest := List.replicate (sf.ntmps - az.length) .any) ha (fun _ _ => trivial)
    rwa [Nat.zero_add] at this
   ·cases x with
    | exit i => exact g3.elim
    | normal => exact gP g1 g2 _ _ _ g3 fun us vs k1 k2 => hK _ _ ν' _ _ (g0.sub hdom) (fun a b => g2.undead a b) (sK k1) k2
    | ret => exact gP g1 g2 _ _ _ g3 fun us vs k1 k2 => hK _ _ ν' _ _ (g0.sub hdom) (fun a b => g2.undead a b) (sK k1) k2
def dE (w0 : World) (nb : Nat) (e : Env) (h : List O) (e1 : Env) (h1 : List O) : Prop :=
 ∀ (N : Nat) (ν : Nu) (nV nS : Nat) (sl : List ab) (lh : List ac), slR w0 ν N e sl -> HR w0 ν nV nS h lh -> ∃ ν1 nV1 nS1, NuN nb ν ν1 /\ slR w0 ν1 N e1 sl /\ HR w0 ν1 nV1 nS1 h1 lh
structure LSt (w0 : World) (nb N : Nat) (I : Type) (inv : I -> Env × List O) (ν0 : Nu) where
 i : I
 ν : Nu
 nV : Nat
 nS : Nat
 sl : List ab
 lh : List ac
 hs : slR w0 ν N (inv i).1 sl
 hh : HR w0 ν nV nS (inv i).2 lh
 hn : NuN nb ν0 ν
theorem z7 {fr : Nat × Nat} {cf : CF (Ex × Env × List O)} {cp : CP (Ex × Env × List O)} (hcf : lz w0 (S fr.1) (bu w0 S) false cf) (hcp : mW w0 (S fr.1) (bu w0 S) cp) {un : Unr} {bi : Nat} {body : cK} {e : Env} {h : List O} {Post : Ex -> Env -> List O -> Option Ex -> Prop}
 (I : Type) (inv : I -> Env × List O) (μ : I -> Nat) (h0 : ∃ i, dE w0 fr.2 e h (inv i).1 (inv i).2)
 (round : ∀ i, sat (bu w0 S) (evC cf cp un fr bi body (inv i).1 (inv i).2 fun x e h => .ret (x, e, h)) fun r => match r.1 with
   | .normal => ∃ i', dE w0 fr.2 r.2.1 r.2.2 (inv i').1 (inv i').2 /\ μ i' < μ i
   | x => Post x r.2.1 r.2.2 none) : bu w0 S fr (.s body) e h none Post := by
 intro N nbS ν nV nS sl lh QA hd h1 h2 hQ
 obtain ⟨i0, hi0⟩ := h0
 obtain ⟨ν1, nV1, nS1, g0, g1, g2⟩ := hi0 N ν nV nS sl lh h1 h2
 simp only [aR]
 refine ⟨LSt w0 fr.2 N I inv ν, fun s => s.sl, fun s => s.lh, fun s => μ s.i, ⟨i0, ν1, nV1, nS1, sl, lh, g1, g2, g0⟩, .inl ⟨rfl, eZ _⟩, fun s => ?_⟩
 refine o9 hcf hcp body fr.2 nbS bi _ _ s.ν s.nV s.nS s.sl s.lh _ _ hd s.hs s.hh (round s.i) fun x e' h' ν' sl' lh' nV' nS' k0 k1 k2 k3 => ?_
 simp only [sat] at k3
 cases x with
 | normal =>
   obtain ⟨i', k4, k5⟩ := k3
   obtain ⟨ν2, nV2, nS2, k8, k6, k7⟩ := k4 N ν' nV' nS' sl' lh' k1 k2
   exact ⟨⟨i', ν2, nV2, nS2, sl', lh', k6, k7, (s.hn.trans k0).trans k8⟩, .inl ⟨rfl, eZ _⟩, k5⟩
 | exit i => exact hQ _ _ _ _ _ _ _ _ (s.hn.trans k0) k1 k2 k3
 | ret => exact hQ _ _ _ _ _ _ _ _ (s.hn.trans k0) k1 k2 k3
structure Gy (w0 : World) (nb N : Nat) (I : Type) (inv : I -> Env × List O × Option Ex) (ν0 : Nu) where
 i : I
 ν : Nu
 nV : Nat
 nS : Nat
 sl : List ab
 lh : List ac
 hs : slR w0 ν N (inv i).1 sl
 hh : HR w0 ν nV nS (inv i).2.1 lh
 hn : NuN nb ν0 ν
def rdY (cf : CF α) (cp : CP α) (un : Unr) (lv bi : Nat) (rd : RD) : YV α := fun vs h K => cond (Nat.beq (aK vs) (aK rd.ps)) (evC cf cp un (lv, aK h) bi rd.asg (jb rd.e0 rd.ps vs) h fun x e1 h1 => match x with
 | .normal => evC cf cp un (lv, aK h) bi rd.body e1 h1 fun x _ h2 => K x h2
 | _ => .fail 94) (.fail 95)
theorem CI {lv bi : Nat} {un : Unr} {rd : RD} {nb N : Nat} {sl : List ab} (hcf : lz w0 (S lv) (bu w0 S) false cf) (hcp : mW w0 (S lv) (bu w0 S) cp) (h0 : mE N rd.ps = true) (h1 : dt N rd.asg = true) (h2 : dt N rd.body = true) :
 yZ w0 (bu w0 S) Q nb N rd.e0 sl (rdY cf cp un lv bi rd) (YA w0 (S lv) rd.ps rd.asg rd.body sl) := by
 intro vs h ν nV nS args lh K KA hx hh hv hs hK
 unfold rdY at hs
 cases hb : Nat.beq (aK vs) (aK rd.ps) with
 | false => rw [hb] at hs; exact hs.elim
 | true =>
   rw [hb] at hs
   simp only [cond] at hs
   have hlen := Nat.eq_of_beq_eq_true hb
   rw [aJ, aJ] at hlen
   have hdom : ∀ k, aK h <= k -> ν k = none := fun k hk => hh.dom k (by rw [← aJ]; exact hk)
   refine ⟨by rw [aF hv]; exact hlen, ?_⟩
   refine o9 hcf hcp rd.asg (aK h) _ bi _ h ν nV nS _ lh _ _ h1 (kc rd.ps rd.e0 sl vs args h0 hx.get hv hlen) hh hs fun x e' h' ν' sl' lh' nV' nS' g0 g1 g2 g3 => ?_
   cases x with
   | normal => exact o9 hcf hcp rd.body (aK h) _ bi _ h' ν' nV' nS' _ lh' _ _ h2 g1 g2 g3 fun x e2 h2 ν2 sl2 lh2 nV2 nS2 q0 q1 q2 q3 => hK x h2 ν2 nV2 nS2 lh2 ((g0.trans q0).sub hdom) q2 q3
   | exit i => exact g3.elim
   | ret => exact g3.elim
theorem xm {fr : Nat × Nat} {cf : CF (Ex × Env × List O × Option Ex)} {cp : CP (Ex × Env × List O × Option Ex)} (hcf : lz w0 (S fr.1) (bu w0 S) false cf) (hcp : mW w0 (S fr.1) (bu w0 S) cp) {un : Unr} {bi bi' : Nat} {body : dG} {rd : RD} {e : Env} {h : List O} {g : Option Ex} {Post : Ex -> Env -> List O -> Option Ex -> Prop}
 (I : Type) (inv : I -> Env × List O × Option Ex) (μ : I -> Nat) (h0 : ∃ i, g = (inv i).2.2 /\ dE w0 fr.2 e h (inv i).1 (inv i).2.1)
 (round : ∀ i, sat (bu w0 S) (gi cf cp un fr rd (rdY cf cp un fr.1 bi' rd) bi body (inv i).1 (inv i).2.1 (inv i).2.2 fun x e h g => .ret (x, e, h, g)) fun r => match r.1 with
   | .normal => ∃ i', r.2.2.2 = (inv i').2.2 /\ dE w0 fr.2 r.2.1 r.2.2.1 (inv i').1 (inv i').2.1 /\ μ i' < μ i
   | x => Post x r.2.1 r.2.2.1 r.2.2.2) : bu w0 S fr (.i body rd) e h g Post := by
 intro N N0 ν nV nS sl sl0 lh QA hd hp0 hp1 hp2 h1 hx h2 hQ
 obtain ⟨i0, rfl, hi0⟩ := h0
 obtain ⟨ν1, nV1, nS1, g0, g1, g2⟩ := hi0 N ν nV nS sl lh h1 h2
 simp only [eU]
 refine ⟨Gy w0 fr.2 N I inv ν, fun s => s.sl, fun s => s.lh, fun s => (inv s.i).2.2, fun s => μ s.i, ⟨i0, ν1, nV1, nS1, sl, lh, g1, g2, g0⟩, rfl, rfl, rfl, fun s => ?_⟩
 refine tG (Y := rdY cf cp un fr.1 bi' rd) (sl0 := sl0) hcf hcp hp0 hp1 hp2 rfl (CI hcf hcp hp0 hp1 hp2) body bi _ _ _ s.ν s.nV s.nS s.sl s.lh _ _ hd s.hs (hx.step s.hn) s.hh (round s.i) fun x e' h' g' ν' sl' lh' nV' nS' k0 k1 k2 k3 => ?_
 simp only [sat] at k3
 cases x with
 | normal =>
   obtain ⟨i', k9, k4, k5⟩ := k3
   obtain ⟨ν2, nV2, nS2, k8, k6, k7⟩ := k4 N ν' nV' nS' sl' lh' k1 k2
   exact ⟨⟨i', ν2, nV2, nS2, sl', lh', k6, k7, (s.hn.trans k0).trans k8⟩, rfl, rfl, k9, k5⟩
 | exit i => exact hQ _ _ _ _ _ _ _ _ _ (s.hn.trans k0) k1 k2 k3
 | ret => exact hQ _ _ _ _ _ _ _ _ _ (s.hn.trans k0) k1 k2 k3
end
section
variable {B : ba} {m : ah} {lh : List ac} {w : World}
mutual
theorem bF (h : ar B m lh w) : ∀ (d : V) (x : ab) (u : Value), d.fc = true -> vr B.w0 lh Nu.nil d x -> vrel m x u -> vr w [] Nu.nil d (aE u)
 | .int .., x, u, _, hd, hv => by simp only [vr] at hd; subst hd; simp only [vrel] at hv; subst hv; simp only [aE, vr]
 | .bool _, x, u, _, hd, hv => by simp only [vr] at hd; subst hd; simp only [vrel] at hv; subst hv; simp only [aE, vr]
 | .kb _, x, u, _, hd, hv => by simp only [vr] at hd; subst hd; simp only [vrel] at hv; subst hv; simp only [aE, vr]
 | .str _, x, u, _, hd, hv => by simp only [vr] at hd; subst hd; simp only [vrel] at hv; subst hv; simp only [aE, vr]
 | .agg _, _, _, hc, _, _ => by cases hc
 | .tup _, _, _, hc, _, _ => by cases hc
 | .fn .., _, _, hc, _, _ => by cases hc
 | .gd .., _, _, hc, _, _ => by cases hc
 | .yl _, _, _, hc, _, _ => by cases hc
 | .sl n f, x, u, _, hd, hv => by
   simp only [vr] at hd ⊢
   obtain ⟨p, c, esz, rfl, h2, h3, h4, h5⟩ := hd
   simp only [vrel] at hv
   obtain ⟨q, rfl, hq⟩ := hv
   refine ⟨q.map .g, c, esz, by cases q <;> rfl, h2, h3, by cases q <;> trivial, fun i hi => ?_⟩
   obtain ⟨p', az, rfl, g2, g3, g4⟩ := h5 i hi
   obtain ⟨a, us, hqa, k1, k2⟩ := mY (q := q.map fun a => a.add (i * esz)) h (by
    cases p' with
    | g a => simp only [bx] at hq; subst hq; simp [bx, Ptr.add]
    | l k off => simp only [bx] at hq; obtain ⟨b, e1, rfl⟩ := hq; simp only [bx, Ptr.add]; exact ⟨b, e1, by simp [Addr.add]⟩) g2
   cases q with
   | none => cases hqa
   | some a0 =>
     simp at hqa
     subst hqa
     exact ⟨.g a0, _, rfl, k1, iw h (f i) az us g4 g3 k2, g4⟩
 | .sq n m f, x, u, _, hd, hv => by
   simp only [vr] at hd ⊢
   obtain ⟨p, c, esz, rfl, h2, h3, h4, h5⟩ := hd
   simp only [vrel] at hv
   obtain ⟨q, rfl, hq⟩ := hv
   refine ⟨q.map .g, c, esz, by cases q <;> rfl, h2, h3, by cases q <;> trivial, fun i hi => ?_⟩
   obtain ⟨p', az, rfl, g2, g3, g4⟩ := h5 i hi
   obtain ⟨a, us, hqa, k1, k2⟩ := mY (q := q.map fun a => a.add (i * esz)) h (by
    cases p' with
    | g a => simp only [bx] at hq; subst hq; simp [bx, Ptr.add]
    | l k off => simp only [bx] at hq; obtain ⟨b, e1, rfl⟩ := hq; simp only [bx, Ptr.add]; exact ⟨b, e1, by simp [Addr.add]⟩) g2
   cases q with
   | none => cases hqa
   | some a0 =>
     simp at hqa
     subst hqa
     exact ⟨.g a0, _, rfl, k1, iw h (f i) az us g4 g3 k2, g4⟩
 | .pd cs, x, u, _, hd, hv => by
   simp only [vr] at hd ⊢
   obtain ⟨p, az, rfl, _, h3, h4, h5⟩ := hd
   simp only [vrel] at hv
   obtain ⟨q, rfl, hq⟩ := hv
   obtain ⟨a, us, rfl, k1, k2⟩ := mY h hq h3
   exact ⟨.g a, _, rfl, trivial, k1, iw h cs az us h5 h4 k2, h5⟩
 | .pl k off, x, u, _, hd, hv => by simp only [vr] at hd; obtain ⟨b, c, e, h1, h2⟩ := hd; cases h1
 | .pe k i j, x, u, _, hd, hv => by simp only [vr] at hd; obtain ⟨b, c, e, h1, h2⟩ := hd; cases h1
 | .ss k off n c, x, u, _, hd, hv => by simp only [vr] at hd; obtain ⟨b, c, e, h1, h2⟩ := hd; cases h1
 | .gs k n, x, u, _, hd, hv => by simp only [vr] at hd; rcases hd with ⟨h1, _⟩ | ⟨b, c, e, h1, _⟩ <;> cases h1
 | .go k off n, x, u, _, hd, hv => by simp only [vr] at hd; rcases hd with ⟨h1, _⟩ | ⟨b, c, e, o, h1, _⟩ <;> cases h1
 | .ns, x, u, _, hd, hv => by simp only [vr] at hd; subst hd; simp only [vrel, bx] at hv; obtain ⟨q, rfl, rfl⟩ := hv; simp only [aE, vr]
 | .np, x, u, _, hd, hv => by simp only [vr] at hd; subst hd; simp only [vrel, bx] at hv; obtain ⟨q, rfl, rfl⟩ := hv; simp only [aE, vr]
 | .any, x, u, _, hd, hv => by simp only [vr]
theorem iw (h : ar B m lh w) : ∀ (ds : List V) (xs : List ab) (us : List Value), ds.all V.fc = true -> vrs B.w0 lh Nu.nil ds xs -> ae m xs us -> vrs w [] Nu.nil ds (us.map aE)
 | [], xs, us, _, hd, hv => by simp only [vrs] at hd; subst hd; simp only [ae] at hv; subst hv; simp only [vrs, List.map_nil]
 | d :: ds, xs, us, hc, hd, hv => by
   simp only [List.all_cons, Bool.and_eq_true] at hc
   simp only [vrs] at hd
   obtain ⟨x, xs', rfl, h2, h3⟩ := hd
   simp only [ae] at hv
   obtain ⟨u, us', rfl, h4, h5⟩ := hv
   simp only [List.map_cons, vrs]
   exact ⟨_, _, rfl, bF h d x u hc.1 h2 h4, iw h ds xs' us' hc.2 h3 h5⟩
end
mutual
theorem tS (h : ar B m lh w) : ∀ (d : V) (x : ab) (u : Value), vr B.w0 lh Nu.nil d x -> vrel m x u -> ∃ x', vrel (fun _ => none) x' u /\ vr w [] Nu.nil d x'
 | .agg cs, x, u, hd, hv => by
   simp only [vr] at hd
   obtain ⟨az, rfl, h1⟩ := hd
   simp only [vrel] at hv
   obtain ⟨us, rfl, h2⟩ := hv
   obtain ⟨xs', g1, g2⟩ := eV h cs az us.toList h1 h2
   exact ⟨.agg xs', by simp only [vrel]; exact ⟨us, rfl, g1⟩, by simp only [vr]; exact ⟨_, rfl, g2⟩⟩
 | .tup cs, x, u, hd, hv => by
   simp only [vr] at hd
   obtain ⟨az, rfl, h1⟩ := hd
   simp only [vrel] at hv
   obtain ⟨us, rfl, h2⟩ := hv
   obtain ⟨xs', g1, g2⟩ := eV h cs az us.toList h1 h2
   exact ⟨.tup xs', by simp only [vrel]; exact ⟨us, rfl, g1⟩, by simp only [vr]; exact ⟨_, rfl, g2⟩⟩
 | .fn f xs ys, x, u, hd, hv => by
   simp only [vr] at hd
   obtain ⟨us, vs, rfl, h1, h2⟩ := hd
   simp only [vrel] at hv
   obtain ⟨us', vs', rfl, h3, h4⟩ := hv
   obtain ⟨az, g1, g2⟩ := eV h xs us us'.toList h1 h3
   obtain ⟨bs, g3, g4⟩ := eV h ys vs vs'.toList h2 h4
   exact ⟨.fn (.func f) az bs, by simp only [vrel]; exact ⟨us', vs', rfl, g1, g3⟩, by simp only [vr]; exact ⟨az, bs, rfl, g2, g4⟩⟩
 | .gd b v, x, u, hd, hv => by
   simp only [vr] at hd
   cases b with
   | true => obtain ⟨x', g1, g2⟩ := tS h v x u (hd.1 rfl) hv; exact ⟨x', g1, by simp only [vr]; exact ⟨fun _ => g2, fun e => by cases e⟩⟩
   | false =>
     obtain ⟨l, rfl⟩ := hd.2 rfl
     simp only [vrel] at hv
     obtain ⟨vs, rfl, _⟩ := hv
     exact ⟨.tup (vs.toList.map aE), by simp only [vrel]; exact ⟨vs, rfl, aO _ _⟩, by simp only [vr]; exact ⟨(fun e => by cases e), fun _ => ⟨_, rfl⟩⟩⟩
 | .int k n, x, u, hd, hv => ⟨aE u, aQ _ u, bF h (.int k n) x u rfl hd hv⟩
 | .bool b, x, u, hd, hv => ⟨aE u, aQ _ u, bF h (.bool b) x u rfl hd hv⟩
 | .kb b, x, u, hd, hv => ⟨aE u, aQ _ u, bF h (.kb b) x u rfl hd hv⟩
 | .str b, x, u, hd, hv => ⟨aE u, aQ _ u, bF h (.str b) x u rfl hd hv⟩
 | .sl n f, x, u, hd, hv => ⟨aE u, aQ _ u, bF h (.sl n f) x u rfl hd hv⟩
 | .sq n m f, x, u, hd, hv => ⟨aE u, aQ _ u, bF h (.sq n m f) x u rfl hd hv⟩
 | .pd b, x, u, hd, hv => ⟨aE u, aQ _ u, bF h (.pd b) x u rfl hd hv⟩
 | .pl k off, x, u, hd, hv => ⟨aE u, aQ _ u, bF h (.pl k off) x u rfl hd hv⟩
 | .pe k i j, x, u, hd, hv => ⟨aE u, aQ _ u, bF h (.pe k i j) x u rfl hd hv⟩
 | .ss k off n c, x, u, hd, hv => ⟨aE u, aQ _ u, bF h (.ss k off n c) x u rfl hd hv⟩
 | .gs k n, x, u, hd, hv => ⟨aE u, aQ _ u, bF h (.gs k n) x u rfl hd hv⟩
 | .ns, x, u, hd, hv => ⟨aE u, aQ _ u, bF h .ns x u rfl hd hv⟩
 | .np, x, u, hd, hv => ⟨aE u, aQ _ u, bF h .np x u rfl hd hv⟩
 | .any, x, u, hd, hv => ⟨aE u, aQ _ u, bF h .any x u rfl hd hv⟩
 | .go k off n, x, u, hd, hv => ⟨aE u, aQ _ u, bF h (.go k off n) x u rfl hd hv⟩
 | .yl l, x, u, hd, hv => ⟨gK l, by simp only [vr] at hd; subst hd; simp only [gK, vrel] at hv ⊢; exact hv, by simp only [vr]⟩
theorem eV (h : ar B m lh w) : ∀ (ds : List V) (xs : List ab) (us : List Value), vrs B.w0 lh Nu.nil ds xs -> ae m xs us -> ∃ xs', ae (fun _ => none) xs' us /\ vrs w [] Nu.nil ds xs'
 | [], xs, us, hd, hv => by
   simp only [vrs] at hd; subst hd
   simp only [ae] at hv; subst hv
   exact ⟨[], by simp only [ae], by simp only [vrs]⟩
 | d :: ds, xs, us, hd, hv => by
   simp only [vrs] at hd
   obtain ⟨x, xs', rfl, h2, h3⟩ := hd
   simp only [ae] at hv
   obtain ⟨u, us', rfl, h4, h5⟩ := hv
   obtain ⟨a, g1, g2⟩ := tS h d x u h2 h4
   obtain ⟨az, g3, g4⟩ := eV h ds xs' us' h3 h5
   exact ⟨a :: az, by simp only [ae]; exact ⟨_, _, rfl, g1, g3⟩, by simp only [vrs]; exact ⟨_, _, rfl, g2, g4⟩⟩
end
end
section
variable {w0 : World} {ν : Nu} {nV nS : Nat} {h : List O} {lh : List ac}
theorem vE (v : V) : (jd v).fc = true := by
 unfold jd
 cases hv : v.fc with
 | true => simpa using hv
 | false => rfl
theorem yD {v : V} {a : ab} (hv : vr w0 lh Nu.nil v a) : vr w0 lh Nu.nil (jd v) a := by
 unfold jd
 cases v.fc with
 | true => exact hv
 | false => simp only [cond, vr]
theorem j7 (g : V -> V) (l : List V) : (l.map fun v => jd (g v)).all V.fc = true := by
 rw [List.all_eq_true]; intro x hx
 rw [List.mem_map] at hx
 obtain ⟨v, _, rfl⟩ := hx
 exact vE _
theorem lI {lh' : List ac} {ν' : Nu} {g : V -> V} (hg : ∀ v a, vr w0 lh ν v a -> vr w0 lh' ν' (g v) a) : ∀ {vs : List V} {az : List ab}, vrs w0 lh ν vs az -> vrs w0 lh' ν' (vs.map g) az
 | [], az, hv => by simp only [vrs] at hv ⊢; subst hv; simp only [List.map_nil, vrs]
 | v :: vs, az, hv => by simp only [vrs] at hv; obtain ⟨x, xs, rfl, h1, h2⟩ := hv; simp only [List.map_cons, vrs]; exact ⟨_, _, rfl, hg v x h1, lI hg h2⟩
theorem jN (hh : HR w0 ν nV nS h lh) : ∀ (fu : Nat) (v : V) (a : ab), vr w0 ν.z ν v a -> vr w0 lh Nu.nil (fH h fu v) a
 | 0, v, a, _ => by simp only [fH, vr]
 | fu + 1, v, a, hv => by
   have ih : ∀ {vs : List V} {az : List ab}, vrs w0 ν.z ν vs az -> vrs w0 lh Nu.nil (vs.map (fH h fu)) az := fun hvs => lI (fun v a => jN hh fu v a) hvs
   have ihc : ∀ {vs : List V} {az : List ab}, vrs w0 ν.z ν vs az -> vrs w0 lh Nu.nil (vs.map fun v => jd (fH h fu v)) az := fun hvs => lI (fun v a hv => yD (jN hh fu v a hv)) hvs
   unfold fH
   split
   ·simp only [vr] at hv ⊢; exact hv
   ·simp only [vr] at hv ⊢; exact hv
   ·simp only [vr] at hv ⊢; exact hv
   ·simp only [vr] at hv ⊢; exact hv
   ·rename_i n f
    exact ly hh.zl _ _ (by simp only [vr] at hv ⊢; exact hv)
   ·rename_i n m f
    exact ly hh.zl _ _ (by simp only [vr] at hv ⊢; exact hv)
   ·rename_i cs
    exact ly hh.zl _ _ (by simp only [vr] at hv ⊢; exact hv)
   ·simp only [vr] at hv ⊢; subst hv; exact ⟨none, 0, 0, rfl, Nat.le_refl _, by omega, trivial, fun i hi => by omega⟩
   ·simp only [vr] at hv ⊢; obtain ⟨az, h1, h2⟩ := hv; exact ⟨az, h1, ih h2⟩
   ·simp only [vr] at hv ⊢; obtain ⟨us, vs, h1, h2, h3⟩ := hv; exact ⟨us, vs, h1, ih h2, ih h3⟩
   ·rename_i k off
    rw [av]
    split
    ·rename_i cs ty hk
     rw [aJ]
     cases hb : Nat.ble off cs.length with
     | false => simp only [cond, vr]
     | true =>
       have hle := Nat.le_of_ble_eq_true hb
       simp only [cond]
       obtain ⟨b, c0, e0, az, h1, h2, h3⟩ := hh.blk k _ hk
       simp only [vr] at hv ⊢
       obtain ⟨b', c', e', g1, rfl⟩ := hv
       rw [h1] at g1
       obtain ⟨rfl, rfl, rfl⟩ : b = b' /\ c0 = c' /\ e0 = e' := by simpa using g1
       have hl := aF h3
       refine ⟨.l b off, az.drop off, rfl, by simp [okP, h2, isCells], ?_, ihc (cX _ h3), j7 _ _⟩
       simp only [lds, h2, List.length_map, List.length_drop]
       rw [if_pos (by omega), List.take_of_length_le (by simp; omega)]
    ·simp only [vr]
   ·rename_i k n
    rw [av]
    split
    ·rename_i e n' f ty hk
     cases hb : Nat.ble n n' with
     | false => simp only [cond, vr]
     | true =>
       have hle := Nat.le_of_ble_eq_true hb
       simp only [cond]
       have hb := hh.blk k _ hk
       simp only [vr] at hv ⊢
       rcases hb with ⟨h1, h2⟩ | ⟨b, c, az, h1, h2, h3, h4, h5⟩
       ·rcases hv with ⟨_, g2, rfl⟩ | ⟨b, c, e, g1, _⟩
        ·subst g2; exact ⟨none, 0, 0, rfl, Nat.le_refl _, by omega, trivial, fun i hi => by omega⟩
        ·rw [h1] at g1; cases g1
       ·rcases hv with ⟨g1, _⟩ | ⟨b', c', e', g1, rfl, g3⟩
        ·rw [h1] at g1; cases g1
        ·rw [h1] at g1
         obtain ⟨rfl, rfl, rfl⟩ : b = b' /\ c = c' /\ e = e' := by simpa using g1
         refine ⟨some (.l b 0), c, e, rfl, g3, by omega, ⟨az, ty, h2, Nat.zero_le _⟩, fun i hi => ?_⟩
         have hi' : i * e + e <= az.length := by
          rw [h3, ← Nat.succ_mul]; exact Nat.mul_le_mul_right e (by omega)
         refine ⟨_, _, rfl, ?_, ihc (h5 i (by omega)).2, j7 _ _⟩
         simp only [Ptr.add, lds, h2, Nat.zero_add]
         rw [if_pos (by omega)]
    ·simp only [vr]
   ·rename_i k off n c
    rw [av]
    split
    ·rename_i cs ty hk
     rw [aJ]
     cases hb : (Nat.ble n 9223372036854775807 && (Nat.ble n c && Nat.ble (off + n * ((cs.length - off) / c)) cs.length)) with
     | false => simp only [cond, vr]
     | true =>
       simp only [Bool.and_eq_true] at hb
       have b1 := Nat.le_of_ble_eq_true hb.1
       have b2 := Nat.le_of_ble_eq_true hb.2.1
       have b3 := Nat.le_of_ble_eq_true hb.2.2
       simp only [cond]
       obtain ⟨b, c0, e0, az, h1, h2, h3⟩ := hh.blk k _ hk
       simp only [vr] at hv ⊢
       obtain ⟨b', c', e', g1, rfl⟩ := hv
       rw [h1] at g1
       obtain ⟨rfl, rfl, rfl⟩ : b = b' /\ c0 = c' /\ e0 = e' := by simpa using g1
       have hl := aF h3
       refine ⟨some (.l b off), c, (cs.length - off) / c, rfl, ⟨b2, b2⟩, b1, ⟨az, ty, h2, by omega⟩, fun i hi => ?_⟩
       have hi' : off + i * ((cs.length - off) / c) + (cs.length - off) / c <= cs.length := by
        have : (i + 1) * ((cs.length - off) / c) <= n * ((cs.length - off) / c) := Nat.mul_le_mul_right _ (by omega)
        rw [Nat.succ_mul] at this
        omega
       refine ⟨_, _, rfl, ?_, dw _ (cX _ (ihc h3)), sR _ _ (j7 _ _)⟩
       simp only [Ptr.add, lds, h2]
       rw [if_pos (by omega)]
    ·simp only [vr]
   ·simp only [vr]
theorem xD (hz : zle ν.z lh) {v : V} {a : ab} (hv : vr w0 ν.z ν v a) : vr w0 lh Nu.nil (qr v) a := by
 unfold qr
 split
 ·simp only [vr] at hv ⊢; exact hv
 ·simp only [vr] at hv ⊢; exact hv
 ·simp only [vr] at hv ⊢; exact hv
 ·simp only [vr] at hv ⊢; exact hv
 ·exact ly hz _ _ (by simp only [vr] at hv ⊢; exact hv)
 ·exact ly hz _ _ (by simp only [vr] at hv ⊢; exact hv)
 ·simp only [vr]
theorem yC (v : V) : (qr v).fc = true := by cases v <;> rfl
theorem uv (l : List V) : (l.map qr).all V.fc = true := by
 rw [List.all_eq_true]; intro x hx
 rw [List.mem_map] at hx
 obtain ⟨v, _, rfl⟩ := hx
 exact yC _
def okS (l : List (Nat × Nat)) : Prop := ∀ p, p ∈ l -> p.1 <= p.2
theorem sO {a b : List (Nat × Nat)} (h : okS (ml a b)) : okS a /\ okS b := by
 rw [fl] at h
 exact ⟨fun p hp => h p (List.mem_append_left _ hp), fun p hp => h p (List.mem_append_right _ hp)⟩
theorem sh {α : Type} {LP : cg} {Q : α -> Prop} : ∀ {l : List (Nat × Nat)} {x : T α}, sat LP (obs l x) Q -> okS l /\ sat LP x Q
 | [], x, h => ⟨(fun p hp => by cases hp), h⟩
 | p :: l, x, h => by
   simp only [obs, sat] at h
   obtain ⟨h1, h2⟩ := sh h.2
   refine ⟨fun q hq => ?_, h2⟩
   rcases List.mem_cons.1 hq with rfl | hq
   ·exact Nat.le_of_ble_eq_true h.1
   ·exact h1 q hq
theorem ru (hh : HR w0 ν nV nS h lh) {k n : Nat} {a : ab} (hm : okS (tt h k n)) (hv : vr w0 ν.z ν (.gs k n) a) : vr w0 lh Nu.nil (ub h k n) a := by
 unfold tt at hm
 unfold ub
 rw [av] at hm ⊢
 split
 ·rename_i e n' f ty hk
  rw [hk] at hm
  have hle : n <= n' := hm (n, n') List.mem_cons_self
  have hb := hh.blk k _ hk
  simp only [vr] at hv ⊢
  rcases hb with ⟨h1, h2⟩ | ⟨b, c, az, h1, h2, h3, h4, h5⟩
  ·rcases hv with ⟨_, g2, rfl⟩ | ⟨b, c, e, g1, _⟩
   ·subst g2; exact ⟨none, 0, 0, rfl, Nat.le_refl _, by omega, trivial, fun i hi => by omega⟩
   ·rw [h1] at g1; cases g1
  ·rcases hv with ⟨g1, _⟩ | ⟨b', c', e', g1, rfl, g3⟩
   ·rw [h1] at g1; cases g1
   ·rw [h1] at g1
    obtain ⟨rfl, rfl, rfl⟩ : b = b' /\ c = c' /\ e = e' := by simpa using g1
    refine ⟨some (.l b 0), c, e, rfl, g3, by omega, ⟨az, ty, h2, Nat.zero_le _⟩, fun i hi => ?_⟩
    have hi' : i * e + e <= az.length := by
     rw [h3, ← Nat.succ_mul]; exact Nat.mul_le_mul_right e (by omega)
    refine ⟨_, _, rfl, ?_, lI (fun v a hv => xD hh.zl hv) (h5 i (by omega)).2, uv _⟩
    simp only [Ptr.add, lds, h2, Nat.zero_add]
    rw [if_pos (by omega)]
 ·simp only [vr]
theorem xP (hh : HR w0 ν nV nS h lh) {v : V} {a : ab} (hb : okS (AK h v)) (hv : vr w0 ν.z ν v a) : vr w0 lh Nu.nil (uc h v) a := by
 unfold uc
 split
 ·exact ru hh hb hv
 ·exact jN hh 11 _ a hv
theorem nL (hh : HR w0 ν nV nS h lh) : ∀ {vs : List V} {az : List ab}, okS (rS h vs) -> vrs w0 ν.z ν vs az -> vrs w0 lh Nu.nil (vs.map (uc h)) az
 | [], az, _, hv => by simp only [vrs, List.map_nil] at hv ⊢; exact hv
 | v :: vs, az, hb, hv => by
   have hb := sO hb
   simp only [vrs] at hv
   obtain ⟨x, xs, rfl, h1, h2⟩ := hv
   simp only [List.map_cons, vrs]; exact ⟨_, _, rfl, xP hh hb.1 h1, nL hh hb.2 h2⟩
theorem yr (hh : HR w0 ν nV nS h lh) {v : V} {a : ab} (hb : okS (AJ h v)) (hv : vr w0 ν.z ν v a) : vr w0 lh Nu.nil (qC h v) a := by
 unfold qC
 split
 ·exact ru hh hb hv
 ·simp only [vr] at hv ⊢
  obtain ⟨az, h1, h2⟩ := hv
  exact ⟨az, h1, nL hh hb h2⟩
 ·exact jN hh 12 _ a hv
theorem lX (hh : HR w0 ν nV nS h lh) : ∀ {vs : List V} {az : List ab}, okS (o4 h vs) -> vrs w0 ν.z ν vs az -> vrs w0 lh Nu.nil (vs.map (qC h)) az
 | [], az, _, hv => by simp only [vrs, List.map_nil] at hv ⊢; exact hv
 | v :: vs, az, hb, hv => by
   have hb := sO hb
   simp only [vrs] at hv
   obtain ⟨x, xs, rfl, h1, h2⟩ := hv
   simp only [List.map_cons, vrs]; exact ⟨_, _, rfl, yr hh hb.1 h1, lX hh hb.2 h2⟩
end
end Go.Dx
namespace Go.Sx
section
variable {P : Program} {S : FuncId -> aP} {w0 : World}
theorem dc (hS : ∀ f, (S f).Ok P f) : ∀ (ops : List SOp) (sl : List ab) (lh : List ac) {K K' : List ab -> List ac -> Prop}, (∀ s l, K s l -> K' s l) -> bX w0 S ops sl lh K -> bX w0 S ops sl lh K'
 | [], _, _, _, _, hk, h => hk _ _ h
 | o :: rest, sl, lh, K, K', hk, h => by
   have ih := fun sl lh => dc hS rest sl lh hk
   simp only [bX] at h ⊢
   split at h
   ·exact ck hS (fun _ _ => ih _ _) h
   ·split at h
    ·exact ⟨fun e => ck hS (fun _ _ => ih _ _) (h.1 e), fun e => ih _ _ (h.2 e)⟩
    ·exact ih _ _ h
    ·exact ih _ _ h
    ·exact h.elim
theorem ep (hS : ∀ f, (S f).Ok P f) {Q : Prop} : ∀ (ops : List SOp) (sl : List ab) (lh : List ac), bX w0 S ops sl lh (fun _ _ => Q) -> Q
 | [], _, _, h => h
 | o :: rest, sl, lh, h => by
   have ih := fun sl lh => ep hS (Q := Q) rest sl lh
   simp only [bX] at h
   split at h
   ·exact gb hS (ck hS (fun _ _ => ih _ _) h)
   ·rename_i d want _
    split at h
    ·rename_i b _
     by_cases e : b = want
     ·exact gb hS (ck hS (fun _ _ => ih _ _) (h.1 e))
     ·exact ih _ _ (h.2 (by cases b <;> cases want <;> simp_all))
    ·exact ih _ _ h
    ·exact ih _ _ h
    ·exact h.elim
theorem kP (hS : ∀ f, (S f).Ok P f) {Ws : List (List Nat)} {n0 : Nat} {K K' : List ab -> List ac -> Prop} (hk : ∀ s l, K s l -> K' s l) : ∀ (ds : List DOp) (i : Nat) (sl : List ab) (lh : List ac), cZ w0 S Ws n0 K ds i sl lh -> cZ w0 S Ws n0 K' ds i sl lh
 | [], _, _, _, h => hk _ _ h
 | d :: rest, i, sl, lh, h => ni hS (fun s l => kP hS hk rest (i + 1) s l) h
theorem iK (hS : ∀ f, (S f).Ok P f) {Ws : List (List Nat)} {n0 : Nat} {Q : Prop} : ∀ (ds : List DOp) (i : Nat) (sl : List ab) (lh : List ac), cZ w0 S Ws n0 (fun _ _ => Q) ds i sl lh -> Q
 | [], _, _, _, h => h
 | d :: rest, i, sl, lh, h => gO hS (eD hS (fun _ => iK hS rest (i + 1) _ _) h)
theorem fv (hS : ∀ f, (S f).Ok P f) {ds : List DOp} {sl : List ab} {lh : List ac} {K K' : List ab -> List ac -> Prop} (hk : ∀ s l, K s l -> K' s l) (h : gI w0 S ds sl lh K) : gI w0 S ds sl lh K' := ⟨h.1, kP hS hk ds 0 _ _ h.2⟩
theorem iG (hS : ∀ f, (S f).Ok P f) {ds : List DOp} {sl : List ab} {lh : List ac} {Q : Prop} (h : gI w0 S ds sl lh (fun _ _ => Q)) : Q := iK hS ds 0 _ _ h.2
section it
variable {l : Nat} {Y : YH}
theorem eA (hS : ∀ f, (S f).Ok P f) (hY : ∀ xs lh K K', (∀ x l, K x l -> K' x l) -> Y xs lh K -> Y xs lh K') : ∀ (ops : List jP) (sl : List ab) (lh : List ac) (g : Option Ex) {K K' : List ab -> List ac -> Option Ex -> Prop}, (∀ s l g, K s l g -> K' s l g) -> ca w0 S l Y ops sl lh g K -> ca w0 S l Y ops sl lh g K'
 | [], _, _, _, _, _, hk, h => hk _ _ _ h
 | .op o :: rest, sl, lh, g, _, _, hk, h => by
   simp only [ca] at h ⊢
   exact dc hS _ _ _ (fun _ _ => eA hS hY rest _ _ g hk) h
 | .yld t d xs :: rest, sl, lh, g, _, _, hk, h => by
   simp only [ca] at h ⊢
   refine ⟨h.1, h.2.1, hY _ _ _ _ (fun x l hx => ?_) h.2.2⟩
   cases x <;> exact eA hS hY rest _ _ _ hk hx
theorem eX (hS : ∀ f, (S f).Ok P f) (hY : ∀ xs lh K K', (∀ x l, K x l -> K' x l) -> Y xs lh K -> Y xs lh K') (hY' : ∀ xs lh (Q : Prop), Y xs lh (fun _ _ => Q) -> Q) {Q : Prop} : ∀ (ops : List jP) (sl : List ab) (lh : List ac) (g : Option Ex), ca w0 S l Y ops sl lh g (fun _ _ _ => Q) -> Q
 | [], _, _, _, h => h
 | .op o :: rest, sl, lh, g, h => by
   simp only [ca] at h
   exact ep hS _ _ _ (dc hS _ _ _ (fun _ _ => eX hS hY hY' rest _ _ g) h)
 | .yld t d xs :: rest, sl, lh, g, h => by
   simp only [ca] at h
   refine hY' _ _ _ (hY _ _ _ _ (fun x l hx => ?_) h.2.2)
   cases x <;> exact eX hS hY hY' rest _ _ _ hx
theorem vw (hS : ∀ f, (S f).Ok P f) (hY : ∀ xs lh K K', (∀ x l, K x l -> K' x l) -> Y xs lh K -> Y xs lh K') : ∀ (c : dG) (sl : List ab) (lh : List ac) (g : Option Ex) {Q Q' : IQ}, (∀ x s l g, Q x s l g -> Q' x s l g) -> eU w0 S l Y c sl lh g Q -> eU w0 S l Y c sl lh g Q' := by
 intro c
 induction c with
 | reg ops => intro sl lh g Q Q' hq h; exact eA hS hY ops sl lh g (fun _ _ _ => hq _ _ _ _) h
 | draw ds => intro sl lh g Q Q' hq h; exact fv hS (fun _ _ => hq _ _ _ _) h
 | seq a b iha ihb =>
   intro sl lh g Q Q' hq h
   refine iha sl lh g (fun x s l g hx => ?_) h
   cases x with
   | normal => exact ihb _ _ _ hq hx
   | exit i => exact hq _ _ _ _ hx
   | ret => exact hq _ _ _ _ hx
 | cond c a b iha ihb =>
   intro sl lh g Q Q' hq h
   simp only [eU] at h ⊢
   split at h
   ·exact ⟨fun e => iha _ _ _ hq (h.1 e), fun e => ihb _ _ _ hq (h.2 e)⟩
   ·exact h.elim
 | block id b ih =>
   intro sl lh g Q Q' hq h
   refine ih sl lh g (fun x s l g hx => ?_) h
   cases x with
   | normal => exact hq _ _ _ _ hx
   | ret => exact hq _ _ _ _ hx
   | exit i => simp only [nq] at hx ⊢; split at hx <;> rename_i e <;> simp only [e, if_true, if_false] <;> exact hq _ _ _ _ hx
 | loop b ih =>
   intro sl lh g Q Q' hq h
   simp only [eU] at h ⊢
   obtain ⟨ι, shs, shl, shg, μ, i0, h1, h2, h3, hr⟩ := h
   refine ⟨ι, shs, shl, shg, μ, i0, h1, h2, h3, fun i => ih _ _ _ (fun x s l g hx => ?_) (hr i)⟩
   cases x with
   | normal => exact hx
   | exit i => exact hq _ _ _ _ hx
   | ret => exact hq _ _ _ _ hx
 | scope b ih => intro sl lh g Q Q' hq h; exact ih sl lh g hq h
 | skip => intro sl lh g Q Q' hq h; exact hq _ _ _ _ h
 | exit i => intro sl lh g Q Q' hq h; exact hq _ _ _ _ h
 | ret => intro sl lh g Q Q' hq h; exact hq _ _ _ _ h
theorem pH (hS : ∀ f, (S f).Ok P f) (hY : ∀ xs lh K K', (∀ x l, K x l -> K' x l) -> Y xs lh K -> Y xs lh K') (hY' : ∀ xs lh (Q : Prop), Y xs lh (fun _ _ => Q) -> Q) {R : Prop} : ∀ (c : dG) (sl : List ab) (lh : List ac) (g : Option Ex) {Q : IQ}, (∀ x s l g, Q x s l g -> R) -> eU w0 S l Y c sl lh g Q -> R := by
 intro c
 induction c with
 | reg ops => intro sl lh g Q hq h; exact eX hS hY hY' ops sl lh g (eA hS hY ops sl lh g (fun _ _ _ => hq _ _ _ _) h)
 | draw ds => intro sl lh g Q hq h; exact iG hS (fv hS (K' := fun _ _ => R) (fun _ _ => hq _ _ _ _) h)
 | seq a b iha ihb =>
   intro sl lh g Q hq h
   refine iha sl lh g (fun x s l g hx => ?_) h
   cases x with
   | normal => exact ihb _ _ _ hq hx
   | exit i => exact hq _ _ _ _ hx
   | ret => exact hq _ _ _ _ hx
 | cond c a b iha ihb =>
   intro sl lh g Q hq h
   simp only [eU] at h
   split at h
   ·rename_i t _
    cases t with
    | true => exact iha _ _ _ hq (h.1 rfl)
    | false => exact ihb _ _ _ hq (h.2 rfl)
   ·exact h.elim
 | block id b ih =>
   intro sl lh g Q hq h
   refine ih sl lh g (fun x s l g hx => ?_) h
   cases x with
   | normal => exact hq _ _ _ _ hx
   | ret => exact hq _ _ _ _ hx
   | exit i => simp only [nq] at hx; split at hx <;> exact hq _ _ _ _ hx
 | loop b ih =>
   intro sl lh g Q hq h
   simp only [eU] at h
   obtain ⟨ι, shs, shl, shg, μ, i0, h1, h2, h3, hr⟩ := h
   have key : ∀ k i, μ i = k -> R := fun k => by
    induction k using Nat.strongRecOn with
    | _ k ihk =>
      intro i hi
      refine ih _ _ _ (fun x s l g hx => ?_) (hr i)
      cases x with
      | normal => obtain ⟨i', _, _, _, hlt⟩ := hx; exact ihk _ (by rw [← hi]; exact hlt) i' rfl
      | exit i => exact hq _ _ _ _ hx
      | ret => exact hq _ _ _ _ hx
   exact key _ i0 rfl
 | scope b ih => intro sl lh g Q hq h; exact ih sl lh g hq h
 | skip => intro sl lh g Q hq h; exact hq _ _ _ _ h
 | exit i => intro sl lh g Q hq h; exact hq _ _ _ _ h
 | ret => intro sl lh g Q hq h; exact hq _ _ _ _ h
end it
theorem fN (hS : ∀ f, (S f).Ok P f) : ∀ (t : OT) (sl : List ab) (lh : List ac) {K K' : List ab -> List ac -> Prop}, (∀ s l, K s l -> K' s l) -> kI w0 S t sl lh K -> kI w0 S t sl lh K'
 | .done, sl, lh, K, K', hk, h => hk _ _ h
 | .op o r, sl, lh, K, K', hk, h => dc hS [o] sl lh (fun s l h => fN hS r s l hk h) h
 | .alt a b, sl, lh, K, K', hk, h => ⟨fN hS a sl lh hk h.1, fN hS b sl lh hk h.2⟩
theorem gU (hS : ∀ f, (S f).Ok P f) : ∀ (t : OT) (sl : List ab) (lh : List ac) {R : Prop}, kI w0 S t sl lh (fun _ _ => R) -> R
 | .done, sl, lh, R, h => h
 | .op o r, sl, lh, R, h => ep hS [o] sl lh (dc hS [o] sl lh (K' := fun _ _ => R) (fun s l h => gU hS r s l h) h)
 | .alt a b, sl, lh, R, h => gU hS a sl lh h.1
theorem oC (hS : ∀ f, (S f).Ok P f) : ∀ (c : cK), (∀ (nb : Nat) (sl : List ab) (lh : List ac) {Q Q' : Ex -> List ab -> List ac -> Prop}, (∀ x s l, Q x s l -> Q' x s l) -> aR w0 S nb c sl lh Q -> aR w0 S nb c sl lh Q') /\
 ∀ (nb : Nat) (sl : List ab) (lh : List ac) {Q : Ex -> List ab -> List ac -> Prop} {R : Prop}, (∀ x s l, Q x s l -> R) -> aR w0 S nb c sl lh Q -> R := by
 intro c
 induction c with
 | reg ops => exact ⟨fun nb sl lh Q Q' hq h => dc hS ops sl lh (fun _ _ => hq _ _ _) h, fun nb sl lh Q R hq h => ep hS ops sl lh (dc hS ops sl lh (fun _ _ => hq _ _ _) h)⟩
 | allo t => exact ⟨fun nb sl lh Q Q' hq h => fN hS t sl lh (fun _ _ => hq _ _ _) h, fun nb sl lh Q R hq h => gU hS t sl lh (fN hS t sl lh (K' := fun _ _ => R) (fun _ _ => hq _ _ _) h)⟩
 | draw ds => exact ⟨fun nb sl lh Q Q' hq h => fv hS (fun _ _ => hq _ _ _) h, fun nb sl lh Q R hq h => iG hS (fv hS (K' := fun _ _ => R) (fun _ _ => hq _ _ _) h)⟩
 | seq a b iha ihb =>
   refine ⟨fun nb sl lh Q Q' hq h => iha.1 nb sl lh (fun x s l hx => ?_) h, fun nb sl lh Q R hq h => iha.2 nb sl lh (fun x s l hx => ?_) h⟩
   ·cases x with
    | normal => exact ihb.1 nb _ _ hq hx
    | exit i => exact hq _ _ _ hx
    | ret => exact hq _ _ _ hx
   ·cases x with
    | normal => exact ihb.2 nb _ _ hq hx
    | exit i => exact hq _ _ _ hx
    | ret => exact hq _ _ _ hx
 | cond c a b iha ihb =>
   refine ⟨fun nb sl lh Q Q' hq h => ?_, fun nb sl lh Q R hq h => ?_⟩
   ·simp only [aR] at h ⊢
    split at h
    ·exact ⟨fun e => iha.1 nb _ _ hq (h.1 e), fun e => ihb.1 nb _ _ hq (h.2 e)⟩
    ·exact h.elim
   ·simp only [aR] at h
    split at h
    ·rename_i t _
     cases t with
     | true => exact iha.2 nb _ _ hq (h.1 rfl)
     | false => exact ihb.2 nb _ _ hq (h.2 rfl)
    ·exact h.elim
 | block id b ih =>
   refine ⟨fun nb sl lh Q Q' hq h => ih.1 nb sl lh (fun x s l hx => ?_) h, fun nb sl lh Q R hq h => ih.2 nb sl lh (fun x s l hx => ?_) h⟩
   ·cases x with
    | normal => exact hq _ _ _ hx
    | ret => exact hq _ _ _ hx
    | exit i => simp only [nr] at hx ⊢; split at hx <;> rename_i e <;> simp only [e, if_true, if_false] <;> exact hq _ _ _ hx
   ·cases x with
    | normal => exact hq _ _ _ hx
    | ret => exact hq _ _ _ hx
    | exit i => simp only [nr] at hx; split at hx <;> exact hq _ _ _ hx
 | loop b ih =>
   refine ⟨fun nb sl lh Q Q' hq h => ?_, fun nb sl lh Q R hq h => ?_⟩
   ·simp only [aR] at h ⊢
    obtain ⟨ι, shs, shl, μ, i0, h1, hr⟩ := h
    refine ⟨ι, shs, shl, μ, i0, h1, fun i => ih.1 nb _ _ (fun x s l hx => ?_) (hr i)⟩
    cases x with
    | normal => exact hx
    | exit i => exact hq _ _ _ hx
    | ret => exact hq _ _ _ hx
   ·simp only [aR] at h
    obtain ⟨ι, shs, shl, μ, i0, h1, hr⟩ := h
    have key : ∀ k i, μ i = k -> R := fun k => by
     induction k using Nat.strongRecOn with
     | _ k ihk =>
       intro i hi
       refine ih.2 nb _ _ (fun x s l hx => ?_) (hr i)
       cases x with
       | normal => obtain ⟨i', _, hlt⟩ := hx; exact ihk _ (by rw [← hi]; exact hlt) i' rfl
       | exit i => exact hq _ _ _ hx
       | ret => exact hq _ _ _ hx
    exact key _ i0 rfl
 | scope b ih => exact ⟨fun nb sl lh Q Q' hq h => ih.1 nb sl lh hq h, fun nb sl lh Q R hq h => ih.2 nb sl lh hq h⟩
 | skip => exact ⟨fun nb sl lh Q Q' hq h => hq _ _ _ h, fun nb sl lh Q R hq h => hq _ _ _ h⟩
 | exit i => exact ⟨fun nb sl lh Q Q' hq h => hq _ _ _ h, fun nb sl lh Q R hq h => hq _ _ _ h⟩
 | ret => exact ⟨fun nb sl lh Q Q' hq h => hq _ _ _ h, fun nb sl lh Q R hq h => hq _ _ _ h⟩
 | range g ps asg body its iha ihb =>
   have hY : ∀ (sl xs : List ab) (lh : List ac) (K K' : Ex -> List ac -> Prop), (∀ x l, K x l -> K' x l) -> (xs.length = ps.length /\ aR w0 S lh.length asg (ft sl ps xs) lh (lr (fun sl lh' => aR w0 S lh.length body sl lh' fun x _ lh => K x lh) fun _ _ _ => False)) -> (xs.length = ps.length /\ aR w0 S lh.length asg (ft sl ps xs) lh (lr (fun sl lh' => aR w0 S lh.length body sl lh' fun x _ lh => K' x lh) fun _ _ _ => False)) := fun sl xs lh K K' hk h => by
    refine ⟨h.1, iha.1 _ _ _ (fun x s l hx => ?_) h.2⟩
    cases x with
    | normal => exact ihb.1 _ _ _ (fun _ _ _ => hk _ _) hx
    | exit i => exact hx
    | ret => exact hx
   have hY' : ∀ (sl xs : List ab) (lh : List ac) (Q : Prop), (xs.length = ps.length /\ aR w0 S lh.length asg (ft sl ps xs) lh (lr (fun sl lh' => aR w0 S lh.length body sl lh' fun _ _ _ => Q) fun _ _ _ => False)) -> Q := fun sl xs lh Q h => by
    refine iha.2 _ _ _ (fun x s l hx => ?_) h.2
    cases x with
    | normal => exact ihb.2 _ _ _ (fun _ _ _ h => h) hx
    | exit i => exact hx.elim
    | ret => exact hx.elim
   refine ⟨fun nb sl lh Q Q' hq h => ?_, fun nb sl lh Q R hq h => ?_⟩
   ·simp only [aR] at h ⊢
    split at h
    ·split at h
     ·exact fun l => vw hS (fun xs lh K K' => hY sl xs lh K K') _ _ _ _ (fun x s l g hx => by cases x <;> cases g <;> first | exact hx | exact hq _ _ _ hx) (h l)
     ·exact h.elim
    ·exact h.elim
   ·simp only [aR] at h
    split at h
    ·split at h
     ·exact pH hS (fun xs lh K K' => hY sl xs lh K K') (fun xs lh Q => hY' sl xs lh Q) _ _ _ _ (fun x s l g hx => by cases x <;> cases g <;> first | exact hx.elim | exact hq _ _ _ hx) (h 0)
     ·exact h.elim
    ·exact h.elim
theorem fW : ∀ (rs : List oW) (sl : List ab) (lh : List ac) {K K' : List ab -> Prop}, (∀ vs, K vs -> K' vs) -> dU w0 sl lh rs K -> dU w0 sl lh rs K'
 | [], _, _, _, _, hk, h => hk _ h
 | .tmp t :: l, sl, lh, _, _, hk, h => fW l sl lh (fun _ => hk _) h
 | .cell t n :: l, sl, lh, _, _, hk, h => by
   simp only [dU] at h ⊢
   split at h
   ·split at h
    ·obtain ⟨v, h1, h2⟩ := h; exact ⟨v, h1, fW l sl lh (fun _ => hk _) h2⟩
    ·obtain ⟨v, h1, h2⟩ := h; exact ⟨v, h1, fW l sl lh (fun _ => hk _) h2⟩
   ·exact h.elim
theorem ew {R : Prop} : ∀ (rs : List oW) (sl : List ab) (lh : List ac), dU w0 sl lh rs (fun _ => R) -> R
 | [], _, _, h => h
 | .tmp t :: l, sl, lh, h => ew l sl lh h
 | .cell t n :: l, sl, lh, h => by
   simp only [dU] at h
   split at h
   ·split at h
    ·obtain ⟨v, h1, h2⟩ := h; exact ew l sl lh h2
    ·obtain ⟨v, h1, h2⟩ := h; exact ew l sl lh h2
   ·exact h.elim
def wi (S : FuncId -> aP) (sf : aw) : aP := fun w0 args lh K => tC w0 S sf args lh K
theorem zX {eqs : List TypeId} {its : List e9} {f : FuncId} {fn : Func} {sf : aw} (hS : ∀ g, (S g).Ok P g) (hE : ∀ t ∈ eqs, bU P t) (hI : lf P eqs its) (hf : P.funcs[f]? = some fn) (hn : (fn.name == "runtime.NumGoroutine") = false) (hc : dN P eqs its fn = some sf) : (wi S sf).Ok P f := by
 have mono : ∀ w0 args lh K K', (∀ r l, K r l -> K' r l) -> wi S sf w0 args lh K -> wi S sf w0 args lh K' := fun w0 args lh K K' hk h =>
  (oC hS sf.body).1 _ _ _ (fun x s l hx => by cases x <;> first | exact hx | exact fW _ _ _ (fun _ => hk _ _) hx) h
 refine ⟨ow hS hE hI hf hn hc fun w0 args lh K _ _ h => ?_, mono, fun w0 args lh Q h => (oC hS sf.body).2 _ _ _ (fun x s l hx => by cases x <;> first | exact hx.elim | exact ew _ _ _ hx) h⟩
 exact mono w0 args lh K _ (fun r l hk => ⟨r, l, .inl ⟨rfl, by unfold hJ; exact ⟨.inr rfl, by simp [hJ]⟩⟩, hk⟩) h
end
end Go.Sx
namespace Go.Dx
open Go.Sx
mutual
def toA : V -> ab
 | .int k n => .int k n
 | .bool b => .bool b
 | .kb b => .bool b
 | .str s => .str s
 | .agg cs => .agg (dF cs)
 | .tup cs => .tup (dF cs)
 | .sl n f => .fn (.func 0) [] ((List.range n).map fun i => .agg (dF (f i)))
 | _ => .any
def dF : List V -> List ab
 | [] => []
 | v :: vs => toA v :: dF vs
end
section
variable {w0 : World} {lh : List ac} {ν : Nu}
theorem fS : ∀ {v : V}, aM (toA v) = true -> ∀ a, vr w0 lh ν v a ↔ a = toA v
 | .int .., _, a => by simp only [vr, toA]
 | .bool _, _, a => by simp only [vr, toA]
 | .kb _, _, a => by simp only [vr, toA]
 | .str _, _, a => by simp only [vr, toA]
 | .agg _, h, _ => by simp [toA, aM] at h
 | .tup _, h, _ => by simp [toA, aM] at h
 | .fn .., h, _ => by simp [toA, aM] at h
 | .sl .., h, _ => by simp [toA, aM] at h
 | .pd .., h, _ => by simp [toA, aM] at h
 | .pl .., h, _ => by simp [toA, aM] at h
 | .pe .., h, _ => by simp [toA, aM] at h
 | .ss .., h, _ => by simp [toA, aM] at h
 | .gs .., h, _ => by simp [toA, aM] at h
 | .ns, h, _ => by simp [toA, aM] at h
 | .np, h, _ => by simp [toA, aM] at h
 | .any, h, _ => by simp [toA, aM] at h
 | .gd .., h, _ => by simp [toA, aM] at h
 | .yl _, h, _ => by simp [toA, aM] at h
 | .go .., h, _ => by simp [toA, aM] at h
 | .sq .., h, _ => by simp [toA, aM] at h
theorem di : ∀ {vs : List V}, (dF vs).all aM = true -> ∀ az, vrs w0 lh ν vs az ↔ az = dF vs
 | [], _, az => by simp only [vrs, dF]
 | v :: vs, h, az => by
   simp only [dF, List.all_cons, Bool.and_eq_true] at h
   simp only [vrs, dF]
   constructor
   ·rintro ⟨x, xs, rfl, h1, h2⟩; rw [(fS h.1 x).1 h1, (di h.2 xs).1 h2]
   ·rintro rfl; exact ⟨_, _, rfl, (fS h.1 _).2 rfl, (di h.2 _).2 rfl⟩
theorem i9 {v : V} (h : (match toA v with | .agg ds => ds.all aM | a => aM a) = true) (a : ab) : vr w0 lh ν v a ↔ a = toA v := by
 cases v with
 | agg cs =>
   simp only [toA] at h
   simp only [vr, toA]
   constructor
   ·rintro ⟨az, rfl, h1⟩; rw [(di h az).1 h1]
   ·rintro rfl; exact ⟨_, rfl, (di h _).2 rfl⟩
 | _ => first | exact fS (by simpa [toA] using h) a | (simp [toA, aM] at h)
theorem fV : ∀ {vs : List V}, ((dF vs).all fun | .agg ds => ds.all aM | a => aM a) = true -> ∀ az, vrs w0 lh ν vs az ↔ az = dF vs
 | [], _, az => by simp only [vrs, dF]
 | v :: vs, h, az => by
   simp only [dF, List.all_cons, Bool.and_eq_true] at h
   simp only [vrs, dF]
   constructor
   ·rintro ⟨x, xs, rfl, h1, h2⟩; rw [(i9 h.1 x).1 h1, (fV h.2 xs).1 h2]
   ·rintro rfl; exact ⟨_, _, rfl, (i9 h.1 _).2 rfl, (fV h.2 _).2 rfl⟩
theorem ou {v : V} (h : gW (toA v) = true) (a : ab) : vr w0 lh ν v a ↔ a = toA v := by
 cases v with
 | tup cs =>
   simp only [toA, gW] at h
   simp only [vr, toA]
   constructor
   ·rintro ⟨az, rfl, h1⟩; rw [(fV h az).1 h1]
   ·rintro rfl; exact ⟨_, rfl, (fV h _).2 rfl⟩
 | agg cs => exact i9 (by simpa [toA, gW] using h) a
 | _ => first | exact fS (by simpa [toA, gW] using h) a | (simp [toA, gW, aM] at h)
end
theorem qH : ∀ vs : List V, (dF vs).length = vs.length
 | [] => by simp [dF]
 | v :: vs => by simp [dF, qH vs]
def ny : V -> Option (Nat × (Nat -> List V))
 | .sl n f => some (n, f)
 | .tup (.sl n f :: _) => some (n, f)
 | _ => none
def BV : V -> List V
 | .tup (_ :: vs) => vs
 | _ => []
def AB (v : V) : V -> V
 | .tup (_ :: vs) => .tup (v :: vs)
 | _ => v
def tn (a : ab) : V -> ab
 | .tup (_ :: vs) => .tup (a :: dF vs)
 | _ => a
theorem pP {r : V} {n : Nat} {f : Nat -> List V} (h : ny r = some (n, f)) : r = .sl n f ∨ ∃ vs, r = .tup (.sl n f :: vs) := by
 unfold ny at h
 split at h
 ·cases h; exact .inl rfl
 ·cases h; exact .inr ⟨_, rfl⟩
 ·cases h
def okL (e : Nat) (r : V) : Prop := ∃ n f, ny r = some (n, f) /\ n <= 9223372036854775807 /\ (∀ i, i < n -> okE e (f i) = true /\ (dF (f i)).all aM = true) /\ (dF (BV r)).all aM = true
def DU (e : Nat) (ty : TypeId) (nb : Nat) (lh : List ac) (n : Nat) (f : FnV) (x : ab) : Prop :=
 (n = 0 /\ x = .slice none 0 0) ∨ ∃ b c az, nb <= b /\ lh[b]? = some (.cells az ty) /\ x = .slice (some (.l b 0)) n c /\ az.length = c * e /\ n <= c /\ ∀ i, i < n -> (az.drop (i * e)).take e = dF (f i)
theorem tf {e : Nat} {f : Nat -> List V} : ∀ {n : Nat}, (∀ i, i < n -> (dF (f i)).length = e) -> ((List.range n).flatMap fun i => dF (f i)).length = n * e /\ ∀ i, i < n -> (((List.range n).flatMap fun i => dF (f i)).drop (i * e)).take e = dF (f i)
 | 0, _ => ⟨by simp, fun i hi => by omega⟩
 | n + 1, h => by
   obtain ⟨h1, h2⟩ := tf (n := n) fun i hi => h i (by omega)
   rw [List.range_succ, List.flatMap_append]
   simp only [List.flatMap_cons, List.flatMap_nil, List.append_nil]
   have hn := h n (by omega)
   refine ⟨by rw [List.length_append, h1, hn, Nat.succ_mul], fun i hi => ?_⟩
   by_cases e1 : i = n
   ·subst e1
    rw [List.drop_append_of_le_length (by omega), List.drop_of_length_le (by omega), List.nil_append, List.take_of_length_le (by omega)]
   ·have hle : i * e + e <= n * e := by rw [← Nat.succ_mul]; exact Nat.mul_le_mul_right e (by omega)
    rw [List.drop_append_of_le_length (by omega), List.take_append_of_le_length (by rw [List.length_drop]; omega)]
    exact h2 i (by omega)
abbrev aI := List V -> Option ((List V × List V) × Prop × V)
inductive Ent where
 | con (C : aI)
 | conL (e : Nat) (ty : TypeId) (C : aI) (h : ∀ ds d p r, C ds = some (d, p, r) -> d.1 = d.2 -> p -> okL e r)
 | inl (sf : aw) (un : Unr)
abbrev bc := List (FuncId × Ent)
def gz : bc -> FuncId -> Option Ent
 | [], _ => none
 | (k, c) :: l, f => cond (Nat.beq f k) (some c) (gz l f)
def vP (C : aI) : aP := fun w0 args lh K => ∃ ds d p r, vrs w0 lh Nu.nil ds args /\ C ds = some (d, p, r) /\ (d.1 = d.2 /\ p) /\ gW (toA r) = true /\ K (toA r) lh
def vL (e : Nat) (ty : TypeId) (C : aI) : aP := fun w0 args lh K => ∃ ds d p r n f, vrs w0 lh Nu.nil ds args /\ C ds = some (d, p, r) /\ (d.1 = d.2 /\ p) /\ ny r = some (n, f) /\ okL e r /\ ∀ x new, DU e ty lh.length (lh ++ new) n f x -> K (tn x r) (lh ++ new)
def SV (ct : bc) : qk
 | 0, f => match gz ct f with
   | some (.con C) => vP C
   | some (.conL e ty C _) => vL e ty C
   | _ => yY
 | n + 1, f => match gz ct f with
   | some (.con C) => vP C
   | some (.conL e ty C _) => vL e ty C
   | some (.inl sf _) => wi (SV ct n) sf
   | none => yY
section
variable {α : Type}
def qg (C : aI) (vs : List V) (h : List O) (K : V -> T α) : T α := match C (vs.map (qC h)) with
 | none => .fail 81
 | some (d, p, r) => .obq d.1 d.2 (.obp p (.ob (gW (toA r)) (obs (o4 h vs) (K r))))
def oJ (e : Nat) (ty : TypeId) (C : aI) (vs : List V) (h : List O) (K : V -> List O -> T α) : T α := match C (vs.map (qC h)) with
 | none => .fail 81
 | some (d, p, r) => match ny r with
   | none => .fail 85
   | some (n, f) => .obq d.1 d.2 (.obp p (obs (o4 h vs) (K (AB (.gs (aK h) n) r) (qu h (.gl e n f ty)))))
def iY (ct : bc) : CP α := fun f vs h K => match gz ct f with
 | some (.con C) => qg C vs h K
 | _ => .fail 80
def iA (ct : bc) : Nat -> CF α
 | 0, f, vs, h, K => match gz ct f with
   | some (.con C) => qg C vs h fun v => K v h
   | some (.conL e ty C _) => oJ e ty C vs h K
   | _ => .fail 82
 | n + 1, f, vs, h, K => match gz ct f with
   | some (.con C) => qg C vs h fun v => K v h
   | some (.conL e ty C _) => oJ e ty C vs h K
   | some (.inl sf un) => nk (iA ct n) (iY ct) un n sf vs h K
   | none => .fail 83
theorem mf {w0 : World} {LP : cg} {C : aI} {vs : List V} {h : List O} {K : V -> T α} {Q : α -> Prop} {ν : Nu} {nV nS : Nat} {args : List ab} {lh : List ac} {KA : ab -> List ac -> Prop} (hv : vrs w0 ν.z ν vs args) (hh : HR w0 ν nV nS h lh) (hs : sat LP (qg C vs h K) Q)
 (hK : ∀ v a, vr w0 ν.z ν v a -> sat LP (K v) Q -> KA a lh) : vP C w0 args lh KA := by
 unfold qg at hs
 split at hs
 ·exact hs.elim
 ·rename_i d p r hr
  simp only [sat] at hs
  obtain ⟨hb, hs4⟩ := sh hs.2.2.2
  exact ⟨_, d, p, r, lX hh hb hv, hr, ⟨hs.1, hs.2.1⟩, hs.2.2.1, hK r (toA r) ((ou hs.2.2.1 _).2 rfl) hs4⟩
theorem nM {w0 : World} {LP : cg} {e : Nat} {ty : TypeId} {C : aI} (hC : ∀ ds d p r, C ds = some (d, p, r) -> d.1 = d.2 -> p -> okL e r) {vs : List V} {h : List O} {K : V -> List O -> T α} {Q : α -> Prop} {ν : Nu} {nV nS : Nat} {args : List ab} {lh : List ac} {KA : ab -> List ac -> Prop} (hv : vrs w0 ν.z ν vs args) (hh : HR w0 ν nV nS h lh) (hs : sat LP (oJ e ty C vs h K) Q)
 (hK : ∀ v h' ν' a lh', ν.sub ν' -> HR w0 ν' nV nS h' lh' -> vr w0 ν'.z ν' v a -> sat LP (K v h') Q -> KA a lh') : vL e ty C w0 args lh KA := by
 unfold oJ at hs
 split at hs
 ·exact hs.elim
 ·rename_i d p r hr
  split at hs
  ·exact hs.elim
  ·rename_i n f hl
   simp only [sat] at hs
   obtain ⟨hb, hs4⟩ := sh hs.2.2
   have ho := hC _ _ _ _ hr hs.1 hs.2.1
   refine ⟨_, d, p, r, n, f, lX hh hb hv, hr, ⟨hs.1, hs.2.1⟩, hl, ho, fun x new hx => ?_⟩
   obtain ⟨n', f', hl', hn, hel, hrs⟩ := ho
   rw [hl] at hl'; cases hl'
   have hp := hh.dom h.length (Nat.le_refl _)
   have key : ∃ y : Option (Nat × Nat × Nat), vr w0 ν.z (upd ν h.length y) (.gs h.length n) x /\ pL w0 (upd ν h.length y) nV nS (lh ++ new) h.length (.gl e n f ty) /\ ∀ z, y = some z -> lh.length <= z.1 /\ z.1 < (lh ++ new).length := by
    rcases hx with ⟨rfl, rfl⟩ | ⟨b, c, az, hb, hbl, rfl, hal, hnc, hall⟩
    ·exact ⟨none, by simp only [vr]; exact .inl ⟨bV _ _ _, by simp⟩, .inl ⟨bV _ _ _, rfl⟩, fun z hz => by cases hz⟩
    ·refine ⟨some (b, c, e), by simp only [vr]; exact .inr ⟨b, c, e, bV _ _ _, rfl, hnc⟩, .inr ⟨b, c, az, bV _ _ _, hbl, hal, ⟨hnc, hn⟩, fun i hi => ⟨(hel i hi).1, ?_⟩⟩, fun z hz => ?_⟩
     ·rw [hall i hi]; exact (di (hel i hi).2 _).2 rfl
     ·cases hz; exact ⟨hb, (List.getElem?_eq_some_iff.1 hbl).1⟩
   obtain ⟨y, k1, k2, k3⟩ := key
   have hsub := dO (x := y) hp
   refine hK _ _ (upd ν h.length y) _ _ hsub ?_ ?_ hs4
   ·rw [jw]
    have hcell : ∀ k o, (h ++ [O.gl e n f ty])[k]? = some o -> (k = h.length /\ o = .gl e n f ty) ∨ (k < h.length /\ h[k]? = some o) := fun k o hk => by
     rw [List.getElem?_append] at hk
     split at hk
     ·rename_i hlt; exact .inr ⟨hlt, hk⟩
     ·have : k - h.length = 0 := by
       apply Classical.byContradiction; intro hne
       rw [List.getElem?_eq_none (by simp; omega)] at hk; cases hk
      rw [this] at hk; simp at hk
      exact .inl ⟨by omega, hk.symm⟩
    have hlive : ∀ k, aq (h ++ [O.gl e n f ty]) k -> k = h.length ∨ aq h k := fun k hl => by
     rcases cm hl with ⟨cs, t, hk⟩ | ⟨_, _, _, _, hk⟩
     ·rcases hcell k _ hk with ⟨e1, _⟩ | ⟨_, g⟩
      ·exact .inl e1
      ·exact .inr (bC g)
     ·rcases hcell k _ hk with ⟨e1, _⟩ | ⟨_, g⟩
      ·exact .inl e1
      ·exact .inr (cP g)
    have hne : ∀ k, aq h k -> k ≠ h.length := fun k hl e1 => by
     rcases cm hl with ⟨cs, t, hk⟩ | ⟨_, _, _, _, hk⟩ <;> (have := (List.getElem?_eq_some_iff.1 hk).1; omega)
    refine ⟨fun k o hk => ?_, fun k k' x1 x2 h1 h2 h3 h4 h5 => ?_, fun k hk => ?_, fun k x1 hk => ?_, fun j az ty hj => ?_, fun k x1 hl hk => ?_⟩
    ·rcases hcell k o hk with ⟨rfl, rfl⟩ | ⟨hlt, hk⟩
     ·exact k2
     ·by_cases hd : o = .dead
      ·subst hd
       obtain ⟨g1, g2, g3⟩ := hh.blk k _ hk
       exact ⟨by rw [bY, if_neg (Nat.ne_of_lt hlt)]; exact g1, g2, by rw [List.getElem?_append_left (List.getElem?_eq_some_iff.1 g3).1]; exact g3⟩
      ·exact bM hsub hd (fun b az ty' g1 _ => by rw [List.getElem?_append_left (List.getElem?_eq_some_iff.1 g1).1]; exact g1) (hh.blk k _ hk)
    ·rw [bY] at h3 h4
     rcases hlive k h1 with e1 | e1 <;> rcases hlive k' h2 with e2 | e2
     ·omega
     ·rw [if_pos e1] at h3; rw [if_neg (hne _ e2)] at h4; simp only [Option.some.injEq] at h3
      have := (k3 _ h3).1; have := hh.rng _ _ h4; omega
     ·rw [if_neg (hne _ e1)] at h3; rw [if_pos e2] at h4; simp only [Option.some.injEq] at h4
      have := (k3 _ h4).1; have := hh.rng _ _ h3; omega
     ·rw [if_neg (hne _ e1)] at h3; rw [if_neg (hne _ e2)] at h4
      exact hh.inj k k' x1 x2 e1 e2 h3 h4 h5
    ·simp only [List.length_append, List.length_cons, List.length_nil] at hk
     rw [bY, if_neg (by omega)]; exact hh.dom k (by omega)
    ·rw [bY] at hk
     split at hk
     ·simp only [Option.some.injEq] at hk; exact (k3 _ hk).2
     ·rw [List.length_append]; exact Nat.lt_of_lt_of_le (hh.rng k x1 hk) (by omega)
    ·have g1 := hh.zl j az ty hj
     rw [List.getElem?_append_left (List.getElem?_eq_some_iff.1 g1).1]; exact g1
    ·rw [bY] at hk
     rcases hlive k hl with e1 | e1
     ·rw [if_pos e1] at hk; simp only [Option.some.injEq] at hk
      have := (k3 _ hk).1
      exact yg hh.zl (by rw [List.getElem?_eq_none (by omega)]; rfl)
     ·rw [if_neg (hne _ e1)] at hk; exact hh.zn k x1 e1 hk
   ·rw [aJ]
    rcases pP hl with rfl | ⟨us, rfl⟩
    ·exact k1
    ·simp only [AB, tn, vr]
     refine ⟨_, rfl, ?_⟩
     simp only [vrs]
     exact ⟨_, _, rfl, k1, (di hrs _).2 rfl⟩
theorem jE (w0 : World) (ct : bc) (LP : cg) (lv : Nat) : mW w0 (SV ct lv) LP (iY (α := α) ct) := by
 intro f vs h K Q ν nV nS args lh KA hv hh hs hK
 unfold iY at hs
 split at hs
 ·rename_i C hC
  have : SV ct lv f = vP C := by cases lv <;> simp only [SV, hC]
  rw [this]
  exact mf hv hh hs hK
 ·exact hs.elim
def iQ : bc -> Bool
 | [] => true
 | (_, .con _) :: l => iQ l
 | (_, .conL ..) :: l => iQ l
 | (_, .inl sf _) :: l => dt sf.ntmps sf.body && iQ l
theorem oE : ∀ {ct : bc} {f : FuncId} {sf : aw} {un : Unr}, iQ ct = true -> gz ct f = some (.inl sf un) -> dt sf.ntmps sf.body = true
 | [], _, _, _, _, h => by cases h
 | (k, c) :: l, f, sf, un, hd, h => by
   simp only [gz] at h
   cases hb : Nat.beq f k with
   | true =>
     rw [hb] at h; simp only [cond] at h; cases h
     simp only [iQ, Bool.and_eq_true] at hd; exact hd.1
   | false =>
     rw [hb] at h; simp only [cond] at h
     refine oE (ct := l) ?_ h
     cases c with
     | con C => exact hd
     | conL e ty C h => exact hd
     | inl sf' un' => simp only [iQ, Bool.and_eq_true] at hd; exact hd.2
theorem jx (w0 : World) (ct : bc) (hd : iQ ct = true) : ∀ (lv : Nat), lz w0 (SV ct lv) (bu w0 (SV ct)) false (iA (α := α) ct lv)
 | 0 => by
   intro f vs h K Q ν nV nS args lh KA hv hh hs hK
   simp only [iA] at hs
   split at hs
   ·rename_i C hC
    have : SV ct 0 f = vP C := by simp only [SV, hC]
    rw [this]
    exact mf hv hh hs fun v a hv hs => hK v h ν a lh (fun e => by cases e) (Nu.sub_refl ν) hh hv hs
   ·rename_i e ty C hC0 hC
    have : SV ct 0 f = vL e ty C := by simp only [SV, hC]
    rw [this]
    exact nM hC0 hv hh hs fun v h' ν' a lh' g0 g1 g2 g3 => hK v h' ν' a lh' (fun e => by cases e) g0 g1 g2 g3
   ·exact hs.elim
 | n + 1 => by
   intro f vs h K Q ν nV nS args lh KA hv hh hs hK
   simp only [iA] at hs
   split at hs
   ·rename_i C hC
    have : SV ct (n + 1) f = vP C := by simp only [SV, hC]
    rw [this]
    exact mf hv hh hs fun v a hv hs => hK v h ν a lh (fun e => by cases e) (Nu.sub_refl ν) hh hv hs
   ·rename_i e ty C hC0 hC
    have : SV ct (n + 1) f = vL e ty C := by simp only [SV, hC]
    rw [this]
    exact nM hC0 hv hh hs fun v h' ν' a lh' g0 g1 g2 g3 => hK v h' ν' a lh' (fun e => by cases e) g0 g1 g2 g3
   ·rename_i sf un hC
    have : SV ct (n + 1) f = wi (SV ct n) sf := by simp only [SV, hC]
    rw [this]
    exact qo (jx w0 ct hd n) (jE w0 ct _ n) (oE hd hC) hv hh hs fun v h' ν' a lh' g0 g1 g2 g3 => hK v h' ν' a lh' (fun e => by cases e) g0 (g1 nV nS) g2 g3
   ·exact hs.elim
end
inductive aX (P : Program) (eqs : List TypeId) (its : List e9) : bc -> Prop
 | nil : aX P eqs its []
 | con {f : FuncId} {C : aI} {ct : bc} (h : (vP C).Ok P f) (hl : aX P eqs its ct) : aX P eqs its ((f, .con C) :: ct)
 | conL {f : FuncId} {e : Nat} {ty : TypeId} {C : aI} {hC : ∀ ds d p r, C ds = some (d, p, r) -> d.1 = d.2 -> p -> okL e r} {ct : bc} (h : (vL e ty C).Ok P f) (hl : aX P eqs its ct) : aX P eqs its ((f, .conL e ty C hC) :: ct)
 | inl {f : FuncId} {fn : Func} {sf : aw} {un : Unr} {ct : bc} (hf : P.funcs[f]? = some fn) (hn : (fn.name == "runtime.NumGoroutine") = false) (hc : dN P eqs its fn = some sf) (hd : dt sf.ntmps sf.body = true) (hl : aX P eqs its ct) : aX P eqs its ((f, .inl sf un) :: ct)
theorem aX.look {P : Program} {eqs : List TypeId} {its : List e9} {ct : bc} (h : aX P eqs its ct) : ∀ {f : FuncId} {x : Ent}, gz ct f = some x -> match x with
 | .con C => (vP C).Ok P f
 | .conL e ty C _ => (vL e ty C).Ok P f
 | .inl sf _ => ∃ fn, P.funcs[f]? = some fn /\ (fn.name == "runtime.NumGoroutine") = false /\ dN P eqs its fn = some sf := by
 induction h with
 | nil => intro f x h; cases h
 | @con k C ct h hl ih =>
   intro f x hx
   simp only [gz] at hx
   cases hb : Nat.beq f k with
   | true => rw [hb] at hx; simp only [cond] at hx; cases hx; have := Nat.eq_of_beq_eq_true hb; subst this; exact h
   | false => rw [hb] at hx; simp only [cond] at hx; exact ih hx
 | @conL k e ty C hC ct h hl ih =>
   intro f x hx
   simp only [gz] at hx
   cases hb : Nat.beq f k with
   | true => rw [hb] at hx; simp only [cond] at hx; cases hx; have := Nat.eq_of_beq_eq_true hb; subst this; exact h
   | false => rw [hb] at hx; simp only [cond] at hx; exact ih hx
 | @inl k fn sf un ct hf hn hc hd hl ih =>
   intro f x hx
   simp only [gz] at hx
   cases hb : Nat.beq f k with
   | true => rw [hb] at hx; simp only [cond] at hx; cases hx; have := Nat.eq_of_beq_eq_true hb; subst this; exact ⟨fn, hf, hn, hc⟩
   | false => rw [hb] at hx; simp only [cond] at hx; exact ih hx
theorem aX.dst {P : Program} {eqs : List TypeId} {its : List e9} {ct : bc} (h : aX P eqs its ct) : iQ ct = true := by
 induction h with
 | nil => rfl
 | con h hl ih => exact ih
 | conL h hl ih => exact ih
 | inl hf hn hc hd hl ih => simp only [iQ, hd, ih, Bool.and_self]
theorem aX.ok {P : Program} {eqs : List TypeId} {its : List e9} {ct : bc} (h : aX P eqs its ct) (hE : ∀ t ∈ eqs, bU P t) (hI : lf P eqs its) : ∀ (lv : Nat) (g : FuncId), (SV ct lv g).Ok P g
 | 0, g => by
   simp only [SV]
   split
   ·rename_i C hC; exact h.look hC
   ·rename_i e ty C hC0 hC; exact h.look hC
   ·exact sw g
 | n + 1, g => by
   simp only [SV]
   split
   ·rename_i C hC; exact h.look hC
   ·rename_i e ty C hC0 hC; exact h.look hC
   ·rename_i sf un hC
    obtain ⟨fn, h1, h2, h3⟩ := h.look hC
    exact zX (h.ok hE hI n) hE hI h1 h2 h3
   ·exact sw g
def LV : Nat := 12
def run (ct : bc) (un : Unr) (sf : aw) (ds : List V) : T V := nk (iA ct LV) (iY ct) un LV sf ds [] fun v _ => .ret v
theorem BM {α : Type} {P : Program} {eqs : List TypeId} {its : List e9} {ct : bc} {f : FuncId} {fn : Func} {sf : aw} {un : Unr} {C : aI} {K0 : V -> T α} {Q0 : V -> α -> Prop} (hK0 : ∀ w0 r v, sat (bu w0 (SV ct)) (K0 v) (Q0 r) -> toA v = toA r) (hT : aX P eqs its ct) (hE : ∀ t ∈ eqs, bU P t) (hI : lf P eqs its) (hf : P.funcs[f]? = some fn)
 (hn : (fn.name == "runtime.NumGoroutine") = false) (hc : dN P eqs its fn = some sf) (hd : dt sf.ntmps sf.body = true)
 (h : ∀ w0 ds d p r, C ds = some (d, p, r) -> d.1 = d.2 -> p -> gW (toA r) = true -> sat (bu w0 (SV ct)) (nk (iA ct LV) (iY ct) un LV sf ds [] fun v _ => K0 v) (Q0 r)) : (vP C).Ok P f := by
 refine ⟨fun B m lh w args vs K hrel hargs hsp => ?_, fun _ _ _ _ _ hk ⟨ds, d, p, r, h1, h2, h3, h4, h5⟩ => ⟨ds, d, p, r, h1, h2, h3, h4, hk _ _ h5⟩, fun _ _ _ _ ⟨_, _, _, _, _, _, _, _, h⟩ => h⟩
 obtain ⟨ds, d, p, r, h1, h2, ⟨h30, h3⟩, h4, h5⟩ := hsp
 obtain ⟨args', g1, g2⟩ := eV hrel ds args vs h1 hargs
 have hs := ow (Sp := fun w0 args lh K => lh = [] /\ ∃ ds d p r, vrs w0 [] Nu.nil ds args /\ C ds = some (d, p, r) /\ (d.1 = d.2 /\ p) /\ gW (toA r) = true /\ K (toA r) []) (hT.ok hE hI LV) hE hI hf hn hc (fun w0 args lh K hw ha ⟨e, ds, d, p, r, k1, k2, ⟨k30, k3⟩, k4, k5⟩ => by
  subst e
  refine qo (jx w0 ct hT.dst LV) (jE w0 ct _ LV) hd k1 (HR.none w0) (h w0 ds d p r k2 k30 k3 k4) fun v h' ν' a lh' _ q1 q2 q3 => ?_
  have q3 := hK0 _ _ _ q3
  have := (ou (by rw [q3]; exact k4) a).1 q2
  rw [q3] at this
  subst this
  exact vU (lh := []) (l := lh') (wx k4) hw k5)
 obtain ⟨e1, e2⟩ := hs ⟨w, w, fun _ => False, []⟩ (fun _ => none) [] w args' vs (fun r' _ => r' = toA r) (ar.start w) g1 ⟨rfl, ds, d, p, r, g2, h2, ⟨h30, h3⟩, h4, rfl⟩
 refine ⟨e1, e2.mono fun e w' ⟨v, r', m1, lh1, he, hv, _, hr, hk⟩ => ?_⟩
 subst hk
 exact ⟨v, _, m, lh, he, vj h4 hv, Ext.refl _ _, hrel.back hr, h5⟩
theorem exL {e : Nat} {ty : TypeId} {r : V} {n : Nat} {f : Nat -> List V} (hr : ny r = some (n, f)) (ho : okL e r) (lh : List ac) : ∃ x new, DU e ty lh.length (lh ++ new) n f x := by
 obtain ⟨n', f', hl, _, hel, _⟩ := ho
 rw [hr] at hl; cases hl
 obtain ⟨h1, h2⟩ := tf (e := e) (f := f) (n := n) fun i hi => by rw [qH]; exact (jG (hel i hi).1).1
 exact ⟨_, [.cells ((List.range n).flatMap fun i => dF (f i)) ty], .inr ⟨lh.length, n, (List.range n).flatMap fun i => dF (f i), Nat.le_refl _, by simp, rfl, h1, Nat.le_refl _, h2⟩⟩
inductive Ty where
 | int (k : IntKind)
 | bool
 | str
 | agg (ts : List Ty)
 | sl (ts : List Ty)
 | fn (f : FuncId) (xs ys : List Ty)
 | pd (ts : List Ty)
def iv : V -> Int
 | .int _ n => n
 | _ => 0
def bv : V -> Bool
 | .bool b => b
 | .kb b => b
 | _ => false
def sv : V -> ByteArray
 | .str s => s
 | _ => ByteArray.empty
def cz : V -> Nat
 | .sl n _ => n
 | .sq n _ _ => n
 | _ => 0
def uU : V -> Nat
 | .sl n _ => n
 | .sq _ m _ => m
 | _ => 0
def atV : V -> Nat -> List V
 | .sl _ f, i => f i
 | .sq _ _ f, i => f i
 | _, _ => []
def cI : V -> List V
 | .agg cs => cs
 | _ => []
def fxs : V -> List V
 | .fn _ xs _ => xs
 | _ => []
def fys : V -> List V
 | .fn _ _ ys => ys
 | _ => []
def pdV : V -> List V
 | .pd cs => cs
 | _ => []
def hdV : List V -> V
 | v :: _ => v
 | [] => .any
def tlV : List V -> List V
 | _ :: vs => vs
 | [] => []
def aT : Ty -> Bool
 | .agg _ => false
 | .fn .. => false
 | .pd _ => false
 | _ => true
mutual
def bg : Ty -> V -> V
 | .int k, v => .int k (iv v)
 | .bool, v => .bool (bv v)
 | .str, v => .str (sv v)
 | .agg ts, v => .agg (al ts (cI v))
 | .sl ts, v => .sl (cz v) fun i => al ts (atV v i)
 | .fn f xs ys, v => .fn f (al xs (fxs v)) (al ys (fys v))
 | .pd ts, v => .pd (al ts (pdV v))
def al : List Ty -> List V -> List V
 | [], _ => []
 | t :: ts, vs => bg t (hdV vs) :: al ts (tlV vs)
end
mutual
def bn : Ty -> V -> Prop
 | .int k, v => v = .int k (iv v)
 | .bool, v => v = .bool (bv v) ∨ v = .kb (bv v)
 | .str, v => v = .str (sv v)
 | .agg ts, v => v = .agg (cI v) /\ aA ts (cI v)
 | .sl ts, v => (v = .sl (cz v) (atV v) ∨ v = .sq (cz v) (uU v) (atV v)) /\ ts.all aT = true /\ ∀ i, i < uU v -> aA ts (atV v i)
 | .fn f xs ys, v => v = .fn f (fxs v) (fys v) /\ aA xs (fxs v) /\ aA ys (fys v)
 | .pd ts, v => v = .pd (pdV v) /\ ts.all aT = true /\ aA ts (pdV v)
def aA : List Ty -> List V -> Prop
 | [], vs => vs = []
 | t :: ts, vs => vs = hdV vs :: tlV vs /\ bn t (hdV vs) /\ aA ts (tlV vs)
end
theorem gQ : ∀ (ts : List Ty) (vs : List V), ts.all aT = true -> (al ts vs).all V.fc = true
 | [], _, _ => by simp [al]
 | t :: ts, vs, h => by
   simp only [List.all_cons, Bool.and_eq_true] at h
   simp only [al, List.all_cons, Bool.and_eq_true]
   refine ⟨?_, gQ ts _ h.2⟩
   cases t <;> first | rfl | (simp [aT] at h) | (simp only [bg]; rfl)
theorem mI : ∀ {ts : List Ty} {vs : List V}, aA ts vs -> vs.length = ts.length
 | [], vs, h => by simp only [aA] at h; subst h; rfl
 | t :: ts, vs, h => by simp only [aA] at h; rw [h.1]; simp [mI h.2.2]
section
variable {w0 : World} {lh : List ac}
theorem kD : ∀ (ts : List Ty) (vs : List V), (al ts vs).length = ts.length
 | [], _ => by simp [al]
 | t :: ts, vs => by simp [al, kD ts]
mutual
theorem zk : ∀ (t : Ty) (v : V) (a : ab), bn t v -> vr w0 lh Nu.nil v a -> vr w0 lh Nu.nil (bg t v) a
 | .int k, v, a, h, hv => by simp only [bn] at h; simp only [bg]; rw [h] at hv; exact hv
 | .bool, v, a, h, hv => by
   simp only [bn] at h; simp only [bg, vr]
   rcases h with h | h <;> (rw [h] at hv; simp only [vr] at hv; exact hv)
 | .str, v, a, h, hv => by simp only [bn] at h; simp only [bg]; rw [h] at hv; exact hv
 | .agg ts, v, a, h, hv => by
   simp only [bn] at h
   rw [h.1] at hv
   simp only [bg, vr] at hv ⊢
   obtain ⟨az, h1, h2⟩ := hv
   exact ⟨az, h1, dD ts _ az h.2 h2⟩
 | .sl ts, v, a, h, hv => by
   simp only [bn] at h
   rcases h.1 with h0 | h0
   ·have hb : uU v = cz v := by rw [h0]; rfl
    rw [h0] at hv
    simp only [bg, vr] at hv ⊢
    obtain ⟨p, c, esz, h1, h2, h3, h4, h5⟩ := hv
    exact ⟨p, c, esz, h1, h2, h3, h4, fun i hi => let ⟨q, az, g1, g2, g3, g4⟩ := h5 i hi; ⟨q, az, g1, g2, dD ts _ az (h.2.2 i (by omega)) g3, gQ ts _ h.2.1⟩⟩
   ·rw [h0] at hv
    simp only [bg, vr] at hv ⊢
    obtain ⟨p, c, esz, h1, ⟨h2, h2'⟩, h3, h4, h5⟩ := hv
    exact ⟨p, c, esz, h1, h2, h3, h4, fun i hi => let ⟨q, az, g1, g2, g3, g4⟩ := h5 i hi; ⟨q, az, g1, g2, dD ts _ az (h.2.2 i (by omega)) g3, gQ ts _ h.2.1⟩⟩
 | .fn f xs ys, v, a, h, hv => by
   simp only [bn] at h
   rw [h.1] at hv
   simp only [bg, vr] at hv ⊢
   obtain ⟨us, vs, h1, h2, h3⟩ := hv
   exact ⟨us, vs, h1, dD xs _ us h.2.1 h2, dD ys _ vs h.2.2 h3⟩
 | .pd ts, v, a, h, hv => by
   simp only [bn] at h
   rw [h.1] at hv
   simp only [bg, vr] at hv ⊢
   obtain ⟨p, az, h1, h2, h3, h4, h5⟩ := hv
   have hl := mI h.2.2
   refine ⟨p, az, h1, h2, by rw [kD, ← hl]; exact h3, dD ts _ az h.2.2 h4, gQ ts _ h.2.1⟩
theorem dD : ∀ (ts : List Ty) (vs : List V) (az : List ab), aA ts vs -> vrs w0 lh Nu.nil vs az -> vrs w0 lh Nu.nil (al ts vs) az
 | [], vs, az, h, hv => by simp only [aA] at h; subst h; simpa only [al] using hv
 | t :: ts, vs, az, h, hv => by
   simp only [aA] at h
   rw [h.1] at hv
   simp only [vrs] at hv
   obtain ⟨x, xs, rfl, h1, h2⟩ := hv
   simp only [al, vrs]
   exact ⟨x, xs, rfl, zk t _ x h.2.1 h1, dD ts _ xs h.2.2 h2⟩
end
end
mutual
def ma : Ty -> Bool
 | .agg ts => dV ts
 | .sl ts => ts.all aT && dV ts
 | .fn _ xs ys => dV xs && dV ys
 | .pd ts => ts.all aT && dV ts
 | _ => true
def dV : List Ty -> Bool
 | [] => true
 | t :: ts => ma t && dV ts
end
def vo : Nat -> (Nat -> List V -> List V) -> List V -> List V
 | 0, _, k => k
 | j + 1, g, k => g j (vo j g k)
mutual
def fxL : Ty -> V -> List V -> List V
 | .agg ts, v, k => .agg (cI v) :: gj ts (cI v) k
 | .sl ts, v, k => match v with
   | .sq _ m f => vo m (fun j k => gj ts (f j) k) k
   | v => bg (.sl ts) v :: k
 | .fn f xs ys, v, k => .fn f (fxs v) (fys v) :: gj xs (fxs v) (gj ys (fys v) k)
 | .pd ts, v, k => .pd (pdV v) :: gj ts (pdV v) k
 | t, v, k => bg t v :: k
def gj : List Ty -> List V -> List V -> List V
 | [], _, k => .agg [] :: k
 | t :: ts, vs, k => .agg (hdV vs :: tlV vs) :: fxL t (hdV vs) (gj ts (tlV vs) k)
end
mutual
def fxR : Ty -> V -> List V -> List V
 | .agg ts, v, k => v :: gm ts (cI v) k
 | .sl ts, v, k => match v with
   | .sq _ m f => vo m (fun j k => gm ts (f j) k) k
   | v => v :: k
 | .fn _ xs ys, v, k => v :: gm xs (fxs v) (gm ys (fys v) k)
 | .pd ts, v, k => v :: gm ts (pdV v) k
 | _, v, k => v :: k
def gm : List Ty -> List V -> List V -> List V
 | [], vs, k => .agg vs :: k
 | t :: ts, vs, k => .agg vs :: fxR t (hdV vs) (gm ts (tlV vs) k)
end
theorem pb {P : Nat -> Prop} {g g' : Nat -> List V -> List V} (hg : ∀ j k k', g j k = g' j k' -> P j /\ k = k') : ∀ (m : Nat) (k k' : List V), vo m g k = vo m g' k' -> (∀ j, j < m -> P j) /\ k = k'
 | 0, k, k', h => ⟨fun j hj => by omega, h⟩
 | m + 1, k, k', h => by
   simp only [vo] at h
   obtain ⟨h1, h2⟩ := hg m _ _ h
   obtain ⟨h3, h4⟩ := pb hg m k k' h2
   exact ⟨fun j hj => by
    by_cases e : j = m
    ·subst e; exact h1
    ·exact h3 j (by omega), h4⟩
theorem oQ : ∀ (ts : List Ty) (vs : List V), dV ts = true -> al ts vs = vs -> aA ts vs := by
 have key : ∀ (ts : List Ty), dV ts = true -> ∀ vs, al ts vs = vs -> aA ts vs := fun ts ho vs h => hasTys_of' ts vs ho h
 exact fun ts vs ho h => key ts ho vs h
where
 hasTy_of' : ∀ (t : Ty) (v : V), ma t = true -> bg t v = v -> bn t v
 | .int k, v, _, h => by simp only [bg] at h; simp only [bn]; exact h.symm
 | .bool, v, _, h => by simp only [bg] at h; simp only [bn]; exact .inl h.symm
 | .str, v, _, h => by simp only [bg] at h; simp only [bn]; exact h.symm
 | .agg ts, v, ho, h => by
   simp only [bg] at h; simp only [ma] at ho
   have h2 : al ts (cI v) = cI v := by have := congrArg cI h; simpa only [cI] using this
   simp only [bn]
   exact ⟨by rw [h2] at h; exact h.symm, hasTys_of' ts _ ho h2⟩
 | .sl ts, v, ho, h => by
   simp only [bg] at h; simp only [ma, Bool.and_eq_true] at ho
   have h2 : ∀ i, al ts (atV v i) = atV v i := fun i => by
    have := congrArg (fun u => atV u i) h
    simpa only [atV] using this
   simp only [bn]
   refine ⟨.inl ?_, ho.1, fun i _ => hasTys_of' ts _ ho.2 (h2 i)⟩
   have h3 : (fun i => al ts (atV v i)) = atV v := funext h2
   rw [h3] at h; exact h.symm
 | .fn f xs ys, v, ho, h => by
   simp only [bg] at h; simp only [ma, Bool.and_eq_true] at ho
   have h2 : al xs (fxs v) = fxs v := by have := congrArg fxs h; simpa only [fxs] using this
   have h3 : al ys (fys v) = fys v := by have := congrArg fys h; simpa only [fys] using this
   simp only [bn]
   exact ⟨by rw [h2, h3] at h; exact h.symm, hasTys_of' xs _ ho.1 h2, hasTys_of' ys _ ho.2 h3⟩
 | .pd ts, v, ho, h => by
   simp only [bg] at h; simp only [ma, Bool.and_eq_true] at ho
   have h2 : al ts (pdV v) = pdV v := by have := congrArg pdV h; simpa only [pdV] using this
   simp only [bn]
   exact ⟨by rw [h2] at h; exact h.symm, ho.1, hasTys_of' ts _ ho.2 h2⟩
 hasTys_of' : ∀ (ts : List Ty) (vs : List V), dV ts = true -> al ts vs = vs -> aA ts vs
 | [], vs, _, h => by simp only [al] at h; simp only [aA]; exact h.symm
 | t :: ts, vs, ho, h => by
   simp only [al] at h; simp only [dV, Bool.and_eq_true] at ho
   have h2 : bg t (hdV vs) = hdV vs := by have := congrArg hdV h; simpa only [hdV] using this
   have h3 : al ts (tlV vs) = tlV vs := by have := congrArg tlV h; simpa only [tlV] using this
   simp only [aA]
   exact ⟨by rw [h2, h3] at h; exact h.symm, hasTy_of' t _ ho.1 h2, hasTys_of' ts _ ho.2 h3⟩
def elV (ts : List Ty) (f : FnV) : Nat -> List V := fun i => al ts (f i)
mutual
def unq : Ty -> V -> V
 | .agg ts, v => match v with
   | .agg cs => .agg (kA ts cs)
   | v => v
 | .sl ts, v => match v with
   | .sq n _ f => .sl n (elV ts f)
   | v => v
 | .fn _ xs ys, v => match v with
   | .fn f us vs => .fn f (kA xs us) (kA ys vs)
   | v => v
 | .pd ts, v => match v with
   | .pd cs => .pd (kA ts cs)
   | v => v
 | _, v => v
def kA : List Ty -> List V -> List V
 | [], _ => []
 | t :: ts, vs => match vs with
   | v :: vs => unq t v :: kA ts vs
   | [] => []
end
mutual
theorem B2 : ∀ (t : Ty) (v : V) (k k' : List V), fxL t v k = fxR t v k' -> unq t v = bg t v /\ k = k'
 | .int _, v, k, k', h => by
   simp only [fxL, fxR, List.cons.injEq] at h
   simp only [unq]; exact ⟨h.1.symm, h.2⟩
 | .bool, v, k, k', h => by
   simp only [fxL, fxR, List.cons.injEq] at h
   simp only [unq]; exact ⟨h.1.symm, h.2⟩
 | .str, v, k, k', h => by
   simp only [fxL, fxR, List.cons.injEq] at h
   simp only [unq]; exact ⟨h.1.symm, h.2⟩
 | .agg ts, v, k, k', h => by
   simp only [fxL, fxR, List.cons.injEq] at h
   obtain ⟨h1, h2⟩ := fi ts _ k k' h.2
   obtain ⟨cs, rfl⟩ : ∃ cs, v = .agg cs := ⟨_, h.1.symm⟩
   simp only [cI] at h1
   simp only [unq, bg, cI, h1]; exact ⟨trivial, h2⟩
 | .sl ts, v, k, k', h => by
   by_cases hv : ∃ n m f, v = .sq n m f
   ·obtain ⟨n, m, f, rfl⟩ := hv
    simp only [fxL, fxR] at h
    obtain ⟨_, h2⟩ := pb (P := fun _ => True) (fun j k k' hj => ⟨trivial, (fi ts (f j) k k' hj).2⟩) m k k' h
    exact ⟨rfl, h2⟩
   ·cases v <;> first | exact (hv ⟨_, _, _, rfl⟩).elim | (simp only [fxL, fxR, List.cons.injEq] at h; simp only [unq]; exact ⟨h.1.symm, h.2⟩)
 | .fn f xs ys, v, k, k', h => by
   simp only [fxL, fxR, List.cons.injEq] at h
   obtain ⟨h1, h2⟩ := fi xs _ _ _ h.2
   obtain ⟨h3, h4⟩ := fi ys _ _ _ h2
   obtain ⟨us, vs, rfl⟩ : ∃ us vs, v = .fn f us vs := ⟨_, _, h.1.symm⟩
   simp only [fxs] at h1
   simp only [fys] at h3
   simp only [unq, bg, fxs, fys, h1, h3]; exact ⟨trivial, h4⟩
 | .pd ts, v, k, k', h => by
   simp only [fxL, fxR, List.cons.injEq] at h
   obtain ⟨h1, h2⟩ := fi ts _ k k' h.2
   obtain ⟨cs, rfl⟩ : ∃ cs, v = .pd cs := ⟨_, h.1.symm⟩
   simp only [pdV] at h1
   simp only [unq, bg, pdV, h1]; exact ⟨trivial, h2⟩
theorem fi : ∀ (ts : List Ty) (vs : List V) (k k' : List V), gj ts vs k = gm ts vs k' -> kA ts vs = al ts vs /\ k = k'
 | [], vs, k, k', h => by
   simp only [gj, gm, List.cons.injEq, V.agg.injEq] at h
   simp only [kA, al]; exact ⟨trivial, h.2⟩
 | t :: ts, vs, k, k', h => by
   simp only [gj, gm, List.cons.injEq, V.agg.injEq] at h
   obtain ⟨h1, h2⟩ := B2 t _ _ _ h.2
   obtain ⟨h3, h4⟩ := fi ts _ _ _ h2
   have h0 := h.1
   cases vs with
   | nil => cases h0
   | cons v vs =>
     simp only [hdV, tlV] at h1 h3
     simp only [kA, al, hdV, tlV, h1, h3]; exact ⟨trivial, h4⟩
end
mutual
theorem Ft : ∀ (t : Ty) (v : V) (k k' : List V), ma t = true -> fxL t v k = fxR t v k' -> bn t v /\ k = k'
 | .int _, v, k, k', _, h => by
   simp only [fxL, fxR, List.cons.injEq] at h
   simp only [bg] at h; simp only [bn]; exact ⟨h.1.symm, h.2⟩
 | .bool, v, k, k', _, h => by
   simp only [fxL, fxR, List.cons.injEq, bg] at h
   simp only [bn]
   exact ⟨.inl h.1.symm, h.2⟩
 | .str, v, k, k', _, h => by
   simp only [fxL, fxR, List.cons.injEq] at h
   simp only [bg] at h; simp only [bn]; exact ⟨h.1.symm, h.2⟩
 | .agg ts, v, k, k', ho, h => by
   simp only [fxL, fxR, List.cons.injEq] at h; simp only [ma] at ho
   obtain ⟨h1, h2⟩ := gN ts _ k k' ho h.2
   simp only [bn]; exact ⟨⟨h.1.symm, h1⟩, h2⟩
 | .sl ts, v, k, k', ho, h => by
   have ho' := ho
   simp only [ma, Bool.and_eq_true] at ho
   by_cases hv : ∃ n m f, v = .sq n m f
   ·obtain ⟨n, m, f, rfl⟩ := hv
    simp only [fxL, fxR] at h
    obtain ⟨h1, h2⟩ := pb (P := fun j => aA ts (f j)) (fun j k k' hj => gN ts (f j) k k' ho.2 hj) m k k' h
    simp only [bn, cz, atV, uU]
    exact ⟨⟨.inr rfl, ho.1, h1⟩, h2⟩
   ·have h' : bg (.sl ts) v = v /\ k = k' := by
     cases v <;> first | exact (hv ⟨_, _, _, rfl⟩).elim | (simp only [fxL, fxR, List.cons.injEq] at h; exact h)
    have := oQ [.sl ts] [v] (by simp only [dV, ho', Bool.and_true]) (by simp only [al, hdV, tlV, h'.1])
    simp only [aA, hdV] at this
    exact ⟨this.2.1, h'.2⟩
 | .fn f xs ys, v, k, k', ho, h => by
   simp only [fxL, fxR, List.cons.injEq] at h; simp only [ma, Bool.and_eq_true] at ho
   obtain ⟨h1, h2⟩ := gN xs _ _ _ ho.1 h.2
   obtain ⟨h3, h4⟩ := gN ys _ _ _ ho.2 h2
   simp only [bn]; exact ⟨⟨h.1.symm, h1, h3⟩, h4⟩
 | .pd ts, v, k, k', ho, h => by
   simp only [fxL, fxR, List.cons.injEq] at h; simp only [ma, Bool.and_eq_true] at ho
   obtain ⟨h1, h2⟩ := gN ts _ k k' ho.2 h.2
   simp only [bn]; exact ⟨⟨h.1.symm, ho.1, h1⟩, h2⟩
theorem gN : ∀ (ts : List Ty) (vs : List V) (k k' : List V), dV ts = true -> gj ts vs k = gm ts vs k' -> aA ts vs /\ k = k'
 | [], vs, k, k', _, h => by
   simp only [gj, gm, List.cons.injEq, V.agg.injEq] at h
   simp only [aA]; exact ⟨h.1.symm, h.2⟩
 | t :: ts, vs, k, k', ho, h => by
   simp only [gj, gm, List.cons.injEq, V.agg.injEq] at h; simp only [dV, Bool.and_eq_true] at ho
   obtain ⟨h1, h2⟩ := Ft t _ _ _ ho.1 h.2
   obtain ⟨h3, h4⟩ := gN ts _ _ _ ho.2 h2
   simp only [aA]; exact ⟨⟨h.1.symm, h1, h3⟩, h4⟩
end
def mkC (ts : List Ty) (pre : List V -> Prop) (r : List V -> V) : aI := fun ds => some ((gj ts ds [], gm ts ds []), pre (kA ts ds), r (kA ts ds))
theorem zA {α : Type} {P : Program} {eqs : List TypeId} {its : List e9} {ct : bc} {f : FuncId} {fn : Func} {sf : aw} {un : Unr} {ts : List Ty} {pre : List V -> Prop} {r : List V -> V} {K0 : V -> T α} {Q0 : V -> α -> Prop} (hK0 : ∀ w0 r v, sat (bu w0 (SV ct)) (K0 v) (Q0 r) -> toA v = toA r) (hT : aX P eqs its ct) (hE : ∀ t ∈ eqs, bU P t) (hI : lf P eqs its) (hf : P.funcs[f]? = some fn)
 (hn : (fn.name == "runtime.NumGoroutine") = false) (hc : dN P eqs its fn = some sf) (hd : dt sf.ntmps sf.body = true) (ho : dV ts = true)
 (h : ∀ w0 ds, pre (al ts ds) -> sat (bu w0 (SV ct)) (nk (iA ct LV) (iY ct) un LV sf (al ts ds) [] fun v _ => K0 v) (Q0 (r (al ts ds)))) : (vP (mkC ts pre r)).Ok P f := by
 refine ⟨fun B m lh w args vs K hrel hargs hsp => ?_, fun _ _ _ _ _ hk ⟨ds, d, p, r, h1, h2, h3, h4, h5⟩ => ⟨ds, d, p, r, h1, h2, h3, h4, hk _ _ h5⟩, fun _ _ _ _ ⟨_, _, _, _, _, _, _, _, h⟩ => h⟩
 obtain ⟨ds, d, p, r', h1, h2, ⟨h30, h3⟩, h4, h5⟩ := hsp
 simp only [mkC, Option.some.injEq, Prod.mk.injEq] at h2
 obtain ⟨rfl, rfl, rfl⟩ := h2
 have hty := (gN ts ds [] [] ho h30).1
 rw [(fi ts ds [] [] h30).1] at h3 h4 h5
 have key2 := BM (C := fun ds' => some ((ds', al ts ds), pre (al ts ds), r (al ts ds))) (P := P) (f := f) hK0 hT hE hI hf hn hc hd (fun w0 ds' d' p' r' e he hp _ => by
  simp only [Option.some.injEq, Prod.mk.injEq] at e
  obtain ⟨rfl, rfl, rfl⟩ := e
  simp only at he
  subst he
  exact h w0 ds hp)
 exact key2.sound B m lh w args vs K hrel hargs ⟨al ts ds, _, _, _, dD ts ds args hty h1, rfl, ⟨rfl, h3⟩, h4, h5⟩
abbrev Rho := List (Option (Option Nat))
def bD (ρ : Rho) (k : Nat) : Option (Option Nat) := match nth ρ k with
 | some x => x
 | none => none
mutual
def aZ (ρ : Rho) : V -> V -> Prop
 | v, .any => True ∨ v = .any
 | .int k a, .int k' b => k = k' /\ a = b
 | .bool a, .bool b => a = b
 | .kb a, .bool b => a = b
 | .kb a, .kb b => a = b
 | .str a, .str b => a = b
 | .agg xs, .agg ys => cD ρ xs ys
 | .tup xs, .tup ys => cD ρ xs ys
 | .fn f xs ys, .fn g us vs => f = g /\ cD ρ xs us /\ cD ρ ys vs
 | .sl n f, .sl m g => n = m /\ f = g
 | .pd cs, .pd ds => cs = ds
 | .pl k o, .pl k1 o1 => bD ρ k1 = some (some k) /\ o = o1
 | .pe k i j, .pe k1 i1 j1 => bD ρ k1 = some (some k) /\ i = i1 /\ j = j1
 | .ss k o n c, .ss k1 o1 n1 c1 => bD ρ k1 = some (some k) /\ o = o1 /\ n = n1 /\ c = c1
 | .gs k n, .gs k1 n1 => bD ρ k1 = some (some k) /\ n = n1
 | .ns, .gs k1 n1 => bD ρ k1 = some none /\ n1 = 0
 | .ns, .ns => True
 | .np, .np => True
 | .yl l, .yl l1 => l = l1
 | .go k o n, .go k1 o1 n1 => bD ρ k1 = some (some k) /\ o = o1 /\ n = n1
 | _, _ => False
def cD (ρ : Rho) : List V -> List V -> Prop
 | [], [] => True
 | x :: xs, y :: ys => aZ ρ x y /\ cD ρ xs ys
 | _, _ => False
end
def mF (ρ : Rho) (e : Env) : Env -> Prop
 | [] => True
 | (s, v) :: l => aZ ρ (bb e s) v /\ mF ρ e l
def rD (ρ : Rho) (h : List O) (k : Nat) : O -> Prop
 | .cells cs ty => ∃ j ds, bD ρ k = some (some j) /\ nth h j = some (.cells ds ty) /\ cD ρ ds cs
 | .gl e n f ty => (bD ρ k = some none /\ n = 0) ∨ ∃ j m g, bD ρ k = some (some j) /\ nth h j = some (.gl e m g ty) /\ n <= m /\ ∀ i, i < n -> okE e (f i) = true /\ cD ρ (g i) (f i)
 | .dead => False
 | .hid => True
def lT (ρ : Rho) (h : List O) : Nat -> List O -> Prop
 | _, [] => True
 | k, o :: l => rD ρ h k o /\ lT ρ h (k + 1) l
def jo (x : Option (Option Nat)) : Rho -> Bool
 | [] => true
 | y :: l => (match x, y with
   | some (some a), some (some b) => !Nat.beq a b
   | _, _ => true) && jo x l
def rY : Rho -> Bool
 | [] => true
 | x :: l => jo x l && rY l
def wC (ρ : Rho) : Nat -> Bool
 | 0 => true
 | k + 1 => (match bD ρ k with
   | some (some j) => Nat.beq j k
   | _ => false) && wC ρ k
def fK (ρ : Rho) (ν : Nu) : Nu := ⟨fun k => match bD ρ k with
 | some (some j) => ν j
 | some none => some none
 | none => none, ν.z⟩
section
variable {w0 : World} {ν : Nu} {ρ : Rho} {lh : List ac}
mutual
theorem tD : ∀ (v v1 : V) (a : ab), aZ ρ v v1 -> vr w0 ν.z ν v a -> vr w0 ν.z (fK ρ ν) v1 a
 | .int k n, v1, a, h, hv => by
   cases v1 <;> simp only [aZ] at h
   case int => obtain ⟨rfl, rfl⟩ := h; simp only [vr] at hv ⊢; exact hv
   case any => simp only [vr]
 | .bool b, v1, a, h, hv => by
   cases v1 <;> simp only [aZ] at h
   case bool => subst h; simp only [vr] at hv ⊢; exact hv
   case any => simp only [vr]
 | .kb b, v1, a, h, hv => by
   cases v1 <;> simp only [aZ] at h
   case bool => subst h; simp only [vr] at hv ⊢; exact hv
   case kb => subst h; simp only [vr] at hv ⊢; exact hv
   case any => simp only [vr]
 | .str b, v1, a, h, hv => by
   cases v1 <;> simp only [aZ] at h
   case str => subst h; simp only [vr] at hv ⊢; exact hv
   case any => simp only [vr]
 | .agg xs, v1, a, h, hv => by
   cases v1 <;> simp only [aZ] at h
   case agg => simp only [vr] at hv ⊢; obtain ⟨az, h1, h2⟩ := hv; exact ⟨az, h1, dX xs _ az h h2⟩
   case any => simp only [vr]
 | .tup xs, v1, a, h, hv => by
   cases v1 <;> simp only [aZ] at h
   case tup => simp only [vr] at hv ⊢; obtain ⟨az, h1, h2⟩ := hv; exact ⟨az, h1, dX xs _ az h h2⟩
   case any => simp only [vr]
 | .fn f xs ys, v1, a, h, hv => by
   cases v1 <;> simp only [aZ] at h
   case fn => obtain ⟨rfl, g1, g2⟩ := h; simp only [vr] at hv ⊢; obtain ⟨az, bs, h1, h2, h3⟩ := hv; exact ⟨az, bs, h1, dX xs _ az g1 h2, dX ys _ bs g2 h3⟩
   case any => simp only [vr]
 | .sl n f, v1, a, h, hv => by
   cases v1 <;> simp only [aZ] at h
   case sl => obtain ⟨rfl, rfl⟩ := h; simp only [vr] at hv ⊢; exact hv
   case any => simp only [vr]
 | .pd cs, v1, a, h, hv => by
   cases v1 <;> simp only [aZ] at h
   case pd => subst h; simp only [vr] at hv ⊢; exact hv
   case any => simp only [vr]
 | .pl k o, v1, a, h, hv => by
   cases v1 <;> simp only [aZ] at h
   case pl => obtain ⟨h1, rfl⟩ := h; simp only [vr] at hv ⊢; simp only [fK, h1]; exact hv
   case any => simp only [vr]
 | .pe k i j, v1, a, h, hv => by
   cases v1 <;> simp only [aZ] at h
   case pe => obtain ⟨h1, rfl, rfl⟩ := h; simp only [vr] at hv ⊢; simp only [fK, h1]; exact hv
   case any => simp only [vr]
 | .ss k o n c, v1, a, h, hv => by
   cases v1 <;> simp only [aZ] at h
   case ss => obtain ⟨h1, rfl, rfl, rfl⟩ := h; simp only [vr] at hv ⊢; simp only [fK, h1]; exact hv
   case any => simp only [vr]
 | .gs k n, v1, a, h, hv => by
   cases v1 <;> simp only [aZ] at h
   case gs => obtain ⟨h1, rfl⟩ := h; simp only [vr] at hv ⊢; simp only [fK, h1]; exact hv
   case any => simp only [vr]
 | .ns, v1, a, h, hv => by
   cases v1 <;> simp only [aZ] at h
   case gs => obtain ⟨h1, rfl⟩ := h; simp only [vr] at hv ⊢; simp only [fK, h1]; exact .inl ⟨trivial, trivial, hv⟩
   case ns => simp only [vr] at hv ⊢; exact hv
   case any => simp only [vr]
 | .np, v1, a, h, hv => by
   cases v1 <;> simp only [aZ] at h
   case np => simp only [vr] at hv ⊢; exact hv
   case any => simp only [vr]
 | .any, v1, a, h, hv => by
   cases v1 <;> simp only [aZ] at h
   case any => simp only [vr]
 | .gd b v, v1, a, h, hv => by
   cases v1 <;> simp only [aZ] at h
   case any => simp only [vr]
 | .yl l, v1, a, h, hv => by
   cases v1 <;> simp only [aZ] at h
   case yl => subst h; simp only [vr] at hv ⊢; exact hv
   case any => simp only [vr]
 | .go k o n, v1, a, h, hv => by
   cases v1 <;> simp only [aZ] at h
   case go => obtain ⟨h1, rfl, rfl⟩ := h; simp only [vr] at hv ⊢; simp only [fK, h1]; exact hv
   case any => simp only [vr]
 | .sq n m f, v1, a, h, hv => by
   cases v1 <;> simp only [aZ] at h
   case any => simp only [vr]
theorem dX : ∀ (vs us : List V) (az : List ab), cD ρ vs us -> vrs w0 ν.z ν vs az -> vrs w0 ν.z (fK ρ ν) us az
 | [], [], az, _, hv => by simp only [vrs] at hv ⊢; exact hv
 | v :: vs, u :: us, az, h, hv => by
   simp only [cD] at h
   simp only [vrs] at hv ⊢
   obtain ⟨x, xs, h1, h2, h3⟩ := hv
   exact ⟨x, xs, h1, tD v u x h.1 h2, dX vs us xs h.2 h3⟩
 | [], _ :: _, _, h, _ => by simp only [cD] at h
 | _ :: _, [], _, h, _ => by simp only [cD] at h
end
theorem oe : ∀ {e e1 : Env} (s : Nat), mF ρ e e1 -> bb e1 s = .any ∨ aZ ρ (bb e s) (bb e1 s)
 | e, [], s, _ => .inl rfl
 | e, (d, v) :: l, s, h => by
   simp only [mF] at h
   rw [cE]
   by_cases hd : s = d
   ·subst hd; rw [if_pos rfl]; exact .inr h.1
   ·rw [if_neg hd]; exact oe s h.2
theorem gg {h : List O} : ∀ {l : List O} {k i : Nat} {o : O}, lT ρ h k l -> l[i]? = some o -> rD ρ h (k + i) o
 | [], _, _, _, _, hi => by simp at hi
 | x :: l, k, 0, o, hh, hi => by simp at hi; subst hi; exact hh.1
 | x :: l, k, i + 1, o, hh, hi => by
   have := gg (i := i) hh.2 (by simpa using hi)
   rwa [show k + 1 + i = k + (i + 1) by omega] at this
theorem i4 : ∀ {l : Rho} {a i : Nat}, jo (some (some a)) l = true -> nth l i = some (some (some a)) -> False
 | [], _, _, _, h => by cases h
 | y :: l, a, 0, h, hi => by
   simp only [nth, Option.some.injEq] at hi; subst hi
   simp [jo] at h
 | y :: l, a, i + 1, h, hi => by
   simp only [jo, Bool.and_eq_true] at h
   exact i4 h.2 hi
theorem ug : ∀ {l : Rho} {a i j : Nat}, rY l = true -> nth l i = some (some (some a)) -> nth l j = some (some (some a)) -> i = j
 | [], _, _, _, _, h, _ => by cases h
 | x :: l, a, 0, 0, _, _, _ => rfl
 | x :: l, a, i + 1, 0, h, hi, hj => by
   simp only [rY, Bool.and_eq_true] at h
   simp only [nth, Option.some.injEq] at hj; subst hj
   exact (i4 h.1 hi).elim
 | x :: l, a, 0, j + 1, h, hi, hj => by
   simp only [rY, Bool.and_eq_true] at h
   simp only [nth, Option.some.injEq] at hi; subst hi
   exact (i4 h.1 hj).elim
 | x :: l, a, i + 1, j + 1, h, hi, hj => by
   simp only [rY, Bool.and_eq_true] at h
   rw [ug h.2 hi hj]
theorem sC : ∀ {n k : Nat}, wC ρ n = true -> k < n -> bD ρ k = some (some k)
 | n + 1, k, h, hk => by
   simp only [wC, Bool.and_eq_true] at h
   rcases Nat.lt_succ_iff_lt_or_eq.1 hk with hk | rfl
   ·exact sC h.2 hk
   ·have h1 := h.1
    split at h1
    ·rename_i j hj; rw [hj, Nat.eq_of_beq_eq_true h1]
    ·cases h1
theorem mz {k j : Nat} (h : bD ρ k = some (some j)) : nth ρ k = some (some (some j)) := by
 unfold bD at h
 split at h
 ·rename_i x hx; rw [hx, h]
 ·cases h
theorem dE.ren (w0 : World) {nb : Nat} {e e1 : Env} {h h1 : List O} (ρ : Rho) (hl : Nat.beq (aK ρ) (aK h1) = true) (hi : rY ρ = true) (hid : wC ρ nb = true) (he : mF ρ e e1) (hh : lT ρ h 0 h1) : dE w0 nb e h e1 h1 := by
 intro N ν nV nS sl lh hs hr
 have hlen : ρ.length = h1.length := by have := Nat.eq_of_beq_eq_true hl; rwa [aJ, aJ] at this
 have hlive : ∀ k, aq h1 k -> ∀ x, fK ρ ν k = some (some x) -> ∃ j, bD ρ k = some (some j) /\ aq h j /\ ν j = some (some x) := fun k hk x hx => by
  have hx' := hx
  simp only [fK] at hx
  split at hx
  ·rename_i j hj
   refine ⟨j, hj, ?_, hx⟩
   rcases cm hk with ⟨cs, ty, hc⟩ | ⟨e', n, f, ty, hc⟩
   ·obtain ⟨j', ds, g1, g2, g3⟩ := gg (k := 0) (i := k) hh hc
    rw [Nat.zero_add, hj] at g1; cases g1
    exact bC (by rwa [av] at g2)
   ·rcases gg (k := 0) (i := k) hh hc with ⟨g1, _⟩ | ⟨j', m, g, g1, g2, _⟩
    ·rw [Nat.zero_add, hj] at g1; cases g1
    ·rw [Nat.zero_add, hj] at g1; cases g1
     exact cP (by rwa [av] at g2)
  ·cases hx
  ·cases hx
 refine ⟨fK ρ ν, 0, 0, ⟨fun k x hk hx => by simp only [fK, sC hid hk]; exact hx, gV _⟩, ⟨hs.len, fun i => ?_⟩, ⟨fun k o hk => ?_, fun k k' x x' hk hk' hx hx' hxx => ?_, fun k hk => ?_, fun k x hx => ?_, hr.zl, fun k x hk hx => let ⟨j, _, g2, g3⟩ := hlive k hk x hx; hr.zn j x g2 g3⟩⟩
 ·rcases oe i he with h0 | h0
  ·rw [h0]; simp only [vr]
  ·exact tD _ _ _ h0 (hs.at' i)
 ·have hb := gg (k := 0) (i := k) hh hk
  rw [Nat.zero_add] at hb
  cases o with
  | cells cs ty =>
    obtain ⟨j, ds, g1, g2, g3⟩ := hb
    rw [av] at g2
    obtain ⟨b, c, e', az, k1, k2, k3⟩ := hr.blk j _ g2
    exact ⟨b, c, e', az, by simp only [fK, g1]; exact k1, k2, dX _ _ _ g3 k3⟩
  | gl e' n f ty =>
    rcases hb with ⟨g1, rfl⟩ | ⟨j, m, g, g1, g2, g3, g4⟩
    ·exact .inl ⟨by simp only [fK, g1], rfl⟩
    ·rw [av] at g2
     rcases hr.blk j _ g2 with ⟨k1, k2⟩ | ⟨b, c, az, k1, k2, k3, k4, k5⟩
     ·exact .inl ⟨by simp only [fK, g1]; exact k1, by omega⟩
     ·exact .inr ⟨b, c, az, by simp only [fK, g1]; exact k1, k2, k3, ⟨by omega, by omega⟩, fun i hi => ⟨(g4 i hi).1, dX _ _ _ (g4 i hi).2 (k5 i (by omega)).2⟩⟩
  | dead => exact hb.elim
  | hid => trivial
 ·obtain ⟨j, g1, g2, g3⟩ := hlive k hk x hx
  obtain ⟨j', g1', g2', g3'⟩ := hlive k' hk' x' hx'
  have := hr.inj j j' x x' g2 g2' g3 g3' hxx
  subst this
  exact ug hi (mz g1) (mz g1')
 ·simp only [fK, bD, av]
  rw [List.getElem?_eq_none (by omega)]
 ·simp only [fK] at hx
  split at hx
  ·exact hr.rng _ x hx
  ·cases hx
  ·cases hx
theorem dE.env (w0 : World) {nb : Nat} {e e1 : Env} {h : List O} (he : ∀ s, bb e1 s = .any ∨ bb e s = bb e1 s) : dE w0 nb e h e1 h := by
 intro N ν nV nS sl lh hs hr
 refine ⟨ν, nV, nS, NuN.refl _ _, ⟨hs.len, fun i => ?_⟩, hr⟩
 rcases he i with h0 | h0
 ·rw [h0]; simp only [vr]
 ·rw [← h0]; exact hs.at' i
theorem dE.refl (w0 : World) (nb : Nat) (e : Env) (h : List O) : dE w0 nb e h e h := fun N ν nV nS sl lh hs hr => ⟨ν, nV, nS, NuN.refl _ _, hs, hr⟩
theorem dE.trans {w0 : World} {nb : Nat} {e e1 e2 : Env} {h h1 h2 : List O} (a : dE w0 nb e h e1 h1) (b : dE w0 nb e1 h1 e2 h2) : dE w0 nb e h e2 h2 := fun N ν nV nS sl lh hs hr => by
 obtain ⟨ν1, nV1, nS1, g0, g1, g2⟩ := a N ν nV nS sl lh hs hr
 obtain ⟨ν2, nV2, nS2, k0, k1, k2⟩ := b N ν1 nV1 nS1 sl lh g1 g2
 exact ⟨ν2, nV2, nS2, g0.trans k0, k1, k2⟩
end
def nD {α : Type} : T α -> List Bool -> T α
 | t, [] => t
 | .br _ x y, p :: ps => cond p (nD x ps) (nD y ps)
 | .und x y, p :: ps => cond p (nD x ps) (nD y ps)
 | .asm _ x, ps => nD x ps
 | .ob _ x, ps => nD x ps
 | .obi _ _ x, ps => nD x ps
 | .obp _ x, ps => nD x ps
 | .obq _ _ x, ps => nD x ps
 | t, _ => t
def oh {α : Type} : T α -> T α
 | .ob _ x => oh x
 | .obi _ _ x => oh x
 | .obp _ x => oh x
 | .obq _ _ x => oh x
 | .asm _ x => oh x
 | t => t
def hT : T (Ex × Env × List O) -> List O
 | .ret r => r.2.2
 | _ => []
def afT {α : Type} : T α -> Nat -> T α
 | .all f => f
 | _ => fun _ => .fail 0
def atT {α : Type} (t : T α) (p : List Bool) : T α := oh (nD t p)
def lH (e : Env) : Env -> Prop
 | [] => True
 | (s, v) :: l => bb e s = v /\ lH e l
theorem mb : ∀ {e e1 : Env} (s : Nat), lH e e1 -> bb e1 s = .any ∨ bb e s = bb e1 s
 | e, [], s, _ => .inl rfl
 | e, (d, v) :: l, s, h => by
   simp only [lH] at h
   rw [cE]
   by_cases hd : s = d
   ·subst hd; rw [if_pos rfl]; exact .inr h.1
   ·rw [if_neg hd]; exact mb s h.2
theorem dE.slots (w0 : World) {nb : Nat} {e e1 : Env} {h h1 : List O} (hh : h = h1) (he : lH e e1) : dE w0 nb e h e1 h1 := by
 subst hh; exact dE.env w0 fun s => mb s he
theorem FE {ct : bc} {w0 : World} (hd : iQ ct = true) {lv nb : Nat} {un : Unr} {body : cK} {e : Env} {h : List O} {Post : Ex -> Env -> List O -> Option Ex -> Prop} (bi : Nat)
 (I : Type) (inv : I -> Env × List O) (μ : I -> Nat) (h0 : ∃ i, dE w0 nb e h (inv i).1 (inv i).2)
 (round : ∀ i, sat (bu w0 (SV ct)) (evC (iA ct lv) (iY ct) un (lv, nb) bi body (inv i).1 (inv i).2 fun x e h => .ret (x, e, h)) fun r => match r.1 with
   | .normal => ∃ i', dE w0 nb r.2.1 r.2.2 (inv i').1 (inv i').2 /\ μ i' < μ i
   | x => Post x r.2.1 r.2.2 none) : bu w0 (SV ct) (lv, nb) (.s body) e h none Post :=
 z7 (fr := (lv, nb)) (jx w0 ct hd lv) (jE w0 ct _ lv) I inv μ h0 round
theorem Bh {ct : bc} {w0 : World} (hd : iQ ct = true) {lv nb : Nat} {un : Unr} {body : dG} {rd : RD} {e : Env} {h : List O} {g : Option Ex} {Post : Ex -> Env -> List O -> Option Ex -> Prop} (bi bi' : Nat)
 (I : Type) (inv : I -> Env × List O × Option Ex) (μ : I -> Nat) (h0 : ∃ i, g = (inv i).2.2 /\ dE w0 nb e h (inv i).1 (inv i).2.1)
 (round : ∀ i, sat (bu w0 (SV ct)) (gi (iA ct lv) (iY ct) un (lv, nb) rd (rdY (iA ct lv) (iY ct) un lv bi' rd) bi body (inv i).1 (inv i).2.1 (inv i).2.2 fun x e h g => .ret (x, e, h, g)) fun r => match r.1 with
   | .normal => ∃ i', r.2.2.2 = (inv i').2.2 /\ dE w0 nb r.2.1 r.2.2.1 (inv i').1 (inv i').2.1 /\ μ i' < μ i
   | x => Post x r.2.1 r.2.2.1 r.2.2.2) : bu w0 (SV ct) (lv, nb) (.i body rd) e h g Post :=
 xm (fr := (lv, nb)) (jx w0 ct hd lv) (jE w0 ct _ lv) I inv μ h0 round
def dm (P : Program) (rec : TypeId -> Option (List Ty)) : List Field -> Nat -> Option (List Ty × Nat)
 | [], off => some ([], off)
 | f :: l, off => match rec f.type, dm P rec l (off + P.cellsOf f.type) with
   | some ts, some (us, n) => if f.offset = off /\ ts.length = P.cellsOf f.type then some (ts ++ us, n) else none
   | _, _ => none
def en (P : Program) : Nat -> TypeId -> Option (List Ty)
 | 0, _ => none
 | fu + 1, t => match P.underlying t with
   | some .bool => some [.bool]
   | some (.int k) => some [.int k]
   | some .string => some [.str]
   | some (.slice e) => match en P fu e with
     | some ts => if ts.length = P.cellsOf e then some [.sl ts] else none
     | none => none
   | some (.struct fs) => match dm P (en P fu) fs.toList 0 with
     | some (ts, n) => if n = P.cellsOf t then some ts else none
     | none => none
   | some (.array n e) => match en P fu e with
     | some ts => if ts.length = P.cellsOf e /\ P.cellsOf t = n * P.cellsOf e then some (List.replicate n ts).flatten else none
     | none => none
   | _ => none
def rgI : IntKind -> Int -> Prop
 | .u8, n => 0 <= n /\ n <= 255
 | _, _ => True
theorem yq {k : IntKind} {n : Int} (h : (Lit.int k n).wf = true) : rgI k n := by
 have h1 : (decide (k.min <= n) && decide (n <= k.max)) = true := h
 rw [Bool.and_eq_true, decide_eq_true_eq, decide_eq_true_eq] at h1
 cases k <;> first | trivial | exact ⟨h1.1, h1.2⟩
mutual
def nG : Ty -> V -> Prop
 | .int k, v => rgI k (iv v)
 | .str, v => (sv v).size <= 9223372036854775807
 | .agg ts, v => dC ts (cI v)
 | .sl ts, v => ∀ i, i < cz v -> dC ts (atV v i)
 | _, _ => True
def dC : List Ty -> List V -> Prop
 | [], _ => True
 | t :: ts, vs => nG t (hdV vs) /\ dC ts (tlV vs)
end
mutual
theorem ut : ∀ (t : Ty) (v : V), nG t v -> nG t (bg t v)
 | .int k, v, h => by simp only [bg, nG, iv] at h ⊢; exact h
 | .bool, _, _ => trivial
 | .str, v, h => by simp only [bg, nG, sv] at h ⊢; exact h
 | .agg ts, v, h => by simp only [bg, nG, cI] at h ⊢; exact dZ ts _ h
 | .sl ts, v, h => by simp only [bg, nG, cz, atV] at h ⊢; exact fun i hi => dZ ts _ (h i hi)
 | .fn .., _, _ => trivial
 | .pd _, _, _ => trivial
theorem dZ : ∀ (ts : List Ty) (vs : List V), dC ts vs -> dC ts (al ts vs)
 | [], _, _ => trivial
 | t :: ts, vs, h => by simp only [dC, al, hdV, tlV] at h ⊢; exact ⟨ut t _ h.1, dZ ts _ h.2⟩
end
section
variable {w : World}
theorem gc : ∀ {ts us : List Ty} {vs xs : List V}, aA ts vs -> dC ts vs -> dC us xs -> dC (ts ++ us) (vs ++ xs)
 | [], _, _, _, h, _, k => by simp only [aA] at h; subst h; simpa using k
 | t :: ts, us, vs, xs, h, hz, k => by
   simp only [aA] at h
   rw [h.1]
   simp only [dC] at hz
   simp only [List.cons_append, dC, hdV, tlV]
   exact ⟨hz.1, gc h.2.2 hz.2 k⟩
theorem fC : ∀ {ts us : List Ty} {vs xs : List V}, aA ts vs -> aA us xs -> aA (ts ++ us) (vs ++ xs)
 | [], _, _, _, h, k => by simp only [aA] at h; subst h; simpa using k
 | t :: ts, us, vs, xs, h, k => by
   simp only [aA] at h
   rw [h.1]
   simp only [List.cons_append, aA, hdV, tlV]
   exact ⟨trivial, h.2.1, fC h.2.2 k⟩
theorem eC {w : World} {a : Addr} : ∀ (n i : Nat) (cs : List Value), (List.range' i n).mapM (fun j => w.cell? (a.add j)) = some cs -> cU w a i n = some (cs.map aE) := by
 intro n
 induction n with
 | zero => intro i cs h; simp at h; subst h; rfl
 | succ n ih =>
   intro i cs h
   simp only [List.range'_succ, List.mapM_cons] at h
   cases hc : w.cell? (a.add i) with
   | none => simp [hc] at h
   | some v =>
     cases hr : (List.range' (i + 1) n).mapM (fun j => w.cell? (a.add j)) with
     | none => simp [hc, hr] at h
     | some l =>
       simp [hc, hr] at h
       subst h
       simp [cU, hc, ih (i + 1) l hr]
theorem vJ {a : Addr} {n c esz : Nat} {ts : List Ty} (hn : n <= c) (hc : c <= maxLen) (hcell : ts.all aT = true)
 (h : ∀ i, i < n -> ∃ cs : List Value, cU w (a.add (i * esz)) 0 esz = some (cs.map aE) /\ ∃ vs, vrs w [] Nu.nil vs (cs.map aE) /\ (aA ts vs /\ dC ts vs) /\ vs.all V.fc = true) :
 ∃ v, vr w [] Nu.nil v (.slice (some (.g a)) n c) /\ (bn (.sl ts) v /\ nG (.sl ts) v) /\ v.fc = true := by
 classical
 refine ⟨.sl n fun i => if hi : i < n then (Classical.choose (Classical.choose_spec (h i hi)).2) else [], ?_, ?_, rfl⟩
 ·simp only [vr]
  refine ⟨some (.g a), c, esz, rfl, hn, by unfold maxLen at hc; omega, trivial, fun i hi => ?_⟩
  have h1 := Classical.choose_spec (h i hi)
  have h2 := Classical.choose_spec h1.2
  refine ⟨.g a, (Classical.choose (h i hi)).map aE, rfl, ?_, ?_, ?_⟩
  ·simp only [Ptr.add, lds]; exact h1.1
  ·simp only [hi, dite_true]; exact h2.1
  ·simp only [hi, dite_true]; exact h2.2.2
 ·simp only [bn, nG, cz, atV, uU]
  refine ⟨⟨.inl rfl, hcell, fun i hi => ?_⟩, fun i hi => ?_⟩
  ·simp only [hi, dite_true]
   exact (Classical.choose_spec (Classical.choose_spec (h i hi)).2).2.1.1
  ·simp only [hi, dite_true]
   exact (Classical.choose_spec (Classical.choose_spec (h i hi)).2).2.1.2
end
theorem jI : ∀ {ts : List Ty} {vs : List V}, aA ts vs -> ts.all aT = true -> vs.all V.fc = true
 | [], vs, h, _ => by simp only [aA] at h; subst h; rfl
 | t :: ts, vs, h, ho => by
   simp only [aA] at h
   simp only [List.all_cons, Bool.and_eq_true] at ho
   rw [h.1]
   simp only [List.all_cons, Bool.and_eq_true]
   refine ⟨?_, jI h.2.2 ho.2⟩
   have h1 := h.2.1
   cases t <;> simp only [bn] at h1
   case int => rw [h1]; rfl
   case bool => rcases h1 with h1 | h1 <;> (rw [h1]; rfl)
   case str => rw [h1]; rfl
   case sl => rcases h1.1 with h0 | h0 <;> (rw [h0]; rfl)
   all_goals simp [aT] at ho
section
variable {P : Program}
theorem gx {rec : TypeId -> Option (List Ty)} (hr : ∀ t ts, rec t = some ts -> ts.all aT = true) : ∀ {fs : List Field} {off n : Nat} {ts : List Ty}, dm P rec fs off = some (ts, n) -> ts.all aT = true
 | [], off, n, ts, h => by simp [dm] at h; rw [h.1]; rfl
 | f :: l, off, n, ts, h => by
   simp only [dm] at h
   split at h
   ·rename_i us vs m h1 h2
    split at h
    ·cases h; rw [List.all_append, hr _ _ h1, gx hr h2]; rfl
    ·cases h
   ·cases h
theorem dR : ∀ {fu : Nat} {t : TypeId} {ts : List Ty}, en P fu t = some ts -> ts.all aT = true
 | 0, _, _, h => by cases h
 | fu + 1, t, ts, h => by
   simp only [en] at h
   split at h
   ·cases h; rfl
   ·cases h; rfl
   ·cases h; rfl
   ·split at h
    ·split at h
     ·cases h; rfl
     ·cases h
    ·cases h
   ·split at h
    ·rename_i us n hf
     split at h
     ·cases h; exact gx (fun t ts => dR (fu := fu)) hf
     ·cases h
    ·cases h
   ·split at h
    ·rename_i us hu
     split at h
     ·cases h
      rw [List.all_eq_true]; intro x hx
      obtain ⟨l, hl, hx⟩ := List.mem_flatten.1 hx
      rw [(List.mem_replicate.1 hl).2] at hx
      exact List.all_eq_true.1 (dR hu) x hx
     ·cases h
    ·cases h
   ·cases h
variable {H : Type} {enc : TypeId × Value -> H} {w : World} {base : Nat} {spare : Nat -> Bool} {held : Bool}
theorem lm {rec : TypeId -> Option (List Ty)} {fuel : Nat} (hr : ∀ t ts cs d ps, rec t = some ts -> DataW.trod enc P w base spare held fuel t cs = some (d, ps) -> ∃ vs, vrs w [] Nu.nil vs (cs.map aE) /\ aA ts vs /\ dC ts vs) (cs : List Value) :
 ∀ {fs : List Field} {off n : Nat} {ts : List Ty}, dm P rec fs off = some (ts, n) -> (∀ f ∈ fs, ∃ x, DataW.trod enc P w base spare held fuel f.type ((cs.drop f.offset).take (P.cellsOf f.type)) = some x) -> cs.length = n ->
 ∃ vs, vrs w [] Nu.nil vs ((cs.drop off).map aE) /\ aA ts vs /\ dC ts vs
 | [], off, n, ts, h, _, hl => by
   simp [dm] at h
   obtain ⟨rfl, rfl⟩ := h
   exact ⟨[], by rw [List.drop_eq_nil_of_le (by omega)]; simp [vrs], by simp [aA], trivial⟩
 | f :: l, off, n, ts, h, hx, hl => by
   simp only [dm] at h
   split at h
   ·rename_i us vs m h1 h2
    split at h
    ·rename_i hc
     cases h
     obtain ⟨rfl, hlen⟩ := hc
     obtain ⟨⟨d, ps⟩, ha⟩ := hx f List.mem_cons_self
     obtain ⟨v1, g1, g2, z1⟩ := hr _ _ _ _ _ h1 ha
     obtain ⟨v2, g3, g4, z2⟩ := lm hr cs h2 (fun g hg => hx g (List.mem_cons_of_mem _ hg)) hl
     refine ⟨v1 ++ v2, ?_, fC g2 g4, gc g2 z1 z2⟩
     have e : cs.drop f.offset = (cs.drop f.offset).take (P.cellsOf f.type) ++ cs.drop (f.offset + P.cellsOf f.type) := by
      rw [← List.drop_drop]; exact (List.take_append_drop _ _).symm
     rw [e, List.map_append]
     exact eQ g1 g3
    ·cases h
   ·cases h
theorem rQ {fuel k : Nat} {e : TypeId} {us : List Ty} (hr : ∀ cs d ps, DataW.trod enc P w base spare held fuel e cs = some (d, ps) -> ∃ vs, vrs w [] Nu.nil vs (cs.map aE) /\ aA us vs /\ dC us vs) (cs : List Value) :
 ∀ (n m : Nat), cs.length = (m + n) * k -> (∀ i, m <= i -> i < m + n -> ∃ x, DataW.trod enc P w base spare held fuel e ((cs.drop (i * k)).take k) = some x) -> ∃ vs, vrs w [] Nu.nil vs ((cs.drop (m * k)).map aE) /\ aA (List.replicate n us).flatten vs /\ dC (List.replicate n us).flatten vs := by
 intro n
 induction n with
 | zero => intro m hl _; exact ⟨[], by rw [List.drop_eq_nil_of_le (by simp at hl; omega)]; simp [vrs], by simp [aA], trivial⟩
 | succ n ih =>
   intro m hl h
   obtain ⟨x, hx⟩ := h m (Nat.le_refl _) (by omega)
   obtain ⟨d, ps⟩ := x
   obtain ⟨v1, g1, g2, z1⟩ := hr _ _ _ hx
   obtain ⟨v2, g3, g4, z2⟩ := ih (m + 1) (by rw [hl]; congr 1; omega) (fun i h1 h2 => h i (by omega) (by omega))
   refine ⟨v1 ++ v2, ?_, by rw [List.replicate_succ, List.flatten_cons]; exact fC g2 g4, by rw [List.replicate_succ, List.flatten_cons]; exact gc g2 z1 z2⟩
   have e : cs.drop (m * k) = (cs.drop (m * k)).take k ++ cs.drop ((m + 1) * k) := by
    rw [Nat.succ_mul, ← List.drop_drop]; exact (List.take_append_drop _ _).symm
   rw [e, List.map_append]
   exact eQ g1 g3
theorem wd : ∀ (fuel fu : Nat) (t : TypeId) (ts : List Ty) (cs : List Value) (d : DataW H) (ps : List MemPlace), en P fu t = some ts -> DataW.trod enc P w base spare held fuel t cs = some (d, ps) -> ∃ vs, vrs w [] Nu.nil vs (cs.map aE) /\ aA ts vs /\ dC ts vs := by
 intro fuel
 induction fuel with
 | zero => intro fu t ts cs d ps _ h; cases h
 | succ fuel ih =>
   intro fu t ts cs d ps ht h
   cases fu with
   | zero => cases ht
   | succ fu =>
     have hok := dR ht
     simp only [en] at ht
     split at ht
     ·rename_i hu
      cases ht
      obtain ⟨b, rfl, _⟩ := DataW.trod_bool hu h
      exact ⟨[.bool b], by simp [vrs, vr, aE], by simp [aA, bn, hdV, tlV, bv], trivial, trivial⟩
     ·rename_i k hu
      cases ht
      obtain ⟨n, rfl, _, hwf⟩ := DataW.trod_int hu h
      exact ⟨[.int k n], by simp [vrs, vr, aE], by simp [aA, bn, hdV, tlV, iv], yq hwf, trivial⟩
     ·rename_i hu
      cases ht
      obtain ⟨b, rfl, _, hb⟩ := DataW.trod_string hu h
      exact ⟨[.str b], by simp [vrs, vr, aE], by simp [aA, bn, hdV, tlV, sv], (show b.size <= 9223372036854775807 by unfold maxLen at hb; omega), trivial⟩
     ·rename_i e hu
      split at ht
      ·rename_i us hus
       split at ht
       ·rename_i hlen
        cases ht
        have hcell := dR hus
        rcases DataW.trod_slice hu h with ⟨rfl, _⟩ | ⟨a, len, cap, elems, rest, n, hn, rfl, _, _, h3, h4, h5, h6, _⟩
        ·exact ⟨[.sl 0 fun _ => []], by simp only [List.map_cons, List.map_nil, aE, vrs, vr]; exact ⟨_, _, rfl, ⟨none, 0, 0, rfl, Nat.le_refl _, by omega, trivial, fun i hi => by omega⟩, rfl⟩, by simp only [aA, bn, hdV, tlV, cz, uU]; exact ⟨trivial, ⟨.inl rfl, hcell, fun i hi => by omega⟩, trivial⟩, (fun i hi => by simp [cz, hdV] at hi), trivial⟩
        ·cases hn
         obtain ⟨v, g1, g2, _⟩ := vJ (w := w) (a := a) (n := len) (c := cap) (esz := P.cellsOf e) (ts := us) h3 h4 hcell (fun i hi => by
          have h7 := h6 i hi
          rw [List.getElem?_eq_getElem (by omega)] at h7
          cases hcs : w.cells? base (a.add (i * P.cellsOf e)) (P.cellsOf e) with
          | none => rw [hcs] at h7; cases h7
          | some cs' =>
            rw [hcs] at h7
            obtain ⟨vs, g1, g2, z2⟩ := ih fu e us cs' elems[i].1 elems[i].2 hus h7
            unfold World.cells? at hcs
            split at hcs
            ·rw [List.range_eq_range'] at hcs
             exact ⟨cs', eC _ 0 cs' hcs, vs, g1, ⟨g2, z2⟩, jI g2 hcell⟩
            ·cases hcs)
         exact ⟨[v], by simp only [List.map_cons, List.map_nil, aE, vrs]; exact ⟨_, _, rfl, g1, rfl⟩, by simp only [aA, hdV, tlV]; exact ⟨trivial, g2.1, trivial⟩, g2.2, trivial⟩
       ·cases ht
      ·cases ht
     ·rename_i fs hu
      split at ht
      ·rename_i us n hf
       split at ht
       ·rename_i hn
        cases ht
        obtain ⟨xs, m, hm, _, h3, h4, h5⟩ := DataW.trod_struct hu h
        cases hm
        have := lm (off := 0) (fun t ts cs d ps => ih fu t ts cs d ps) cs hf (fun f hf' => by
         obtain ⟨i, hi, rfl⟩ := List.getElem_of_mem hf'
         simp at hi
         have h6 := h5 i fs[i] (by simp [hi])
         rw [List.getElem?_eq_getElem (by omega)] at h6
         exact ⟨_, by simpa using h6⟩) (by rw [h3, hn])
        simpa using this
       ·cases ht
      ·cases ht
     ·rename_i n e hu
      split at ht
      ·rename_i us hus
       split at ht
       ·rename_i hc
        cases ht
        obtain ⟨xs, m, hm, _, h3, h4, h5⟩ := DataW.trod_array hu h
        cases hm
        have := rQ (k := P.cellsOf e) (fun cs d ps => ih fu e us cs d ps hus) cs n 0 (by rw [h3, hc.2]; simp) (fun i _ hi => by
         have h6 := h5 i (by omega)
         rw [List.getElem?_eq_getElem (by omega)] at h6
         exact ⟨_, h6⟩)
        simpa using this
       ·cases ht
      ·cases ht
     ·cases ht
end
end Go.Dx
namespace Go.Dx
open Go.Sx Go.RowKit
def iF : Value -> ab
 | .agg cs => .agg (cs.toList.map aE)
 | v => aE v
theorem r8 (v : Value) : vrel (fun _ => none) (iF v) v := by
 unfold iF; split
 ·rename_i cs; simp only [vrel]; exact ⟨cs, rfl, aO _ _⟩
 ·exact aQ _ _
theorem kQ : ∀ vs : List Value, ae (fun _ => none) (vs.map iF) vs
 | [] => by simp [ae]
 | v :: vs => by simp only [List.map_cons, ae]; exact ⟨_, _, rfl, r8 v, kQ vs⟩
def wM (P : Program) (fu : Nat) (t : TypeId) : Option Ty := match P.underlying t with
 | some (.struct _) => (en P fu t).map .agg
 | some (.array _ _) => (en P fu t).map .agg
 | some (.int k) => some (.int k)
 | some .bool => some .bool
 | _ => none
def argTys (P : Program) (fu : Nat) : List TypeId -> Option (List Ty)
 | [] => some []
 | t :: ts => match wM P fu t, argTys P fu ts with
   | some x, some xs => some (x :: xs)
   | _, _ => none
section
variable {P : Program} {H : Type} {enc : TypeId × Value -> H} {W : World} {base : Nat}
theorem F3 {fu : Nat} {t : TypeId} {ty : Ty} {v : Value} {d : DataW H} {ps : List MemPlace} {b : Nat} {spare : Nat -> Bool} {held : Bool} (ht : wM P fu t = some ty) (hv : Value.okWide P W .any base t v) (h : DataW.Trod enc P W b spare held t v d ps) :
 ∃ x, vr W [] Nu.nil x (iF v) /\ bn ty x /\ nG ty x := by
 obtain ⟨fuel, h⟩ := h
 unfold wM at ht
 unfold Value.okWide at hv
 split at ht
 ·rename_i fs hu
  rw [hu] at hv
  obtain ⟨cs, rfl, _, _⟩ := hv
  simp only [Option.map_eq_some_iff] at ht
  obtain ⟨ts, hts, rfl⟩ := ht
  obtain ⟨vs, g1, g2, z2⟩ := wd fuel fu t ts _ d ps hts h
  exact ⟨.agg vs, by simp only [iF, vr]; exact ⟨_, rfl, g1⟩, by simp only [bn, cI]; exact ⟨trivial, g2⟩, z2⟩
 ·rename_i n e hu
  rw [hu] at hv
  obtain ⟨cs, rfl, _, _⟩ := hv
  simp only [Option.map_eq_some_iff] at ht
  obtain ⟨ts, hts, rfl⟩ := ht
  obtain ⟨vs, g1, g2, z2⟩ := wd fuel fu t ts _ d ps hts h
  exact ⟨.agg vs, by simp only [iF, vr]; exact ⟨_, rfl, g1⟩, by simp only [bn, cI]; exact ⟨trivial, g2⟩, z2⟩
 ·rename_i k hu
  cases ht
  obtain ⟨n, hc, _, hwf⟩ := DataW.trod_int hu h
  have : v = .int k n := by
   rw [hu] at hv
   unfold Cell.okWide at hv
   rw [hu] at hv
   cases v <;> simp_all [Value.cells, Cell.ok]
  subst this
  exact ⟨.int k n, by simp [iF, aE, vr], by simp [bn, iv], yq hwf⟩
 ·rename_i hu
  cases ht
  obtain ⟨n, hc, _⟩ := DataW.trod_bool hu h
  have : v = .bool n := by
   rw [hu] at hv
   unfold Cell.okWide at hv
   rw [hu] at hv
   cases v <;> simp_all [Value.cells, Cell.ok]
  subst this
  exact ⟨.bool n, by simp [iF, aE, vr], by simp [bn, bv], trivial⟩
 ·cases ht
theorem wU {fu : Nat} {b : Nat} {spare : Nat -> Bool} {held : Bool} : ∀ {ts : List TypeId} {tys : List Ty} {vs : List Value} {ds : List (DataW H)} {ps : List MemPlace}, argTys P fu ts = some tys -> (∀ (j : Nat) t v, ts[j]? = some t -> vs[j]? = some v -> Value.okWide P W .any base t v) -> DataW.TrodAll enc P W b spare held ts vs ds ps ->
 ∃ xs, vrs W [] Nu.nil xs (vs.map iF) /\ aA tys xs /\ dC tys xs
 | [], tys, [], [], ps, ht, _, h => by simp only [argTys, Option.some.injEq] at ht; subst ht; exact ⟨[], by simp [vrs], by simp [aA], trivial⟩
 | t :: ts, tys, v :: vs, d :: ds, ps, ht, hv, h => by
   simp only [argTys] at ht
   split at ht
   ·rename_i x xs hx hxs
    cases ht
    obtain ⟨p, q, h1, h2, _⟩ := h
    obtain ⟨y, g1, g2, z1⟩ := F3 hx (hv 0 t v rfl rfl) h1
    obtain ⟨ys, g3, g4, z2⟩ := wU hxs (fun j t v hj hvj => hv (j + 1) t v (by simpa using hj) (by simpa using hvj)) h2
    exact ⟨y :: ys, by simp only [List.map_cons, vrs]; exact ⟨_, _, rfl, g1, g3⟩, by simp only [aA, hdV, tlV]; exact ⟨trivial, g2, g4⟩, z1, z2⟩
   ·cases ht
 | [], _, _ :: _, _, _, _, _, h => by simp [DataW.TrodAll] at h
 | [], _, [], _ :: _, _, _, _, h => by simp [DataW.TrodAll] at h
 | _ :: _, _, [], _, _, _, _, h => by simp [DataW.TrodAll] at h
 | _ :: _, _, _ :: _, [], _, _, _, h => by simp [DataW.TrodAll] at h
mutual
theorem oz : ∀ (t : Ty) (v : V), bg t (bg t v) = bg t v
 | .int k, v => by simp only [bg, iv]
 | .bool, v => by simp only [bg, bv]
 | .str, v => by simp only [bg, sv]
 | .agg ts, v => by simp only [bg, cI]; rw [de ts]
 | .sl ts, v => by simp only [bg, cz, atV]; congr 1; funext i; exact de ts _
 | .fn f xs ys, v => by simp only [bg, fxs, fys]; rw [de xs, de ys]
 | .pd ts, v => by simp only [bg, pdV]; rw [de ts]
theorem de : ∀ (ts : List Ty) (vs : List V), al ts (al ts vs) = al ts vs
 | [], vs => by simp only [al]
 | t :: ts, vs => by simp only [al, hdV, tlV]; rw [oz t, de ts]
end
mutual
theorem wo : ∀ (t : Ty) (v : V) (k : List V), fxL t (bg t v) k = fxR t (bg t v) k
 | .int k, v, _ => by simp only [bg, fxL, fxR, iv]
 | .bool, v, _ => by simp only [bg, fxL, fxR, bv]
 | .str, v, _ => by simp only [bg, fxL, fxR, sv]
 | .agg ts, v, k => by simp only [bg, fxL, fxR, cI]; rw [dg ts]
 | .sl ts, v, k => by
   have := oz (.sl ts) v
   simp only [bg] at this ⊢
   simp only [fxL, fxR, bg, this]
 | .fn f xs ys, v, k => by simp only [bg, fxL, fxR, fxs, fys]; rw [dg ys, dg xs]
 | .pd ts, v, k => by simp only [bg, fxL, fxR, pdV]; rw [dg ts]
theorem dg : ∀ (ts : List Ty) (vs : List V) (k : List V), gj ts (al ts vs) k = gm ts (al ts vs) k
 | [], vs, k => by simp only [al, gj, gm]
 | t :: ts, vs, k => by simp only [al, gj, gm, hdV, tlV]; rw [dg ts, wo t]
end
def lawC (tys : List Ty) : aI := mkC tys (dC tys) fun _ => .bool true
theorem law_calls {f : FuncId} {fu b : Nat} {spare : Nat -> Bool} {held : Bool} {tys : List Ty} {ts : List TypeId} {args : Array Value} {ds : List (DataW H)} {ps : List MemPlace} (hOk : (vP (lawC tys)).Ok P f) (ht : argTys P fu ts = some tys)
 (hv : ∀ (j : Nat) t v, ts[j]? = some t -> args[j]? = some v -> Value.okWide P W .any base t v) (hA : DataW.TrodAll enc P W b spare held ts args.toList ds ps) :
 Calls P f args W fun e W' => e = .returned (.bool true) /\ Below W.heap.size W W' := by
 obtain ⟨xs, g1, g2, z2⟩ := wU (vs := args.toList) ht (fun j t v hj hvj => hv j t v hj (by simpa using hvj)) hA
 obtain ⟨_, hc⟩ := hOk.sound ⟨W, W, fun _ => False, []⟩ (fun _ => none) [] W (args.toList.map iF) args.toList (fun r _ => r = .bool true) (ar.start W) (kQ _)
  ⟨al tys xs, _, _, _, dD tys xs _ g2 g1, rfl, ⟨dg tys xs [], by rw [(fi tys _ [] [] (dg tys xs [])).1]; exact dZ tys _ (dZ tys xs z2)⟩, rfl, rfl⟩
 refine hc.mono fun e w' ⟨v, r, m', lh', he, hr, _, hh, hk⟩ => ?_
 subst hk
 simp only [vrel] at hr
 subst hr
 exact ⟨he, hh.os, hh.tape, hh.output, hh.fsize, hh.old⟩
end
end Go.Dx
namespace Go.Dx
open Go.Sx
inductive bQ (J : Type) where
 | res (v : V)
 | head (j : J) (e : Env) (h : List O) (g : Option Ex)
structure Lp (J : Type) where
 fr : Nat × Nat
 body : ra
 k : Ex -> Env -> List O -> Option Ex -> T (bQ J)
section
variable {α β : Type}
def cN : T α -> (α -> T β) -> T β
 | .ret a, f => f a
 | .br b x y, f => .br b (cN x f) (cN y f)
 | .ob b x, f => .ob b (cN x f)
 | .obi c d x, f => .obi c d (cN x f)
 | .obp p x, f => .obp p (cN x f)
 | .obq a b x, f => .obq a b (cN x f)
 | .fail n, _ => .fail n
 | .loop fr b e h g k, f => .loop fr b e h g fun x e h g => cN (k x e h g) f
 | .all t, f => .all fun l => cN (t l) f
 | .und x y, f => .und (cN x f) (cN y f)
 | .asm p x, f => .asm p (cN x f)
theorem qi {LP : cg} {Q : β -> Prop} (f : α -> T β) : ∀ t : T α, sat LP (cN t f) Q = sat LP t fun a => sat LP (f a) Q := by
 intro t
 induction t with
 | ret a => rfl
 | br b x y hx hy => simp only [cN, sat, hx, hy]
 | ob b x hx => simp only [cN, sat, hx]
 | obi c d x hx => simp only [cN, sat, hx]
 | obp p x hx => simp only [cN, sat, hx]
 | obq a b x hx => simp only [cN, sat, hx]
 | fail n => rfl
 | loop fr b e h g k hk => simp only [cN, sat, hk]
 | all t ht => simp only [cN, sat, ht]
 | und x y hx hy => simp only [cN, sat, hx, hy]
 | asm p x hx => simp only [cN, sat, hx]
theorem eW {LP : cg} (hLP : ∀ fr b e h g (P P' : Ex -> Env -> List O -> Option Ex -> Prop), (∀ x e h g, P x e h g -> P' x e h g) -> LP fr b e h g P -> LP fr b e h g P') {Q Q' : α -> Prop} (hQ : ∀ a, Q a -> Q' a) : ∀ t : T α, sat LP t Q -> sat LP t Q' := by
 intro t
 induction t with
 | ret a => exact hQ a
 | br b x y hx hy => exact fun h => ⟨fun e => hx (h.1 e), fun e => hy (h.2 e)⟩
 | ob b x hx => exact fun h => ⟨h.1, hx h.2⟩
 | obi c d x hx => exact fun h => ⟨h.1, hx h.2⟩
 | obp p x hx => exact fun h => ⟨h.1, hx h.2⟩
 | obq a b x hx => exact fun h => ⟨h.1, hx h.2⟩
 | fail n => exact id
 | loop fr b e h g k hk => exact fun hs => hLP _ _ _ _ _ _ _ (fun x e h g => hk x e h g) hs
 | all t ht => exact fun h l => ht l (h l)
 | und x y hx hy => exact fun h => ⟨hx h.1, hy h.2⟩
 | asm p x hx => exact fun h hp => hx (h hp)
theorem dp (w0 : World) (S : qk) : ∀ fr b e h g (P P' : Ex -> Env -> List O -> Option Ex -> Prop), (∀ x e h g, P x e h g -> P' x e h g) -> bu w0 S fr b e h g P -> bu w0 S fr b e h g P' := by
 intro fr b e h g P P' hP
 cases b with
 | s body => exact fun hl N nbS ν nV nS sl lh QA h1 h2 h3 h4 => hl N nbS ν nV nS sl lh QA h1 h2 h3 fun ex e' h' ν' sl' lh' nV' nS' g0 g1 g2 g3 => h4 ex e' h' ν' sl' lh' nV' nS' g0 g1 g2 (hP _ _ _ _ g3)
 | i body rd => exact fun hl N N0 ν nV nS sl sl0 lh QA h1 h2 h3 h4 h5 h6 h7 h8 => hl N N0 ν nV nS sl sl0 lh QA h1 h2 h3 h4 h5 h6 h7 fun ex e' h' g' ν' sl' lh' nV' nS' g0 g1 g2 g3 => h8 ex e' h' g' ν' sl' lh' nV' nS' g0 g1 g2 (hP _ _ _ _ g3)
end
mutual
def fb (ρ : Rho) : V -> V -> V
 | .any, _ => .any
 | .int _ _, .int k a => .int k a
 | .bool _, .bool a => .bool a
 | .bool _, .kb a => .bool a
 | .kb _, .kb a => .kb a
 | .str _, .str a => .str a
 | .agg ys, .agg xs => .agg (gT ρ ys xs)
 | .tup ys, .tup xs => .tup (gT ρ ys xs)
 | .fn _ us vs, .fn f xs ys => .fn f (gT ρ us xs) (gT ρ vs ys)
 | .sl _ _, .sl n f => .sl n f
 | .pd _, .pd cs => .pd cs
 | .pl k1 _, .pl k o => match bD ρ k1 with
   | some (some k') => cond (Nat.beq k' k) (.pl k1 o) .any
   | _ => .any
 | .pe k1 _ _, .pe k i j => match bD ρ k1 with
   | some (some k') => cond (Nat.beq k' k) (.pe k1 i j) .any
   | _ => .any
 | .ss k1 _ _ _, .ss k o n c => match bD ρ k1 with
   | some (some k') => cond (Nat.beq k' k) (.ss k1 o n c) .any
   | _ => .any
 | .gs k1 _, .gs k n => match bD ρ k1 with
   | some (some k') => cond (Nat.beq k' k) (.gs k1 n) .any
   | _ => .any
 | .gs k1 _, .ns => match bD ρ k1 with
   | some none => .gs k1 0
   | _ => .any
 | .ns, .ns => .ns
 | .np, .np => .np
 | .yl _, .yl l => .yl l
 | .go k1 _ _, .go k o n => match bD ρ k1 with
   | some (some k') => cond (Nat.beq k' k) (.go k1 o n) .any
   | _ => .any
 | _, _ => .any
def gT (ρ : Rho) : List V -> List V -> List V
 | [], [] => []
 | y :: ys, x :: xs => fb ρ y x :: gT ρ ys xs
 | [], _ :: _ => [.any]
 | _ :: _, [] => []
end
section
variable {ρ : Rho}
theorem wF {k k' : Nat} {x y : V} (hb : cond (Nat.beq k' k) x V.any = y) (hy : y ≠ V.any) : k' = k /\ x = y := by
 cases hc : Nat.beq k' k with
 | false => rw [hc] at hb; exact (hy hb.symm).elim
 | true => rw [hc] at hb; exact ⟨Nat.eq_of_beq_eq_true hc, hb⟩
mutual
theorem tT : ∀ (t v : V), fb ρ t v = t -> aZ ρ v t
 | .any, v, _ => by cases v <;> simp [aZ]
 | .int k n, v, h => by cases v <;> simp only [fb] at h <;> cases h <;> simp [aZ]
 | .bool b, v, h => by cases v <;> simp only [fb] at h <;> cases h <;> simp [aZ]
 | .kb b, v, h => by cases v <;> simp only [fb] at h <;> cases h <;> simp [aZ]
 | .str b, v, h => by cases v <;> simp only [fb] at h <;> cases h <;> simp [aZ]
 | .agg ys, v, h => by
   cases v <;> simp only [fb] at h <;> first | (cases h; done) | skip
   simp only [V.agg.injEq] at h; simp only [aZ]; exact eN ys _ h
 | .tup ys, v, h => by
   cases v <;> simp only [fb] at h <;> first | (cases h; done) | skip
   simp only [V.tup.injEq] at h; simp only [aZ]; exact eN ys _ h
 | .fn f us vs, v, h => by
   cases v <;> simp only [fb] at h <;> first | (cases h; done) | skip
   simp only [V.fn.injEq] at h; simp only [aZ]; exact ⟨h.1, eN us _ h.2.1, eN vs _ h.2.2⟩
 | .sl n f, v, h => by cases v <;> simp only [fb] at h <;> cases h <;> simp [aZ]
 | .pd cs, v, h => by cases v <;> simp only [fb] at h <;> cases h <;> simp [aZ]
 | .pl k1 o1, v, h => by
   cases v <;> simp only [fb] at h <;> first | (cases h; done) | skip
   split at h
   ·rename_i k' hk
    obtain ⟨rfl, e⟩ := wF h (by simp)
    simp only [V.pl.injEq, true_and] at e
    simp only [aZ]; exact ⟨hk, e⟩
   ·cases h
 | .pe k1 i1 j1, v, h => by
   cases v <;> simp only [fb] at h <;> first | (cases h; done) | skip
   split at h
   ·rename_i k' hk
    obtain ⟨rfl, e⟩ := wF h (by simp)
    simp only [V.pe.injEq, true_and] at e
    simp only [aZ]; exact ⟨hk, e⟩
   ·cases h
 | .ss k1 i1 j1 c1, v, h => by
   cases v <;> simp only [fb] at h <;> first | (cases h; done) | skip
   split at h
   ·rename_i k' hk
    obtain ⟨rfl, e⟩ := wF h (by simp)
    simp only [V.ss.injEq, true_and] at e
    simp only [aZ]; exact ⟨hk, e⟩
   ·cases h
 | .gs k1 n1, v, h => by
   cases v <;> simp only [fb] at h <;> first | (cases h; done) | skip
   ·split at h
    ·rename_i k' hk
     obtain ⟨rfl, e⟩ := wF h (by simp)
     simp only [V.gs.injEq, true_and] at e
     simp only [aZ]; exact ⟨hk, e⟩
    ·cases h
   ·split at h
    ·rename_i hk
     simp only [V.gs.injEq, true_and] at h
     simp only [aZ]; exact ⟨hk, h.symm⟩
    ·cases h
 | .ns, v, h => by cases v <;> simp only [fb] at h <;> cases h <;> simp [aZ]
 | .np, v, h => by cases v <;> simp only [fb] at h <;> cases h <;> simp [aZ]
 | .yl l, v, h => by cases v <;> simp only [fb] at h <;> cases h <;> simp [aZ]
 | .gd b x, v, h => by cases v <;> simp only [fb] at h <;> cases h
 | .go k1 i1 j1, v, h => by
   cases v <;> simp only [fb] at h <;> first | (cases h; done) | skip
   split at h
   ·rename_i k' hk
    obtain ⟨rfl, e⟩ := wF h (by simp)
    simp only [V.go.injEq, true_and] at e
    simp only [aZ]; exact ⟨hk, e⟩
   ·cases h
 | .sq n m f, v, h => by cases v <;> simp only [fb] at h <;> cases h
theorem eN : ∀ (ts vs : List V), gT ρ ts vs = ts -> cD ρ vs ts
 | [], [], _ => by simp [cD]
 | y :: ys, x :: xs, h => by
   simp only [gT, List.cons.injEq] at h
   simp only [cD]; exact ⟨tT y x h.1, eN ys xs h.2⟩
 | [], _ :: _, h => by simp [gT] at h
 | _ :: _, [], h => by simp [gT] at h
end
mutual
theorem xk : ∀ (v t : V), aZ [] v t -> aZ ρ v t
 | .int .., t, h => by cases t <;> simp only [aZ] at h ⊢ <;> exact h
 | .bool _, t, h => by cases t <;> simp only [aZ] at h ⊢ <;> exact h
 | .kb _, t, h => by cases t <;> simp only [aZ] at h ⊢ <;> exact h
 | .str _, t, h => by cases t <;> simp only [aZ] at h ⊢ <;> exact h
 | .agg xs, t, h => by cases t <;> simp only [aZ] at h ⊢ <;> first | exact eG _ _ h | exact h
 | .tup xs, t, h => by cases t <;> simp only [aZ] at h ⊢ <;> first | exact eG _ _ h | exact h
 | .fn f xs ys, t, h => by cases t <;> simp only [aZ] at h ⊢ <;> first | exact ⟨h.1, eG _ _ h.2.1, eG _ _ h.2.2⟩ | exact h
 | .sl .., t, h => by cases t <;> simp only [aZ] at h ⊢ <;> exact h
 | .pd .., t, h => by cases t <;> simp only [aZ] at h ⊢ <;> exact h
 | .pl .., t, h => by cases t <;> simp only [aZ] at h ⊢ <;> first | exact h | (simp [bD, nth] at h)
 | .pe .., t, h => by cases t <;> simp only [aZ] at h ⊢ <;> first | exact h | (simp [bD, nth] at h)
 | .ss .., t, h => by cases t <;> simp only [aZ] at h ⊢ <;> first | exact h | (simp [bD, nth] at h)
 | .gs .., t, h => by cases t <;> simp only [aZ] at h ⊢ <;> first | exact h | (simp [bD, nth] at h)
 | .ns, t, h => by cases t <;> simp only [aZ] at h ⊢ <;> first | exact h | (simp [bD, nth] at h)
 | .np, t, h => by cases t <;> simp only [aZ] at h ⊢ <;> exact h
 | .any, t, h => by cases t <;> simp only [aZ] at h ⊢ <;> exact h
 | .gd .., t, h => by cases t <;> simp only [aZ] at h ⊢ <;> exact h
 | .yl _, t, h => by cases t <;> simp only [aZ] at h ⊢ <;> exact h
 | .go .., t, h => by cases t <;> simp only [aZ] at h ⊢ <;> first | exact h | (simp [bD, nth] at h)
 | .sq .., t, h => by cases t <;> simp only [aZ] at h ⊢ <;> exact h
theorem eG : ∀ (vs ts : List V), cD [] vs ts -> cD ρ vs ts
 | [], [], _ => by simp [cD]
 | v :: vs, t :: ts, h => by simp only [cD] at h ⊢; exact ⟨xk v t h.1, eG vs ts h.2⟩
 | [], _ :: _, h => by simp [cD] at h
 | _ :: _, [], h => by simp [cD] at h
end
end
def y6 (ts : List Ty) (n : Nat) (f : FnV) : Prop := ∀ i, i < n -> okE (aK ts) (al ts (f i)) = true /\ cD [] (f i) (al ts (f i))
structure VF where
 k : Nat
 ts : List Ty
 n : Nat
 f : Nat -> List V
 ok : y6 ts n f
theorem xJ {t : Ty} (h : aT t = true) (v : V) : (bg t v).one = true := by cases t <;> first | (simp [aT] at h; done) | (simp only [bg]; rfl)
theorem nZ : ∀ {ts : List Ty}, ts.all aT = true -> ∀ vs, (al ts vs).all V.one = true
 | [], _, _ => by simp [al]
 | t :: ts, h, vs => by
   simp only [List.all_cons, Bool.and_eq_true] at h
   simp only [al, List.all_cons, Bool.and_eq_true]; exact ⟨xJ h.1 _, nZ h.2 _⟩
theorem kL {ts : List Ty} (h : ts.all aT = true) (vs : List V) : okE (aK ts) (al ts vs) = true := r7 (by rw [kD, aJ]) (nZ h vs)
theorem uR {t : Ty} (h : aT t = true) (v : V) : aZ [] (bg t v) (bg t v) := by cases t <;> first | (simp [aT] at h; done) | (simp only [bg, aZ]; try simp)
theorem kZ : ∀ {ts : List Ty}, ts.all aT = true -> ∀ vs, cD [] (al ts vs) (al ts vs)
 | [], _, _ => by simp [al, cD]
 | t :: ts, h, vs => by
   simp only [List.all_cons, Bool.and_eq_true] at h
   simp only [al, cD]; exact ⟨uR h.1 _, kZ h.2 _⟩
theorem bB {ts : List Ty} (h : ts.all aT = true) (n : Nat) (f : FnV) : y6 ts n (elV ts f) := fun i _ => by
 simp only [elV, de]
 exact ⟨kL h _, kZ h _⟩
theorem ph {ts : List Ty} (h : ts.all aT = true) {n j : Nat} {ds : List V} {f : Nat -> List V} (h1 : y6 ts n f) (hf : gT [] (al ts ds) ds = al ts ds) : y6 ts n fun i => cond (Nat.beq i j) ds (f i) := fun i hi => by
 show okE _ (al ts (cond (Nat.beq i j) ds (f i))) = true /\ cD [] (cond (Nat.beq i j) ds (f i)) (al ts (cond (Nat.beq i j) ds (f i)))
 cases Nat.beq i j with
 | true => exact ⟨kL h _, eN _ _ hf⟩
 | false => exact h1 i hi
def qW (ρ : Rho) (e : Env) : Env -> Env
 | [] => []
 | (s, t) :: l => (s, fb ρ t (bb e s)) :: qW ρ e l
theorem tV {ρ : Rho} {e : Env} : ∀ {e1 : Env}, qW ρ e e1 = e1 -> mF ρ e e1
 | [], _ => trivial
 | (s, t) :: l, h => by
   simp only [qW, List.cons.injEq, Prod.mk.injEq, true_and] at h
   exact ⟨tT _ _ h.1, tV h.2⟩
def nC : List VF -> Nat -> Option VF
 | [], _ => none
 | v :: l, k => cond (Nat.beq k v.k) (some v) (nC l k)
def xy (ρ : Rho) (h : List O) (vf : List VF) (k : Nat) : O -> O
 | .cells cs ty => match bD ρ k with
   | some (some j) => match nth h j with
     | some (.cells ds ty') => .cells (gT ρ cs ds) ty'
     | _ => .dead
   | _ => .dead
 | .gl e n f ty => match bD ρ k with
   | some none => .gl e 0 f ty
   | some (some j) => match nth h j with
     | some (.gl e' m g ty') => match nC vf k with
       | some v => .gl e' m (elV v.ts g) ty'
       | none => .dead
     | _ => .dead
   | none => .dead
 | .dead => .hid
 | .hid => .hid
def p0 (ρ : Rho) (h : List O) (vf : List VF) : Nat -> List O -> List O
 | _, [] => []
 | k, o :: l => xy ρ h vf k o :: p0 ρ h vf (k + 1) l
def iN (ρ : Rho) (h : List O) : List VF -> List (Nat × Nat × (Nat -> List V))
 | [] => []
 | v :: l => (match bD ρ v.k with
   | some (some j) => match nth h j with
     | some (.gl e m g _) => (e, m, g)
     | _ => (0, 0, fun _ => [])
   | _ => (0, 0, fun _ => [])) :: iN ρ h l
def iH : List VF -> List (Nat × Nat × (Nat -> List V))
 | [] => []
 | v :: l => (aK v.ts, v.n, v.f) :: iH l
theorem pZ {ρ : Rho} {h : List O} {k : Nat} {v : VF} : ∀ {vf : List VF}, nC vf k = some v -> iN ρ h vf = iH vf -> v.k = k /\ (match bD ρ v.k with
 | some (some j) => match nth h j with
   | some (.gl e m g _) => (e, m, g)
   | _ => (0, 0, fun _ => [])
 | _ => (0, 0, fun _ => [])) = (aK v.ts, v.n, v.f)
 | [], h1, _ => by cases h1
 | x :: l, h1, h2 => by
   simp only [iN, iH, List.cons.injEq] at h2
   simp only [nC] at h1
   cases hb : Nat.beq k x.k with
   | true => rw [hb] at h1; cases h1; exact ⟨(Nat.eq_of_beq_eq_true hb).symm, h2.1⟩
   | false => rw [hb] at h1; exact pZ h1 h2.2
theorem z6 {ρ : Rho} {h : List O} {vf : List VF} {k : Nat} {o : O} (hf : xy ρ h vf k o = o) (hg : iN ρ h vf = iH vf) : rD ρ h k o := by
 cases o with
 | cells cs ty =>
   simp only [xy] at hf
   split at hf
   ·rename_i j hj
    split at hf
    ·rename_i ds ty' hn
     simp only [O.cells.injEq] at hf
     exact ⟨j, ds, hj, by rw [hn, hf.2], eN _ _ hf.1⟩
    ·cases hf
   ·cases hf
 | gl e n f ty =>
   simp only [xy] at hf
   split at hf
   ·rename_i hj
    simp only [O.gl.injEq, true_and, and_true] at hf
    exact .inl ⟨hj, hf.symm⟩
   ·rename_i j hj
    split at hf
    ·rename_i e' m g ty' hn
     split at hf
     ·rename_i v hv
      obtain ⟨rfl, h2⟩ := pZ hv hg
      rw [hj] at h2
      simp only [hn, Prod.mk.injEq] at h2
      simp only [O.gl.injEq] at hf
      obtain ⟨rfl, rfl, rfl, rfl⟩ := hf
      obtain ⟨h3, h4, h5⟩ := h2
      refine .inr ⟨j, m, g, hj, hn, Nat.le_refl _, fun i hi => ?_⟩
      have := v.ok i (by rw [← h4]; exact hi)
      rw [← h5, ← h3] at this
      exact ⟨this.1, eG _ _ this.2⟩
     ·cases hf
    ·cases hf
   ·cases hf
 | dead => simp only [xy] at hf; cases hf
 | hid => trivial
theorem th {ρ : Rho} {h : List O} {vf : List VF} (hg : iN ρ h vf = iH vf) : ∀ {l : List O} {k : Nat}, p0 ρ h vf k l = l -> lT ρ h k l
 | [], _, _ => trivial
 | o :: l, k, hf => by
   simp only [p0, List.cons.injEq] at hf
   exact ⟨z6 hf.1 hg, th hg hf.2⟩
def od (ρ : Rho) (nb : Nat) (h1 : List O) : Bool := Nat.beq (aK ρ) (aK h1) && (rY ρ && wC ρ nb)
theorem lS (w0 : World) {ρ : Rho} {nb : Nat} {e e1 : Env} {h h1 : List O} {vf : List VF} (h0 : od ρ nb h1 = true) (he : qW ρ e e1 = e1) (hh : p0 ρ h vf 0 h1 = h1) (hg : iN ρ h vf = iH vf) : dE w0 nb e h e1 h1 := by
 unfold od at h0
 simp only [Bool.and_eq_true] at h0
 exact dE.ren w0 ρ h0.1 h0.2.1 h0.2.2 (tV he) (th hg hh)
def frR (zs : List VF) (v v' : V) : Prop := v' = v ∨ ∃ k n z, v = .gs k n /\ z ∈ zs /\ z.k = k /\ n <= z.n /\ v' = .sl n (elV z.ts z.f)
def Ag (zs : List VF) : List V -> List V -> Prop
 | [], [] => True
 | a :: l, b :: m => frR zs a b /\ Ag zs l m
 | _, _ => False
structure FR (zs : List VF) where
 k : Nat
 n : Nat
 f : Nat -> List V
 g : Nat -> List V
 ok : ∀ i, i < n -> Ag zs (f i) (g i)
section
variable {zs : List VF}
def uH : List (FR zs) -> Nat -> Option (FR zs)
 | [], _ => none
 | v :: l, k => cond (Nat.beq k v.k) (some v) (uH l k)
def BF (fr : List (FR zs)) (k : Nat) (o : O) : O := match nC zs k with
 | some _ => .hid
 | none => match o with
   | .gl e n f ty => match uH fr k with
     | some r => .gl e n r.g ty
     | none => .gl e n f ty
   | o => o
def frzH (fr : List (FR zs)) : Nat -> List O -> List O
 | _, [] => []
 | k, o :: l => BF fr k o :: frzH fr (k + 1) l
def zR (zs : List VF) : Bool := zs.all fun v => v.ts.all aT
def uM (h : List O) : List VF -> List (Option (Nat × Nat × (Nat -> List V)))
 | [] => []
 | v :: l => (match nth h v.k with
   | some (.gl e m g _) => some (e, m, g)
   | _ => none) :: uM h l
def kt : List VF -> List (Option (Nat × Nat × (Nat -> List V)))
 | [] => []
 | v :: l => some (aK v.ts, v.n, v.f) :: kt l
def ux (h : List O) : List (FR zs) -> List (Option (Nat × (Nat -> List V)))
 | [] => []
 | v :: l => (match nth h v.k with
   | some (.gl _ m g _) => some (m, g)
   | _ => none) :: ux h l
def uZ : List (FR zs) -> List (Option (Nat × (Nat -> List V)))
 | [] => []
 | v :: l => some (v.n, v.f) :: uZ l
theorem td {h : List O} {v : VF} : ∀ {l : List VF}, uM h l = kt l -> v ∈ l -> ∃ ty, h[v.k]? = some (.gl (aK v.ts) v.n v.f ty)
 | [], _, hm => by cases hm
 | x :: l, he, hm => by
   simp only [uM, kt, List.cons.injEq] at he
   rcases List.mem_cons.1 hm with rfl | hm
   ·have h1 := he.1
    rw [av] at h1
    split at h1
    ·rename_i e m g ty hk
     simp only [Option.some.injEq, Prod.mk.injEq] at h1
     obtain ⟨rfl, rfl, rfl⟩ := h1
     exact ⟨ty, hk⟩
    ·cases h1
   ·exact td he.2 hm
theorem uf {h : List O} {k : Nat} {r : FR zs} : ∀ {l : List (FR zs)}, ux h l = uZ l -> uH l k = some r -> ∃ e ty, h[k]? = some (.gl e r.n r.f ty)
 | [], _, hm => by cases hm
 | x :: l, he, hm => by
   simp only [ux, uZ, List.cons.injEq] at he
   simp only [uH] at hm
   cases hb : Nat.beq k x.k with
   | true =>
     rw [hb] at hm; cases hm
     have h1 := he.1
     rw [av, ← Nat.eq_of_beq_eq_true hb] at h1
     split at h1
     ·rename_i e m g ty hk
      simp only [Option.some.injEq, Prod.mk.injEq] at h1
      obtain ⟨rfl, rfl⟩ := h1
      exact ⟨e, ty, hk⟩
     ·cases h1
   | false => rw [hb] at hm; exact uf he.2 hm
theorem oq {v : VF} : ∀ {l : List VF}, v ∈ l -> nC l v.k ≠ none
 | x :: l, hm => by
   simp only [nC]
   cases hb : Nat.beq v.k x.k with
   | true => simp
   | false =>
     rcases List.mem_cons.1 hm with rfl | hm
     ·simp at hb
     ·exact oq hm
theorem qt (fr : List (FR zs)) : ∀ (l : List O) (b k : Nat), (frzH fr b l)[k]? = (l[k]?).map (BF fr (b + k))
 | [], b, k => by simp [frzH]
 | o :: l, b, 0 => by simp [frzH]
 | o :: l, b, k + 1 => by
   simp only [frzH, List.getElem?_cons_succ]
   rw [qt fr l (b + 1) k, show b + 1 + k = b + (k + 1) by omega]
theorem y0 {v v' : V} (h : frR zs v v') (hv : v.one = true) : v'.one = true := by
 rcases h with rfl | ⟨k, n, z, _, _, _, _, rfl⟩
 ·exact hv
 ·rfl
theorem qa : ∀ {l m : List V}, Ag zs l m -> l.all V.one = true -> aK m = aK l /\ m.all V.one = true
 | [], [], _, _ => ⟨rfl, rfl⟩
 | a :: l, b :: m, h, ho => by
   simp only [List.all_cons, Bool.and_eq_true] at ho ⊢
   obtain ⟨h1, h2⟩ := qa h.2 ho.2
   exact ⟨by simp only [aK, h1], y0 h.1 ho.1, h2⟩
 | [], _ :: _, h, _ => h.elim
 | _ :: _, [], h, _ => h.elim
theorem tk (w0 : World) {nb : Nat} {e : Env} {h : List O} {fr : List (FR zs)} (hc : zR zs = true) (hz : uM h zs = kt zs) (hf : ux h fr = uZ fr) : dE w0 nb e h e (frzH fr 0 h) := by
 classical
 intro N ν nV nS sl lh hs hr
 have hB : ∀ v, v ∈ zs -> ∃ ty, h[v.k]? = some (.gl (aK v.ts) v.n v.f ty) := fun v hv => td hz hv
 let Bf : Nat -> Prop := fun j => ∃ v x, v ∈ zs /\ ν v.k = some (some x) /\ x.1 = j
 let z1 : List ac := lh.mapIdx fun j o => if isCells ν.z[j]? = true ∨ Bf j then o else .hid
 have z1get : ∀ j, z1[j]? = (lh[j]?).map fun o => if isCells ν.z[j]? = true ∨ Bf j then o else .hid := fun j => by simp only [z1, List.getElem?_mapIdx]
 have hza : zle ν.z z1 := fun j az ty hj => by
  rw [z1get, hr.zl j az ty hj]
  simp only [Option.map_some]
  rw [if_pos (.inl (by rw [hj]; rfl))]
 have hzb : zle z1 lh := fun j az ty hj => by
  rw [z1get] at hj
  cases hl : lh[j]? with
  | none => rw [hl] at hj; cases hj
  | some o =>
    rw [hl] at hj
    simp only [Option.map_some, Option.some.injEq] at hj
    split at hj
    ·rw [hj]
    ·cases hj
 let ν1 : Nu := ⟨ν.m, z1⟩
 have hsub : ν.sub ν1 := ⟨fun _ _ h => h, hza⟩
 have hfr : ∀ {v v' : V} {a : ab}, frR zs v v' -> vr w0 ν.z ν v a -> vr w0 z1 ν1 v' a := by
  intro v v' a hv hx
  rcases hv with rfl | ⟨k, n, z, rfl, hm, rfl, hn, rfl⟩
  ·exact AE hsub _ _ hx
  ·obtain ⟨ty, hk⟩ := hB z hm
   have hts : z.ts.all aT = true := by unfold zR at hc; exact List.all_eq_true.1 hc z hm
   simp only [vr] at hx ⊢
   rcases hr.blk _ _ hk with ⟨h1, h2⟩ | ⟨b, c, az, h1, h2, h3, h4, h5⟩
   ·rcases hx with ⟨_, g2, rfl⟩ | ⟨b, c, e, g1, _⟩
    ·subst g2; exact ⟨none, 0, 0, rfl, Nat.le_refl _, by omega, trivial, fun i hi => by omega⟩
    ·rw [h1] at g1; cases g1
   ·rcases hx with ⟨g1, _⟩ | ⟨b', c', e', g1, rfl, g3⟩
    ·rw [h1] at g1; cases g1
    ·rw [h1] at g1
     obtain ⟨rfl, rfl, rfl⟩ : b = b' /\ c = c' /\ aK z.ts = e' := by simpa using g1
     have hb : z1[b]? = some (.cells az ty) := by
      rw [z1get, h2]
      simp only [Option.map_some]
      rw [if_pos (.inr ⟨z, _, hm, h1, rfl⟩)]
     refine ⟨some (.l b 0), c, aK z.ts, rfl, g3, by omega, ⟨az, ty, hb, Nat.zero_le _⟩, fun i hi => ?_⟩
     have hi' : i * aK z.ts + aK z.ts <= az.length := by
      rw [h3, ← Nat.succ_mul]; exact Nat.mul_le_mul_right _ (by omega)
     have hok := z.ok i (by omega)
     refine ⟨_, _, rfl, ?_, fx hza _ _ (dK (ν := fK [] ν) (fun k x hx => ?_) _ _ (dX _ _ _ hok.2 (h5 i (by omega)).2)), gQ _ _ hts⟩
     ·simp only [Ptr.add, lds, hb, Nat.zero_add]
      rw [if_pos (by omega)]
     ·simp only [fK, bD, nth] at hx; cases hx
 have hfrs : ∀ {l m : List V} {az : List ab}, Ag zs l m -> vrs w0 ν.z ν l az -> vrs w0 z1 ν1 m az := by
  intro l
  induction l with
  | nil => intro m az h1 h2; cases m with | nil => simp only [vrs] at h2 ⊢; exact h2 | cons => exact h1.elim
  | cons a l ih =>
    intro m az h1 h2
    cases m with
    | nil => exact h1.elim
    | cons b m =>
      simp only [vrs] at h2 ⊢
      obtain ⟨x, xs, rfl, g1, g2⟩ := h2
      exact ⟨x, xs, rfl, hfr h1.1 g1, ih h1.2 g2⟩
 have hget : ∀ k o, (frzH fr 0 h)[k]? = some o -> o ≠ .hid -> nC zs k = none /\ ∃ o', h[k]? = some o' /\ o = (match o' with
  | .gl e n f ty => match uH fr k with
    | some r => O.gl e n r.g ty
    | none => .gl e n f ty
  | o => o) := fun k o hk ho => by
  rw [qt, Nat.zero_add] at hk
  cases hg : h[k]? with
  | none => rw [hg] at hk; cases hk
  | some o' =>
    rw [hg] at hk
    simp only [Option.map_some, Option.some.injEq, BF] at hk
    cases hv : nC zs k with
    | some v => rw [hv] at hk; exact (ho hk.symm).elim
    | none => rw [hv] at hk; exact ⟨rfl, o', rfl, hk.symm⟩
 have hlive : ∀ k, aq (frzH fr 0 h) k -> nC zs k = none /\ aq h k := fun k hk => by
  rcases cm hk with ⟨cs, ty, g⟩ | ⟨e, n, f, ty, g⟩
  ·obtain ⟨h1, o', h2, h3⟩ := hget k _ g (by simp)
   refine ⟨h1, ?_⟩
   cases o' with
   | cells cs' ty' => exact bC h2
   | gl e n f ty => exact cP h2
   | dead => cases h3
   | hid => cases h3
  ·obtain ⟨h1, o', h2, h3⟩ := hget k _ g (by simp)
   refine ⟨h1, ?_⟩
   cases o' with
   | cells cs' ty' => exact bC h2
   | gl e n f ty => exact cP h2
   | dead => cases h3
   | hid => cases h3
 refine ⟨ν1, nV, nS, NuN.of hsub _, hs.mono hsub, ⟨fun k o hk => ?_, fun k k' x x' h1 h2 => hr.inj k k' x x' (hlive k h1).2 (hlive k' h2).2, fun k hk => hr.dom k ?_, hr.rng, hzb, fun k x hk hx => ?_⟩⟩
 ·by_cases ho : o = .hid
  ·subst ho; trivial
  ·obtain ⟨h1, o', h2, h3⟩ := hget k o hk ho
   have hb := hr.blk k o' h2
   cases o' with
   | cells cs ty => subst h3; exact bM hsub (by simp) (fun b az ty g _ => g) hb
   | dead => subst h3; exact hb
   | hid => subst h3; trivial
   | gl e n f ty =>
     cases hfa : uH fr k with
     | none => rw [hfa] at h3; subst h3; exact bM hsub (by simp) (fun b az ty g _ => g) hb
     | some r =>
       rw [hfa] at h3; subst h3
       obtain ⟨e', ty', g⟩ := uf hf hfa
       rw [h2] at g
       simp only [Option.some.injEq, O.gl.injEq] at g
       obtain ⟨_, rfl, rfl, _⟩ := g
       rcases hb with ⟨k1, k2⟩ | ⟨b, c, az, k1, k2, k3, k4, k5⟩
       ·exact .inl ⟨k1, k2⟩
       ·refine .inr ⟨b, c, az, k1, k2, k3, k4, fun i hi => ?_⟩
        obtain ⟨q1, q2⟩ := k5 i hi
        unfold okE at q1 ⊢
        simp only [Bool.and_eq_true] at q1 ⊢
        obtain ⟨p1, p2⟩ := qa (r.ok i hi) q1.2
        exact ⟨⟨by rw [p1]; exact q1.1, p2⟩, hfrs (r.ok i hi) q2⟩
 ·have hl : (frzH fr 0 h).length = h.length := by
   have gen : ∀ (l : List O) (b : Nat), (frzH fr b l).length = l.length := fun l => by
    induction l with
    | nil => intro b; rfl
    | cons o l ih => intro b; simp [frzH, ih]
   exact gen h 0
  omega
 ·obtain ⟨h1, h2⟩ := hlive k hk
  have hx' : ν k = some (some x) := hx
  have g1 := hr.zn k x h2 hx'
  show isCells z1[x.1]? = false
  rw [z1get]
  cases hl : lh[x.1]? with
  | none => rfl
  | some o =>
    simp only [Option.map_some]
    rw [if_neg]
    ·rfl
    ·rintro (g2 | ⟨v, x', hv, g2, g3⟩)
     ·rw [g1] at g2; cases g2
     ·obtain ⟨ty, hk'⟩ := hB v hv
      have := hr.inj v.k k x' x (cP hk') h2 g2 hx' g3
      rw [← this] at h1
      exact oq hv h1
end
inductive RT (S : Type) where
 | ret (v : V)
 | next (ρ : Rho) (s : S) (vf : List VF)
 | enter (ρ : Rho) (s : S) (vf : List VF)
 | nextz (zs : List VF) (fr : List (FR zs)) (ρ : Rho) (s : S) (vf : List VF)
 | enterz (zs : List VF) (fr : List (FR zs)) (ρ : Rho) (s : S) (vf : List VF)
 | br (b : Bool) (x y : RT S)
 | brt (x : RT S)
 | brf (y : RT S)
 | brx (b : Bool) (x : RT S)
 | bry (b : Bool) (y : RT S)
 | ob (b : Bool) (x : RT S)
 | obt (x : RT S)
 | obv (b : Bool) (h : b = true) (x : RT S)
 | obi (x : RT S)
 | obj (c b : Bool) (x : RT S)
 | obc (x : RT S)
 | obp (p : Prop) (x : RT S)
 | obe (ts : List Ty) (ds : List V) (x : RT S)
 | und (x y : RT S)
 | asm (p : Prop) (x : RT S)
 | all (f : Nat -> RT S)
 | fail
structure LD (J S : Type) where
 id : S -> J
 lp : J -> Lp J
 inv : S -> Env × List O × Option Ex
inductive FT (J : Type) where
 | res (v : V)
 | head (j : J) (g : Option Ex) (ok : Bool) (e : Env) (h : List O) (vs : List (Nat × Nat × (Nat -> List V)))
 | loop (fr : Nat × Nat) (b : ra) (k : Ex -> Env -> List O -> Option Ex -> T (bQ J)) (g : Option Ex) (ok : Bool) (e : Env) (h : List O) (vs : List (Nat × Nat × (Nat -> List V)))
 | headz (c : Bool) (zg : List (Option (Nat × Nat × (Nat -> List V)))) (fg : List (Option (Nat × (Nat -> List V)))) (j : J) (g : Option Ex) (ok : Bool) (e : Env) (h : List O) (vs : List (Nat × Nat × (Nat -> List V)))
 | loopz (c : Bool) (zg : List (Option (Nat × Nat × (Nat -> List V)))) (fg : List (Option (Nat × (Nat -> List V)))) (fr : Nat × Nat) (b : ra) (k : Ex -> Env -> List O -> Option Ex -> T (bQ J)) (g : Option Ex) (ok : Bool) (e : Env) (h : List O) (vs : List (Nat × Nat × (Nat -> List V)))
 | br (b : Bool) (x y : FT J)
 | brt (b : Bool) (x : FT J)
 | brf (b : Bool) (y : FT J)
 | brx (b : Bool) (x : FT J)
 | bry (b : Bool) (y : FT J)
 | ob (b : Bool) (x : FT J)
 | obt (b : Bool) (x : FT J)
 | obi (x : FT J)
 | obj (c b : Bool) (x : FT J)
 | obp (p : Prop) (x : FT J)
 | obe (a b : List V) (x : FT J)
 | und (x y : FT J)
 | asm (p : Prop) (x : FT J)
 | all (f : Nat -> FT J)
 | fail (n : Nat)
section
variable {J S : Type}
def Fq (a b : List V) (k : RT S -> FT J) : RT S -> FT J
 | .obe _ _ x => .obe a b (k x)
 | t => k t
def E3 (a b : List V) (k : RT S -> T (bQ J)) : RT S -> T (bQ J)
 | .obe _ _ x => .obq a b (k x)
 | t => .obq a a (k t)
def cn (D : LD J S) : T (bQ J) -> RT S -> FT J
 | .ret (.res v), .ret _ => .res v
 | .ret (.head j e h g), .next ρ s vf => .head j g (od ρ (D.lp j).fr.2 (D.inv s).2.1) (qW ρ e (D.inv s).1) (p0 ρ h vf 0 (D.inv s).2.1) (iN ρ h vf)
 | .loop fr b e h g k, .enter ρ s vf => .loop fr b k g (od ρ fr.2 (D.inv s).2.1) (qW ρ e (D.inv s).1) (p0 ρ h vf 0 (D.inv s).2.1) (iN ρ h vf)
 | .ret (.head j e h g), .nextz zs fz ρ s vf => .headz (zR zs) (uM h zs) (ux h fz) j g (od ρ (D.lp j).fr.2 (D.inv s).2.1) (qW ρ e (D.inv s).1) (p0 ρ (frzH fz 0 h) vf 0 (D.inv s).2.1) (iN ρ (frzH fz 0 h) vf)
 | .loop fr b e h g k, .enterz zs fz ρ s vf => .loopz (zR zs) (uM h zs) (ux h fz) fr b k g (od ρ fr.2 (D.inv s).2.1) (qW ρ e (D.inv s).1) (p0 ρ (frzH fz 0 h) vf 0 (D.inv s).2.1) (iN ρ (frzH fz 0 h) vf)
 | .br b x y, .br _ x' y' => .br b (cn D x x') (cn D y y')
 | .br b x _, .brt x' => .brt b (cn D x x')
 | .br b _ y, .brf y' => .brf b (cn D y y')
 | .br b x _, .brx _ x' => .brx b (cn D x x')
 | .br b _ y, .bry _ y' => .bry b (cn D y y')
 | .ob b x, .ob _ x' => .ob b (cn D x x')
 | .ob b x, .obt x' => .obt b (cn D x x')
 | .ob b x, .obv _ _ x' => .ob b (cn D x x')
 | .obp p x, .obc x' => .obp p (cn D x x')
 | .obi _ d x, .obt x' => .obt d (cn D x x')
 | .obi _ d x, .ob _ x' => .ob d (cn D x x')
 | .obi _ d x, .obv _ _ x' => .ob d (cn D x x')
 | .obi _ _ x, .obi x' => .obi (cn D x x')
 | .obi c d x, .obj _ _ x' => .obj c d (cn D x x')
 | .obp p x, .obp _ x' => .obp p (cn D x x')
 | .obq a b x, t => Fq a b (cn D x) t
 | .und x y, .und x' y' => .und (cn D x x') (cn D y y')
 | .asm p x, .asm _ x' => .asm p (cn D x x')
 | .all f, .all g => .all fun l => cn D (f l) (g l)
 | .fail _, .fail => .fail 1
 | _, _ => .fail 0
def aS : T (bQ J) -> RT S -> T (bQ J)
 | .br b x y, .br _ x' y' => .br b (aS x x') (aS y y')
 | .br b x y, .brt x' => .br b (aS x x') y
 | .br b x y, .brf y' => .br b x (aS y y')
 | .br b x y, .brx _ x' => .br b (aS x x') y
 | .br b x y, .bry _ y' => .br b x (aS y y')
 | .ob b x, .ob _ x' => .ob b (aS x x')
 | .ob b x, .obt x' => .ob b (aS x x')
 | .ob b x, .obv _ _ x' => .ob b (aS x x')
 | .obp p x, .obp _ x' => .obp p (aS x x')
 | .obp p x, .obc x' => .obp p (aS x x')
 | .obi c d x, .obt x' => .obi c d (aS x x')
 | .obi c d x, .ob _ x' => .obi c d (aS x x')
 | .obi c d x, .obv _ _ x' => .obi c d (aS x x')
 | .obi c _ x, .obi x' => .obi c c (aS x x')
 | .obi c d x, .obj _ _ x' => .obi c d (aS x x')
 | .obq a b x, t => E3 a b (aS x) t
 | .und x y, .und x' y' => .und (aS x x') (aS y y')
 | .asm p x, .asm _ x' => .asm p (aS x x')
 | .all f, .all g => .all fun l => aS (f l) (g l)
 | t, _ => t
def toF (D : LD J S) : RT S -> FT J
 | .ret v => .res v
 | .next _ s vf => .head (D.id s) (D.inv s).2.2 true (D.inv s).1 (D.inv s).2.1 (iH vf)
 | .enter _ s vf => .loop (D.lp (D.id s)).fr (D.lp (D.id s)).body (D.lp (D.id s)).k (D.inv s).2.2 true (D.inv s).1 (D.inv s).2.1 (iH vf)
 | .nextz zs fz _ s vf => .headz true (kt zs) (uZ fz) (D.id s) (D.inv s).2.2 true (D.inv s).1 (D.inv s).2.1 (iH vf)
 | .enterz zs fz _ s vf => .loopz true (kt zs) (uZ fz) (D.lp (D.id s)).fr (D.lp (D.id s)).body (D.lp (D.id s)).k (D.inv s).2.2 true (D.inv s).1 (D.inv s).2.1 (iH vf)
 | .br b x y => .br b (toF D x) (toF D y)
 | .brt x => .brt true (toF D x)
 | .brf y => .brf false (toF D y)
 | .brx b x => .brx b (toF D x)
 | .bry b y => .bry b (toF D y)
 | .ob b x => .ob b (toF D x)
 | .obt x => .obt true (toF D x)
 | .obv b _ x => .ob b (toF D x)
 | .obi x => .obi (toF D x)
 | .obj c b x => .obj c b (toF D x)
 | .obc x => .obp True (toF D x)
 | .obp p x => .obp p (toF D x)
 | .obe ts ds x => .obe (gj ts ds []) (gm ts ds []) (toF D x)
 | .und x y => .und (toF D x) (toF D y)
 | .asm p x => .asm p (toF D x)
 | .all f => .all fun l => toF D (f l)
 | .fail => .fail 1
def evR (Nx : S -> V -> Prop) : RT S -> V -> Prop
 | .ret v, r => toA v = toA r
 | .next _ s _, r => Nx s r
 | .enter _ s _, r => Nx s r
 | .nextz _ _ _ s _, r => Nx s r
 | .enterz _ _ _ s _, r => Nx s r
 | .br b x y, r => (b = true -> evR Nx x r) /\ (b = false -> evR Nx y r)
 | .brt x, r => evR Nx x r
 | .brf y, r => evR Nx y r
 | .brx b x, r => b = true /\ evR Nx x r
 | .bry b y, r => b = false /\ evR Nx y r
 | .ob b x, r => b = true /\ evR Nx x r
 | .obt x, r => evR Nx x r
 | .obv _ _ x, r => evR Nx x r
 | .obi x, r => evR Nx x r
 | .obj c b x, r => (c = true -> b = true) /\ evR Nx x r
 | .obc x, r => evR Nx x r
 | .obp p x, r => p /\ evR Nx x r
 | .obe ts ds x, r => gj ts ds [] = gm ts ds [] /\ evR Nx x r
 | .und x y, r => evR Nx x r /\ evR Nx y r
 | .asm p x, r => p -> evR Nx x r
 | .all f, r => ∀ l, evR Nx (f l) r
 | .fail, _ => False
def EvN (step : S -> RT S) : Nat -> S -> V -> Prop
 | 0, _, _ => False
 | n + 1, s, r => evR (EvN step n) (step s) r
def Ev (step : S -> RT S) (s : S) (r : V) : Prop := ∃ n, EvN step n s r
theorem mD {Nx Ny : S -> V -> Prop} {r : V} (h : ∀ s, Nx s r -> Ny s r) : ∀ t : RT S, evR Nx t r -> evR Ny t r := by
 intro t
 induction t with
 | ret v => exact id
 | next ρ s vf => exact h s
 | enter ρ s vf => exact h s
 | nextz zs fz ρ s vf => exact h s
 | enterz zs fz ρ s vf => exact h s
 | br b x y hx hy => exact fun k => ⟨fun e => hx (k.1 e), fun e => hy (k.2 e)⟩
 | brt x hx => exact hx
 | brf y hy => exact hy
 | brx b x hx => exact fun k => ⟨k.1, hx k.2⟩
 | bry b y hy => exact fun k => ⟨k.1, hy k.2⟩
 | ob b x hx => exact fun k => ⟨k.1, hx k.2⟩
 | obt x hx => exact hx
 | obv b h x hx => exact hx
 | obi x hx => exact hx
 | obj c b x hx => exact fun k => ⟨k.1, hx k.2⟩
 | obc x hx => exact hx
 | obp p x hx => exact fun k => ⟨k.1, hx k.2⟩
 | obe a b x hx => exact fun k => ⟨k.1, hx k.2⟩
 | und x y hx hy => exact fun k => ⟨hx k.1, hy k.2⟩
 | asm p x hx => exact fun k hp => hx (k hp)
 | all f hf => exact fun k l => hf l (k l)
 | fail => exact id
theorem qG {step : S -> RT S} {r : V} : ∀ {n : Nat} {s : S}, EvN step n s r -> EvN step (n + 1) s r
 | 0, s, h => h.elim
 | n + 1, s, h => mD (fun s hs => qG hs) _ h
theorem mr {step : S -> RT S} {r : V} {n m : Nat} {s : S} (h : EvN step n s r) (hm : n <= m) : EvN step m s r := by
 induction hm with
 | refl => exact h
 | step _ ih => exact qG ih
section
variable {Nx : S -> V -> Prop} {r : V}
theorem evRet {v : V} (h : toA v = toA r) : evR Nx (.ret v) r := h
theorem aL {b : Bool} {x y : RT S} (h1 : b = true -> evR Nx x r) (h2 : b = false -> evR Nx y r) : evR Nx (.br b x y) r := ⟨h1, h2⟩
theorem bp {x : RT S} (h : evR Nx x r) : evR Nx (.brt x) r := h
theorem bz {x : RT S} (h : evR Nx x r) : evR Nx (.brf x) r := h
theorem aD {b : Bool} {x : RT S} (h1 : b = true) (h2 : evR Nx x r) : evR Nx (.ob b x) r := ⟨h1, h2⟩
theorem evObt {x : RT S} (h : evR Nx x r) : evR Nx (.obt x) r := h
theorem DV {b : Bool} {hb : b = true} {x : RT S} (h : evR Nx x r) : evR Nx (.obv b hb x) r := h
theorem ak {x : RT S} (h : evR Nx x r) : evR Nx (.obi x) r := h
theorem Av {c b : Bool} {x : RT S} (h1 : c = true -> b = true) (h2 : evR Nx x r) : evR Nx (.obj c b x) r := ⟨h1, h2⟩
theorem ao {x : RT S} (h : evR Nx x r) : evR Nx (.obc x) r := h
theorem evObp {p : Prop} {x : RT S} (h1 : p) (h2 : evR Nx x r) : evR Nx (.obp p x) r := ⟨h1, h2⟩
theorem Em {x y : RT S} (h1 : evR Nx x r) (h2 : evR Nx y r) : evR Nx (.und x y) r := ⟨h1, h2⟩
theorem cB {p : Prop} {x : RT S} (h : p -> evR Nx x r) : evR Nx (.asm p x) r := h
theorem da {p : Prop} {x : RT S} (h : p -> evR Nx x r) : evR Nx (.asm (true = true -> p) x) r := fun k => h (k rfl)
theorem Aj {f : Nat -> RT S} (h : ∀ l, evR Nx (f l) r) : evR Nx (.all f) r := h
theorem bo {ρ : Rho} {s : S} {vf : List VF} (h : Nx s r) : evR Nx (.enter ρ s vf) r := h
theorem cv {ρ : Rho} {s : S} {vf : List VF} (h : Nx s r) : evR Nx (.next ρ s vf) r := h
end
def bR : RT S -> Bool
 | .br _ x y => bR x && bR y
 | .brt x => bR x
 | .brf y => bR y
 | .brx _ x => bR x
 | .bry _ y => bR y
 | .ob _ x => bR x
 | .obt x => bR x
 | .obv _ _ x => bR x
 | .obi x => bR x
 | .obj _ _ x => bR x
 | .obc x => bR x
 | .obp _ x => bR x
 | .obe _ _ x => bR x
 | .und x y => bR x && bR y
 | .asm _ x => bR x
 | .all _ => false
 | _ => true
theorem Bc {step : S -> RT S} {r : V} : ∀ t : RT S, bR t = true -> evR (Ev step) t r -> ∃ n, evR (EvN step n) t r := by
 intro t
 induction t with
 | ret v => exact fun _ h => ⟨0, h⟩
 | next ρ s vf => exact fun _ ⟨n, h⟩ => ⟨n, h⟩
 | enter ρ s vf => exact fun _ ⟨n, h⟩ => ⟨n, h⟩
 | nextz zs fz ρ s vf => exact fun _ ⟨n, h⟩ => ⟨n, h⟩
 | enterz zs fz ρ s vf => exact fun _ ⟨n, h⟩ => ⟨n, h⟩
 | br b x y hx hy =>
   intro h0 h
   simp only [bR, Bool.and_eq_true] at h0
   cases b with
   | true => obtain ⟨n, hn⟩ := hx h0.1 (h.1 rfl); exact ⟨n, fun _ => hn, fun e => by cases e⟩
   | false => obtain ⟨n, hn⟩ := hy h0.2 (h.2 rfl); exact ⟨n, (fun e => by cases e), fun _ => hn⟩
 | brt x hx => exact fun h0 h => hx h0 h
 | brf y hy => exact fun h0 h => hy h0 h
 | brx b x hx => exact fun h0 h => let ⟨n, hn⟩ := hx h0 h.2; ⟨n, h.1, hn⟩
 | bry b y hy => exact fun h0 h => let ⟨n, hn⟩ := hy h0 h.2; ⟨n, h.1, hn⟩
 | ob b x hx => exact fun h0 h => let ⟨n, hn⟩ := hx h0 h.2; ⟨n, h.1, hn⟩
 | obt x hx => exact fun h0 h => hx h0 h
 | obv b h x hx => exact fun h0 h => hx h0 h
 | obi x hx => exact fun h0 h => hx h0 h
 | obj c b x hx => exact fun h0 h => let ⟨n, hn⟩ := hx h0 h.2; ⟨n, h.1, hn⟩
 | obc x hx => exact fun h0 h => hx h0 h
 | obp p x hx => exact fun h0 h => let ⟨n, hn⟩ := hx h0 h.2; ⟨n, h.1, hn⟩
 | obe a b x hx => exact fun h0 h => let ⟨n, hn⟩ := hx h0 h.2; ⟨n, h.1, hn⟩
 | und x y hx hy =>
   intro h0 h
   simp only [bR, Bool.and_eq_true] at h0
   obtain ⟨n, hn⟩ := hx h0.1 h.1
   obtain ⟨m, hm⟩ := hy h0.2 h.2
   exact ⟨max n m, mD (fun s hs => mr hs (Nat.le_max_left _ _)) _ hn, mD (fun s hs => mr hs (Nat.le_max_right _ _)) _ hm⟩
 | asm p x hx =>
   intro h0 h
   by_cases hp : p
   ·obtain ⟨n, hn⟩ := hx h0 (h hp); exact ⟨n, fun _ => hn⟩
   ·exact ⟨0, fun k => (hp k).elim⟩
 | all f hf => intro h0; cases h0
 | fail => exact fun _ h => h.elim
theorem Ev.of {step : S -> RT S} {s : S} {r : V} (h0 : bR (step s) = true) (h : evR (Ev step) (step s) r) : Ev step s r :=
 let ⟨n, hn⟩ := Bc _ h0 h; ⟨n + 1, hn⟩
theorem pg {w0 : World} {LP : cg} {D : LD J S} {Q : bQ J -> Prop} {Nx : S -> V -> Prop} {r : V} (hres : ∀ v, toA v = toA r -> Q (.res v))
 (hhead : ∀ s e h, Nx s r -> dE w0 (D.lp (D.id s)).fr.2 e h (D.inv s).1 (D.inv s).2.1 -> Q (.head (D.id s) e h (D.inv s).2.2))
 (hloop : ∀ s e h, Nx s r -> dE w0 (D.lp (D.id s)).fr.2 e h (D.inv s).1 (D.inv s).2.1 -> LP (D.lp (D.id s)).fr (D.lp (D.id s)).body e h (D.inv s).2.2 fun x e h g => sat LP ((D.lp (D.id s)).k x e h g) Q) :
 ∀ (t : T (bQ J)) (rt : RT S), cn D t rt = toF D rt -> aS t rt = t -> evR Nx rt r -> sat LP t Q := by
 intro t
 induction t with
 | ret a =>
   intro rt hf _ hr
   cases a with
   | res v => cases rt <;> simp only [cn, toF] at hf <;> cases hf; exact hres _ hr
   | head j e h g =>
     cases rt <;> simp only [cn, toF] at hf <;> first | (cases hf; done) | skip
     ·simp only [FT.head.injEq] at hf
      obtain ⟨rfl, rfl, h1, h2, h3, h4⟩ := hf
      exact hhead _ e h hr (lS w0 h1 h2 h3 h4)
     ·simp only [FT.headz.injEq] at hf
      obtain ⟨hc, hz, hfr, rfl, rfl, h1, h2, h3, h4⟩ := hf
      exact hhead _ e h hr ((tk w0 hc hz hfr).trans (lS w0 h1 h2 h3 h4))
 | br b x y hx hy =>
   intro rt hf hs hr
   cases rt <;> simp only [cn, toF] at hf <;> first | (cases hf; done) | skip
   ·simp only [FT.br.injEq] at hf
    simp only [aS, T.br.injEq, true_and] at hs
    obtain ⟨rfl, h1, h2⟩ := hf
    exact ⟨fun e => hx _ h1 hs.1 (hr.1 e), fun e => hy _ h2 hs.2 (hr.2 e)⟩
   ·simp only [FT.brt.injEq] at hf
    simp only [aS, T.br.injEq, true_and] at hs
    obtain ⟨rfl, h1⟩ := hf
    exact ⟨fun e => hx _ h1 hs.1 hr, fun e => by cases e⟩
   ·simp only [FT.brf.injEq] at hf
    simp only [aS, T.br.injEq, true_and] at hs
    obtain ⟨rfl, h1⟩ := hf
    exact ⟨(fun e => by cases e), fun e => hy _ h1 hs hr⟩
   ·simp only [FT.brx.injEq] at hf
    simp only [aS, T.br.injEq, true_and] at hs
    obtain ⟨rfl, h1⟩ := hf
    exact ⟨fun e => hx _ h1 hs.1 hr.2, fun e => by rw [hr.1] at e; cases e⟩
   ·simp only [FT.bry.injEq] at hf
    simp only [aS, T.br.injEq, true_and] at hs
    obtain ⟨rfl, h1⟩ := hf
    exact ⟨(fun e => by rw [hr.1] at e; cases e), fun e => hy _ h1 hs hr.2⟩
 | ob b x hx =>
   intro rt hf hs hr
   cases rt <;> simp only [cn, toF] at hf <;> first | (cases hf; done) | skip
   ·simp only [FT.ob.injEq] at hf
    simp only [aS, T.ob.injEq, true_and] at hs
    obtain ⟨rfl, h1⟩ := hf
    exact ⟨hr.1, hx _ h1 hs hr.2⟩
   ·simp only [FT.obt.injEq] at hf
    simp only [aS, T.ob.injEq, true_and] at hs
    obtain ⟨rfl, h1⟩ := hf
    exact ⟨rfl, hx _ h1 hs hr⟩
   ·rename_i b' hb' x'
    simp only [FT.ob.injEq] at hf
    simp only [aS, T.ob.injEq, true_and] at hs
    obtain ⟨rfl, h1⟩ := hf
    exact ⟨hb', hx _ h1 hs hr⟩
 | obp p x hx =>
   intro rt hf hs hr
   cases rt <;> simp only [cn, toF] at hf <;> first | (cases hf; done) | skip
   ·simp only [FT.obp.injEq] at hf
    simp only [aS, T.obp.injEq, true_and] at hs
    obtain ⟨rfl, h1⟩ := hf
    exact ⟨trivial, hx _ h1 hs hr⟩
   ·simp only [FT.obp.injEq] at hf
    simp only [aS, T.obp.injEq, true_and] at hs
    obtain ⟨rfl, h1⟩ := hf
    exact ⟨hr.1, hx _ h1 hs hr.2⟩
 | obi c d x hx =>
   intro rt hf hs hr
   cases rt <;> simp only [cn, toF] at hf <;> first | (cases hf; done) | skip
   ·simp only [FT.ob.injEq] at hf
    simp only [aS, T.obi.injEq, true_and] at hs
    obtain ⟨rfl, h1⟩ := hf
    exact ⟨fun _ => hr.1, hx _ h1 hs hr.2⟩
   ·simp only [FT.obt.injEq] at hf
    simp only [aS, T.obi.injEq, true_and] at hs
    obtain ⟨rfl, h1⟩ := hf
    exact ⟨fun _ => rfl, hx _ h1 hs hr⟩
   ·rename_i b' hb' x'
    simp only [FT.ob.injEq] at hf
    simp only [aS, T.obi.injEq, true_and] at hs
    obtain ⟨rfl, h1⟩ := hf
    exact ⟨fun _ => hb', hx _ h1 hs hr⟩
   ·simp only [FT.obi.injEq] at hf
    simp only [aS, T.obi.injEq, true_and] at hs
    obtain ⟨h0, h1⟩ := hs
    subst h0
    exact ⟨id, hx _ hf h1 hr⟩
   ·simp only [FT.obj.injEq] at hf
    simp only [aS, T.obi.injEq, true_and] at hs
    obtain ⟨rfl, rfl, h1⟩ := hf
    exact ⟨hr.1, hx _ h1 hs hr.2⟩
 | obq a b x hx =>
   intro rt hf hs hr
   have gen : Fq a b (cn D x) rt = cn D x rt -> E3 a b (aS x) rt = .obq a a (aS x rt) -> sat LP (.obq a b x) Q := fun e1 e2 => by
    have hs' : T.obq a a (aS x rt) = T.obq a b x := e2.symm.trans hs
    simp only [T.obq.injEq, true_and] at hs'
    exact ⟨hs'.1, hx _ (e1.symm.trans hf) hs'.2 hr⟩
   cases rt <;> first | exact gen rfl rfl | skip
   rename_i ts ds x'
   have hf' : FT.obe a b (cn D x x') = FT.obe (gj ts ds []) (gm ts ds []) (toF D x') := hf
   have hs' : T.obq a b (aS x x') = T.obq a b x := hs
   simp only [FT.obe.injEq] at hf'
   simp only [T.obq.injEq, true_and] at hs'
   obtain ⟨rfl, rfl, h1⟩ := hf'
   exact ⟨hr.1, hx _ h1 hs' hr.2⟩
 | fail n =>
   intro rt hf hs hr
   cases rt <;> simp only [cn, toF] at hf <;> first | (cases hf; done) | exact hr.elim
 | loop fr b e h g k hk =>
   intro rt hf hs hr
   cases rt <;> simp only [cn, toF] at hf <;> first | (cases hf; done) | skip
   ·simp only [FT.loop.injEq] at hf
    obtain ⟨rfl, rfl, rfl, rfl, h1, h2, h3, h4⟩ := hf
    exact hloop _ e h hr (lS w0 h1 h2 h3 h4)
   ·simp only [FT.loopz.injEq] at hf
    obtain ⟨hc, hz, hfr, rfl, rfl, rfl, rfl, h1, h2, h3, h4⟩ := hf
    exact hloop _ e h hr ((tk w0 hc hz hfr).trans (lS w0 h1 h2 h3 h4))
 | all f hf0 =>
   intro rt hf hs hr
   cases rt <;> simp only [cn, toF] at hf <;> first | (cases hf; done) | skip
   simp only [FT.all.injEq] at hf
   simp only [aS, T.all.injEq] at hs
   exact fun l => hf0 l _ (congrFun hf l) (congrFun hs l) (hr l)
 | und x y hx hy =>
   intro rt hf hs hr
   cases rt <;> simp only [cn, toF] at hf <;> first | (cases hf; done) | skip
   simp only [FT.und.injEq] at hf
   simp only [aS, T.und.injEq] at hs
   exact ⟨hx _ hf.1 hs.1 hr.1, hy _ hf.2 hs.2 hr.2⟩
 | asm p x hx =>
   intro rt hf hs hr
   cases rt <;> simp only [cn, toF] at hf <;> first | (cases hf; done) | skip
   simp only [FT.asm.injEq] at hf
   simp only [aS, T.asm.injEq, true_and] at hs
   obtain ⟨rfl, h1⟩ := hf
   exact fun hp => hx _ h1 hs (hr hp)
def rdT (ct : bc) (un : Unr) (j : J) (l : Lp J) (e : Env) (h : List O) (g : Option Ex) : T (bQ J) :=
 match l.body with
 | .s body => cN (evC (iA ct l.fr.1) (iY ct) un l.fr 0 body e h fun x e h => .ret (x, e, h)) fun r => match r.1 with
   | .normal => .ret (.head j r.2.1 r.2.2 none)
   | x => l.k x r.2.1 r.2.2 none
 | .i body rd => cN (gi (iA ct l.fr.1) (iY ct) un l.fr rd (rdY (iA ct l.fr.1) (iY ct) un l.fr.1 0 rd) 0 body e h g fun x e h g => .ret (x, e, h, g)) fun r => match r.1 with
   | .normal => .ret (.head j r.2.1 r.2.2.1 r.2.2.2)
   | x => l.k x r.2.1 r.2.2.1 r.2.2.2
def rdS (ct : bc) (un : Unr) (D : LD J S) (s : S) : T (bQ J) := rdT ct un (D.id s) (D.lp (D.id s)) (D.inv s).1 (D.inv s).2.1 (D.inv s).2.2
def QN (w0 : World) (D : LD J S) (step : S -> RT S) (r : V) (n : Nat) : bQ J -> Prop
 | .res v => toA v = toA r
 | .head j e h g => ∃ s, D.id s = j /\ (D.inv s).2.2 = g /\ dE w0 (D.lp (D.id s)).fr.2 e h (D.inv s).1 (D.inv s).2.1 /\ EvN step n s r
theorem lM {w0 : World} {D : LD J S} {step : S -> RT S} {r : V} {n m : Nat} (hm : n <= m) : ∀ a, QN w0 D step r n a -> QN w0 D step r m a
 | .res v, h => h
 | .head j e h g, ⟨s, h1, h2, h3, h4⟩ => ⟨s, h1, h2, h3, mr h4 hm⟩
theorem BQ {w0 : World} {S : qk} {fr : Nat × Nat} {body : cK} {e : Env} {h : List O} {g : Option Ex} {P : Ex -> Env -> List O -> Option Ex -> Prop} (hl : bu w0 S (fr.1, fr.2) (.s body) e h none P) : bu w0 S fr (.s body) e h g P := hl
theorem Fo {ct : bc} {un : Unr} {w0 : World} (hd : iQ ct = true) {D : LD J S} {step : S -> RT S} {r : V} (hs : ∀ s, cn D (rdS ct un D s) (step s) = toF D (step s)) (hq : ∀ s, aS (rdS ct un D s) (step s) = rdS ct un D s) :
 ∀ (n : Nat) (s : S) (e : Env) (h : List O), EvN step n s r -> dE w0 (D.lp (D.id s)).fr.2 e h (D.inv s).1 (D.inv s).2.1 ->
 bu w0 (SV ct) (D.lp (D.id s)).fr (D.lp (D.id s)).body e h (D.inv s).2.2 fun x e h g => sat (bu w0 (SV ct)) ((D.lp (D.id s)).k x e h g) (QN w0 D step r n) := by
 intro n
 induction n using Nat.strongRecOn with
 | ind n ih =>
   intro s e h hn hsub
   have key : ∀ (p : Nat) (s' : S), p <= n -> EvN step p s' r -> ∃ m, p = m + 1 /\ sat (bu w0 (SV ct)) (rdS ct un D s') (QN w0 D step r m) := by
    intro p s' hp he
    match p, hp, he with
    | 0, _, he => exact he.elim
    | m + 1, hp, he =>
      exact ⟨m, rfl, pg (w0 := w0) (Nx := EvN step m) (fun v hv => hv) (fun s e h h1 h2 => ⟨s, rfl, rfl, h2, h1⟩) (fun s e h h1 h2 => ih m (by omega) s e h h1 h2) _ _ (hs s') (hq s') he⟩
   generalize hj : D.id s = j at *
   match hb : (D.lp j).body with
   | .s body =>
     refine BQ (FE (un := un) hd 0 {p : Nat × S // p.1 <= n /\ EvN step p.1 p.2 r /\ D.id p.2 = j} (fun p => ((D.inv p.1.2).1, (D.inv p.1.2).2.1)) (fun p => p.1.1) ⟨⟨(n, s), Nat.le_refl _, hn, hj⟩, hsub⟩ ?_)
     rintro ⟨⟨p, s'⟩, hp, he, hj'⟩
     obtain ⟨m, hpm, hk⟩ := key p s' hp he
     simp only at hj' hp hpm
     unfold rdS rdT at hk
     rw [hj', hb] at hk
     simp only [qi] at hk
     refine eW (dp _ _) (fun a ha => ?_) _ hk
     obtain ⟨x, e', h'⟩ := a
     cases x with
     | normal =>
       obtain ⟨s2, g1, g2, g3, g4⟩ := ha
       rw [g1] at g3
       exact ⟨⟨(m, s2), by omega, g4, g1⟩, g3, by simp only; omega⟩
     | exit i => exact eW (dp _ _) (lM (by omega)) _ ha
     | ret => exact eW (dp _ _) (lM (by omega)) _ ha
   | .i body rd =>
     refine Bh (un := un) hd 0 0 {p : Nat × S // p.1 <= n /\ EvN step p.1 p.2 r /\ D.id p.2 = j} (fun p => D.inv p.1.2) (fun p => p.1.1) ⟨⟨(n, s), Nat.le_refl _, hn, hj⟩, rfl, hsub⟩ ?_
     rintro ⟨⟨p, s'⟩, hp, he, hj'⟩
     obtain ⟨m, hpm, hk⟩ := key p s' hp he
     simp only at hj' hp hpm
     unfold rdS rdT at hk
     rw [hj', hb] at hk
     simp only [qi] at hk
     refine eW (dp _ _) (fun a ha => ?_) _ hk
     obtain ⟨x, e', h', g'⟩ := a
     cases x with
     | normal =>
       obtain ⟨s2, g1, g2, g3, g4⟩ := ha
       rw [g1] at g3
       exact ⟨⟨(m, s2), by omega, g4, g1⟩, g2.symm, g3, by simp only; omega⟩
     | exit i => exact eW (dp _ _) (lM (by omega)) _ ha
     | ret => exact eW (dp _ _) (lM (by omega)) _ ha
def aY (J : Type) (ct : bc) (un : Unr) (sf : aw) (ds : List V) : T (bQ J) := nk (iA ct LV) (iY ct) un LV sf ds [] fun v _ => .ret (.res v)
def lE (r : V) : bQ J -> Prop
 | .res v => toA v = toA r
 | .head .. => True
theorem A3 {w0 : World} {D : LD J S} {step : S -> RT S} {r : V} {n : Nat} : ∀ a, QN w0 D step r n a -> lE r a
 | .res v, h => h
 | .head .., _ => trivial
theorem Ck {ct : bc} {un : Unr} {w0 : World} (hd : iQ ct = true) {t : T (bQ J)} (D : LD J S) (step : S -> RT S) (m : RT S) {r : V} (h1 : cn D t m = toF D m) (h2 : aS t m = t)
 (hs : ∀ s, cn D (rdS ct un D s) (step s) = toF D (step s)) (hq : ∀ s, aS (rdS ct un D s) (step s) = rdS ct un D s) (hr : evR (Ev step) m r) : sat (bu w0 (SV ct)) t (lE r) :=
 pg (w0 := w0) (Nx := Ev step) (fun v hv => hv) (fun _ _ _ _ _ => trivial) (fun s e h ⟨n, hn⟩ hsub => dp _ _ _ _ _ _ _ _ _ (fun x e h g hk => eW (dp _ _) A3 _ hk) (Fo hd hs hq n s e h hn hsub)) _ _ h1 h2 hr
theorem oI {ts : List Ty} (h : ts.all aT = true) (n : Nat) (f : FnV) : gH n (fun i => okE (aK ts) (elV ts f i)) = true := o8 fun i _ => kL h _
def lpT : T (bQ J) -> Lp J
 | .loop fr b _ _ _ k => ⟨fr, b, k⟩
 | _ => ⟨(0, 0), .s .skip, fun _ _ _ _ => .fail 0⟩
def noD : LD J Empty := ⟨fun s => (nomatch s), fun _ => ⟨(0, 0), .s .skip, fun _ _ _ _ => .fail 0⟩, fun s => (nomatch s)⟩
def noE : Empty -> V -> Prop := fun s => nomatch s
theorem zu {ct : bc} {w0 : World} (hd : iQ ct = true) {t : T (bQ J)} (m : RT Empty) {r : V} (h1 : cn noD t m = toF noD m) (h2 : aS t m = t) (hr : evR noE m r) : sat (bu w0 (SV ct)) t (lE r) :=
 pg (w0 := w0) (Nx := noE) (fun v hv => hv) (fun s => (nomatch s)) (fun s => (nomatch s)) _ _ h1 h2 hr
def Fit (D : LD J S) (t : T (bQ J)) (m : RT S) : Prop := cn D t m = toF D m /\ aS t m = t
def iC (ct : bc) (un : Unr) (D : LD J S) (t : T (bQ J)) (m : RT S) (st : S -> RT S) : Prop := Fit D t m /\ ∀ s, Fit D (rdS ct un D s) (st s)
def Run (ct : bc) (t : T (bQ J)) (r : V) : Prop := iQ ct = true -> ∀ w0, sat (bu w0 (SV ct)) t (lE r)
theorem rf0 {ct : bc} {t : T (bQ J)} {m : RT Empty} {r : V} (h : Fit noD t m) (hr : evR noE m r) : Run ct t r := fun hd _ => zu hd m h.1 h.2 hr
theorem rfs {ct : bc} {un : Unr} {D : LD J S} {t : T (bQ J)} {m : RT S} {st : S -> RT S} {r : V} (h : iC ct un D t m st) (hr : evR (Ev st) m r) : Run ct t r := fun hd _ => Ck hd D st m h.1.1 h.1.2 (fun s => (h.2 s).1) (fun s => (h.2 s).2) hr
inductive Cx where
 | i (n : Int)
 | n (n : Nat)
 | b (b : Bool)
 | s (s : ByteArray)
 | f (f : FnV)
def cxn : List Cx -> Nat -> Nat
 | .n n :: _, 0 => n
 | _ :: l, k + 1 => cxn l k
 | _, _ => 0
abbrev JJ := Nat × List Cx
theorem px {P : Program} {eqs : List TypeId} {its : List e9} {ct : bc} {f : FuncId} {fn : Func} {sf : aw} {un : Unr} {ts : List Ty} {pre : List V -> Prop} {r : List V -> V} (hT : aX P eqs its ct) (hE : ∀ t ∈ eqs, bU P t) (hI : lf P eqs its) (hf : P.funcs[f]? = some fn)
 (hn : (fn.name == "runtime.NumGoroutine") = false) (hc : dN P eqs its fn = some sf) (hd : dt sf.ntmps sf.body = true) (ho : dV ts = true)
 (h : ∀ w0 ds, pre (al ts ds) -> sat (bu w0 (SV ct)) (aY J ct un sf (al ts ds)) (lE (r (al ts ds)))) : (vP (mkC ts pre r)).Ok P f :=
 zA (α := bQ J) (K0 := fun v => .ret (.res v)) (Q0 := lE) (fun _ _ _ h => h) hT hE hI hf hn hc hd ho h
end
end Go.Dx
namespace Go.Sx
def jL (P : Program) (t : TypeId) : Bool := match P.underlying t with
 | some (.int _) => true
 | _ => false
def ij (P : Program) : List Field -> Nat -> Bool
 | [], _ => true
 | f :: fs, i => decide (f.name ≠ "_") && Nat.beq f.offset i && jL P f.type && ij P fs (i + 1)
section
variable {P : Program} {m : ah}
theorem mh {t : TypeId} (h : jL P t = true) : ∃ k, P.underlying t = some (.int k) := by
 unfold jL at h
 split at h
 ·rename_i k hk; exact ⟨k, hk⟩
 ·cases h
theorem er {t : TypeId} {k : IntKind} (ht : P.underlying t = some (.int k)) {us : Array Value} {i : Nat} {v : Value} (hv : us[i]? = some v) (w : World) : (part t us i).run P w = .ok v w := by
 unfold part
 have hi : (isAgg t).run P w = .ok false w := by
  unfold isAgg
  rw [aa (af ht w)]; rfl
 rw [aa hi]
 simp only [Bool.false_eq_true, if_false, hv]
 rfl
theorem iL {d : Nat} : ∀ (fs : List Field) (i : Nat) (xs ys : List ab) (us vs : Array Value) (b : Bool) (w : World), ij P fs i = true -> fs.length = xs.length -> ae m xs (us.toList.drop i) -> ae m ys (vs.toList.drop i) -> bA xs ys = some b ->
 (Op.eqFields (d + 1) us vs fs).run P w = .ok b w
 | [], i, xs, ys, us, vs, b, w, _, hl, _, _, hb => by
   cases xs with
   | cons _ _ => simp at hl
   | nil => cases ys with
     | nil => simp [bA] at hb; subst hb; rfl
     | cons _ _ => simp [bA] at hb
 | f :: fs, i, xs, ys, us, vs, b, w, hf, hl, hx, hy, hb => by
   simp only [ij, Bool.and_eq_true, decide_eq_true_eq] at hf
   obtain ⟨⟨⟨h1, h2⟩, h3⟩, h4⟩ := hf
   obtain ⟨k, hk⟩ := mh h3
   have ho := Nat.eq_of_beq_eq_true h2
   cases xs with
   | nil => simp at hl
   | cons x xs => cases ys with
     | nil => cases x <;> simp [bA] at hb
     | cons y ys =>
       cases x <;> try (simp [bA] at hb; done)
       rename_i ka a
       cases y <;> try (simp [bA] at hb; done)
       rename_i kb c
       simp only [bA] at hb
       split at hb
       ·rename_i hkk
        subst hkk
        simp only [Option.map_eq_some_iff] at hb
        obtain ⟨b', hb', rfl⟩ := hb
        simp only [ae] at hx hy
        obtain ⟨u, us', hu, hur, hus⟩ := hx
        obtain ⟨v, vs', hv, hvr, hvs⟩ := hy
        simp only [vrel] at hur hvr
        subst hur; subst hvr
        have gu : us[i]? = some (.int ka a) := by
         have := congrArg (·[0]?) hu
         simpa using this
        have gv : vs[i]? = some (.int ka c) := by
         have := congrArg (·[0]?) hv
         simpa using this
        have du : us.toList.drop (i + 1) = us' := by rw [← List.drop_drop, hu]; rfl
        have dv : vs.toList.drop (i + 1) = vs' := by rw [← List.drop_drop, hv]; rfl
        simp only [Op.eqFields]
        rw [if_pos h1, ho, aa (er hk gu w), aa (er hk gv w), aa (run_equalIn_int w d f.type ka k a c hk)]
        cases hac : (a == c) with
        | false => simp only [Bool.not_false, if_true, Bool.false_and]; rfl
        | true =>
          simp only [Bool.not_true, Bool.false_eq_true, if_false, Bool.true_and]
          exact iL fs (i + 1) xs ys us vs b' w h4 (by simpa using hl) (by rw [du]; exact hus) (by rw [dv]; exact hvs) hb'
       ·cases hb
theorem dP {t : TypeId} (ht : P.underlying t = some (.struct (P.fieldsOf t))) (hp : P.stoodInHeld t = false) (hg : P.eqGuardType P.depth t = false) (hn : (P.info? t).map (·.size) = some (P.fieldsOf t).toList.length) (hf : ij P (P.fieldsOf t).toList 0 = true) : bU P t := by
 refine ⟨hg, fun n hn' xs ys us vs m b w hl hx hy hb => ?_⟩
 rw [hn] at hn'; cases hn'
 unfold Op.equal
 rw [show Op.maxDepth = 9998 + 1 + 1 from rfl, run_equalIn_struct w _ t us vs ht hp]
 exact iL (d := 9998) _ 0 xs ys us vs b w hf hl.symm (by simpa using hx) (by simpa using hy) hb
theorem jf {d : Nat} {e : TypeId} (he : jL P e = true) (h1 : P.cellsOf e = 1) : ∀ (n i : Nat) (xs ys : List ab) (us vs : Array Value) (b : Bool) (w : World), n = xs.length -> ae m xs (us.toList.drop i) -> ae m ys (vs.toList.drop i) -> bA xs ys = some b ->
 (Op.eqItems (d + 1) e (P.cellsOf e) us vs (List.range' i n)).run P w = .ok b w
 | 0, i, xs, ys, us, vs, b, w, hl, _, _, hb => by
   cases xs with
   | cons _ _ => simp at hl
   | nil => cases ys with
     | nil => simp [bA] at hb; subst hb; rfl
     | cons _ _ => simp [bA] at hb
 | n + 1, i, xs, ys, us, vs, b, w, hl, hx, hy, hb => by
   obtain ⟨k, hk⟩ := mh he
   cases xs with
   | nil => simp at hl
   | cons x xs => cases ys with
     | nil => cases x <;> simp [bA] at hb
     | cons y ys =>
       cases x <;> try (simp [bA] at hb; done)
       rename_i ka a
       cases y <;> try (simp [bA] at hb; done)
       rename_i kb c
       simp only [bA] at hb
       split at hb
       ·rename_i hkk
        subst hkk
        simp only [Option.map_eq_some_iff] at hb
        obtain ⟨b', hb', rfl⟩ := hb
        simp only [ae] at hx hy
        obtain ⟨u, us', hu, hur, hus⟩ := hx
        obtain ⟨v, vs', hv, hvr, hvs⟩ := hy
        simp only [vrel] at hur hvr
        subst hur; subst hvr
        have gu : us[i]? = some (.int ka a) := by
         have := congrArg (·[0]?) hu
         simpa using this
        have gv : vs[i]? = some (.int ka c) := by
         have := congrArg (·[0]?) hv
         simpa using this
        have du : us.toList.drop (i + 1) = us' := by rw [← List.drop_drop, hu]; rfl
        have dv : vs.toList.drop (i + 1) = vs' := by rw [← List.drop_drop, hv]; rfl
        rw [List.range'_succ]
        simp only [Op.eqItems, h1, Nat.mul_one]
        rw [aa (er hk gu w), aa (er hk gv w), aa (run_equalIn_int w d e ka k a c hk)]
        cases hac : (a == c) with
        | false => simp only [Bool.not_false, if_true, Bool.false_and]; rfl
        | true =>
          simp only [Bool.not_true, Bool.false_eq_true, if_false, Bool.true_and]
          have := jf (d := d) he h1 n (i + 1) xs ys us vs b' w (by simpa using hl) (by rw [du]; exact hus) (by rw [dv]; exact hvs) hb'
          rw [h1] at this; exact this
       ·cases hb
theorem pn {t : TypeId} (e : TypeId) (n : Nat) (ht : P.underlying t = some (.array n e)) (hi : (P.info? e).isSome = true) (hg : P.eqGuardType P.depth t = false) (hn : (P.info? t).map (·.size) = some n) (h1 : P.cellsOf e = 1) (hf : jL P e = true) : bU P t := by
 obtain ⟨ie, hi⟩ := Option.isSome_iff_exists.1 hi
 refine ⟨hg, fun n' hn' xs ys us vs m b w hl hx hy hb => ?_⟩
 rw [hn] at hn'; cases hn'
 unfold Op.equal
 rw [show Op.maxDepth = 9998 + 1 + 1 from rfl, run_equalIn_array w _ us vs ht hi, List.range_eq_range']
 exact jf (d := 9998) hf h1 n 0 xs ys us vs b w hl.symm (by simpa using hx) (by simpa using hy) hb
end
end Go.Sx
