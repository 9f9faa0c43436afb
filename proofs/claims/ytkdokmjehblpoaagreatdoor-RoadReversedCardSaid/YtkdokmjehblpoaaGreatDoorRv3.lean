/- Part 3 of a proof. No conditions. -/
import Derived.Test.YtkdokmjehblpoaaGreatDoorRv2
import Derived.KernelRfl
import Derived.OpenShut
import Derived.ChangeArms
import Derived.Below
import Derived.ChangeSame
import Derived.Carry
import Derived.Laws.StructEq
import Derived.ChangeKeysEq
set_option maxRecDepth 100000
set_option linter.unusedVariables false
set_option linter.unusedSimpArgs false
namespace Go.Dx
open Go.Sx
def dstItems (N : Nat) : List IItem -> Bool
 | [] => true
 | .op o :: l => dstOps N [o] && dstItems N l
 | .yld _ d _ :: l => (match d with | some d => Nat.blt d N | none => true) && dstItems N l
def dstI (N : Nat) : ICode -> Bool
 | .reg ops => dstItems N ops
 | .draw ds => dstD N ds
 | .seq a b => dstI N a && dstI N b
 | .cond _ a b => dstI N a && dstI N b
 | .block _ b => dstI N b
 | .loop b => dstI N b
 | .scope b => dstI N b
 | _ => true
def dstIts : List IFun -> Bool
 | [] => true
 | it :: l => dstI it.ntmps it.body && dstIts l
def allLt (N : Nat) : List Nat -> Bool
 | [] => true
 | p :: l => Nat.blt p N && allLt N l
def dstOT (N : Nat) : OT -> Bool
 | .done => true
 | .op o r => dstOps N [o] && dstOT N r
 | .alt a b => dstOT N a && dstOT N b
def dstC (N : Nat) : SCode -> Bool
 | .reg ops => dstOps N ops
 | .draw ds => dstD N ds
 | .allo t => dstOT N t
 | .seq a b => dstC N a && dstC N b
 | .cond _ a b => dstC N a && dstC N b
 | .block _ b => dstC N b
 | .loop b => dstC N b
 | .scope b => dstC N b
 | .range _ ps a b its => allLt N ps && (dstC N a && (dstC N b && dstIts its))
 | _ => true
def NuN (nb : Nat) (ν ν' : Nu) : Prop := (∀ k x, k < nb -> ν k = some x -> ν' k = some x) /\ zle ν.z ν'.z
theorem NuN.refl (nb : Nat) (ν : Nu) : NuN nb ν ν := ⟨fun _ _ _ h => h, zle_refl _⟩
theorem NuN.trans {nb : Nat} {a b c : Nu} (h : NuN nb a b) (k : NuN nb b c) : NuN nb a c := ⟨fun i x hi hx => k.1 i x hi (h.1 i x hi hx), zle_trans h.2 k.2⟩
theorem NuN.of {ν ν' : Nu} (h : ν.sub ν') (nb : Nat) : NuN nb ν ν' := ⟨fun k x _ hx => h.1 k x hx, h.2⟩
theorem NuN.sub {ν ν' : Nu} {nb : Nat} (h : NuN nb ν ν') (hd : ∀ k, nb <= k -> ν k = none) : ν.sub ν' := ⟨fun k x hx => (by
 rcases Nat.lt_or_ge k nb with hk | hk
 ·exact h.1 k x hk hx
 ·rw [hd k hk] at hx; exact absurd hx (by simp)), h.2⟩
def Ctx (w0 : World) (nb N0 : Nat) (e0 : Env) (sl0 : List AVal) (ν : Nu) : Prop := ∃ ν0 : Nu, (∀ k, nb <= k -> ν0 k = none) /\ slR w0 ν0 N0 e0 sl0 /\ ν0.sub ν
theorem Ctx.step {w0 : World} {nb N0 : Nat} {e0 : Env} {sl0 : List AVal} {ν ν' : Nu} (h : Ctx w0 nb N0 e0 sl0 ν) (hn : NuN nb ν ν') : Ctx w0 nb N0 e0 sl0 ν' := by
 obtain ⟨ν0, h1, h2, h3⟩ := h
 exact ⟨ν0, h1, h2, NuN.sub ⟨fun k x hk hx => hn.1 k x hk (h3.1 k x hx), zle_trans h3.2 hn.2⟩ h1⟩
theorem Ctx.get {w0 : World} {nb N0 : Nat} {e0 : Env} {sl0 : List AVal} {ν : Nu} (h : Ctx w0 nb N0 e0 sl0 ν) : slR w0 ν N0 e0 sl0 := let ⟨_, _, h2, h3⟩ := h; h2.mono h3
def YA (w0 : World) (S : FuncId -> FSpec) (ps : List Nat) (asg body : SCode) (sl0 : List AVal) : YH := fun xs lh K => xs.length = ps.length /\ vcCode w0 S lh.length asg (setPs sl0 ps xs) lh (thenQ (fun sl lh' => vcCode w0 S lh.length body sl lh' fun x _ lh => K x lh) fun _ _ _ => False)
abbrev Specs := Nat -> FuncId -> FSpec
def LPof (w0 : World) (S : Specs) : LPred := fun fr b e h g Post => match b with
 | .s body => ∀ (N nbS : Nat) (ν : Nu) (nV nS : Nat) (sl : List AVal) (lh : List LObj) (QA : Ex -> List AVal -> List LObj -> Prop), dstC N body = true -> slR w0 ν N e sl -> HR w0 ν nV nS h lh ->
   (∀ ex e' h' ν' sl' lh' nV' nS', NuN fr.2 ν ν' -> slR w0 ν' N e' sl' -> HR w0 ν' nV' nS' h' lh' -> Post ex e' h' none -> QA ex sl' lh') -> vcCode w0 (S fr.1) nbS (.loop body) sl lh QA
 | .i body rd => ∀ (N N0 : Nat) (ν : Nu) (nV nS : Nat) (sl sl0 : List AVal) (lh : List LObj) (QA : IQ), dstI N body = true -> allLt N0 rd.ps = true -> dstC N0 rd.asg = true -> dstC N0 rd.body = true -> slR w0 ν N e sl -> Ctx w0 fr.2 N0 rd.e0 sl0 ν -> HR w0 ν nV nS h lh ->
   (∀ ex e' h' g' ν' sl' lh' nV' nS', NuN fr.2 ν ν' -> slR w0 ν' N e' sl' -> HR w0 ν' nV' nS' h' lh' -> Post ex e' h' g' -> QA ex sl' lh' g') -> vcIt w0 (S fr.1) rd.l (YA w0 (S fr.1) rd.ps rd.asg rd.body sl0) (.loop body) sl lh g QA
section
variable {w0 : World} {S : Specs} {α : Type} {Q : α -> Prop} {cf : CF α} {cp : CP α}
theorem setPsV_ok {ν : Nu} {N : Nat} : ∀ (ps : List Nat) (e : Env) (sl : List AVal) (vs : List V) (az : List AVal), allLt N ps = true -> slR w0 ν N e sl -> vrs w0 ν.z ν vs az -> vs.length = ps.length -> slR w0 ν N (setPsV e ps vs) (setPs sl ps az)
 | [], e, sl, vs, az, _, h, _, _ => by cases vs <;> simpa [setPsV, setPs] using h
 | p :: ps, e, sl, [], az, _, _, _, hl => by cases hl
 | p :: ps, e, sl, v :: vs, az, hp, h, hv, hl => by
   simp only [vrs] at hv
   obtain ⟨x, xs, rfl, h1, h2⟩ := hv
   simp only [allLt, Bool.and_eq_true] at hp
   simp only [setPsV, setPs]
   exact setPsV_ok ps _ _ vs xs hp.2 (h.set (by simpa [Nat.blt_eq] using hp.1) h1) h2 (by simpa using hl)
def YVok (w0 : World) (LP : LPred) (Q : α -> Prop) (nb N0 : Nat) (e0 : Env) (sl0 : List AVal) (Y : YV α) (YS : YH) : Prop :=
 ∀ (vs : List V) (h : List O) (ν : Nu) (nV nS : Nat) (args : List AVal) (lh : List LObj) (K : Ex -> List O -> T α) (KA : Ex -> List LObj -> Prop), Ctx w0 nb N0 e0 sl0 ν -> HR w0 ν nV nS h lh -> vrs w0 ν.z ν vs args -> sat LP (Y vs h K) Q ->
  (∀ x h' ν' nV' nS' lh', ν.sub ν' -> HR w0 ν' nV' nS' h' lh' -> sat LP (K x h') Q -> KA x lh') -> YS args lh KA
section it
variable {LP : LPred} {nb N N0 lv : Nat} {rd : RD} {Y : YV α} {YS : YH} {sl0 : List AVal} {un : Unr}
theorem evItems_ok {S1 : FuncId -> FSpec} {l : Nat} (hcf : CFok w0 S1 LP false cf) (hY : YVok w0 LP Q nb N0 rd.e0 sl0 Y YS) : ∀ (ops : List IItem) (e : Env) (h : List O) (g : Option Ex) (ν : Nu) (nV nS : Nat) (sl : List AVal) (lh : List LObj) (K : Env -> List O -> Option Ex -> T α) (KA : List AVal -> List LObj -> Option Ex -> Prop), dstItems N ops = true ->
 slR w0 ν N e sl -> Ctx w0 nb N0 rd.e0 sl0 ν -> HR w0 ν nV nS h lh -> sat LP (evItems cf l Y ops e h g K) Q -> (∀ e' h' g' ν' sl' lh' nV' nS', NuN nb ν ν' -> slR w0 ν' N e' sl' -> HR w0 ν' nV' nS' h' lh' -> sat LP (K e' h' g') Q -> KA sl' lh' g') -> vcItems w0 S1 l YS ops sl lh g KA
 | [], e, h, g, ν, nV, nS, sl, lh, K, KA, _, h1, _, h2, h3, h4 => h4 _ _ _ _ _ _ _ _ (NuN.refl _ _) h1 h2 h3
 | .op o :: rest, e, h, g, ν, nV, nS, sl, lh, K, KA, hd, h1, hx, h2, h3, h4 => by
   simp only [dstItems, Bool.and_eq_true] at hd
   simp only [evItems] at h3
   simp only [vcItems]
   exact evOps_ok hcf [o] e h ν sl lh _ _ hd.1 h1 h2 h3 fun e' h' ν' sl' lh' k0 k1 k2 k3 => evItems_ok hcf hY rest e' h' g ν' nV nS sl' lh' K KA hd.2 k1 (hx.step (NuN.of k0 _)) k2 k3 fun e2 h2 g2 ν2 sl2 lh2 nV2 nS2 q0 => h4 e2 h2 g2 ν2 sl2 lh2 nV2 nS2 ((NuN.of k0 _).trans q0)
 | .yld t d xs :: rest, e, h, g, ν, nV, nS, sl, lh, K, KA, hd, h1, hx, h2, h3, h4 => by
   simp only [dstItems, Bool.and_eq_true] at hd
   simp only [evItems] at h3
   split at h3
   ·rename_i l' hy
    simp only [sat] at h3
    obtain ⟨he, h3⟩ := h3
    simp only [List.cons.injEq, V.yl.injEq, and_true] at he
    subst he
    obtain ⟨us, k1, k2⟩ := rdks_ok h1 rfl h3
    have h0 := h1.at' t
    rw [hy] at h0
    simp only [vr] at h0
    simp only [vcItems]
    refine ⟨trivial, h0, ?_⟩
    have hdd : ∀ i, d = some i -> i < N := fun i hi => by subst hi; simpa [Nat.blt_eq] using hd.1
    refine hY us h ν nV nS _ lh _ _ hx h2 k1 k2 fun x h' ν' nV' nS' lh' g1 g2 g3 => ?_
    have hp : ∀ b, slR w0 ν' N (putV e d (.kb b)) (putS sl d (.bool b)) := fun b => (h1.mono g1).put d hdd (by simp only [vr])
    cases x with
    | normal => exact evItems_ok hcf hY rest _ h' none ν' nV' nS' _ lh' K KA hd.2 (hp true) (hx.step (NuN.of g1 _)) g2 g3 fun e2 h2 g2 ν2 sl2 lh2 nV2 nS2 q0 => h4 e2 h2 g2 ν2 sl2 lh2 nV2 nS2 ((NuN.of g1 _).trans q0)
    | exit i => exact evItems_ok hcf hY rest _ h' _ ν' nV' nS' _ lh' K KA hd.2 (hp false) (hx.step (NuN.of g1 _)) g2 g3 fun e2 h2 g2 ν2 sl2 lh2 nV2 nS2 q0 => h4 e2 h2 g2 ν2 sl2 lh2 nV2 nS2 ((NuN.of g1 _).trans q0)
    | ret => exact evItems_ok hcf hY rest _ h' _ ν' nV' nS' _ lh' K KA hd.2 (hp false) (hx.step (NuN.of g1 _)) g2 g3 fun e2 h2 g2 ν2 sl2 lh2 nV2 nS2 q0 => h4 e2 h2 g2 ν2 sl2 lh2 nV2 nS2 ((NuN.of g1 _).trans q0)
   ·exact h3.elim
structure IUn (w0 : World) (LP : LPred) (Q : α -> Prop) (nb N N0 : Nat) (e0 : Env) (sl0 : List AVal) (ev : Env -> List O -> Option Ex -> (Ex -> Env -> List O -> Option Ex -> T α) -> T α) (K : Ex -> Env -> List O -> Option Ex -> T α) (ν0 : Nu) where
 n : Nat
 e : Env
 h : List O
 g : Option Ex
 ν : Nu
 nV : Nat
 nS : Nat
 sl : List AVal
 lh : List LObj
 hs : slR w0 ν N e sl
 hx : Ctx w0 nb N0 e0 sl0 ν
 hh : HR w0 ν nV nS h lh
 hn : NuN nb ν0 ν
 st : sat LP (evLI ev n e h g K) Q
theorem evIt_ok (hcf : CFok w0 (S lv) (LPof w0 S) false cf) (hcp : CPok w0 (S lv) (LPof w0 S) cp) (hp0 : allLt N0 rd.ps = true) (hp1 : dstC N0 rd.asg = true) (hp2 : dstC N0 rd.body = true) (hYS : YS = YA w0 (S lv) rd.ps rd.asg rd.body sl0) (hY : YVok w0 (LPof w0 S) Q nb N0 rd.e0 sl0 Y YS) : ∀ (c : ICode) (bi : Nat) (e : Env) (h : List O) (g : Option Ex) (ν : Nu) (nV nS : Nat) (sl : List AVal) (lh : List LObj) (K : Ex -> Env -> List O -> Option Ex -> T α) (KA : IQ),
 dstI N c = true -> slR w0 ν N e sl -> Ctx w0 nb N0 rd.e0 sl0 ν -> HR w0 ν nV nS h lh -> sat (LPof w0 S) (evIt cf cp un (lv, nb) rd Y bi c e h g K) Q ->
 (∀ x e' h' g' ν' sl' lh' nV' nS', NuN nb ν ν' -> slR w0 ν' N e' sl' -> HR w0 ν' nV' nS' h' lh' -> sat (LPof w0 S) (K x e' h' g') Q -> KA x sl' lh' g') -> vcIt w0 (S lv) rd.l YS c sl lh g KA := by
 intro c
 induction c with
 | skip => intro bi e h g ν nV nS sl lh K KA _ h1 _ h2 h3 h4; exact h4 .normal _ _ _ _ _ _ _ _ (NuN.refl _ _) h1 h2 h3
 | reg ops =>
   intro bi e h g ν nV nS sl lh K KA hd h1 hx h2 h3 h4
   exact evItems_ok hcf hY ops e h g ν nV nS sl lh _ _ hd h1 hx h2 h3 fun e' h' g' ν' sl' lh' nV' nS' k0 k1 k2 k3 => h4 .normal _ _ _ _ _ _ _ _ k0 k1 k2 k3
 | draw ds =>
   intro bi e h g ν nV nS sl lh K KA hd h1 hx h2 h3 h4
   exact evDraw_ok hcp hd h1 h2 h3 fun e' h' ν' sl' lh' _ _ k0 g1 g2 g3 => h4 .normal _ _ _ _ _ _ _ _ (NuN.of k0 _) g1 g2 g3
 | seq a b iha ihb =>
   intro bi e h g ν nV nS sl lh K KA hd h1 hx h2 h3 h4
   simp only [dstI, Bool.and_eq_true] at hd
   refine iha bi e h g ν nV nS sl lh _ _ hd.1 h1 hx h2 h3 fun x e' h' g' ν' sl' lh' nV' nS' g0 g1 g2 g3 => ?_
   cases x with
   | normal => exact ihb bi e' h' g' ν' nV' nS' sl' lh' K KA hd.2 g1 (hx.step g0) g2 g3 fun x e2 h2 g2 ν2 sl2 lh2 nV2 nS2 q0 => h4 x e2 h2 g2 ν2 sl2 lh2 nV2 nS2 (g0.trans q0)
   | exit i => exact h4 _ _ _ _ _ _ _ _ _ g0 g1 g2 g3
   | ret => exact h4 _ _ _ _ _ _ _ _ _ g0 g1 g2 g3
 | cond c a b iha ihb =>
   intro bi e h g ν nV nS sl lh K KA hd h1 hx h2 h3 h4
   simp only [dstI, Bool.and_eq_true] at hd
   simp only [evIt] at h3
   have ha := h1.arg c
   simp only [vcIt]
   split at h3
   ·rename_i hc
    rw [hc] at ha; simp only [vr] at ha; rw [ha]
    exact ⟨fun _ => iha bi e h g ν nV nS sl lh K KA hd.1 h1 hx h2 h3 h4, (fun he => by cases he)⟩
   ·rename_i hc
    rw [hc] at ha; simp only [vr] at ha; rw [ha]
    exact ⟨(fun he => by cases he), fun _ => ihb bi e h g ν nV nS sl lh K KA hd.2 h1 hx h2 h3 h4⟩
   ·rename_i t hc
    rw [hc] at ha; simp only [vr] at ha; rw [ha]
    split at h3
    ·rename_i s
     simp only [sat] at h3
     simp only [arg] at ha
     exact ⟨fun et => iha bi _ h g ν nV nS sl lh K KA hd.1 (h1.know (by simp only [vr]; rw [ha, et])) hx h2 (h3.1 et) h4, fun et => ihb bi _ h g ν nV nS sl lh K KA hd.2 (h1.know (by simp only [vr]; rw [ha, et])) hx h2 (h3.2 et) h4⟩
    ·simp only [sat] at h3
     exact ⟨fun et => iha bi _ h g ν nV nS sl lh K KA hd.1 h1 hx h2 (h3.1 et) h4, fun et => ihb bi _ h g ν nV nS sl lh K KA hd.2 h1 hx h2 (h3.2 et) h4⟩
   ·exact h3.elim
 | block id b ih =>
   intro bi e h g ν nV nS sl lh K KA hd h1 hx h2 h3 h4
   refine ih id e h g ν nV nS sl lh _ _ hd h1 hx h2 h3 fun x e' h' g' ν' sl' lh' nV' nS' g0 g1 g2 g3 => ?_
   cases x with
   | normal => exact h4 _ _ _ _ _ _ _ _ _ g0 g1 g2 g3
   | ret => exact h4 _ _ _ _ _ _ _ _ _ g0 g1 g2 g3
   | exit i =>
     simp only [blockI]
     by_cases hi : i = id
     ·subst hi; rw [if_pos rfl]; simp only [Nat.beq_refl, cond] at g3; exact h4 _ _ _ _ _ _ _ _ _ g0 g1 g2 g3
     ·rw [if_neg hi]
      have : Nat.beq i id = false := by cases hb : Nat.beq i id with | false => rfl | true => exact (hi (Nat.eq_of_beq_eq_true hb)).elim
      simp only [this, cond] at g3; exact h4 _ _ _ _ _ _ _ _ _ g0 g1 g2 g3
 | loop b ih =>
   intro bi e h g ν nV nS sl lh K KA hd h1 hx h2 h3 h4
   simp only [evIt] at h3
   split at h3
   ·subst hYS
    exact h3 N N0 ν nV nS sl sl0 lh KA hd hp0 hp1 hp2 h1 hx h2 h4
   ·rename_i n hn
    simp only [vcIt]
    refine ⟨IUn w0 (LPof w0 S) Q nb N N0 rd.e0 sl0 (evIt cf cp un (lv, nb) rd Y bi b) K ν, IUn.sl, IUn.lh, IUn.g, IUn.n, ⟨n + 1, e, h, g, ν, nV, nS, sl, lh, h1, hx, h2, NuN.refl _ _, h3⟩, rfl, rfl, rfl, fun s => ?_⟩
    have hst := s.st
    have hsn := s.hn
    match hm : s.n, hst with
    | 0, hst => exact hst.elim
    | k + 1, hst =>
      simp only [evLI] at hst
      refine ih bi s.e s.h s.g s.ν s.nV s.nS s.sl s.lh _ _ hd s.hs s.hx s.hh hst fun x e' h' g' ν' sl' lh' nV' nS' g0 g1 g2 g3 => ?_
      cases x with
      | normal => exact ⟨⟨k, e', h', g', ν', nV', nS', sl', lh', g1, s.hx.step g0, g2, hsn.trans g0, g3⟩, rfl, rfl, rfl, Nat.lt_succ_self k⟩
      | exit i => exact h4 _ _ _ _ _ _ _ _ _ (hsn.trans g0) g1 g2 g3
      | ret => exact h4 _ _ _ _ _ _ _ _ _ (hsn.trans g0) g1 g2 g3
 | exit i => intro bi e h g ν nV nS sl lh K KA _ h1 _ h2 h3 h4; exact h4 _ _ _ _ _ _ _ _ _ (NuN.refl _ _) h1 h2 h3
 | ret => intro bi e h g ν nV nS sl lh K KA _ h1 _ h2 h3 h4; exact h4 _ _ _ _ _ _ _ _ _ (NuN.refl _ _) h1 h2 h3
 | scope b ih => intro bi e h g ν nV nS sl lh K KA hd h1 hx h2 h3 h4; exact ih bi e h g ν nV nS sl lh K KA hd h1 hx h2 h3 h4
end it
structure SUn (w0 : World) (LP : LPred) (Q : α -> Prop) (nb N : Nat) (ev : Env -> List O -> (Ex -> Env -> List O -> T α) -> T α) (K : Ex -> Env -> List O -> T α) (ν0 : Nu) where
 n : Nat
 e : Env
 h : List O
 ν : Nu
 nV : Nat
 nS : Nat
 sl : List AVal
 lh : List LObj
 hs : slR w0 ν N e sl
 hh : HR w0 ν nV nS h lh
 hn : NuN nb ν0 ν
 st : sat LP (evL ev n e h K) Q
theorem slsub_refl : ∀ l : List AVal, slsub l l
 | [] => by simp [slsub]
 | a :: l => by unfold slsub; exact ⟨.inr rfl, slsub_refl l⟩
theorem dstIts_mem : ∀ {its : List IFun} {it : IFun}, dstIts its = true -> it ∈ its -> dstI it.ntmps it.body = true
 | [], _, _, h => by cases h
 | x :: l, it, h, hm => by
   simp only [dstIts, Bool.and_eq_true] at h
   rcases List.mem_cons.1 hm with rfl | hm
   ·exact h.1
   ·exact dstIts_mem h.2 hm
theorem numE_at {lh : List LObj} {ν : Nu} : ∀ {us : List V} {az rest : List AVal} {j i : Nat}, vrs w0 lh ν us az -> (∀ a, a ∈ rest -> True) -> vr w0 lh ν (getS (numE us j) (j + i)) ((az ++ rest).getD i .any)
 | [], az, rest, j, i, h, _ => by simp only [numE, getS, vr]
 | u :: us, az, rest, j, i, h, hr => by
   simp only [vrs] at h; obtain ⟨x, xs, rfl, h1, h2⟩ := h
   simp only [numE]; rw [getS_cons]
   cases i with
   | zero => rw [if_pos (by omega)]; simpa using h1
   | succ i =>
     rw [if_neg (by omega)]
     have := numE_at (j := j + 1) (i := i) (rest := rest) h2 hr
     rw [show j + 1 + i = j + (i + 1) by omega] at this
     simpa using this
theorem evOT_ok {S1 : FuncId -> FSpec} {LP : LPred} {N : Nat} (hcf : CFok w0 S1 LP false cf) : ∀ (t : OT) (e : Env) (h : List O) (ν : Nu) (nV nS : Nat) (sl : List AVal) (lh : List LObj) (K : Env -> List O -> T α) (KA : List AVal -> List LObj -> Prop), dstOT N t = true ->
 slR w0 ν N e sl -> HR w0 ν nV nS h lh -> sat LP (evOT cf t e h K) Q -> (∀ e' h' ν' sl' lh', ν.sub ν' -> slR w0 ν' N e' sl' -> HR w0 ν' nV nS h' lh' -> sat LP (K e' h') Q -> KA sl' lh') -> vcOT w0 S1 t sl lh KA
 | .done, e, h, ν, nV, nS, sl, lh, K, KA, _, h1, h2, h3, h4 => h4 _ _ _ _ _ (Nu.sub_refl ν) h1 h2 h3
 | .op o r, e, h, ν, nV, nS, sl, lh, K, KA, hd, h1, h2, h3, h4 => by
   simp only [dstOT, Bool.and_eq_true] at hd
   simp only [evOT] at h3
   simp only [vcOT]
   exact evOps_ok hcf [o] e h ν sl lh _ _ hd.1 h1 h2 h3 fun e' h' ν' sl' lh' k0 k1 k2 k3 => evOT_ok hcf r e' h' ν' nV nS sl' lh' K KA hd.2 k1 k2 k3 fun e2 h2 ν2 sl2 lh2 q0 => h4 e2 h2 ν2 sl2 lh2 (Nu.sub_trans k0 q0)
 | .alt a b, e, h, ν, nV, nS, sl, lh, K, KA, hd, h1, h2, h3, h4 => by
   simp only [dstOT, Bool.and_eq_true] at hd
   simp only [evOT, sat] at h3
   exact ⟨evOT_ok hcf a e h ν nV nS sl lh K KA hd.1 h1 h2 h3.1 h4, evOT_ok hcf b e h ν nV nS sl lh K KA hd.2 h1 h2 h3.2 h4⟩
theorem evC_ok {lv : Nat} (hcf : CFok w0 (S lv) (LPof w0 S) false cf) (hcp : CPok w0 (S lv) (LPof w0 S) cp) {un : Unr} {N : Nat} : ∀ (c : SCode) (nb nbS bi : Nat) (e : Env) (h : List O) (ν : Nu) (nV nS : Nat) (sl : List AVal) (lh : List LObj) (K : Ex -> Env -> List O -> T α) (KA : Ex -> List AVal -> List LObj -> Prop),
 dstC N c = true -> slR w0 ν N e sl -> HR w0 ν nV nS h lh -> sat (LPof w0 S) (evC cf cp un (lv, nb) bi c e h K) Q ->
 (∀ x e' h' ν' sl' lh' nV' nS', NuN nb ν ν' -> slR w0 ν' N e' sl' -> HR w0 ν' nV' nS' h' lh' -> sat (LPof w0 S) (K x e' h') Q -> KA x sl' lh') -> vcCode w0 (S lv) nbS c sl lh KA := by
 intro c
 induction c with
 | skip => intro nb nbS bi e h ν nV nS sl lh K KA _ h1 h2 h3 h4; exact h4 .normal _ _ _ _ _ _ _ (NuN.refl _ _) h1 h2 h3
 | reg ops =>
   intro nb nbS bi e h ν nV nS sl lh K KA hd h1 h2 h3 h4
   exact evOps_ok hcf ops e h ν sl lh _ _ hd h1 h2 h3 fun e' h' ν' sl' lh' g0 g1 g2 g3 => h4 .normal _ _ _ _ _ _ _ (NuN.of g0 _) g1 g2 g3
 | allo t =>
   intro nb nbS bi e h ν nV nS sl lh K KA hd h1 h2 h3 h4
   exact evOT_ok hcf t e h ν nV nS sl lh _ _ hd h1 h2 h3 fun e' h' ν' sl' lh' g0 g1 g2 g3 => h4 .normal _ _ _ _ _ _ _ (NuN.of g0 _) g1 g2 g3
 | draw ds =>
   intro nb nbS bi e h ν nV nS sl lh K KA hd h1 h2 h3 h4
   exact evDraw_ok hcp hd h1 h2 h3 fun e' h' ν' sl' lh' _ _ g0 g1 g2 g3 => h4 .normal _ _ _ _ _ _ _ (NuN.of g0 _) g1 g2 g3
 | seq a b iha ihb =>
   intro nb nbS bi e h ν nV nS sl lh K KA hd h1 h2 h3 h4
   simp only [dstC, Bool.and_eq_true] at hd
   refine iha nb nbS bi e h ν nV nS sl lh _ _ hd.1 h1 h2 h3 fun x e' h' ν' sl' lh' nV' nS' g0 g1 g2 g3 => ?_
   cases x with
   | normal => exact ihb nb nbS bi e' h' ν' nV' nS' sl' lh' K KA hd.2 g1 g2 g3 fun x e2 h2 ν2 sl2 lh2 nV2 nS2 q0 => h4 x e2 h2 ν2 sl2 lh2 nV2 nS2 (g0.trans q0)
   | exit i => exact h4 _ _ _ _ _ _ _ _ g0 g1 g2 g3
   | ret => exact h4 _ _ _ _ _ _ _ _ g0 g1 g2 g3
 | cond c a b iha ihb =>
   intro nb nbS bi e h ν nV nS sl lh K KA hd h1 h2 h3 h4
   simp only [dstC, Bool.and_eq_true] at hd
   simp only [evC] at h3
   have ha := h1.arg c
   simp only [vcCode]
   split at h3
   ·rename_i hc
    rw [hc] at ha; simp only [vr] at ha; rw [ha]
    exact ⟨fun _ => iha nb nbS bi e h ν nV nS sl lh K KA hd.1 h1 h2 h3 h4, (fun he => by cases he)⟩
   ·rename_i hc
    rw [hc] at ha; simp only [vr] at ha; rw [ha]
    exact ⟨(fun he => by cases he), fun _ => ihb nb nbS bi e h ν nV nS sl lh K KA hd.2 h1 h2 h3 h4⟩
   ·rename_i t hc
    rw [hc] at ha; simp only [vr] at ha; rw [ha]
    split at h3
    ·rename_i s
     simp only [sat] at h3
     simp only [arg] at ha
     exact ⟨fun et => iha nb nbS bi _ h ν nV nS sl lh K KA hd.1 (h1.know (by simp only [vr]; rw [ha, et])) h2 (h3.1 et) h4, fun et => ihb nb nbS bi _ h ν nV nS sl lh K KA hd.2 (h1.know (by simp only [vr]; rw [ha, et])) h2 (h3.2 et) h4⟩
    ·simp only [sat] at h3
     exact ⟨fun et => iha nb nbS bi _ h ν nV nS sl lh K KA hd.1 h1 h2 (h3.1 et) h4, fun et => ihb nb nbS bi _ h ν nV nS sl lh K KA hd.2 h1 h2 (h3.2 et) h4⟩
   ·exact h3.elim
 | block id b ih =>
   intro nb nbS bi e h ν nV nS sl lh K KA hd h1 h2 h3 h4
   refine ih nb nbS id e h ν nV nS sl lh _ _ hd h1 h2 h3 fun x e' h' ν' sl' lh' nV' nS' g0 g1 g2 g3 => ?_
   cases x with
   | normal => exact h4 _ _ _ _ _ _ _ _ g0 g1 g2 g3
   | ret => exact h4 _ _ _ _ _ _ _ _ g0 g1 g2 g3
   | exit i =>
     simp only [blockQ]
     by_cases hi : i = id
     ·subst hi; rw [if_pos rfl]; simp only [Nat.beq_refl, cond] at g3; exact h4 _ _ _ _ _ _ _ _ g0 g1 g2 g3
     ·rw [if_neg hi]
      have : Nat.beq i id = false := by cases hb : Nat.beq i id with | false => rfl | true => exact (hi (Nat.eq_of_beq_eq_true hb)).elim
      simp only [this, cond] at g3; exact h4 _ _ _ _ _ _ _ _ g0 g1 g2 g3
 | loop b ih =>
   intro nb nbS bi e h ν nV nS sl lh K KA hd h1 h2 h3 h4
   simp only [evC] at h3
   split at h3
   ·exact h3 N nbS ν nV nS sl lh KA hd h1 h2 h4
   ·rename_i n hn
    simp only [vcCode]
    refine ⟨SUn w0 (LPof w0 S) Q nb N (evC cf cp un (lv, nb) bi b) K ν, SUn.sl, SUn.lh, SUn.n, ⟨n + 1, e, h, ν, nV, nS, sl, lh, h1, h2, NuN.refl _ _, h3⟩, .inl ⟨rfl, slsub_refl _⟩, fun s => ?_⟩
    have hst := s.st
    have hsn := s.hn
    match hm : s.n, hst with
    | 0, hst => exact hst.elim
    | k + 1, hst =>
      simp only [evL] at hst
      refine ih nb nbS bi s.e s.h s.ν s.nV s.nS s.sl s.lh _ _ hd s.hs s.hh hst fun x e' h' ν' sl' lh' nV' nS' g0 g1 g2 g3 => ?_
      cases x with
      | normal => exact ⟨⟨k, e', h', ν', nV', nS', sl', lh', g1, g2, hsn.trans g0, g3⟩, .inl ⟨rfl, slsub_refl _⟩, Nat.lt_succ_self k⟩
      | exit i => exact h4 _ _ _ _ _ _ _ _ (hsn.trans g0) g1 g2 g3
      | ret => exact h4 _ _ _ _ _ _ _ _ (hsn.trans g0) g1 g2 g3
 | exit i => intro nb nbS bi e h ν nV nS sl lh K KA _ h1 h2 h3 h4; exact h4 _ _ _ _ _ _ _ _ (NuN.refl _ _) h1 h2 h3
 | ret => intro nb nbS bi e h ν nV nS sl lh K KA _ h1 h2 h3 h4; exact h4 _ _ _ _ _ _ _ _ (NuN.refl _ _) h1 h2 h3
 | scope b ih => intro nb nbS bi e h ν nV nS sl lh K KA hd h1 h2 h3 h4; exact ih nb nbS bi e h ν nV nS sl lh K KA hd h1 h2 h3 h4
 | range gop ps asg body its iha ihb =>
   intro nb nbS bi e h ν nV nS sl lh K KA hd h1 h2 h3 h4
   simp only [dstC, Bool.and_eq_true] at hd
   simp only [evC] at h3
   have ha := h1.arg gop
   simp only [vcCode]
   split at h3
   ·rename_i f ys hg
    rw [hg] at ha
    simp only [vr, vrs] at ha
    obtain ⟨us, vs, hav, rfl, hys⟩ := ha
    rw [hav]
    dsimp only
    split at h3
    ·rename_i it hit
     rw [hit]
     dsimp only
     cases hb : Nat.ble (lenL ys + 1) it.ntmps with
     | false => rw [hb] at h3; exact h3.elim
     | true =>
       rw [hb] at h3
       simp only [cond, sat] at h3
       have hle := Nat.le_of_ble_eq_true hb
       rw [lenL_eq] at hle
       have hl := vrs_length hys
       intro l
       have hdom : ∀ k, lenL h <= k -> ν k = none := fun k hk => h2.dom k (by rw [← lenL_eq]; exact hk)
       have hctx : Ctx w0 (lenL h) N e sl ν := ⟨ν, hdom, h1, Nu.sub_refl ν⟩
       have hY : YVok w0 (LPof w0 S) Q (lenL h) N e sl (fun vs h K => cond (Nat.beq (lenL vs) (lenL ps)) (evC cf cp un (lv, lenL h) bi asg (setPsV e ps vs) h fun x e1 h1 => match x with
        | .normal => evC cf cp un (lv, lenL h) bi body e1 h1 fun x _ h2 => K x h2
        | _ => .fail 94) (.fail 95)) (YA w0 (S lv) ps asg body sl) := by
        intro vs h ν nV nS args lh K KA hx hh hv hs hK
        dsimp only at hs
        cases hb : Nat.beq (lenL vs) (lenL ps) with
        | false => rw [hb] at hs; exact hs.elim
        | true =>
          rw [hb] at hs
          simp only [cond] at hs
          have hlen := Nat.eq_of_beq_eq_true hb
          rw [lenL_eq, lenL_eq] at hlen
          have hdom : ∀ k, lenL h <= k -> ν k = none := fun k hk => hh.dom k (by rw [← lenL_eq]; exact hk)
          refine ⟨by rw [vrs_length hv]; exact hlen, ?_⟩
          refine iha (lenL h) _ bi _ h ν nV nS _ lh _ _ hd.2.1 (setPsV_ok ps e sl vs args hd.1 hx.get hv hlen) hh hs fun x e' h' ν' sl' lh' nV' nS' g0 g1 g2 g3 => ?_
          cases x with
          | normal => exact ihb (lenL h) _ bi _ h' ν' nV' nS' _ lh' _ _ hd.2.2.1 g1 g2 g3 fun x e2 h2 ν2 sl2 lh2 nV2 nS2 q0 q1 q2 q3 => hK x h2 ν2 nV2 nS2 lh2 ((g0.trans q0).sub hdom) q2 q3
          | exit i => exact g3.elim
          | ret => exact g3.elim
       refine evIt_ok (rd := ⟨ps, asg, body, e, l⟩) (Y := _) (sl0 := sl) (nb := lenL h) hcf hcp hd.1 hd.2.1 hd.2.2.1 rfl hY it.body 0 _ h none ν nV nS _ lh _ _ (dstIts_mem hd.2.2.2 (lookI_mem hit).1) ⟨by simp; omega, fun i => ?_⟩ hctx h2 (h3 l) fun x e' h' g' ν' sl' lh' nV' nS' g0 g1 g2 g3 => ?_
       ·rw [getS_cons]
        cases i with
        | zero => simp [vr]
        | succ i =>
          rw [if_neg (by omega)]
          have := numE_at (j := 1) (i := i) (rest := List.replicate (it.ntmps - (vs.length + 1)) .any) hys (fun _ _ => trivial)
          rw [show 1 + i = i + 1 by omega] at this
          simpa using this
       ·have hsub := g0.sub hdom
        cases x with
        | exit i => exact g3.elim
        | normal =>
          cases g' with
          | none => exact h4 .normal e h' ν' sl lh' nV' nS' (NuN.of hsub _) (h1.mono hsub) g2 g3
          | some x => exact h4 x e h' ν' sl lh' nV' nS' (NuN.of hsub _) (h1.mono hsub) g2 g3
        | ret =>
          cases g' with
          | none => exact h4 .normal e h' ν' sl lh' nV' nS' (NuN.of hsub _) (h1.mono hsub) g2 g3
          | some x => exact h4 x e h' ν' sl lh' nV' nS' (NuN.of hsub _) (h1.mono hsub) g2 g3
    ·exact h3.elim
   ·exact h3.elim
theorem evRes_ok {LP : LPred} {ν : Nu} {nV nS N : Nat} {e : Env} {h : List O} {sl : List AVal} {lh : List LObj} (h1 : slR w0 ν N e sl) (h2 : HR w0 ν nV nS h lh) : ∀ (rs : List RVar) (K : List V -> T α) (KA : List AVal -> Prop), sat LP (evRes e h rs K) Q ->
 (∀ us az, vrs w0 ν.z ν us az -> sat LP (K us) Q -> KA az) -> vcRes w0 sl lh rs KA
 | [], K, KA, hs, hK => hK [] [] (by simp only [vrs]) hs
 | .tmp t :: l, K, KA, hs, hK => by
   simp only [evRes] at hs
   obtain ⟨u, g1, g2⟩ := rdk_ok rfl (h1.at' t) hs
   exact evRes_ok h1 h2 l _ _ g2 fun us az g3 g4 => hK (u :: us) _ (by simp only [vrs]; exact ⟨_, _, rfl, g1, g3⟩) g4
 | .cell t n :: l, K, KA, hs, hK => by
   cases n with
   | none =>
     simp only [evRes] at hs
     obtain ⟨g0, hs⟩ := chk_ok rfl hs
     split at hs
     ·rename_i v hv
      obtain ⟨p, x, e1, e2, e3⟩ := ldV_ok h2 (h1.at' t) hv g0
      simp only [vcRes, e1]
      exact ⟨x, e2, evRes_ok h1 h2 l _ _ hs fun us az g3 g4 => hK (v :: us) _ (by simp only [vrs]; exact ⟨_, _, rfl, e3, g3⟩) g4⟩
     ·exact hs.elim
   | some n =>
     simp only [evRes] at hs
     obtain ⟨g0, hs⟩ := chk_ok rfl hs
     split at hs
     ·rename_i cs hv
      obtain ⟨p, x, e1, e2, e3⟩ := ldsV_ok h2 (h1.at' t) hv g0
      simp only [vcRes, e1]
      exact ⟨x, e2, evRes_ok h1 h2 l _ _ hs fun us az g3 g4 => hK (.agg cs :: us) _ (by simp only [vrs]; exact ⟨_, _, rfl, by simp only [vr]; exact ⟨_, rfl, e3⟩, g3⟩) g4⟩
     ·exact hs.elim
theorem oneV_ok {lh : List LObj} {ν : Nu} : ∀ {us : List V} {az : List AVal}, vrs w0 lh ν us az -> vr w0 lh ν (oneV us) (oneOr az)
 | [], az, h => by simp only [vrs] at h; subst h; simp only [oneV, oneOr, vr]; exact ⟨_, rfl, by simp only [vrs]⟩
 | [u], az, h => by simp only [vrs] at h; obtain ⟨x, xs, rfl, h1, rfl⟩ := h; exact h1
 | u :: v :: us, az, h => by
   have h' := h
   simp only [vrs] at h; obtain ⟨x, xs, rfl, h1, y, ys, rfl, h2⟩ := h
   simp only [oneV, oneOr, vr]; exact ⟨_, rfl, h'⟩
theorem HR.none (w0 : World) : HR w0 Nu.nil 0 0 [] [] := ⟨(fun k o h => by simp at h), (fun k k' x x' _ _ h => by cases h), (fun _ _ => rfl), (fun k x h => by cases h), zle_nil _, (fun k x _ h => by cases h)⟩
theorem evFun_ok {lv : Nat} (hcf : CFok w0 (S lv) (LPof w0 S) false cf) (hcp : CPok w0 (S lv) (LPof w0 S) cp) {un : Unr} {sf : SFun} {args : List V} {az : List AVal} {h : List O} {lh : List LObj} {ν : Nu} {nV nS : Nat} {K : V -> List O -> T α} {KA : AVal -> List LObj -> Prop} (hd : dstC sf.ntmps sf.body = true)
 (ha : vrs w0 ν.z ν args az) (hh : HR w0 ν nV nS h lh) (hs : sat (LPof w0 S) (evFun cf cp un lv sf args h K) Q)
 (hK : ∀ v h' ν' a lh', ν.sub ν' -> (∀ nV nS, HR w0 ν' nV nS h' lh') -> vr w0 ν'.z ν' v a -> sat (LPof w0 S) (K v h') Q -> KA a lh') : vcFun w0 (S lv) sf az lh KA := by
 unfold evFun at hs
 cases hb : Nat.ble (lenL args) sf.ntmps with
 | false => rw [hb] at hs; exact hs.elim
 | true =>
   rw [hb] at hs
   simp only [cond] at hs
   have hle := Nat.le_of_ble_eq_true hb
   rw [lenL_eq] at hle
   have hl := vrs_length ha
   have hdom : ∀ k, lenL h <= k -> ν k = none := fun k hk => hh.dom k (by rw [← lenL_eq]; exact hk)
   unfold vcFun
   refine evC_ok hcf hcp sf.body (lenL h) _ 0 _ h ν nV nS _ lh _ _ hd ⟨by simp; omega, fun i => ?_⟩ hh hs fun x e' h' ν' sl' lh' nV' nS' g0 g1 g2 g3 => ?_
   ·have := numE_at (j := 0) (i := i) (rest := List.replicate (sf.ntmps - az.length) .any) ha (fun _ _ => trivial)
    rwa [Nat.zero_add] at this
   ·cases x with
    | exit i => exact g3.elim
    | normal => exact evRes_ok g1 g2 _ _ _ g3 fun us vs k1 k2 => hK _ _ ν' _ _ (g0.sub hdom) (fun a b => g2.undead a b) (oneV_ok k1) k2
    | ret => exact evRes_ok g1 g2 _ _ _ g3 fun us vs k1 k2 => hK _ _ ν' _ _ (g0.sub hdom) (fun a b => g2.undead a b) (oneV_ok k1) k2
def SubV (w0 : World) (nb : Nat) (e : Env) (h : List O) (e1 : Env) (h1 : List O) : Prop :=
 ∀ (N : Nat) (ν : Nu) (nV nS : Nat) (sl : List AVal) (lh : List LObj), slR w0 ν N e sl -> HR w0 ν nV nS h lh -> ∃ ν1 nV1 nS1, NuN nb ν ν1 /\ slR w0 ν1 N e1 sl /\ HR w0 ν1 nV1 nS1 h1 lh
structure LSt (w0 : World) (nb N : Nat) (I : Type) (inv : I -> Env × List O) (ν0 : Nu) where
 i : I
 ν : Nu
 nV : Nat
 nS : Nat
 sl : List AVal
 lh : List LObj
 hs : slR w0 ν N (inv i).1 sl
 hh : HR w0 ν nV nS (inv i).2 lh
 hn : NuN nb ν0 ν
theorem loop_ok {fr : Nat × Nat} {cf : CF (Ex × Env × List O)} {cp : CP (Ex × Env × List O)} (hcf : CFok w0 (S fr.1) (LPof w0 S) false cf) (hcp : CPok w0 (S fr.1) (LPof w0 S) cp) {un : Unr} {bi : Nat} {body : SCode} {e : Env} {h : List O} {Post : Ex -> Env -> List O -> Option Ex -> Prop}
 (I : Type) (inv : I -> Env × List O) (μ : I -> Nat) (h0 : ∃ i, SubV w0 fr.2 e h (inv i).1 (inv i).2)
 (round : ∀ i, sat (LPof w0 S) (evC cf cp un fr bi body (inv i).1 (inv i).2 fun x e h => .ret (x, e, h)) fun r => match r.1 with
   | .normal => ∃ i', SubV w0 fr.2 r.2.1 r.2.2 (inv i').1 (inv i').2 /\ μ i' < μ i
   | x => Post x r.2.1 r.2.2 none) : LPof w0 S fr (.s body) e h none Post := by
 intro N nbS ν nV nS sl lh QA hd h1 h2 hQ
 obtain ⟨i0, hi0⟩ := h0
 obtain ⟨ν1, nV1, nS1, g0, g1, g2⟩ := hi0 N ν nV nS sl lh h1 h2
 simp only [vcCode]
 refine ⟨LSt w0 fr.2 N I inv ν, fun s => s.sl, fun s => s.lh, fun s => μ s.i, ⟨i0, ν1, nV1, nS1, sl, lh, g1, g2, g0⟩, .inl ⟨rfl, slsub_refl _⟩, fun s => ?_⟩
 refine evC_ok hcf hcp body fr.2 nbS bi _ _ s.ν s.nV s.nS s.sl s.lh _ _ hd s.hs s.hh (round s.i) fun x e' h' ν' sl' lh' nV' nS' k0 k1 k2 k3 => ?_
 simp only [sat] at k3
 cases x with
 | normal =>
   obtain ⟨i', k4, k5⟩ := k3
   obtain ⟨ν2, nV2, nS2, k8, k6, k7⟩ := k4 N ν' nV' nS' sl' lh' k1 k2
   exact ⟨⟨i', ν2, nV2, nS2, sl', lh', k6, k7, (s.hn.trans k0).trans k8⟩, .inl ⟨rfl, slsub_refl _⟩, k5⟩
 | exit i => exact hQ _ _ _ _ _ _ _ _ (s.hn.trans k0) k1 k2 k3
 | ret => exact hQ _ _ _ _ _ _ _ _ (s.hn.trans k0) k1 k2 k3
structure LStI (w0 : World) (nb N : Nat) (I : Type) (inv : I -> Env × List O × Option Ex) (ν0 : Nu) where
 i : I
 ν : Nu
 nV : Nat
 nS : Nat
 sl : List AVal
 lh : List LObj
 hs : slR w0 ν N (inv i).1 sl
 hh : HR w0 ν nV nS (inv i).2.1 lh
 hn : NuN nb ν0 ν
def rdY (cf : CF α) (cp : CP α) (un : Unr) (lv bi : Nat) (rd : RD) : YV α := fun vs h K => cond (Nat.beq (lenL vs) (lenL rd.ps)) (evC cf cp un (lv, lenL h) bi rd.asg (setPsV rd.e0 rd.ps vs) h fun x e1 h1 => match x with
 | .normal => evC cf cp un (lv, lenL h) bi rd.body e1 h1 fun x _ h2 => K x h2
 | _ => .fail 94) (.fail 95)
theorem rdY_ok {lv bi : Nat} {un : Unr} {rd : RD} {nb N : Nat} {sl : List AVal} (hcf : CFok w0 (S lv) (LPof w0 S) false cf) (hcp : CPok w0 (S lv) (LPof w0 S) cp) (h0 : allLt N rd.ps = true) (h1 : dstC N rd.asg = true) (h2 : dstC N rd.body = true) :
 YVok w0 (LPof w0 S) Q nb N rd.e0 sl (rdY cf cp un lv bi rd) (YA w0 (S lv) rd.ps rd.asg rd.body sl) := by
 intro vs h ν nV nS args lh K KA hx hh hv hs hK
 unfold rdY at hs
 cases hb : Nat.beq (lenL vs) (lenL rd.ps) with
 | false => rw [hb] at hs; exact hs.elim
 | true =>
   rw [hb] at hs
   simp only [cond] at hs
   have hlen := Nat.eq_of_beq_eq_true hb
   rw [lenL_eq, lenL_eq] at hlen
   have hdom : ∀ k, lenL h <= k -> ν k = none := fun k hk => hh.dom k (by rw [← lenL_eq]; exact hk)
   refine ⟨by rw [vrs_length hv]; exact hlen, ?_⟩
   refine evC_ok hcf hcp rd.asg (lenL h) _ bi _ h ν nV nS _ lh _ _ h1 (setPsV_ok rd.ps rd.e0 sl vs args h0 hx.get hv hlen) hh hs fun x e' h' ν' sl' lh' nV' nS' g0 g1 g2 g3 => ?_
   cases x with
   | normal => exact evC_ok hcf hcp rd.body (lenL h) _ bi _ h' ν' nV' nS' _ lh' _ _ h2 g1 g2 g3 fun x e2 h2 ν2 sl2 lh2 nV2 nS2 q0 q1 q2 q3 => hK x h2 ν2 nV2 nS2 lh2 ((g0.trans q0).sub hdom) q2 q3
   | exit i => exact g3.elim
   | ret => exact g3.elim
theorem iloop_ok {fr : Nat × Nat} {cf : CF (Ex × Env × List O × Option Ex)} {cp : CP (Ex × Env × List O × Option Ex)} (hcf : CFok w0 (S fr.1) (LPof w0 S) false cf) (hcp : CPok w0 (S fr.1) (LPof w0 S) cp) {un : Unr} {bi bi' : Nat} {body : ICode} {rd : RD} {e : Env} {h : List O} {g : Option Ex} {Post : Ex -> Env -> List O -> Option Ex -> Prop}
 (I : Type) (inv : I -> Env × List O × Option Ex) (μ : I -> Nat) (h0 : ∃ i, g = (inv i).2.2 /\ SubV w0 fr.2 e h (inv i).1 (inv i).2.1)
 (round : ∀ i, sat (LPof w0 S) (evIt cf cp un fr rd (rdY cf cp un fr.1 bi' rd) bi body (inv i).1 (inv i).2.1 (inv i).2.2 fun x e h g => .ret (x, e, h, g)) fun r => match r.1 with
   | .normal => ∃ i', r.2.2.2 = (inv i').2.2 /\ SubV w0 fr.2 r.2.1 r.2.2.1 (inv i').1 (inv i').2.1 /\ μ i' < μ i
   | x => Post x r.2.1 r.2.2.1 r.2.2.2) : LPof w0 S fr (.i body rd) e h g Post := by
 intro N N0 ν nV nS sl sl0 lh QA hd hp0 hp1 hp2 h1 hx h2 hQ
 obtain ⟨i0, rfl, hi0⟩ := h0
 obtain ⟨ν1, nV1, nS1, g0, g1, g2⟩ := hi0 N ν nV nS sl lh h1 h2
 simp only [vcIt]
 refine ⟨LStI w0 fr.2 N I inv ν, fun s => s.sl, fun s => s.lh, fun s => (inv s.i).2.2, fun s => μ s.i, ⟨i0, ν1, nV1, nS1, sl, lh, g1, g2, g0⟩, rfl, rfl, rfl, fun s => ?_⟩
 refine evIt_ok (Y := rdY cf cp un fr.1 bi' rd) (sl0 := sl0) hcf hcp hp0 hp1 hp2 rfl (rdY_ok hcf hcp hp0 hp1 hp2) body bi _ _ _ s.ν s.nV s.nS s.sl s.lh _ _ hd s.hs (hx.step s.hn) s.hh (round s.i) fun x e' h' g' ν' sl' lh' nV' nS' k0 k1 k2 k3 => ?_
 simp only [sat] at k3
 cases x with
 | normal =>
   obtain ⟨i', k9, k4, k5⟩ := k3
   obtain ⟨ν2, nV2, nS2, k8, k6, k7⟩ := k4 N ν' nV' nS' sl' lh' k1 k2
   exact ⟨⟨i', ν2, nV2, nS2, sl', lh', k6, k7, (s.hn.trans k0).trans k8⟩, rfl, rfl, k9, k5⟩
 | exit i => exact hQ _ _ _ _ _ _ _ _ _ (s.hn.trans k0) k1 k2 k3
 | ret => exact hQ _ _ _ _ _ _ _ _ _ (s.hn.trans k0) k1 k2 k3
end
section
variable {B : Base} {m : Names} {lh : List LObj} {w : World}
mutual
theorem vrc_base (h : HRel B m lh w) : ∀ (d : V) (x : AVal) (u : Value), d.fc = true -> vr B.w0 lh Nu.nil d x -> vrel m x u -> vr w [] Nu.nil d (ofVal u)
 | .int .., x, u, _, hd, hv => by simp only [vr] at hd; subst hd; simp only [vrel] at hv; subst hv; simp only [ofVal, vr]
 | .bool _, x, u, _, hd, hv => by simp only [vr] at hd; subst hd; simp only [vrel] at hv; subst hv; simp only [ofVal, vr]
 | .kb _, x, u, _, hd, hv => by simp only [vr] at hd; subst hd; simp only [vrel] at hv; subst hv; simp only [ofVal, vr]
 | .str _, x, u, _, hd, hv => by simp only [vr] at hd; subst hd; simp only [vrel] at hv; subst hv; simp only [ofVal, vr]
 | .agg _, _, _, hc, _, _ => by cases hc
 | .tup _, _, _, hc, _, _ => by cases hc
 | .fn .., _, _, hc, _, _ => by cases hc
 | .gd .., _, _, hc, _, _ => by cases hc
 | .yl _, _, _, hc, _, _ => by cases hc
 | .sl n f, x, u, _, hd, hv => by
   simp only [vr] at hd ⊢
   obtain ⟨p, c, esz, rfl, h2, h3, h4, h5⟩ := hd
   simp only [vrel] at hv
   obtain ⟨q, rfl, hq⟩ := hv
   refine ⟨q.map .g, c, esz, by cases q <;> rfl, h2, h3, by cases q <;> trivial, fun i hi => ?_⟩
   obtain ⟨p', az, rfl, g2, g3, g4⟩ := h5 i hi
   obtain ⟨a, us, hqa, k1, k2⟩ := lds_base (q := q.map fun a => a.add (i * esz)) h (by
    cases p' with
    | g a => simp only [prel] at hq; subst hq; simp [prel, Ptr.add]
    | l k off => simp only [prel] at hq; obtain ⟨b, e1, rfl⟩ := hq; simp only [prel, Ptr.add]; exact ⟨b, e1, by simp [Addr.add]⟩) g2
   cases q with
   | none => cases hqa
   | some a0 =>
     simp at hqa
     subst hqa
     exact ⟨.g a0, _, rfl, k1, vrcs_base h (f i) az us g4 g3 k2, g4⟩
 | .sq n m f, x, u, _, hd, hv => by
   simp only [vr] at hd ⊢
   obtain ⟨p, c, esz, rfl, h2, h3, h4, h5⟩ := hd
   simp only [vrel] at hv
   obtain ⟨q, rfl, hq⟩ := hv
   refine ⟨q.map .g, c, esz, by cases q <;> rfl, h2, h3, by cases q <;> trivial, fun i hi => ?_⟩
   obtain ⟨p', az, rfl, g2, g3, g4⟩ := h5 i hi
   obtain ⟨a, us, hqa, k1, k2⟩ := lds_base (q := q.map fun a => a.add (i * esz)) h (by
    cases p' with
    | g a => simp only [prel] at hq; subst hq; simp [prel, Ptr.add]
    | l k off => simp only [prel] at hq; obtain ⟨b, e1, rfl⟩ := hq; simp only [prel, Ptr.add]; exact ⟨b, e1, by simp [Addr.add]⟩) g2
   cases q with
   | none => cases hqa
   | some a0 =>
     simp at hqa
     subst hqa
     exact ⟨.g a0, _, rfl, k1, vrcs_base h (f i) az us g4 g3 k2, g4⟩
 | .pd cs, x, u, _, hd, hv => by
   simp only [vr] at hd ⊢
   obtain ⟨p, az, rfl, _, h3, h4, h5⟩ := hd
   simp only [vrel] at hv
   obtain ⟨q, rfl, hq⟩ := hv
   obtain ⟨a, us, rfl, k1, k2⟩ := lds_base h hq h3
   exact ⟨.g a, _, rfl, trivial, k1, vrcs_base h cs az us h5 h4 k2, h5⟩
 | .pl k off, x, u, _, hd, hv => by simp only [vr] at hd; obtain ⟨b, c, e, h1, h2⟩ := hd; cases h1
 | .pe k i j, x, u, _, hd, hv => by simp only [vr] at hd; obtain ⟨b, c, e, h1, h2⟩ := hd; cases h1
 | .ss k off n c, x, u, _, hd, hv => by simp only [vr] at hd; obtain ⟨b, c, e, h1, h2⟩ := hd; cases h1
 | .gs k n, x, u, _, hd, hv => by simp only [vr] at hd; rcases hd with ⟨h1, _⟩ | ⟨b, c, e, h1, _⟩ <;> cases h1
 | .go k off n, x, u, _, hd, hv => by simp only [vr] at hd; rcases hd with ⟨h1, _⟩ | ⟨b, c, e, o, h1, _⟩ <;> cases h1
 | .ns, x, u, _, hd, hv => by simp only [vr] at hd; subst hd; simp only [vrel, prel] at hv; obtain ⟨q, rfl, rfl⟩ := hv; simp only [ofVal, vr]
 | .np, x, u, _, hd, hv => by simp only [vr] at hd; subst hd; simp only [vrel, prel] at hv; obtain ⟨q, rfl, rfl⟩ := hv; simp only [ofVal, vr]
 | .any, x, u, _, hd, hv => by simp only [vr]
theorem vrcs_base (h : HRel B m lh w) : ∀ (ds : List V) (xs : List AVal) (us : List Value), ds.all V.fc = true -> vrs B.w0 lh Nu.nil ds xs -> vrels m xs us -> vrs w [] Nu.nil ds (us.map ofVal)
 | [], xs, us, _, hd, hv => by simp only [vrs] at hd; subst hd; simp only [vrels] at hv; subst hv; simp only [vrs, List.map_nil]
 | d :: ds, xs, us, hc, hd, hv => by
   simp only [List.all_cons, Bool.and_eq_true] at hc
   simp only [vrs] at hd
   obtain ⟨x, xs', rfl, h2, h3⟩ := hd
   simp only [vrels] at hv
   obtain ⟨u, us', rfl, h4, h5⟩ := hv
   simp only [List.map_cons, vrs]
   exact ⟨_, _, rfl, vrc_base h d x u hc.1 h2 h4, vrcs_base h ds xs' us' hc.2 h3 h5⟩
end
mutual
theorem vr_base (h : HRel B m lh w) : ∀ (d : V) (x : AVal) (u : Value), vr B.w0 lh Nu.nil d x -> vrel m x u -> ∃ x', vrel (fun _ => none) x' u /\ vr w [] Nu.nil d x'
 | .agg cs, x, u, hd, hv => by
   simp only [vr] at hd
   obtain ⟨az, rfl, h1⟩ := hd
   simp only [vrel] at hv
   obtain ⟨us, rfl, h2⟩ := hv
   obtain ⟨xs', g1, g2⟩ := vrs_base h cs az us.toList h1 h2
   exact ⟨.agg xs', by simp only [vrel]; exact ⟨us, rfl, g1⟩, by simp only [vr]; exact ⟨_, rfl, g2⟩⟩
 | .tup cs, x, u, hd, hv => by
   simp only [vr] at hd
   obtain ⟨az, rfl, h1⟩ := hd
   simp only [vrel] at hv
   obtain ⟨us, rfl, h2⟩ := hv
   obtain ⟨xs', g1, g2⟩ := vrs_base h cs az us.toList h1 h2
   exact ⟨.tup xs', by simp only [vrel]; exact ⟨us, rfl, g1⟩, by simp only [vr]; exact ⟨_, rfl, g2⟩⟩
 | .fn f xs ys, x, u, hd, hv => by
   simp only [vr] at hd
   obtain ⟨us, vs, rfl, h1, h2⟩ := hd
   simp only [vrel] at hv
   obtain ⟨us', vs', rfl, h3, h4⟩ := hv
   obtain ⟨az, g1, g2⟩ := vrs_base h xs us us'.toList h1 h3
   obtain ⟨bs, g3, g4⟩ := vrs_base h ys vs vs'.toList h2 h4
   exact ⟨.fn (.func f) az bs, by simp only [vrel]; exact ⟨us', vs', rfl, g1, g3⟩, by simp only [vr]; exact ⟨az, bs, rfl, g2, g4⟩⟩
 | .gd b v, x, u, hd, hv => by
   simp only [vr] at hd
   cases b with
   | true => obtain ⟨x', g1, g2⟩ := vr_base h v x u (hd.1 rfl) hv; exact ⟨x', g1, by simp only [vr]; exact ⟨fun _ => g2, fun e => by cases e⟩⟩
   | false =>
     obtain ⟨l, rfl⟩ := hd.2 rfl
     simp only [vrel] at hv
     obtain ⟨vs, rfl, _⟩ := hv
     exact ⟨.tup (vs.toList.map ofVal), by simp only [vrel]; exact ⟨vs, rfl, vrels_map_ofVal _ _⟩, by simp only [vr]; exact ⟨(fun e => by cases e), fun _ => ⟨_, rfl⟩⟩⟩
 | .int k n, x, u, hd, hv => ⟨ofVal u, vrel_ofVal _ u, vrc_base h (.int k n) x u rfl hd hv⟩
 | .bool b, x, u, hd, hv => ⟨ofVal u, vrel_ofVal _ u, vrc_base h (.bool b) x u rfl hd hv⟩
 | .kb b, x, u, hd, hv => ⟨ofVal u, vrel_ofVal _ u, vrc_base h (.kb b) x u rfl hd hv⟩
 | .str b, x, u, hd, hv => ⟨ofVal u, vrel_ofVal _ u, vrc_base h (.str b) x u rfl hd hv⟩
 | .sl n f, x, u, hd, hv => ⟨ofVal u, vrel_ofVal _ u, vrc_base h (.sl n f) x u rfl hd hv⟩
 | .sq n m f, x, u, hd, hv => ⟨ofVal u, vrel_ofVal _ u, vrc_base h (.sq n m f) x u rfl hd hv⟩
 | .pd b, x, u, hd, hv => ⟨ofVal u, vrel_ofVal _ u, vrc_base h (.pd b) x u rfl hd hv⟩
 | .pl k off, x, u, hd, hv => ⟨ofVal u, vrel_ofVal _ u, vrc_base h (.pl k off) x u rfl hd hv⟩
 | .pe k i j, x, u, hd, hv => ⟨ofVal u, vrel_ofVal _ u, vrc_base h (.pe k i j) x u rfl hd hv⟩
 | .ss k off n c, x, u, hd, hv => ⟨ofVal u, vrel_ofVal _ u, vrc_base h (.ss k off n c) x u rfl hd hv⟩
 | .gs k n, x, u, hd, hv => ⟨ofVal u, vrel_ofVal _ u, vrc_base h (.gs k n) x u rfl hd hv⟩
 | .ns, x, u, hd, hv => ⟨ofVal u, vrel_ofVal _ u, vrc_base h .ns x u rfl hd hv⟩
 | .np, x, u, hd, hv => ⟨ofVal u, vrel_ofVal _ u, vrc_base h .np x u rfl hd hv⟩
 | .any, x, u, hd, hv => ⟨ofVal u, vrel_ofVal _ u, vrc_base h .any x u rfl hd hv⟩
 | .go k off n, x, u, hd, hv => ⟨ofVal u, vrel_ofVal _ u, vrc_base h (.go k off n) x u rfl hd hv⟩
 | .yl l, x, u, hd, hv => ⟨yieldV l, by simp only [vr] at hd; subst hd; simp only [yieldV, vrel] at hv ⊢; exact hv, by simp only [vr]⟩
theorem vrs_base (h : HRel B m lh w) : ∀ (ds : List V) (xs : List AVal) (us : List Value), vrs B.w0 lh Nu.nil ds xs -> vrels m xs us -> ∃ xs', vrels (fun _ => none) xs' us /\ vrs w [] Nu.nil ds xs'
 | [], xs, us, hd, hv => by
   simp only [vrs] at hd; subst hd
   simp only [vrels] at hv; subst hv
   exact ⟨[], by simp only [vrels], by simp only [vrs]⟩
 | d :: ds, xs, us, hd, hv => by
   simp only [vrs] at hd
   obtain ⟨x, xs', rfl, h2, h3⟩ := hd
   simp only [vrels] at hv
   obtain ⟨u, us', rfl, h4, h5⟩ := hv
   obtain ⟨a, g1, g2⟩ := vr_base h d x u h2 h4
   obtain ⟨az, g3, g4⟩ := vrs_base h ds xs' us' h3 h5
   exact ⟨a :: az, by simp only [vrels]; exact ⟨_, _, rfl, g1, g3⟩, by simp only [vrs]; exact ⟨_, _, rfl, g2, g4⟩⟩
end
end
section
variable {w0 : World} {ν : Nu} {nV nS : Nat} {h : List O} {lh : List LObj}
theorem cellV_fc (v : V) : (cellV v).fc = true := by
 unfold cellV
 cases hv : v.fc with
 | true => simpa using hv
 | false => rfl
theorem cellV_ok {v : V} {a : AVal} (hv : vr w0 lh Nu.nil v a) : vr w0 lh Nu.nil (cellV v) a := by
 unfold cellV
 cases v.fc with
 | true => exact hv
 | false => simp only [cond, vr]
theorem all_cellV (g : V -> V) (l : List V) : (l.map fun v => cellV (g v)).all V.fc = true := by
 rw [List.all_eq_true]; intro x hx
 rw [List.mem_map] at hx
 obtain ⟨v, _, rfl⟩ := hx
 exact cellV_fc _
theorem vrs_map {lh' : List LObj} {ν' : Nu} {g : V -> V} (hg : ∀ v a, vr w0 lh ν v a -> vr w0 lh' ν' (g v) a) : ∀ {vs : List V} {az : List AVal}, vrs w0 lh ν vs az -> vrs w0 lh' ν' (vs.map g) az
 | [], az, hv => by simp only [vrs] at hv ⊢; subst hv; simp only [List.map_nil, vrs]
 | v :: vs, az, hv => by simp only [vrs] at hv; obtain ⟨x, xs, rfl, h1, h2⟩ := hv; simp only [List.map_cons, vrs]; exact ⟨_, _, rfl, hg v x h1, vrs_map hg h2⟩
theorem deepV_ok (hh : HR w0 ν nV nS h lh) : ∀ (fu : Nat) (v : V) (a : AVal), vr w0 ν.z ν v a -> vr w0 lh Nu.nil (deepV h fu v) a
 | 0, v, a, _ => by simp only [deepV, vr]
 | fu + 1, v, a, hv => by
   have ih : ∀ {vs : List V} {az : List AVal}, vrs w0 ν.z ν vs az -> vrs w0 lh Nu.nil (vs.map (deepV h fu)) az := fun hvs => vrs_map (fun v a => deepV_ok hh fu v a) hvs
   have ihc : ∀ {vs : List V} {az : List AVal}, vrs w0 ν.z ν vs az -> vrs w0 lh Nu.nil (vs.map fun v => cellV (deepV h fu v)) az := fun hvs => vrs_map (fun v a hv => cellV_ok (deepV_ok hh fu v a hv)) hvs
   unfold deepV
   split
   ·simp only [vr] at hv ⊢; exact hv
   ·simp only [vr] at hv ⊢; exact hv
   ·simp only [vr] at hv ⊢; exact hv
   ·simp only [vr] at hv ⊢; exact hv
   ·rename_i n f
    exact vr_le hh.zl _ _ (by simp only [vr] at hv ⊢; exact hv)
   ·rename_i n m f
    exact vr_le hh.zl _ _ (by simp only [vr] at hv ⊢; exact hv)
   ·rename_i cs
    exact vr_le hh.zl _ _ (by simp only [vr] at hv ⊢; exact hv)
   ·simp only [vr] at hv ⊢; subst hv; exact ⟨none, 0, 0, rfl, Nat.le_refl _, by omega, trivial, fun i hi => by omega⟩
   ·simp only [vr] at hv ⊢; obtain ⟨az, h1, h2⟩ := hv; exact ⟨az, h1, ih h2⟩
   ·simp only [vr] at hv ⊢; obtain ⟨us, vs, h1, h2, h3⟩ := hv; exact ⟨us, vs, h1, ih h2, ih h3⟩
   ·rename_i k off
    rw [nth_eq]
    split
    ·rename_i cs ty hk
     rw [lenL_eq]
     cases hb : Nat.ble off cs.length with
     | false => simp only [cond, vr]
     | true =>
       have hle := Nat.le_of_ble_eq_true hb
       simp only [cond]
       obtain ⟨b, c0, e0, az, h1, h2, h3⟩ := hh.blk k _ hk
       simp only [vr] at hv ⊢
       obtain ⟨b', c', e', g1, rfl⟩ := hv
       rw [h1] at g1
       obtain ⟨rfl, rfl, rfl⟩ : b = b' /\ c0 = c' /\ e0 = e' := by simpa using g1
       have hl := vrs_length h3
       refine ⟨.l b off, az.drop off, rfl, by simp [okP, h2, isCells], ?_, ihc (vrs_drop _ h3), all_cellV _ _⟩
       simp only [lds, h2, List.length_map, List.length_drop]
       rw [if_pos (by omega), List.take_of_length_le (by simp; omega)]
    ·simp only [vr]
   ·rename_i k n
    rw [nth_eq]
    split
    ·rename_i e n' f ty hk
     cases hb : Nat.ble n n' with
     | false => simp only [cond, vr]
     | true =>
       have hle := Nat.le_of_ble_eq_true hb
       simp only [cond]
       have hb := hh.blk k _ hk
       simp only [vr] at hv ⊢
       rcases hb with ⟨h1, h2⟩ | ⟨b, c, az, h1, h2, h3, h4, h5⟩
       ·rcases hv with ⟨_, g2, rfl⟩ | ⟨b, c, e, g1, _⟩
        ·subst g2; exact ⟨none, 0, 0, rfl, Nat.le_refl _, by omega, trivial, fun i hi => by omega⟩
        ·rw [h1] at g1; cases g1
       ·rcases hv with ⟨g1, _⟩ | ⟨b', c', e', g1, rfl, g3⟩
        ·rw [h1] at g1; cases g1
        ·rw [h1] at g1
         obtain ⟨rfl, rfl, rfl⟩ : b = b' /\ c = c' /\ e = e' := by simpa using g1
         refine ⟨some (.l b 0), c, e, rfl, g3, by omega, ⟨az, ty, h2, Nat.zero_le _⟩, fun i hi => ?_⟩
         have hi' : i * e + e <= az.length := by
          rw [h3, ← Nat.succ_mul]; exact Nat.mul_le_mul_right e (by omega)
         refine ⟨_, _, rfl, ?_, ihc (h5 i (by omega)).2, all_cellV _ _⟩
         simp only [Ptr.add, lds, h2, Nat.zero_add]
         rw [if_pos (by omega)]
    ·simp only [vr]
   ·rename_i k off n c
    rw [nth_eq]
    split
    ·rename_i cs ty hk
     rw [lenL_eq]
     cases hb : (Nat.ble n 9223372036854775807 && (Nat.ble n c && Nat.ble (off + n * ((cs.length - off) / c)) cs.length)) with
     | false => simp only [cond, vr]
     | true =>
       simp only [Bool.and_eq_true] at hb
       have b1 := Nat.le_of_ble_eq_true hb.1
       have b2 := Nat.le_of_ble_eq_true hb.2.1
       have b3 := Nat.le_of_ble_eq_true hb.2.2
       simp only [cond]
       obtain ⟨b, c0, e0, az, h1, h2, h3⟩ := hh.blk k _ hk
       simp only [vr] at hv ⊢
       obtain ⟨b', c', e', g1, rfl⟩ := hv
       rw [h1] at g1
       obtain ⟨rfl, rfl, rfl⟩ : b = b' /\ c0 = c' /\ e0 = e' := by simpa using g1
       have hl := vrs_length h3
       refine ⟨some (.l b off), c, (cs.length - off) / c, rfl, ⟨b2, b2⟩, b1, ⟨az, ty, h2, by omega⟩, fun i hi => ?_⟩
       have hi' : off + i * ((cs.length - off) / c) + (cs.length - off) / c <= cs.length := by
        have : (i + 1) * ((cs.length - off) / c) <= n * ((cs.length - off) / c) := Nat.mul_le_mul_right _ (by omega)
        rw [Nat.succ_mul] at this
        omega
       refine ⟨_, _, rfl, ?_, vrs_take _ (vrs_drop _ (ihc h3)), all_cut _ _ (all_cellV _ _)⟩
       simp only [Ptr.add, lds, h2]
       rw [if_pos (by omega)]
    ·simp only [vr]
   ·simp only [vr]
theorem flatV_ok (hz : zle ν.z lh) {v : V} {a : AVal} (hv : vr w0 ν.z ν v a) : vr w0 lh Nu.nil (flatV v) a := by
 unfold flatV
 split
 ·simp only [vr] at hv ⊢; exact hv
 ·simp only [vr] at hv ⊢; exact hv
 ·simp only [vr] at hv ⊢; exact hv
 ·simp only [vr] at hv ⊢; exact hv
 ·exact vr_le hz _ _ (by simp only [vr] at hv ⊢; exact hv)
 ·exact vr_le hz _ _ (by simp only [vr] at hv ⊢; exact hv)
 ·simp only [vr]
theorem flatV_fc (v : V) : (flatV v).fc = true := by cases v <;> rfl
theorem all_flatV (l : List V) : (l.map flatV).all V.fc = true := by
 rw [List.all_eq_true]; intro x hx
 rw [List.mem_map] at hx
 obtain ⟨v, _, rfl⟩ := hx
 exact flatV_fc _
def okS (l : List (Nat × Nat)) : Prop := ∀ p, p ∈ l -> p.1 <= p.2
theorem okS_app {a b : List (Nat × Nat)} (h : okS (appL a b)) : okS a /\ okS b := by
 rw [appL_eq] at h
 exact ⟨fun p hp => h p (List.mem_append_left _ hp), fun p hp => h p (List.mem_append_right _ hp)⟩
theorem obs_ok {α : Type} {LP : LPred} {Q : α -> Prop} : ∀ {l : List (Nat × Nat)} {x : T α}, sat LP (obs l x) Q -> okS l /\ sat LP x Q
 | [], x, h => ⟨(fun p hp => by cases hp), h⟩
 | p :: l, x, h => by
   simp only [obs, sat] at h
   obtain ⟨h1, h2⟩ := obs_ok h.2
   refine ⟨fun q hq => ?_, h2⟩
   rcases List.mem_cons.1 hq with rfl | hq
   ·exact Nat.le_of_ble_eq_true h.1
   ·exact h1 q hq
theorem deepL_ok (hh : HR w0 ν nV nS h lh) {k n : Nat} {a : AVal} (hm : okS (deepM h k n)) (hv : vr w0 ν.z ν (.gs k n) a) : vr w0 lh Nu.nil (deepL h k n) a := by
 unfold deepM at hm
 unfold deepL
 rw [nth_eq] at hm ⊢
 split
 ·rename_i e n' f ty hk
  rw [hk] at hm
  have hle : n <= n' := hm (n, n') List.mem_cons_self
  have hb := hh.blk k _ hk
  simp only [vr] at hv ⊢
  rcases hb with ⟨h1, h2⟩ | ⟨b, c, az, h1, h2, h3, h4, h5⟩
  ·rcases hv with ⟨_, g2, rfl⟩ | ⟨b, c, e, g1, _⟩
   ·subst g2; exact ⟨none, 0, 0, rfl, Nat.le_refl _, by omega, trivial, fun i hi => by omega⟩
   ·rw [h1] at g1; cases g1
  ·rcases hv with ⟨g1, _⟩ | ⟨b', c', e', g1, rfl, g3⟩
   ·rw [h1] at g1; cases g1
   ·rw [h1] at g1
    obtain ⟨rfl, rfl, rfl⟩ : b = b' /\ c = c' /\ e = e' := by simpa using g1
    refine ⟨some (.l b 0), c, e, rfl, g3, by omega, ⟨az, ty, h2, Nat.zero_le _⟩, fun i hi => ?_⟩
    have hi' : i * e + e <= az.length := by
     rw [h3, ← Nat.succ_mul]; exact Nat.mul_le_mul_right e (by omega)
    refine ⟨_, _, rfl, ?_, vrs_map (fun v a hv => flatV_ok hh.zl hv) (h5 i (by omega)).2, all_flatV _⟩
    simp only [Ptr.add, lds, h2, Nat.zero_add]
    rw [if_pos (by omega)]
 ·simp only [vr]
theorem deepG_ok (hh : HR w0 ν nV nS h lh) {v : V} {a : AVal} (hb : okS (deepN h v)) (hv : vr w0 ν.z ν v a) : vr w0 lh Nu.nil (deepG h v) a := by
 unfold deepG
 split
 ·exact deepL_ok hh hb hv
 ·exact deepV_ok hh 11 _ a hv
theorem deepGs_ok (hh : HR w0 ν nV nS h lh) : ∀ {vs : List V} {az : List AVal}, okS (deepNs h vs) -> vrs w0 ν.z ν vs az -> vrs w0 lh Nu.nil (vs.map (deepG h)) az
 | [], az, _, hv => by simp only [vrs, List.map_nil] at hv ⊢; exact hv
 | v :: vs, az, hb, hv => by
   have hb := okS_app hb
   simp only [vrs] at hv
   obtain ⟨x, xs, rfl, h1, h2⟩ := hv
   simp only [List.map_cons, vrs]; exact ⟨_, _, rfl, deepG_ok hh hb.1 h1, deepGs_ok hh hb.2 h2⟩
theorem deepT_ok (hh : HR w0 ν nV nS h lh) {v : V} {a : AVal} (hb : okS (deepB h v)) (hv : vr w0 ν.z ν v a) : vr w0 lh Nu.nil (deepT h v) a := by
 unfold deepT
 split
 ·exact deepL_ok hh hb hv
 ·simp only [vr] at hv ⊢
  obtain ⟨az, h1, h2⟩ := hv
  exact ⟨az, h1, deepGs_ok hh hb h2⟩
 ·exact deepV_ok hh 12 _ a hv
theorem deeps_ok (hh : HR w0 ν nV nS h lh) : ∀ {vs : List V} {az : List AVal}, okS (deepBs h vs) -> vrs w0 ν.z ν vs az -> vrs w0 lh Nu.nil (vs.map (deepT h)) az
 | [], az, _, hv => by simp only [vrs, List.map_nil] at hv ⊢; exact hv
 | v :: vs, az, hb, hv => by
   have hb := okS_app hb
   simp only [vrs] at hv
   obtain ⟨x, xs, rfl, h1, h2⟩ := hv
   simp only [List.map_cons, vrs]; exact ⟨_, _, rfl, deepT_ok hh hb.1 h1, deeps_ok hh hb.2 h2⟩
end
end Go.Dx
namespace Go.Sx
section
variable {P : Program} {S : FuncId -> FSpec} {w0 : World}
theorem vcOps_mono (hS : ∀ f, (S f).Ok P f) : ∀ (ops : List SOp) (sl : List AVal) (lh : List LObj) {K K' : List AVal -> List LObj -> Prop}, (∀ s l, K s l -> K' s l) -> vcOps w0 S ops sl lh K -> vcOps w0 S ops sl lh K'
 | [], _, _, _, _, hk, h => hk _ _ h
 | o :: rest, sl, lh, K, K', hk, h => by
   have ih := fun sl lh => vcOps_mono hS rest sl lh hk
   simp only [vcOps] at h ⊢
   split at h
   ·exact vcI_mono hS (fun _ _ => ih _ _) h
   ·split at h
    ·exact ⟨fun e => vcI_mono hS (fun _ _ => ih _ _) (h.1 e), fun e => ih _ _ (h.2 e)⟩
    ·exact ih _ _ h
    ·exact ih _ _ h
    ·exact h.elim
theorem vcOps_strict (hS : ∀ f, (S f).Ok P f) {Q : Prop} : ∀ (ops : List SOp) (sl : List AVal) (lh : List LObj), vcOps w0 S ops sl lh (fun _ _ => Q) -> Q
 | [], _, _, h => h
 | o :: rest, sl, lh, h => by
   have ih := fun sl lh => vcOps_strict hS (Q := Q) rest sl lh
   simp only [vcOps] at h
   split at h
   ·exact vcI_strict hS (vcI_mono hS (fun _ _ => ih _ _) h)
   ·rename_i d want _
    split at h
    ·rename_i b _
     by_cases e : b = want
     ·exact vcI_strict hS (vcI_mono hS (fun _ _ => ih _ _) (h.1 e))
     ·exact ih _ _ (h.2 (by cases b <;> cases want <;> simp_all))
    ·exact ih _ _ h
    ·exact ih _ _ h
    ·exact h.elim
theorem vcText_mono (hS : ∀ f, (S f).Ok P f) {Ws : List (List Nat)} {n0 : Nat} {K K' : List AVal -> List LObj -> Prop} (hk : ∀ s l, K s l -> K' s l) : ∀ (ds : List DOp) (i : Nat) (sl : List AVal) (lh : List LObj), vcText w0 S Ws n0 K ds i sl lh -> vcText w0 S Ws n0 K' ds i sl lh
 | [], _, _, _, h => hk _ _ h
 | d :: rest, i, sl, lh, h => vcM_mono hS (fun s l => vcText_mono hS hk rest (i + 1) s l) h
theorem vcText_strict (hS : ∀ f, (S f).Ok P f) {Ws : List (List Nat)} {n0 : Nat} {Q : Prop} : ∀ (ds : List DOp) (i : Nat) (sl : List AVal) (lh : List LObj), vcText w0 S Ws n0 (fun _ _ => Q) ds i sl lh -> Q
 | [], _, _, _, h => h
 | d :: rest, i, sl, lh, h => core_strict hS (core_mono hS (fun _ => vcText_strict hS rest (i + 1) _ _) h)
theorem vcDraw_mono (hS : ∀ f, (S f).Ok P f) {ds : List DOp} {sl : List AVal} {lh : List LObj} {K K' : List AVal -> List LObj -> Prop} (hk : ∀ s l, K s l -> K' s l) (h : vcDraw w0 S ds sl lh K) : vcDraw w0 S ds sl lh K' := ⟨h.1, vcText_mono hS hk ds 0 _ _ h.2⟩
theorem vcDraw_strict (hS : ∀ f, (S f).Ok P f) {ds : List DOp} {sl : List AVal} {lh : List LObj} {Q : Prop} (h : vcDraw w0 S ds sl lh (fun _ _ => Q)) : Q := vcText_strict hS ds 0 _ _ h.2
section it
variable {l : Nat} {Y : YH}
theorem vcItems_mono (hS : ∀ f, (S f).Ok P f) (hY : ∀ xs lh K K', (∀ x l, K x l -> K' x l) -> Y xs lh K -> Y xs lh K') : ∀ (ops : List IItem) (sl : List AVal) (lh : List LObj) (g : Option Ex) {K K' : List AVal -> List LObj -> Option Ex -> Prop}, (∀ s l g, K s l g -> K' s l g) -> vcItems w0 S l Y ops sl lh g K -> vcItems w0 S l Y ops sl lh g K'
 | [], _, _, _, _, _, hk, h => hk _ _ _ h
 | .op o :: rest, sl, lh, g, _, _, hk, h => by
   simp only [vcItems] at h ⊢
   exact vcOps_mono hS _ _ _ (fun _ _ => vcItems_mono hS hY rest _ _ g hk) h
 | .yld t d xs :: rest, sl, lh, g, _, _, hk, h => by
   simp only [vcItems] at h ⊢
   refine ⟨h.1, h.2.1, hY _ _ _ _ (fun x l hx => ?_) h.2.2⟩
   cases x <;> exact vcItems_mono hS hY rest _ _ _ hk hx
theorem vcItems_strict (hS : ∀ f, (S f).Ok P f) (hY : ∀ xs lh K K', (∀ x l, K x l -> K' x l) -> Y xs lh K -> Y xs lh K') (hY' : ∀ xs lh (Q : Prop), Y xs lh (fun _ _ => Q) -> Q) {Q : Prop} : ∀ (ops : List IItem) (sl : List AVal) (lh : List LObj) (g : Option Ex), vcItems w0 S l Y ops sl lh g (fun _ _ _ => Q) -> Q
 | [], _, _, _, h => h
 | .op o :: rest, sl, lh, g, h => by
   simp only [vcItems] at h
   exact vcOps_strict hS _ _ _ (vcOps_mono hS _ _ _ (fun _ _ => vcItems_strict hS hY hY' rest _ _ g) h)
 | .yld t d xs :: rest, sl, lh, g, h => by
   simp only [vcItems] at h
   refine hY' _ _ _ (hY _ _ _ _ (fun x l hx => ?_) h.2.2)
   cases x <;> exact vcItems_strict hS hY hY' rest _ _ _ hx
theorem vcIt_mono (hS : ∀ f, (S f).Ok P f) (hY : ∀ xs lh K K', (∀ x l, K x l -> K' x l) -> Y xs lh K -> Y xs lh K') : ∀ (c : ICode) (sl : List AVal) (lh : List LObj) (g : Option Ex) {Q Q' : IQ}, (∀ x s l g, Q x s l g -> Q' x s l g) -> vcIt w0 S l Y c sl lh g Q -> vcIt w0 S l Y c sl lh g Q' := by
 intro c
 induction c with
 | reg ops => intro sl lh g Q Q' hq h; exact vcItems_mono hS hY ops sl lh g (fun _ _ _ => hq _ _ _ _) h
 | draw ds => intro sl lh g Q Q' hq h; exact vcDraw_mono hS (fun _ _ => hq _ _ _ _) h
 | seq a b iha ihb =>
   intro sl lh g Q Q' hq h
   refine iha sl lh g (fun x s l g hx => ?_) h
   cases x with
   | normal => exact ihb _ _ _ hq hx
   | exit i => exact hq _ _ _ _ hx
   | ret => exact hq _ _ _ _ hx
 | cond c a b iha ihb =>
   intro sl lh g Q Q' hq h
   simp only [vcIt] at h ⊢
   split at h
   ·exact ⟨fun e => iha _ _ _ hq (h.1 e), fun e => ihb _ _ _ hq (h.2 e)⟩
   ·exact h.elim
 | block id b ih =>
   intro sl lh g Q Q' hq h
   refine ih sl lh g (fun x s l g hx => ?_) h
   cases x with
   | normal => exact hq _ _ _ _ hx
   | ret => exact hq _ _ _ _ hx
   | exit i => simp only [blockI] at hx ⊢; split at hx <;> rename_i e <;> simp only [e, if_true, if_false] <;> exact hq _ _ _ _ hx
 | loop b ih =>
   intro sl lh g Q Q' hq h
   simp only [vcIt] at h ⊢
   obtain ⟨ι, shs, shl, shg, μ, i0, h1, h2, h3, hr⟩ := h
   refine ⟨ι, shs, shl, shg, μ, i0, h1, h2, h3, fun i => ih _ _ _ (fun x s l g hx => ?_) (hr i)⟩
   cases x with
   | normal => exact hx
   | exit i => exact hq _ _ _ _ hx
   | ret => exact hq _ _ _ _ hx
 | scope b ih => intro sl lh g Q Q' hq h; exact ih sl lh g hq h
 | skip => intro sl lh g Q Q' hq h; exact hq _ _ _ _ h
 | exit i => intro sl lh g Q Q' hq h; exact hq _ _ _ _ h
 | ret => intro sl lh g Q Q' hq h; exact hq _ _ _ _ h
theorem vcIt_strict (hS : ∀ f, (S f).Ok P f) (hY : ∀ xs lh K K', (∀ x l, K x l -> K' x l) -> Y xs lh K -> Y xs lh K') (hY' : ∀ xs lh (Q : Prop), Y xs lh (fun _ _ => Q) -> Q) {R : Prop} : ∀ (c : ICode) (sl : List AVal) (lh : List LObj) (g : Option Ex) {Q : IQ}, (∀ x s l g, Q x s l g -> R) -> vcIt w0 S l Y c sl lh g Q -> R := by
 intro c
 induction c with
 | reg ops => intro sl lh g Q hq h; exact vcItems_strict hS hY hY' ops sl lh g (vcItems_mono hS hY ops sl lh g (fun _ _ _ => hq _ _ _ _) h)
 | draw ds => intro sl lh g Q hq h; exact vcDraw_strict hS (vcDraw_mono hS (K' := fun _ _ => R) (fun _ _ => hq _ _ _ _) h)
 | seq a b iha ihb =>
   intro sl lh g Q hq h
   refine iha sl lh g (fun x s l g hx => ?_) h
   cases x with
   | normal => exact ihb _ _ _ hq hx
   | exit i => exact hq _ _ _ _ hx
   | ret => exact hq _ _ _ _ hx
 | cond c a b iha ihb =>
   intro sl lh g Q hq h
   simp only [vcIt] at h
   split at h
   ·rename_i t _
    cases t with
    | true => exact iha _ _ _ hq (h.1 rfl)
    | false => exact ihb _ _ _ hq (h.2 rfl)
   ·exact h.elim
 | block id b ih =>
   intro sl lh g Q hq h
   refine ih sl lh g (fun x s l g hx => ?_) h
   cases x with
   | normal => exact hq _ _ _ _ hx
   | ret => exact hq _ _ _ _ hx
   | exit i => simp only [blockI] at hx; split at hx <;> exact hq _ _ _ _ hx
 | loop b ih =>
   intro sl lh g Q hq h
   simp only [vcIt] at h
   obtain ⟨ι, shs, shl, shg, μ, i0, h1, h2, h3, hr⟩ := h
   have key : ∀ k i, μ i = k -> R := fun k => by
    induction k using Nat.strongRecOn with
    | _ k ihk =>
      intro i hi
      refine ih _ _ _ (fun x s l g hx => ?_) (hr i)
      cases x with
      | normal => obtain ⟨i', _, _, _, hlt⟩ := hx; exact ihk _ (by rw [← hi]; exact hlt) i' rfl
      | exit i => exact hq _ _ _ _ hx
      | ret => exact hq _ _ _ _ hx
   exact key _ i0 rfl
 | scope b ih => intro sl lh g Q hq h; exact ih sl lh g hq h
 | skip => intro sl lh g Q hq h; exact hq _ _ _ _ h
 | exit i => intro sl lh g Q hq h; exact hq _ _ _ _ h
 | ret => intro sl lh g Q hq h; exact hq _ _ _ _ h
end it
theorem vcOT_mono (hS : ∀ f, (S f).Ok P f) : ∀ (t : OT) (sl : List AVal) (lh : List LObj) {K K' : List AVal -> List LObj -> Prop}, (∀ s l, K s l -> K' s l) -> vcOT w0 S t sl lh K -> vcOT w0 S t sl lh K'
 | .done, sl, lh, K, K', hk, h => hk _ _ h
 | .op o r, sl, lh, K, K', hk, h => vcOps_mono hS [o] sl lh (fun s l h => vcOT_mono hS r s l hk h) h
 | .alt a b, sl, lh, K, K', hk, h => ⟨vcOT_mono hS a sl lh hk h.1, vcOT_mono hS b sl lh hk h.2⟩
theorem vcOT_strict (hS : ∀ f, (S f).Ok P f) : ∀ (t : OT) (sl : List AVal) (lh : List LObj) {R : Prop}, vcOT w0 S t sl lh (fun _ _ => R) -> R
 | .done, sl, lh, R, h => h
 | .op o r, sl, lh, R, h => vcOps_strict hS [o] sl lh (vcOps_mono hS [o] sl lh (K' := fun _ _ => R) (fun s l h => vcOT_strict hS r s l h) h)
 | .alt a b, sl, lh, R, h => vcOT_strict hS a sl lh h.1
theorem vcCode_ms (hS : ∀ f, (S f).Ok P f) : ∀ (c : SCode), (∀ (nb : Nat) (sl : List AVal) (lh : List LObj) {Q Q' : Ex -> List AVal -> List LObj -> Prop}, (∀ x s l, Q x s l -> Q' x s l) -> vcCode w0 S nb c sl lh Q -> vcCode w0 S nb c sl lh Q') /\
 ∀ (nb : Nat) (sl : List AVal) (lh : List LObj) {Q : Ex -> List AVal -> List LObj -> Prop} {R : Prop}, (∀ x s l, Q x s l -> R) -> vcCode w0 S nb c sl lh Q -> R := by
 intro c
 induction c with
 | reg ops => exact ⟨fun nb sl lh Q Q' hq h => vcOps_mono hS ops sl lh (fun _ _ => hq _ _ _) h, fun nb sl lh Q R hq h => vcOps_strict hS ops sl lh (vcOps_mono hS ops sl lh (fun _ _ => hq _ _ _) h)⟩
 | allo t => exact ⟨fun nb sl lh Q Q' hq h => vcOT_mono hS t sl lh (fun _ _ => hq _ _ _) h, fun nb sl lh Q R hq h => vcOT_strict hS t sl lh (vcOT_mono hS t sl lh (K' := fun _ _ => R) (fun _ _ => hq _ _ _) h)⟩
 | draw ds => exact ⟨fun nb sl lh Q Q' hq h => vcDraw_mono hS (fun _ _ => hq _ _ _) h, fun nb sl lh Q R hq h => vcDraw_strict hS (vcDraw_mono hS (K' := fun _ _ => R) (fun _ _ => hq _ _ _) h)⟩
 | seq a b iha ihb =>
   refine ⟨fun nb sl lh Q Q' hq h => iha.1 nb sl lh (fun x s l hx => ?_) h, fun nb sl lh Q R hq h => iha.2 nb sl lh (fun x s l hx => ?_) h⟩
   ·cases x with
    | normal => exact ihb.1 nb _ _ hq hx
    | exit i => exact hq _ _ _ hx
    | ret => exact hq _ _ _ hx
   ·cases x with
    | normal => exact ihb.2 nb _ _ hq hx
    | exit i => exact hq _ _ _ hx
    | ret => exact hq _ _ _ hx
 | cond c a b iha ihb =>
   refine ⟨fun nb sl lh Q Q' hq h => ?_, fun nb sl lh Q R hq h => ?_⟩
   ·simp only [vcCode] at h ⊢
    split at h
    ·exact ⟨fun e => iha.1 nb _ _ hq (h.1 e), fun e => ihb.1 nb _ _ hq (h.2 e)⟩
    ·exact h.elim
   ·simp only [vcCode] at h
    split at h
    ·rename_i t _
     cases t with
     | true => exact iha.2 nb _ _ hq (h.1 rfl)
     | false => exact ihb.2 nb _ _ hq (h.2 rfl)
    ·exact h.elim
 | block id b ih =>
   refine ⟨fun nb sl lh Q Q' hq h => ih.1 nb sl lh (fun x s l hx => ?_) h, fun nb sl lh Q R hq h => ih.2 nb sl lh (fun x s l hx => ?_) h⟩
   ·cases x with
    | normal => exact hq _ _ _ hx
    | ret => exact hq _ _ _ hx
    | exit i => simp only [blockQ] at hx ⊢; split at hx <;> rename_i e <;> simp only [e, if_true, if_false] <;> exact hq _ _ _ hx
   ·cases x with
    | normal => exact hq _ _ _ hx
    | ret => exact hq _ _ _ hx
    | exit i => simp only [blockQ] at hx; split at hx <;> exact hq _ _ _ hx
 | loop b ih =>
   refine ⟨fun nb sl lh Q Q' hq h => ?_, fun nb sl lh Q R hq h => ?_⟩
   ·simp only [vcCode] at h ⊢
    obtain ⟨ι, shs, shl, μ, i0, h1, hr⟩ := h
    refine ⟨ι, shs, shl, μ, i0, h1, fun i => ih.1 nb _ _ (fun x s l hx => ?_) (hr i)⟩
    cases x with
    | normal => exact hx
    | exit i => exact hq _ _ _ hx
    | ret => exact hq _ _ _ hx
   ·simp only [vcCode] at h
    obtain ⟨ι, shs, shl, μ, i0, h1, hr⟩ := h
    have key : ∀ k i, μ i = k -> R := fun k => by
     induction k using Nat.strongRecOn with
     | _ k ihk =>
       intro i hi
       refine ih.2 nb _ _ (fun x s l hx => ?_) (hr i)
       cases x with
       | normal => obtain ⟨i', _, hlt⟩ := hx; exact ihk _ (by rw [← hi]; exact hlt) i' rfl
       | exit i => exact hq _ _ _ hx
       | ret => exact hq _ _ _ hx
    exact key _ i0 rfl
 | scope b ih => exact ⟨fun nb sl lh Q Q' hq h => ih.1 nb sl lh hq h, fun nb sl lh Q R hq h => ih.2 nb sl lh hq h⟩
 | skip => exact ⟨fun nb sl lh Q Q' hq h => hq _ _ _ h, fun nb sl lh Q R hq h => hq _ _ _ h⟩
 | exit i => exact ⟨fun nb sl lh Q Q' hq h => hq _ _ _ h, fun nb sl lh Q R hq h => hq _ _ _ h⟩
 | ret => exact ⟨fun nb sl lh Q Q' hq h => hq _ _ _ h, fun nb sl lh Q R hq h => hq _ _ _ h⟩
 | range g ps asg body its iha ihb =>
   have hY : ∀ (sl xs : List AVal) (lh : List LObj) (K K' : Ex -> List LObj -> Prop), (∀ x l, K x l -> K' x l) -> (xs.length = ps.length /\ vcCode w0 S lh.length asg (setPs sl ps xs) lh (thenQ (fun sl lh' => vcCode w0 S lh.length body sl lh' fun x _ lh => K x lh) fun _ _ _ => False)) -> (xs.length = ps.length /\ vcCode w0 S lh.length asg (setPs sl ps xs) lh (thenQ (fun sl lh' => vcCode w0 S lh.length body sl lh' fun x _ lh => K' x lh) fun _ _ _ => False)) := fun sl xs lh K K' hk h => by
    refine ⟨h.1, iha.1 _ _ _ (fun x s l hx => ?_) h.2⟩
    cases x with
    | normal => exact ihb.1 _ _ _ (fun _ _ _ => hk _ _) hx
    | exit i => exact hx
    | ret => exact hx
   have hY' : ∀ (sl xs : List AVal) (lh : List LObj) (Q : Prop), (xs.length = ps.length /\ vcCode w0 S lh.length asg (setPs sl ps xs) lh (thenQ (fun sl lh' => vcCode w0 S lh.length body sl lh' fun _ _ _ => Q) fun _ _ _ => False)) -> Q := fun sl xs lh Q h => by
    refine iha.2 _ _ _ (fun x s l hx => ?_) h.2
    cases x with
    | normal => exact ihb.2 _ _ _ (fun _ _ _ h => h) hx
    | exit i => exact hx.elim
    | ret => exact hx.elim
   refine ⟨fun nb sl lh Q Q' hq h => ?_, fun nb sl lh Q R hq h => ?_⟩
   ·simp only [vcCode] at h ⊢
    split at h
    ·split at h
     ·exact fun l => vcIt_mono hS (fun xs lh K K' => hY sl xs lh K K') _ _ _ _ (fun x s l g hx => by cases x <;> cases g <;> first | exact hx | exact hq _ _ _ hx) (h l)
     ·exact h.elim
    ·exact h.elim
   ·simp only [vcCode] at h
    split at h
    ·split at h
     ·exact vcIt_strict hS (fun xs lh K K' => hY sl xs lh K K') (fun xs lh Q => hY' sl xs lh Q) _ _ _ _ (fun x s l g hx => by cases x <;> cases g <;> first | exact hx.elim | exact hq _ _ _ hx) (h 0)
     ·exact h.elim
    ·exact h.elim
theorem vcRes_mono : ∀ (rs : List RVar) (sl : List AVal) (lh : List LObj) {K K' : List AVal -> Prop}, (∀ vs, K vs -> K' vs) -> vcRes w0 sl lh rs K -> vcRes w0 sl lh rs K'
 | [], _, _, _, _, hk, h => hk _ h
 | .tmp t :: l, sl, lh, _, _, hk, h => vcRes_mono l sl lh (fun _ => hk _) h
 | .cell t n :: l, sl, lh, _, _, hk, h => by
   simp only [vcRes] at h ⊢
   split at h
   ·split at h
    ·obtain ⟨v, h1, h2⟩ := h; exact ⟨v, h1, vcRes_mono l sl lh (fun _ => hk _) h2⟩
    ·obtain ⟨v, h1, h2⟩ := h; exact ⟨v, h1, vcRes_mono l sl lh (fun _ => hk _) h2⟩
   ·exact h.elim
theorem vcRes_strict {R : Prop} : ∀ (rs : List RVar) (sl : List AVal) (lh : List LObj), vcRes w0 sl lh rs (fun _ => R) -> R
 | [], _, _, h => h
 | .tmp t :: l, sl, lh, h => vcRes_strict l sl lh h
 | .cell t n :: l, sl, lh, h => by
   simp only [vcRes] at h
   split at h
   ·split at h
    ·obtain ⟨v, h1, h2⟩ := h; exact vcRes_strict l sl lh h2
    ·obtain ⟨v, h1, h2⟩ := h; exact vcRes_strict l sl lh h2
   ·exact h.elim
def vInl (S : FuncId -> FSpec) (sf : SFun) : FSpec := fun w0 args lh K => vcFun w0 S sf args lh K
theorem vInl_ok {eqs : List TypeId} {its : List IFun} {f : FuncId} {fn : Func} {sf : SFun} (hS : ∀ g, (S g).Ok P g) (hE : ∀ t ∈ eqs, EqInts P t) (hI : itsOk P eqs its) (hf : P.funcs[f]? = some fn) (hn : (fn.name == "runtime.NumGoroutine") = false) (hc : compFun P eqs its fn = some sf) : (vInl S sf).Ok P f := by
 have mono : ∀ w0 args lh K K', (∀ r l, K r l -> K' r l) -> vInl S sf w0 args lh K -> vInl S sf w0 args lh K' := fun w0 args lh K K' hk h =>
  (vcCode_ms hS sf.body).1 _ _ _ (fun x s l hx => by cases x <;> first | exact hx | exact vcRes_mono _ _ _ (fun _ => hk _ _) hx) h
 refine ⟨fun_sound hS hE hI hf hn hc fun w0 args lh K _ _ h => ?_, mono, fun w0 args lh Q h => (vcCode_ms hS sf.body).2 _ _ _ (fun x s l hx => by cases x <;> first | exact hx.elim | exact vcRes_strict _ _ _ hx) h⟩
 exact mono w0 args lh K _ (fun r l hk => ⟨r, l, .inl ⟨rfl, by unfold slsub; exact ⟨.inr rfl, by simp [slsub]⟩⟩, hk⟩) h
end
end Go.Sx
namespace Go.Dx
open Go.Sx
mutual
def toA : V -> AVal
 | .int k n => .int k n
 | .bool b => .bool b
 | .kb b => .bool b
 | .str s => .str s
 | .agg cs => .agg (toAs cs)
 | .tup cs => .tup (toAs cs)
 | .sl n f => .fn (.func 0) [] ((List.range n).map fun i => .agg (toAs (f i)))
 | _ => .any
def toAs : List V -> List AVal
 | [] => []
 | v :: vs => toA v :: toAs vs
end
section
variable {w0 : World} {lh : List LObj} {ν : Nu}
theorem toA_scalar : ∀ {v : V}, scalar (toA v) = true -> ∀ a, vr w0 lh ν v a ↔ a = toA v
 | .int .., _, a => by simp only [vr, toA]
 | .bool _, _, a => by simp only [vr, toA]
 | .kb _, _, a => by simp only [vr, toA]
 | .str _, _, a => by simp only [vr, toA]
 | .agg _, h, _ => by simp [toA, scalar] at h
 | .tup _, h, _ => by simp [toA, scalar] at h
 | .fn .., h, _ => by simp [toA, scalar] at h
 | .sl .., h, _ => by simp [toA, scalar] at h
 | .pd .., h, _ => by simp [toA, scalar] at h
 | .pl .., h, _ => by simp [toA, scalar] at h
 | .pe .., h, _ => by simp [toA, scalar] at h
 | .ss .., h, _ => by simp [toA, scalar] at h
 | .gs .., h, _ => by simp [toA, scalar] at h
 | .ns, h, _ => by simp [toA, scalar] at h
 | .np, h, _ => by simp [toA, scalar] at h
 | .any, h, _ => by simp [toA, scalar] at h
 | .gd .., h, _ => by simp [toA, scalar] at h
 | .yl _, h, _ => by simp [toA, scalar] at h
 | .go .., h, _ => by simp [toA, scalar] at h
 | .sq .., h, _ => by simp [toA, scalar] at h
theorem toAs_scalar : ∀ {vs : List V}, (toAs vs).all scalar = true -> ∀ az, vrs w0 lh ν vs az ↔ az = toAs vs
 | [], _, az => by simp only [vrs, toAs]
 | v :: vs, h, az => by
   simp only [toAs, List.all_cons, Bool.and_eq_true] at h
   simp only [vrs, toAs]
   constructor
   ·rintro ⟨x, xs, rfl, h1, h2⟩; rw [(toA_scalar h.1 x).1 h1, (toAs_scalar h.2 xs).1 h2]
   ·rintro rfl; exact ⟨_, _, rfl, (toA_scalar h.1 _).2 rfl, (toAs_scalar h.2 _).2 rfl⟩
theorem toA_plain1 {v : V} (h : (match toA v with | .agg ds => ds.all scalar | a => scalar a) = true) (a : AVal) : vr w0 lh ν v a ↔ a = toA v := by
 cases v with
 | agg cs =>
   simp only [toA] at h
   simp only [vr, toA]
   constructor
   ·rintro ⟨az, rfl, h1⟩; rw [(toAs_scalar h az).1 h1]
   ·rintro rfl; exact ⟨_, rfl, (toAs_scalar h _).2 rfl⟩
 | _ => first | exact toA_scalar (by simpa [toA] using h) a | (simp [toA, scalar] at h)
theorem toAs_plain : ∀ {vs : List V}, ((toAs vs).all fun | .agg ds => ds.all scalar | a => scalar a) = true -> ∀ az, vrs w0 lh ν vs az ↔ az = toAs vs
 | [], _, az => by simp only [vrs, toAs]
 | v :: vs, h, az => by
   simp only [toAs, List.all_cons, Bool.and_eq_true] at h
   simp only [vrs, toAs]
   constructor
   ·rintro ⟨x, xs, rfl, h1, h2⟩; rw [(toA_plain1 h.1 x).1 h1, (toAs_plain h.2 xs).1 h2]
   ·rintro rfl; exact ⟨_, _, rfl, (toA_plain1 h.1 _).2 rfl, (toAs_plain h.2 _).2 rfl⟩
theorem toA_plain {v : V} (h : plain (toA v) = true) (a : AVal) : vr w0 lh ν v a ↔ a = toA v := by
 cases v with
 | tup cs =>
   simp only [toA, plain] at h
   simp only [vr, toA]
   constructor
   ·rintro ⟨az, rfl, h1⟩; rw [(toAs_plain h az).1 h1]
   ·rintro rfl; exact ⟨_, rfl, (toAs_plain h _).2 rfl⟩
 | agg cs => exact toA_plain1 (by simpa [toA, plain] using h) a
 | _ => first | exact toA_scalar (by simpa [toA, plain] using h) a | (simp [toA, plain, scalar] at h)
end
theorem toAs_len : ∀ vs : List V, (toAs vs).length = vs.length
 | [] => by simp [toAs]
 | v :: vs => by simp [toAs, toAs_len vs]
theorem toA_sl {n m : Nat} {f g : Nat -> List V} (h : toA (.sl n f) = toA (.sl m g)) : n = m /\ ∀ i, i < n -> toAs (f i) = toAs (g i) := by
 simp only [toA, AVal.fn.injEq, true_and] at h
 have hl := congrArg List.length h
 simp only [List.length_map, List.length_range] at hl
 subst hl
 refine ⟨rfl, fun i hi => ?_⟩
 have := congrArg (fun l => l[i]?) h
 simpa [hi] using this
def lstOf : V -> Option (Nat × (Nat -> List V))
 | .sl n f => some (n, f)
 | .tup (.sl n f :: _) => some (n, f)
 | _ => none
def restOf : V -> List V
 | .tup (_ :: vs) => vs
 | _ => []
def withL (v : V) : V -> V
 | .tup (_ :: vs) => .tup (v :: vs)
 | _ => v
def withA (a : AVal) : V -> AVal
 | .tup (_ :: vs) => .tup (a :: toAs vs)
 | _ => a
theorem lstOf_cases {r : V} {n : Nat} {f : Nat -> List V} (h : lstOf r = some (n, f)) : r = .sl n f ∨ ∃ vs, r = .tup (.sl n f :: vs) := by
 unfold lstOf at h
 split at h
 ·cases h; exact .inl rfl
 ·cases h; exact .inr ⟨_, rfl⟩
 ·cases h
def okL (e : Nat) (r : V) : Prop := ∃ n f, lstOf r = some (n, f) /\ n <= 9223372036854775807 /\ (∀ i, i < n -> okE e (f i) = true /\ (toAs (f i)).all scalar = true) /\ (toAs (restOf r)).all scalar = true
def lstR (e : Nat) (ty : TypeId) (nb : Nat) (lh : List LObj) (n : Nat) (f : FnV) (x : AVal) : Prop :=
 (n = 0 /\ x = .slice none 0 0) ∨ ∃ b c az, nb <= b /\ lh[b]? = some (.cells az ty) /\ x = .slice (some (.l b 0)) n c /\ az.length = c * e /\ n <= c /\ ∀ i, i < n -> (az.drop (i * e)).take e = toAs (f i)
theorem withA_rel {m m' : Names} {x x' : AVal} {r : V} {n : Nat} {f : Nat -> List V} {v : Value} (hr : lstOf r = some (n, f)) (hs : (toAs (restOf r)).all scalar = true) (hx : ∀ u, vrel m x u -> vrel m' x' u) (h : vrel m (withA x r) v) : vrel m' (withA x' r) v := by
 rcases lstOf_cases hr with rfl | ⟨vs, rfl⟩
 ·exact hx v h
 ·simp only [withA, vrel] at h ⊢
  obtain ⟨us, rfl, h2⟩ := h
  refine ⟨us, rfl, ?_⟩
  simp only [vrels] at h2 ⊢
  obtain ⟨u, us', e, h3, h4⟩ := h2
  exact ⟨u, us', e, hx u h3, scalars_rel hs h4⟩
theorem flat_ok {e : Nat} {f : Nat -> List V} : ∀ {n : Nat}, (∀ i, i < n -> (toAs (f i)).length = e) -> ((List.range n).flatMap fun i => toAs (f i)).length = n * e /\ ∀ i, i < n -> (((List.range n).flatMap fun i => toAs (f i)).drop (i * e)).take e = toAs (f i)
 | 0, _ => ⟨by simp, fun i hi => by omega⟩
 | n + 1, h => by
   obtain ⟨h1, h2⟩ := flat_ok (n := n) fun i hi => h i (by omega)
   rw [List.range_succ, List.flatMap_append]
   simp only [List.flatMap_cons, List.flatMap_nil, List.append_nil]
   have hn := h n (by omega)
   refine ⟨by rw [List.length_append, h1, hn, Nat.succ_mul], fun i hi => ?_⟩
   by_cases e1 : i = n
   ·subst e1
    rw [List.drop_append_of_le_length (by omega), List.drop_of_length_le (by omega), List.nil_append, List.take_of_length_le (by omega)]
   ·have hle : i * e + e <= n * e := by rw [← Nat.succ_mul]; exact Nat.mul_le_mul_right e (by omega)
    rw [List.drop_append_of_le_length (by omega), List.take_append_of_le_length (by rw [List.length_drop]; omega)]
    exact h2 i (by omega)
theorem take_drop_in {α : Type} {l l' : List α} {N a e : Nat} (h : l.take N = l'.take N) (ha : a + e <= N) : (l.drop a).take e = (l'.drop a).take e := by
 have key : ∀ l : List α, (l.drop a).take e = ((l.take N).drop a).take e := fun l => by
  rw [List.drop_take, List.take_take, Nat.min_eq_left (by omega)]
 rw [key l, key l', h]
theorem take_scalars {az : List AVal} {e : Nat} : ∀ {n : Nat}, (∀ i, i < n -> ((az.drop (i * e)).take e).all scalar = true) -> (az.take (n * e)).all scalar = true
 | 0, _ => by simp
 | n + 1, h => by
   rw [Nat.succ_mul, List.take_add, List.all_append, take_scalars fun i hi => h i (by omega), h n (by omega)]; rfl
theorem vrels_anys {m : Names} : ∀ vs : List Value, vrels m (List.replicate vs.length .any) vs
 | [] => by simp [vrels]
 | v :: vs => by simp only [List.length_cons, List.replicate_succ, vrels]; exact ⟨v, vs, rfl, trivial, vrels_anys vs⟩
theorem HRel_snoc {B : Base} {m : Names} {lh : List LObj} {w : World} (h : HRel B m lh w) {b : Nat} {az : List AVal} {vs : Array Value} {ty : TypeId} (hb : w.heap[b]? = some (.cells vs ty (0, 0)))
 (hs : vrels (fun k => if k = lh.length then some b else m k) az vs.toList) (h0 : B.w0.heap.size <= b) (h1 : B.wf.heap.size <= b) (hn : ∀ k b', m k = some b' -> b' ≠ b) : HRel B (fun k => if k = lh.length then some b else m k) (lh ++ [.cells az ty]) w /\ m.le (fun k => if k = lh.length then some b else m k) := by
 have hle : m.le (fun k => if k = lh.length then some b else m k) := fun k x hk => by
  have : k ≠ lh.length := fun e => by rw [e, h.dom _ (Nat.le_refl _)] at hk; cases hk
  simp only [if_neg this]; exact hk
 have hget : ∀ k cs ty', (lh ++ [LObj.cells az ty])[k]? = some (.cells cs ty') -> (k = lh.length /\ cs = az /\ ty' = ty) ∨ (k < lh.length /\ lh[k]? = some (.cells cs ty')) := fun k cs ty' hk => by
  rw [List.getElem?_append] at hk
  split at hk
  ·rename_i hlt; exact .inr ⟨hlt, hk⟩
  ·rename_i hge
   have : k - lh.length = 0 := by
    apply Classical.byContradiction; intro hne
    rw [List.getElem?_eq_none (by simp; omega)] at hk; cases hk
   rw [this] at hk
   simp only [List.getElem?_cons_zero, Option.some.injEq, LObj.cells.injEq] at hk
   exact .inl ⟨by omega, hk.1.symm, hk.2.symm⟩
 refine ⟨⟨h.os, h.tape, h.output, h.size, h.old, h.fsize, h.kept, fun k cs ty' hk => ?_, fun k k' b' cs cs' ty1 ty2 hk hk' hm hm' => ?_, fun k hk => ?_, fun k hk => ?_, fun k b' hk => ?_⟩, hle⟩
 ·rcases hget k cs ty' hk with ⟨rfl, rfl, rfl⟩ | ⟨hlt, hk⟩
  ·exact ⟨b, vs, by simp, hs, hb, h0, .inl h1⟩
  ·obtain ⟨b', vs', g1, g2, g3, g4, g5⟩ := h.loc k cs ty' hk
   exact ⟨b', vs', hle _ _ g1, vrels_mono hle _ _ g2, g3, g4, g5⟩
 ·rcases hget k cs ty1 hk with ⟨e1, _, _⟩ | ⟨l1, g1⟩ <;> rcases hget k' cs' ty2 hk' with ⟨e2, _, _⟩ | ⟨l2, g2⟩
  ·omega
  ·simp only [e1, if_true] at hm; simp only [if_neg (Nat.ne_of_lt l2)] at hm'; cases hm; exact (hn _ _ hm' rfl).elim
  ·simp only [e2, if_true] at hm'; simp only [if_neg (Nat.ne_of_lt l1)] at hm; cases hm'; exact (hn _ _ hm rfl).elim
  ·simp only [if_neg (Nat.ne_of_lt l1)] at hm; simp only [if_neg (Nat.ne_of_lt l2)] at hm'; exact h.inj k k' b' cs cs' ty1 ty2 g1 g2 hm hm'
 ·simp only [List.length_append, List.length_cons, List.length_nil] at hk
  simp only [if_neg (show k ≠ lh.length by omega)]; exact h.dom k (by omega)
 ·rw [List.getElem?_append] at hk
  split at hk
  ·rename_i hlt; simp only [if_neg (Nat.ne_of_lt hlt)]; exact h.dead k hk
  ·rename_i hge
   have : k - lh.length = 0 := by
    apply Classical.byContradiction; intro hne
    rw [List.getElem?_eq_none (by simp; omega)] at hk; cases hk
   rw [this] at hk; simp at hk
 ·by_cases e1 : k = lh.length
  ·simp only [e1, if_true, Option.some.injEq] at hk; subst hk; exact (Array.getElem?_eq_some_iff.1 hb).1
  ·simp only [if_neg e1] at hk; exact h.rng k b' hk
abbrev PCon := List V -> Option ((List V × List V) × Prop × V)
inductive Ent where
 | con (C : PCon)
 | conL (e : Nat) (ty : TypeId) (C : PCon) (h : ∀ ds d p r, C ds = some (d, p, r) -> d.1 = d.2 -> p -> okL e r)
 | inl (sf : SFun) (un : Unr)
abbrev CTab := List (FuncId × Ent)
def lookF : CTab -> FuncId -> Option Ent
 | [], _ => none
 | (k, c) :: l, f => cond (Nat.beq f k) (some c) (lookF l f)
def vP (C : PCon) : FSpec := fun w0 args lh K => ∃ ds d p r, vrs w0 lh Nu.nil ds args /\ C ds = some (d, p, r) /\ (d.1 = d.2 /\ p) /\ plain (toA r) = true /\ K (toA r) lh
def vL (e : Nat) (ty : TypeId) (C : PCon) : FSpec := fun w0 args lh K => ∃ ds d p r n f, vrs w0 lh Nu.nil ds args /\ C ds = some (d, p, r) /\ (d.1 = d.2 /\ p) /\ lstOf r = some (n, f) /\ okL e r /\ ∀ x new, lstR e ty lh.length (lh ++ new) n f x -> K (withA x r) (lh ++ new)
def SV (ct : CTab) : Specs
 | 0, f => match lookF ct f with
   | some (.con C) => vP C
   | some (.conL e ty C _) => vL e ty C
   | _ => badS
 | n + 1, f => match lookF ct f with
   | some (.con C) => vP C
   | some (.conL e ty C _) => vL e ty C
   | some (.inl sf _) => vInl (SV ct n) sf
   | none => badS
section
variable {α : Type}
def conOf (C : PCon) (vs : List V) (h : List O) (K : V -> T α) : T α := match C (vs.map (deepT h)) with
 | none => .fail 81
 | some (d, p, r) => .obq d.1 d.2 (.obp p (.ob (plain (toA r)) (obs (deepBs h vs) (K r))))
def conOfL (e : Nat) (ty : TypeId) (C : PCon) (vs : List V) (h : List O) (K : V -> List O -> T α) : T α := match C (vs.map (deepT h)) with
 | none => .fail 81
 | some (d, p, r) => match lstOf r with
   | none => .fail 85
   | some (n, f) => .obq d.1 d.2 (.obp p (obs (deepBs h vs) (K (withL (.gs (lenL h) n) r) (snocL h (.gl e n f ty)))))
def cpOf (ct : CTab) : CP α := fun f vs h K => match lookF ct f with
 | some (.con C) => conOf C vs h K
 | _ => .fail 80
def cfOf (ct : CTab) : Nat -> CF α
 | 0, f, vs, h, K => match lookF ct f with
   | some (.con C) => conOf C vs h fun v => K v h
   | some (.conL e ty C _) => conOfL e ty C vs h K
   | _ => .fail 82
 | n + 1, f, vs, h, K => match lookF ct f with
   | some (.con C) => conOf C vs h fun v => K v h
   | some (.conL e ty C _) => conOfL e ty C vs h K
   | some (.inl sf un) => evFun (cfOf ct n) (cpOf ct) un n sf vs h K
   | none => .fail 83
theorem conOf_ok {w0 : World} {LP : LPred} {C : PCon} {vs : List V} {h : List O} {K : V -> T α} {Q : α -> Prop} {ν : Nu} {nV nS : Nat} {args : List AVal} {lh : List LObj} {KA : AVal -> List LObj -> Prop} (hv : vrs w0 ν.z ν vs args) (hh : HR w0 ν nV nS h lh) (hs : sat LP (conOf C vs h K) Q)
 (hK : ∀ v a, vr w0 ν.z ν v a -> sat LP (K v) Q -> KA a lh) : vP C w0 args lh KA := by
 unfold conOf at hs
 split at hs
 ·exact hs.elim
 ·rename_i d p r hr
  simp only [sat] at hs
  obtain ⟨hb, hs4⟩ := obs_ok hs.2.2.2
  exact ⟨_, d, p, r, deeps_ok hh hb hv, hr, ⟨hs.1, hs.2.1⟩, hs.2.2.1, hK r (toA r) ((toA_plain hs.2.2.1 _).2 rfl) hs4⟩
theorem conOfL_ok {w0 : World} {LP : LPred} {e : Nat} {ty : TypeId} {C : PCon} (hC : ∀ ds d p r, C ds = some (d, p, r) -> d.1 = d.2 -> p -> okL e r) {vs : List V} {h : List O} {K : V -> List O -> T α} {Q : α -> Prop} {ν : Nu} {nV nS : Nat} {args : List AVal} {lh : List LObj} {KA : AVal -> List LObj -> Prop} (hv : vrs w0 ν.z ν vs args) (hh : HR w0 ν nV nS h lh) (hs : sat LP (conOfL e ty C vs h K) Q)
 (hK : ∀ v h' ν' a lh', ν.sub ν' -> HR w0 ν' nV nS h' lh' -> vr w0 ν'.z ν' v a -> sat LP (K v h') Q -> KA a lh') : vL e ty C w0 args lh KA := by
 unfold conOfL at hs
 split at hs
 ·exact hs.elim
 ·rename_i d p r hr
  split at hs
  ·exact hs.elim
  ·rename_i n f hl
   simp only [sat] at hs
   obtain ⟨hb, hs4⟩ := obs_ok hs.2.2
   have ho := hC _ _ _ _ hr hs.1 hs.2.1
   refine ⟨_, d, p, r, n, f, deeps_ok hh hb hv, hr, ⟨hs.1, hs.2.1⟩, hl, ho, fun x new hx => ?_⟩
   obtain ⟨n', f', hl', hn, hel, hrs⟩ := ho
   rw [hl] at hl'; cases hl'
   have hp := hh.dom h.length (Nat.le_refl _)
   have key : ∃ y : Option (Nat × Nat × Nat), vr w0 ν.z (upd ν h.length y) (.gs h.length n) x /\ brel w0 (upd ν h.length y) nV nS (lh ++ new) h.length (.gl e n f ty) /\ ∀ z, y = some z -> lh.length <= z.1 /\ z.1 < (lh ++ new).length := by
    rcases hx with ⟨rfl, rfl⟩ | ⟨b, c, az, hb, hbl, rfl, hal, hnc, hall⟩
    ·exact ⟨none, by simp only [vr]; exact .inl ⟨upd_at _ _ _, by simp⟩, .inl ⟨upd_at _ _ _, rfl⟩, fun z hz => by cases hz⟩
    ·refine ⟨some (b, c, e), by simp only [vr]; exact .inr ⟨b, c, e, upd_at _ _ _, rfl, hnc⟩, .inr ⟨b, c, az, upd_at _ _ _, hbl, hal, ⟨hnc, hn⟩, fun i hi => ⟨(hel i hi).1, ?_⟩⟩, fun z hz => ?_⟩
     ·rw [hall i hi]; exact (toAs_scalar (hel i hi).2 _).2 rfl
     ·cases hz; exact ⟨hb, (List.getElem?_eq_some_iff.1 hbl).1⟩
   obtain ⟨y, k1, k2, k3⟩ := key
   have hsub := upd_sub (x := y) hp
   refine hK _ _ (upd ν h.length y) _ _ hsub ?_ ?_ hs4
   ·rw [snocL_eq]
    have hcell : ∀ k o, (h ++ [O.gl e n f ty])[k]? = some o -> (k = h.length /\ o = .gl e n f ty) ∨ (k < h.length /\ h[k]? = some o) := fun k o hk => by
     rw [List.getElem?_append] at hk
     split at hk
     ·rename_i hlt; exact .inr ⟨hlt, hk⟩
     ·have : k - h.length = 0 := by
       apply Classical.byContradiction; intro hne
       rw [List.getElem?_eq_none (by simp; omega)] at hk; cases hk
      rw [this] at hk; simp at hk
      exact .inl ⟨by omega, hk.symm⟩
    have hlive : ∀ k, liveO (h ++ [O.gl e n f ty]) k -> k = h.length ∨ liveO h k := fun k hl => by
     rcases live_get hl with ⟨cs, t, hk⟩ | ⟨_, _, _, _, hk⟩
     ·rcases hcell k _ hk with ⟨e1, _⟩ | ⟨_, g⟩
      ·exact .inl e1
      ·exact .inr (live_cells g)
     ·rcases hcell k _ hk with ⟨e1, _⟩ | ⟨_, g⟩
      ·exact .inl e1
      ·exact .inr (live_gl g)
    have hne : ∀ k, liveO h k -> k ≠ h.length := fun k hl e1 => by
     rcases live_get hl with ⟨cs, t, hk⟩ | ⟨_, _, _, _, hk⟩ <;> (have := (List.getElem?_eq_some_iff.1 hk).1; omega)
    refine ⟨fun k o hk => ?_, fun k k' x1 x2 h1 h2 h3 h4 h5 => ?_, fun k hk => ?_, fun k x1 hk => ?_, fun j az ty hj => ?_, fun k x1 hl hk => ?_⟩
    ·rcases hcell k o hk with ⟨rfl, rfl⟩ | ⟨hlt, hk⟩
     ·exact k2
     ·by_cases hd : o = .dead
      ·subst hd
       obtain ⟨g1, g2, g3⟩ := hh.blk k _ hk
       exact ⟨by rw [upd_k, if_neg (Nat.ne_of_lt hlt)]; exact g1, g2, by rw [List.getElem?_append_left (List.getElem?_eq_some_iff.1 g3).1]; exact g3⟩
      ·exact brel_mono hsub hd (fun b az ty' g1 _ => by rw [List.getElem?_append_left (List.getElem?_eq_some_iff.1 g1).1]; exact g1) (hh.blk k _ hk)
    ·rw [upd_k] at h3 h4
     rcases hlive k h1 with e1 | e1 <;> rcases hlive k' h2 with e2 | e2
     ·omega
     ·rw [if_pos e1] at h3; rw [if_neg (hne _ e2)] at h4; simp only [Option.some.injEq] at h3
      have := (k3 _ h3).1; have := hh.rng _ _ h4; omega
     ·rw [if_neg (hne _ e1)] at h3; rw [if_pos e2] at h4; simp only [Option.some.injEq] at h4
      have := (k3 _ h4).1; have := hh.rng _ _ h3; omega
     ·rw [if_neg (hne _ e1)] at h3; rw [if_neg (hne _ e2)] at h4
      exact hh.inj k k' x1 x2 e1 e2 h3 h4 h5
    ·simp only [List.length_append, List.length_cons, List.length_nil] at hk
     rw [upd_k, if_neg (by omega)]; exact hh.dom k (by omega)
    ·rw [upd_k] at hk
     split at hk
     ·simp only [Option.some.injEq] at hk; exact (k3 _ hk).2
     ·rw [List.length_append]; exact Nat.lt_of_lt_of_le (hh.rng k x1 hk) (by omega)
    ·have g1 := hh.zl j az ty hj
     rw [List.getElem?_append_left (List.getElem?_eq_some_iff.1 g1).1]; exact g1
    ·rw [upd_k] at hk
     rcases hlive k hl with e1 | e1
     ·rw [if_pos e1] at hk; simp only [Option.some.injEq] at hk
      have := (k3 _ hk).1
      exact zl_no hh.zl (by rw [List.getElem?_eq_none (by omega)]; rfl)
     ·rw [if_neg (hne _ e1)] at hk; exact hh.zn k x1 e1 hk
   ·rw [lenL_eq]
    rcases lstOf_cases hl with rfl | ⟨us, rfl⟩
    ·exact k1
    ·simp only [withL, withA, vr]
     refine ⟨_, rfl, ?_⟩
     simp only [vrs]
     exact ⟨_, _, rfl, k1, (toAs_scalar hrs _).2 rfl⟩
theorem cpOf_ok (w0 : World) (ct : CTab) (LP : LPred) (lv : Nat) : CPok w0 (SV ct lv) LP (cpOf (α := α) ct) := by
 intro f vs h K Q ν nV nS args lh KA hv hh hs hK
 unfold cpOf at hs
 split at hs
 ·rename_i C hC
  have : SV ct lv f = vP C := by cases lv <;> simp only [SV, hC]
  rw [this]
  exact conOf_ok hv hh hs hK
 ·exact hs.elim
def dstT : CTab -> Bool
 | [] => true
 | (_, .con _) :: l => dstT l
 | (_, .conL ..) :: l => dstT l
 | (_, .inl sf _) :: l => dstC sf.ntmps sf.body && dstT l
theorem dstT_look : ∀ {ct : CTab} {f : FuncId} {sf : SFun} {un : Unr}, dstT ct = true -> lookF ct f = some (.inl sf un) -> dstC sf.ntmps sf.body = true
 | [], _, _, _, _, h => by cases h
 | (k, c) :: l, f, sf, un, hd, h => by
   simp only [lookF] at h
   cases hb : Nat.beq f k with
   | true =>
     rw [hb] at h; simp only [cond] at h; cases h
     simp only [dstT, Bool.and_eq_true] at hd; exact hd.1
   | false =>
     rw [hb] at h; simp only [cond] at h
     refine dstT_look (ct := l) ?_ h
     cases c with
     | con C => exact hd
     | conL e ty C h => exact hd
     | inl sf' un' => simp only [dstT, Bool.and_eq_true] at hd; exact hd.2
theorem cfOf_ok (w0 : World) (ct : CTab) (hd : dstT ct = true) : ∀ (lv : Nat), CFok w0 (SV ct lv) (LPof w0 (SV ct)) false (cfOf (α := α) ct lv)
 | 0 => by
   intro f vs h K Q ν nV nS args lh KA hv hh hs hK
   simp only [cfOf] at hs
   split at hs
   ·rename_i C hC
    have : SV ct 0 f = vP C := by simp only [SV, hC]
    rw [this]
    exact conOf_ok hv hh hs fun v a hv hs => hK v h ν a lh (fun e => by cases e) (Nu.sub_refl ν) hh hv hs
   ·rename_i e ty C hC0 hC
    have : SV ct 0 f = vL e ty C := by simp only [SV, hC]
    rw [this]
    exact conOfL_ok hC0 hv hh hs fun v h' ν' a lh' g0 g1 g2 g3 => hK v h' ν' a lh' (fun e => by cases e) g0 g1 g2 g3
   ·exact hs.elim
 | n + 1 => by
   intro f vs h K Q ν nV nS args lh KA hv hh hs hK
   simp only [cfOf] at hs
   split at hs
   ·rename_i C hC
    have : SV ct (n + 1) f = vP C := by simp only [SV, hC]
    rw [this]
    exact conOf_ok hv hh hs fun v a hv hs => hK v h ν a lh (fun e => by cases e) (Nu.sub_refl ν) hh hv hs
   ·rename_i e ty C hC0 hC
    have : SV ct (n + 1) f = vL e ty C := by simp only [SV, hC]
    rw [this]
    exact conOfL_ok hC0 hv hh hs fun v h' ν' a lh' g0 g1 g2 g3 => hK v h' ν' a lh' (fun e => by cases e) g0 g1 g2 g3
   ·rename_i sf un hC
    have : SV ct (n + 1) f = vInl (SV ct n) sf := by simp only [SV, hC]
    rw [this]
    exact evFun_ok (cfOf_ok w0 ct hd n) (cpOf_ok w0 ct _ n) (dstT_look hd hC) hv hh hs fun v h' ν' a lh' g0 g1 g2 g3 => hK v h' ν' a lh' (fun e => by cases e) g0 (g1 nV nS) g2 g3
   ·exact hs.elim
end
inductive TabOk (P : Program) (eqs : List TypeId) (its : List IFun) : CTab -> Prop
 | nil : TabOk P eqs its []
 | con {f : FuncId} {C : PCon} {ct : CTab} (h : (vP C).Ok P f) (hl : TabOk P eqs its ct) : TabOk P eqs its ((f, .con C) :: ct)
 | conL {f : FuncId} {e : Nat} {ty : TypeId} {C : PCon} {hC : ∀ ds d p r, C ds = some (d, p, r) -> d.1 = d.2 -> p -> okL e r} {ct : CTab} (h : (vL e ty C).Ok P f) (hl : TabOk P eqs its ct) : TabOk P eqs its ((f, .conL e ty C hC) :: ct)
 | inl {f : FuncId} {fn : Func} {sf : SFun} {un : Unr} {ct : CTab} (hf : P.funcs[f]? = some fn) (hn : (fn.name == "runtime.NumGoroutine") = false) (hc : compFun P eqs its fn = some sf) (hd : dstC sf.ntmps sf.body = true) (hl : TabOk P eqs its ct) : TabOk P eqs its ((f, .inl sf un) :: ct)
theorem TabOk.look {P : Program} {eqs : List TypeId} {its : List IFun} {ct : CTab} (h : TabOk P eqs its ct) : ∀ {f : FuncId} {x : Ent}, lookF ct f = some x -> match x with
 | .con C => (vP C).Ok P f
 | .conL e ty C _ => (vL e ty C).Ok P f
 | .inl sf _ => ∃ fn, P.funcs[f]? = some fn /\ (fn.name == "runtime.NumGoroutine") = false /\ compFun P eqs its fn = some sf := by
 induction h with
 | nil => intro f x h; cases h
 | @con k C ct h hl ih =>
   intro f x hx
   simp only [lookF] at hx
   cases hb : Nat.beq f k with
   | true => rw [hb] at hx; simp only [cond] at hx; cases hx; have := Nat.eq_of_beq_eq_true hb; subst this; exact h
   | false => rw [hb] at hx; simp only [cond] at hx; exact ih hx
 | @conL k e ty C hC ct h hl ih =>
   intro f x hx
   simp only [lookF] at hx
   cases hb : Nat.beq f k with
   | true => rw [hb] at hx; simp only [cond] at hx; cases hx; have := Nat.eq_of_beq_eq_true hb; subst this; exact h
   | false => rw [hb] at hx; simp only [cond] at hx; exact ih hx
 | @inl k fn sf un ct hf hn hc hd hl ih =>
   intro f x hx
   simp only [lookF] at hx
   cases hb : Nat.beq f k with
   | true => rw [hb] at hx; simp only [cond] at hx; cases hx; have := Nat.eq_of_beq_eq_true hb; subst this; exact ⟨fn, hf, hn, hc⟩
   | false => rw [hb] at hx; simp only [cond] at hx; exact ih hx
theorem TabOk.dst {P : Program} {eqs : List TypeId} {its : List IFun} {ct : CTab} (h : TabOk P eqs its ct) : dstT ct = true := by
 induction h with
 | nil => rfl
 | con h hl ih => exact ih
 | conL h hl ih => exact ih
 | inl hf hn hc hd hl ih => simp only [dstT, hd, ih, Bool.and_self]
theorem TabOk.ok {P : Program} {eqs : List TypeId} {its : List IFun} {ct : CTab} (h : TabOk P eqs its ct) (hE : ∀ t ∈ eqs, EqInts P t) (hI : itsOk P eqs its) : ∀ (lv : Nat) (g : FuncId), (SV ct lv g).Ok P g
 | 0, g => by
   simp only [SV]
   split
   ·rename_i C hC; exact h.look hC
   ·rename_i e ty C hC0 hC; exact h.look hC
   ·exact bad_ok g
 | n + 1, g => by
   simp only [SV]
   split
   ·rename_i C hC; exact h.look hC
   ·rename_i e ty C hC0 hC; exact h.look hC
   ·rename_i sf un hC
    obtain ⟨fn, h1, h2, h3⟩ := h.look hC
    exact vInl_ok (h.ok hE hI n) hE hI h1 h2 h3
   ·exact bad_ok g
def LV : Nat := 12
def run (ct : CTab) (un : Unr) (sf : SFun) (ds : List V) : T V := evFun (cfOf ct LV) (cpOf ct) un LV sf ds [] fun v _ => .ret v
theorem vP_okG {α : Type} {P : Program} {eqs : List TypeId} {its : List IFun} {ct : CTab} {f : FuncId} {fn : Func} {sf : SFun} {un : Unr} {C : PCon} {K0 : V -> T α} {Q0 : V -> α -> Prop} (hK0 : ∀ w0 r v, sat (LPof w0 (SV ct)) (K0 v) (Q0 r) -> toA v = toA r) (hT : TabOk P eqs its ct) (hE : ∀ t ∈ eqs, EqInts P t) (hI : itsOk P eqs its) (hf : P.funcs[f]? = some fn)
 (hn : (fn.name == "runtime.NumGoroutine") = false) (hc : compFun P eqs its fn = some sf) (hd : dstC sf.ntmps sf.body = true)
 (h : ∀ w0 ds d p r, C ds = some (d, p, r) -> d.1 = d.2 -> p -> plain (toA r) = true -> sat (LPof w0 (SV ct)) (evFun (cfOf ct LV) (cpOf ct) un LV sf ds [] fun v _ => K0 v) (Q0 r)) : (vP C).Ok P f := by
 refine ⟨fun B m lh w args vs K hrel hargs hsp => ?_, fun _ _ _ _ _ hk ⟨ds, d, p, r, h1, h2, h3, h4, h5⟩ => ⟨ds, d, p, r, h1, h2, h3, h4, hk _ _ h5⟩, fun _ _ _ _ ⟨_, _, _, _, _, _, _, _, h⟩ => h⟩
 obtain ⟨ds, d, p, r, h1, h2, ⟨h30, h3⟩, h4, h5⟩ := hsp
 obtain ⟨args', g1, g2⟩ := vrs_base hrel ds args vs h1 hargs
 have hs := fun_sound (Sp := fun w0 args lh K => lh = [] /\ ∃ ds d p r, vrs w0 [] Nu.nil ds args /\ C ds = some (d, p, r) /\ (d.1 = d.2 /\ p) /\ plain (toA r) = true /\ K (toA r) []) (hT.ok hE hI LV) hE hI hf hn hc (fun w0 args lh K hw ha ⟨e, ds, d, p, r, k1, k2, ⟨k30, k3⟩, k4, k5⟩ => by
  subst e
  refine evFun_ok (cfOf_ok w0 ct hT.dst LV) (cpOf_ok w0 ct _ LV) hd k1 (HR.none w0) (h w0 ds d p r k2 k30 k3 k4) fun v h' ν' a lh' _ q1 q2 q3 => ?_
  have q3 := hK0 _ _ _ q3
  have := (toA_plain (by rw [q3]; exact k4) a).1 q2
  rw [q3] at this
  subst this
  exact ret_pure (lh := []) (l := lh') (plain_in k4) hw k5)
 obtain ⟨e1, e2⟩ := hs ⟨w, w, fun _ => False, []⟩ (fun _ => none) [] w args' vs (fun r' _ => r' = toA r) (HRel.start w) g1 ⟨rfl, ds, d, p, r, g2, h2, ⟨h30, h3⟩, h4, rfl⟩
 refine ⟨e1, e2.mono fun e w' ⟨v, r', m1, lh1, he, hv, _, hr, hk⟩ => ?_⟩
 subst hk
 exact ⟨v, _, m, lh, he, plain_rel h4 hv, Ext.refl _ _, hrel.back hr, h5⟩
def outL (e : Nat) (ty : TypeId) (h : List O) : V -> V
 | .gs k n => match nth h k with
   | some (.gl e' _ f ty') => cond (Nat.beq e' e && Nat.beq ty' ty) (.sl n f) .any
   | _ => .any
 | .ns => .sl 0 fun _ => []
 | _ => .any
def chkL1 (h : List O) : V -> Bool
 | .gs k n => match nth h k with
   | some (.gl _ n' _ _) => decide (n <= n')
   | _ => true
 | _ => true
def chkL (h : List O) : V -> Bool
 | .tup (v :: _) => chkL1 h v
 | v => chkL1 h v
def outV (e : Nat) (ty : TypeId) (h : List O) : V -> V
 | .tup (v :: vs) => .tup (outL e ty h v :: vs)
 | v => outL e ty h v
section
variable {w0 : World} {ν : Nu} {nV nS : Nat} {h : List O} {lh : List LObj}
theorem outL_ok (hh : HR w0 ν nV nS h lh) {e : Nat} {ty : TypeId} {v : V} {a : AVal} {n : Nat} {f : Nat -> List V} (hv : vr w0 ν.z ν v a) (hs : ∀ i, i < n -> (toAs (f i)).all scalar = true) (hc : chkL1 h v = true) (ht : toA (outL e ty h v) = toA (.sl n f)) : lstR e ty 0 lh n f a := by
 unfold outL at ht
 split at ht
 ·rename_i k n1
  unfold chkL1 at hc; dsimp only at hc
  rw [nth_eq] at ht hc
  split at ht
  ·rename_i e' n' g ty' hk
   cases hb : (Nat.beq e' e && Nat.beq ty' ty) with
   | false => rw [hb] at ht; simp [toA] at ht
   | true =>
     rw [hb] at ht
     simp only [Bool.and_eq_true] at hb
     have e1 := Nat.eq_of_beq_eq_true hb.1
     have e2 := Nat.eq_of_beq_eq_true hb.2
     rw [hk] at hc
     have e3 := of_decide_eq_true hc
     subst e1; subst e2
     obtain ⟨rfl, hel⟩ := toA_sl ht
     simp only [vr] at hv
     rcases hv with ⟨g1, rfl, rfl⟩ | ⟨b, c, e2, g1, rfl, g3⟩
     ·exact .inl ⟨rfl, rfl⟩
     ·rcases hh.blk k _ hk with ⟨h1, h2⟩ | ⟨b', c', az, h1, h2, h3, h4, h5⟩
      ·rw [h1] at g1; cases g1
      ·rw [h1] at g1
       obtain ⟨rfl, rfl, rfl⟩ : b' = b /\ c' = c /\ e' = e2 := by simpa using g1
       refine .inr ⟨b', c', az, Nat.zero_le _, h2, rfl, h3, g3, fun i hi => ?_⟩
       have := (toAs_scalar (by rw [hel i hi]; exact hs i hi) _).1 (h5 i (by omega)).2
       rw [this, hel i hi]
  ·simp [toA] at ht
 ·simp only [vr] at hv
  obtain ⟨rfl, _⟩ := toA_sl ht
  exact .inl ⟨rfl, hv⟩
 ·simp [toA] at ht
theorem outV_ok (hh : HR w0 ν nV nS h lh) {e : Nat} {ty : TypeId} {v r : V} {a : AVal} {n : Nat} {f : Nat -> List V} (hv : vr w0 ν.z ν v a) (hr : lstOf r = some (n, f)) (ho : okL e r) (hc : chkL h v = true) (ht : toA (outV e ty h v) = toA r) : ∃ x, lstR e ty 0 lh n f x /\ a = withA x r := by
 obtain ⟨n', f', hl, _, hel, hrs⟩ := ho
 rw [hr] at hl; cases hl
 have hs := fun i hi => (hel i hi).2
 unfold outV at ht
 rcases lstOf_cases hr with rfl | ⟨us, rfl⟩
 ·split at ht
  ·simp [toA] at ht
  ·rename_i hv0
   exact ⟨a, outL_ok hh hv hs (by unfold chkL at hc; split at hc <;> first | exact (hv0 _ _ rfl).elim | exact hc) ht, rfl⟩
 ·split at ht
  ·rename_i u vs
   have ht1 : toA (outL e ty h u) = toA (.sl n f) := by simp only [toA, toAs, AVal.tup.injEq, List.cons.injEq] at ht ⊢; exact ht.1
   have ht2 : toAs vs = toAs us := by simp only [toA, toAs, AVal.tup.injEq, List.cons.injEq] at ht; exact ht.2
   simp only [vr] at hv
   obtain ⟨az, rfl, hv⟩ := hv
   simp only [vrs] at hv
   obtain ⟨x, xs, rfl, h1, h2⟩ := hv
   refine ⟨x, outL_ok hh h1 hs hc ht1, ?_⟩
   simp only [withA]
   rw [(toAs_scalar (by rw [ht2]; exact hrs) _).1 h2, ht2]
  ·have : ∀ u, toA (outL e ty h u) ≠ .tup (toAs (.sl n f :: us)) := fun u => by
    unfold outL
    split
    ·split
     ·rename_i e' n' g ty' _
      cases (Nat.beq e' e && Nat.beq ty' ty) <;> simp [toA]
     ·simp [toA]
    ·simp [toA]
    ·simp [toA]
   exact (this _ (by rw [ht]; simp only [toA])).elim
end
theorem exL {e : Nat} {ty : TypeId} {r : V} {n : Nat} {f : Nat -> List V} (hr : lstOf r = some (n, f)) (ho : okL e r) (lh : List LObj) : ∃ x new, lstR e ty lh.length (lh ++ new) n f x := by
 obtain ⟨n', f', hl, _, hel, _⟩ := ho
 rw [hr] at hl; cases hl
 obtain ⟨h1, h2⟩ := flat_ok (e := e) (f := f) (n := n) fun i hi => by rw [toAs_len]; exact (okE_len (hel i hi).1).1
 exact ⟨_, [.cells ((List.range n).flatMap fun i => toAs (f i)) ty], .inr ⟨lh.length, n, (List.range n).flatMap fun i => toAs (f i), Nat.le_refl _, by simp, rfl, h1, Nat.le_refl _, h2⟩⟩
theorem vL_okG {α : Type} {P : Program} {eqs : List TypeId} {its : List IFun} {ct : CTab} {f : FuncId} {fn : Func} {sf : SFun} {un : Unr} {e : Nat} {ty : TypeId} {C : PCon} {K0 : V -> List O -> T α} {Q0 : V -> α -> Prop} (hK0 : ∀ w0 r v h, sat (LPof w0 (SV ct)) (K0 v h) (Q0 r) -> chkL h v = true /\ toA (outV e ty h v) = toA r) (hT : TabOk P eqs its ct) (hE : ∀ t ∈ eqs, EqInts P t) (hI : itsOk P eqs its) (hf : P.funcs[f]? = some fn)
 (hn : (fn.name == "runtime.NumGoroutine") = false) (hc : compFun P eqs its fn = some sf) (hd : dstC sf.ntmps sf.body = true)
 (h : ∀ w0 ds d p r, C ds = some (d, p, r) -> d.1 = d.2 -> p -> sat (LPof w0 (SV ct)) (evFun (cfOf ct LV) (cpOf ct) un LV sf ds [] K0) (Q0 r)) : (vL e ty C).Ok P f := by
 refine ⟨fun B m lh w args vs K hrel hargs hsp => ?_, fun _ _ _ _ _ hk ⟨ds, d, p, r, n, g, h1, h2, h3, h4, h5, h6⟩ => ⟨ds, d, p, r, n, g, h1, h2, h3, h4, h5, fun x new hx => hk _ _ (h6 x new hx)⟩, fun _ _ lh _ ⟨_, _, _, _, _, _, _, _, _, h4, h5, h6⟩ => let ⟨x, new, hx⟩ := exL (ty := ty) h4 h5 lh; h6 x new hx⟩
 obtain ⟨ds, d, p, r, n, g, h1, h2, ⟨h30, h3⟩, h4, h5, h6⟩ := hsp
 obtain ⟨args', g1, g2⟩ := vrs_base hrel ds args vs h1 hargs
 have hs := fun_sound (Sp := fun w0 args lh K => lh = [] /\ ∃ ds d p r n g, vrs w0 [] Nu.nil ds args /\ C ds = some (d, p, r) /\ (d.1 = d.2 /\ p) /\ lstOf r = some (n, g) /\ okL e r /\ ∀ x lh1, lstR e ty 0 lh1 n g x -> K (withA x r) lh1) (hT.ok hE hI LV) hE hI hf hn hc (fun w0 args lh K hw ha ⟨e, ds, d, p, r, n, g, k1, k2, ⟨k30, k3⟩, k4, k5, k6⟩ => by
  subst e
  refine evFun_ok (cfOf_ok w0 ct hT.dst LV) (cpOf_ok w0 ct _ LV) hd k1 (HR.none w0) (h w0 ds d p r k2 k30 k3) fun v h' ν' a lh' _ q1 q2 q3 => ?_
  have q3 := hK0 _ _ _ _ q3
  obtain ⟨x, hx, rfl⟩ := outV_ok (q1 0 0) q2 k4 k5 q3.1 q3.2
  exact ⟨_, lh', .inl ⟨rfl, (⟨.inr rfl, trivial⟩ : slsub [_] [_])⟩, k6 x lh' hx⟩)
 obtain ⟨e1, e2⟩ := hs ⟨w, w, fun _ => False, []⟩ (fun _ => none) [] w args' vs (fun r' lh1 => ∃ x, lstR e ty 0 lh1 n g x /\ r' = withA x r) (HRel.start w) g1 ⟨rfl, ds, d, p, r, n, g, g2, h2, ⟨h30, h3⟩, h4, h5, fun x lh1 hx => ⟨x, hx, rfl⟩⟩
 refine ⟨e1, e2.mono fun ee w' ⟨v, r', m1, lh1, he, hv, _, hr, ⟨x, hx, hk⟩⟩ => ?_⟩
 subst hk
 obtain ⟨n', g', hl, hmax, hel, hrs⟩ := h5
 have hl' := hl
 rw [h4] at hl'; cases hl'
 have hback := hrel.back hr
 rcases hx with ⟨rfl, rfl⟩ | ⟨b, c, az, _, hbl, rfl, hal, hnc, hall⟩
 ·refine ⟨v, withA (.slice none 0 0) r, m, lh, he, withA_rel h4 hrs (fun u hu => ?_) hv, Ext.refl _ _, hback, ?_⟩
  ·simp only [vrel] at hu ⊢; exact hu
  ·have := h6 (.slice none 0 0) [] (.inl ⟨rfl, rfl⟩)
   rwa [List.append_nil] at this
 ·obtain ⟨b0, us, m1b, hus, hheap, hge, _⟩ := hr.loc b az ty hbl
  have hle : n * e <= az.length := by rw [hal]; exact Nat.mul_le_mul_right e hnc
  have hlen := vrels_length hus
  have hnew : ∀ k b', m k = some b' -> b' ≠ b0 := fun k b' hk e0 => by
   have := hrel.rng k b' hk; simp only at hge; omega
  have hsc : (az.take (n * e)).all scalar = true := take_scalars fun i hi => by rw [hall i hi]; exact (hel i hi).2
  have hvs : vrels (fun k => if k = lh.length then some b0 else m k) (az.take (n * e) ++ List.replicate (us.toList.drop (n * e)).length .any) us.toList := by
   have := vrels_append (scalars_rel (m' := fun k => if k = lh.length then some b0 else m k) hsc (vrels_take (n * e) hus)) (vrels_anys (us.toList.drop (n * e)))
   rwa [List.take_append_drop] at this
  obtain ⟨hH, hle'⟩ := HRel_snoc hback (b := b0) (ty := ty) hheap hvs (Nat.le_trans hrel.size hge) (Nat.le_trans hrel.fsize hge) hnew
  refine ⟨v, withA (.slice (some (.l lh.length 0)) n c) r, _, _, he, withA_rel h4 hrs (fun u hu => ?_) hv, ⟨hle', fun k hk => ⟨?_, ?_⟩⟩, hH, h6 _ _ (.inr ⟨lh.length, c, az.take (n * e) ++ List.replicate (us.toList.drop (n * e)).length .any, Nat.le_refl _, by rw [List.getElem?_append_right (Nat.le_refl _), Nat.sub_self]; rfl, rfl, ?_, hnc, fun i hi => ?_⟩)⟩
  ·simp only [vrel, prel] at hu ⊢
   obtain ⟨q, rfl, b', hb', rfl⟩ := hu
   rw [m1b] at hb'; cases hb'
   exact ⟨_, rfl, b0, by simp, rfl⟩
  ·rw [List.getElem?_append_left (List.getElem?_eq_some_iff.1 hk).1]; exact hk
  ·have := (List.getElem?_eq_some_iff.1 hk).1
   simp only [if_neg (Nat.ne_of_lt this)]
  ·simp only [List.length_append, List.length_take, List.length_replicate, List.length_drop]; omega
  ·rw [← hall i hi]
   refine take_drop_in (N := n * e) ?_ (by rw [← Nat.succ_mul]; exact Nat.mul_le_mul_right e (by omega))
   rw [List.take_append_of_le_length (by simp; omega), List.take_take, Nat.min_self]
inductive Ty where
 | int (k : IntKind)
 | bool
 | str
 | agg (ts : List Ty)
 | sl (ts : List Ty)
 | fn (f : FuncId) (xs ys : List Ty)
 | pd (ts : List Ty)
def iv : V -> Int
 | .int _ n => n
 | _ => 0
def bv : V -> Bool
 | .bool b => b
 | .kb b => b
 | _ => false
def sv : V -> ByteArray
 | .str s => s
 | _ => ByteArray.empty
def lenV : V -> Nat
 | .sl n _ => n
 | .sq n _ _ => n
 | _ => 0
def bndL : V -> Nat
 | .sl n _ => n
 | .sq _ m _ => m
 | _ => 0
def atV : V -> Nat -> List V
 | .sl _ f, i => f i
 | .sq _ _ f, i => f i
 | _, _ => []
def cellsV : V -> List V
 | .agg cs => cs
 | _ => []
def fxs : V -> List V
 | .fn _ xs _ => xs
 | _ => []
def fys : V -> List V
 | .fn _ _ ys => ys
 | _ => []
def pdV : V -> List V
 | .pd cs => cs
 | _ => []
def hdV : List V -> V
 | v :: _ => v
 | [] => .any
def tlV : List V -> List V
 | _ :: vs => vs
 | [] => []
def isCellTy : Ty -> Bool
 | .agg _ => false
 | .fn .. => false
 | .pd _ => false
 | _ => true
mutual
def view : Ty -> V -> V
 | .int k, v => .int k (iv v)
 | .bool, v => .bool (bv v)
 | .str, v => .str (sv v)
 | .agg ts, v => .agg (views ts (cellsV v))
 | .sl ts, v => .sl (lenV v) fun i => views ts (atV v i)
 | .fn f xs ys, v => .fn f (views xs (fxs v)) (views ys (fys v))
 | .pd ts, v => .pd (views ts (pdV v))
def views : List Ty -> List V -> List V
 | [], _ => []
 | t :: ts, vs => view t (hdV vs) :: views ts (tlV vs)
end
mutual
def hasTy : Ty -> V -> Prop
 | .int k, v => v = .int k (iv v)
 | .bool, v => v = .bool (bv v) ∨ v = .kb (bv v)
 | .str, v => v = .str (sv v)
 | .agg ts, v => v = .agg (cellsV v) /\ hasTys ts (cellsV v)
 | .sl ts, v => (v = .sl (lenV v) (atV v) ∨ v = .sq (lenV v) (bndL v) (atV v)) /\ ts.all isCellTy = true /\ ∀ i, i < bndL v -> hasTys ts (atV v i)
 | .fn f xs ys, v => v = .fn f (fxs v) (fys v) /\ hasTys xs (fxs v) /\ hasTys ys (fys v)
 | .pd ts, v => v = .pd (pdV v) /\ ts.all isCellTy = true /\ hasTys ts (pdV v)
def hasTys : List Ty -> List V -> Prop
 | [], vs => vs = []
 | t :: ts, vs => vs = hdV vs :: tlV vs /\ hasTy t (hdV vs) /\ hasTys ts (tlV vs)
end
theorem views_fc : ∀ (ts : List Ty) (vs : List V), ts.all isCellTy = true -> (views ts vs).all V.fc = true
 | [], _, _ => by simp [views]
 | t :: ts, vs, h => by
   simp only [List.all_cons, Bool.and_eq_true] at h
   simp only [views, List.all_cons, Bool.and_eq_true]
   refine ⟨?_, views_fc ts _ h.2⟩
   cases t <;> first | rfl | (simp [isCellTy] at h) | (simp only [view]; rfl)
theorem hasTys_len : ∀ {ts : List Ty} {vs : List V}, hasTys ts vs -> vs.length = ts.length
 | [], vs, h => by simp only [hasTys] at h; subst h; rfl
 | t :: ts, vs, h => by simp only [hasTys] at h; rw [h.1]; simp [hasTys_len h.2.2]
section
variable {w0 : World} {lh : List LObj}
theorem views_len : ∀ (ts : List Ty) (vs : List V), (views ts vs).length = ts.length
 | [], _ => by simp [views]
 | t :: ts, vs => by simp [views, views_len ts]
mutual
theorem view_ok : ∀ (t : Ty) (v : V) (a : AVal), hasTy t v -> vr w0 lh Nu.nil v a -> vr w0 lh Nu.nil (view t v) a
 | .int k, v, a, h, hv => by simp only [hasTy] at h; simp only [view]; rw [h] at hv; exact hv
 | .bool, v, a, h, hv => by
   simp only [hasTy] at h; simp only [view, vr]
   rcases h with h | h <;> (rw [h] at hv; simp only [vr] at hv; exact hv)
 | .str, v, a, h, hv => by simp only [hasTy] at h; simp only [view]; rw [h] at hv; exact hv
 | .agg ts, v, a, h, hv => by
   simp only [hasTy] at h
   rw [h.1] at hv
   simp only [view, vr] at hv ⊢
   obtain ⟨az, h1, h2⟩ := hv
   exact ⟨az, h1, views_ok ts _ az h.2 h2⟩
 | .sl ts, v, a, h, hv => by
   simp only [hasTy] at h
   rcases h.1 with h0 | h0
   ·have hb : bndL v = lenV v := by rw [h0]; rfl
    rw [h0] at hv
    simp only [view, vr] at hv ⊢
    obtain ⟨p, c, esz, h1, h2, h3, h4, h5⟩ := hv
    exact ⟨p, c, esz, h1, h2, h3, h4, fun i hi => let ⟨q, az, g1, g2, g3, g4⟩ := h5 i hi; ⟨q, az, g1, g2, views_ok ts _ az (h.2.2 i (by omega)) g3, views_fc ts _ h.2.1⟩⟩
   ·rw [h0] at hv
    simp only [view, vr] at hv ⊢
    obtain ⟨p, c, esz, h1, ⟨h2, h2'⟩, h3, h4, h5⟩ := hv
    exact ⟨p, c, esz, h1, h2, h3, h4, fun i hi => let ⟨q, az, g1, g2, g3, g4⟩ := h5 i hi; ⟨q, az, g1, g2, views_ok ts _ az (h.2.2 i (by omega)) g3, views_fc ts _ h.2.1⟩⟩
 | .fn f xs ys, v, a, h, hv => by
   simp only [hasTy] at h
   rw [h.1] at hv
   simp only [view, vr] at hv ⊢
   obtain ⟨us, vs, h1, h2, h3⟩ := hv
   exact ⟨us, vs, h1, views_ok xs _ us h.2.1 h2, views_ok ys _ vs h.2.2 h3⟩
 | .pd ts, v, a, h, hv => by
   simp only [hasTy] at h
   rw [h.1] at hv
   simp only [view, vr] at hv ⊢
   obtain ⟨p, az, h1, h2, h3, h4, h5⟩ := hv
   have hl := hasTys_len h.2.2
   refine ⟨p, az, h1, h2, by rw [views_len, ← hl]; exact h3, views_ok ts _ az h.2.2 h4, views_fc ts _ h.2.1⟩
theorem views_ok : ∀ (ts : List Ty) (vs : List V) (az : List AVal), hasTys ts vs -> vrs w0 lh Nu.nil vs az -> vrs w0 lh Nu.nil (views ts vs) az
 | [], vs, az, h, hv => by simp only [hasTys] at h; subst h; simpa only [views] using hv
 | t :: ts, vs, az, h, hv => by
   simp only [hasTys] at h
   rw [h.1] at hv
   simp only [vrs] at hv
   obtain ⟨x, xs, rfl, h1, h2⟩ := hv
   simp only [views, vrs]
   exact ⟨x, xs, rfl, view_ok t _ x h.2.1 h1, views_ok ts _ xs h.2.2 h2⟩
end
end
mutual
def okTy : Ty -> Bool
 | .agg ts => okTys ts
 | .sl ts => ts.all isCellTy && okTys ts
 | .fn _ xs ys => okTys xs && okTys ys
 | .pd ts => ts.all isCellTy && okTys ts
 | _ => true
def okTys : List Ty -> Bool
 | [] => true
 | t :: ts => okTy t && okTys ts
end
def accJ : Nat -> (Nat -> List V -> List V) -> List V -> List V
 | 0, _, k => k
 | j + 1, g, k => g j (accJ j g k)
mutual
def fxL : Ty -> V -> List V -> List V
 | .agg ts, v, k => .agg (cellsV v) :: fxLs ts (cellsV v) k
 | .sl ts, v, k => match v with
   | .sq _ m f => accJ m (fun j k => fxLs ts (f j) k) k
   | v => view (.sl ts) v :: k
 | .fn f xs ys, v, k => .fn f (fxs v) (fys v) :: fxLs xs (fxs v) (fxLs ys (fys v) k)
 | .pd ts, v, k => .pd (pdV v) :: fxLs ts (pdV v) k
 | t, v, k => view t v :: k
def fxLs : List Ty -> List V -> List V -> List V
 | [], _, k => .agg [] :: k
 | t :: ts, vs, k => .agg (hdV vs :: tlV vs) :: fxL t (hdV vs) (fxLs ts (tlV vs) k)
end
mutual
def fxR : Ty -> V -> List V -> List V
 | .agg ts, v, k => v :: fxRs ts (cellsV v) k
 | .sl ts, v, k => match v with
   | .sq _ m f => accJ m (fun j k => fxRs ts (f j) k) k
   | v => v :: k
 | .fn _ xs ys, v, k => v :: fxRs xs (fxs v) (fxRs ys (fys v) k)
 | .pd ts, v, k => v :: fxRs ts (pdV v) k
 | _, v, k => v :: k
def fxRs : List Ty -> List V -> List V -> List V
 | [], vs, k => .agg vs :: k
 | t :: ts, vs, k => .agg vs :: fxR t (hdV vs) (fxRs ts (tlV vs) k)
end
theorem accJ_eq {P : Nat -> Prop} {g g' : Nat -> List V -> List V} (hg : ∀ j k k', g j k = g' j k' -> P j /\ k = k') : ∀ (m : Nat) (k k' : List V), accJ m g k = accJ m g' k' -> (∀ j, j < m -> P j) /\ k = k'
 | 0, k, k', h => ⟨fun j hj => by omega, h⟩
 | m + 1, k, k', h => by
   simp only [accJ] at h
   obtain ⟨h1, h2⟩ := hg m _ _ h
   obtain ⟨h3, h4⟩ := accJ_eq hg m k k' h2
   exact ⟨fun j hj => by
    by_cases e : j = m
    ·subst e; exact h1
    ·exact h3 j (by omega), h4⟩
theorem hasTys_views : ∀ (ts : List Ty) (vs : List V), okTys ts = true -> views ts vs = vs -> hasTys ts vs := by
 have key : ∀ (ts : List Ty), okTys ts = true -> ∀ vs, views ts vs = vs -> hasTys ts vs := fun ts ho vs h => hasTys_of' ts vs ho h
 exact fun ts vs ho h => key ts ho vs h
where
 hasTy_of' : ∀ (t : Ty) (v : V), okTy t = true -> view t v = v -> hasTy t v
 | .int k, v, _, h => by simp only [view] at h; simp only [hasTy]; exact h.symm
 | .bool, v, _, h => by simp only [view] at h; simp only [hasTy]; exact .inl h.symm
 | .str, v, _, h => by simp only [view] at h; simp only [hasTy]; exact h.symm
 | .agg ts, v, ho, h => by
   simp only [view] at h; simp only [okTy] at ho
   have h2 : views ts (cellsV v) = cellsV v := by have := congrArg cellsV h; simpa only [cellsV] using this
   simp only [hasTy]
   exact ⟨by rw [h2] at h; exact h.symm, hasTys_of' ts _ ho h2⟩
 | .sl ts, v, ho, h => by
   simp only [view] at h; simp only [okTy, Bool.and_eq_true] at ho
   have h2 : ∀ i, views ts (atV v i) = atV v i := fun i => by
    have := congrArg (fun u => atV u i) h
    simpa only [atV] using this
   simp only [hasTy]
   refine ⟨.inl ?_, ho.1, fun i _ => hasTys_of' ts _ ho.2 (h2 i)⟩
   have h3 : (fun i => views ts (atV v i)) = atV v := funext h2
   rw [h3] at h; exact h.symm
 | .fn f xs ys, v, ho, h => by
   simp only [view] at h; simp only [okTy, Bool.and_eq_true] at ho
   have h2 : views xs (fxs v) = fxs v := by have := congrArg fxs h; simpa only [fxs] using this
   have h3 : views ys (fys v) = fys v := by have := congrArg fys h; simpa only [fys] using this
   simp only [hasTy]
   exact ⟨by rw [h2, h3] at h; exact h.symm, hasTys_of' xs _ ho.1 h2, hasTys_of' ys _ ho.2 h3⟩
 | .pd ts, v, ho, h => by
   simp only [view] at h; simp only [okTy, Bool.and_eq_true] at ho
   have h2 : views ts (pdV v) = pdV v := by have := congrArg pdV h; simpa only [pdV] using this
   simp only [hasTy]
   exact ⟨by rw [h2] at h; exact h.symm, ho.1, hasTys_of' ts _ ho.2 h2⟩
 hasTys_of' : ∀ (ts : List Ty) (vs : List V), okTys ts = true -> views ts vs = vs -> hasTys ts vs
 | [], vs, _, h => by simp only [views] at h; simp only [hasTys]; exact h.symm
 | t :: ts, vs, ho, h => by
   simp only [views] at h; simp only [okTys, Bool.and_eq_true] at ho
   have h2 : view t (hdV vs) = hdV vs := by have := congrArg hdV h; simpa only [hdV] using this
   have h3 : views ts (tlV vs) = tlV vs := by have := congrArg tlV h; simpa only [tlV] using this
   simp only [hasTys]
   exact ⟨by rw [h2, h3] at h; exact h.symm, hasTy_of' t _ ho.1 h2, hasTys_of' ts _ ho.2 h3⟩
def elV (ts : List Ty) (f : FnV) : Nat -> List V := fun i => views ts (f i)
mutual
def unq : Ty -> V -> V
 | .agg ts, v => match v with
   | .agg cs => .agg (unqs ts cs)
   | v => v
 | .sl ts, v => match v with
   | .sq n _ f => .sl n (elV ts f)
   | v => v
 | .fn _ xs ys, v => match v with
   | .fn f us vs => .fn f (unqs xs us) (unqs ys vs)
   | v => v
 | .pd ts, v => match v with
   | .pd cs => .pd (unqs ts cs)
   | v => v
 | _, v => v
def unqs : List Ty -> List V -> List V
 | [], _ => []
 | t :: ts, vs => match vs with
   | v :: vs => unq t v :: unqs ts vs
   | [] => []
end
mutual
theorem unq_eq : ∀ (t : Ty) (v : V) (k k' : List V), fxL t v k = fxR t v k' -> unq t v = view t v /\ k = k'
 | .int _, v, k, k', h => by
   simp only [fxL, fxR, List.cons.injEq] at h
   simp only [unq]; exact ⟨h.1.symm, h.2⟩
 | .bool, v, k, k', h => by
   simp only [fxL, fxR, List.cons.injEq] at h
   simp only [unq]; exact ⟨h.1.symm, h.2⟩
 | .str, v, k, k', h => by
   simp only [fxL, fxR, List.cons.injEq] at h
   simp only [unq]; exact ⟨h.1.symm, h.2⟩
 | .agg ts, v, k, k', h => by
   simp only [fxL, fxR, List.cons.injEq] at h
   obtain ⟨h1, h2⟩ := unqs_eq ts _ k k' h.2
   obtain ⟨cs, rfl⟩ : ∃ cs, v = .agg cs := ⟨_, h.1.symm⟩
   simp only [cellsV] at h1
   simp only [unq, view, cellsV, h1]; exact ⟨trivial, h2⟩
 | .sl ts, v, k, k', h => by
   by_cases hv : ∃ n m f, v = .sq n m f
   ·obtain ⟨n, m, f, rfl⟩ := hv
    simp only [fxL, fxR] at h
    obtain ⟨_, h2⟩ := accJ_eq (P := fun _ => True) (fun j k k' hj => ⟨trivial, (unqs_eq ts (f j) k k' hj).2⟩) m k k' h
    exact ⟨rfl, h2⟩
   ·cases v <;> first | exact (hv ⟨_, _, _, rfl⟩).elim | (simp only [fxL, fxR, List.cons.injEq] at h; simp only [unq]; exact ⟨h.1.symm, h.2⟩)
 | .fn f xs ys, v, k, k', h => by
   simp only [fxL, fxR, List.cons.injEq] at h
   obtain ⟨h1, h2⟩ := unqs_eq xs _ _ _ h.2
   obtain ⟨h3, h4⟩ := unqs_eq ys _ _ _ h2
   obtain ⟨us, vs, rfl⟩ : ∃ us vs, v = .fn f us vs := ⟨_, _, h.1.symm⟩
   simp only [fxs] at h1
   simp only [fys] at h3
   simp only [unq, view, fxs, fys, h1, h3]; exact ⟨trivial, h4⟩
 | .pd ts, v, k, k', h => by
   simp only [fxL, fxR, List.cons.injEq] at h
   obtain ⟨h1, h2⟩ := unqs_eq ts _ k k' h.2
   obtain ⟨cs, rfl⟩ : ∃ cs, v = .pd cs := ⟨_, h.1.symm⟩
   simp only [pdV] at h1
   simp only [unq, view, pdV, h1]; exact ⟨trivial, h2⟩
theorem unqs_eq : ∀ (ts : List Ty) (vs : List V) (k k' : List V), fxLs ts vs k = fxRs ts vs k' -> unqs ts vs = views ts vs /\ k = k'
 | [], vs, k, k', h => by
   simp only [fxLs, fxRs, List.cons.injEq, V.agg.injEq] at h
   simp only [unqs, views]; exact ⟨trivial, h.2⟩
 | t :: ts, vs, k, k', h => by
   simp only [fxLs, fxRs, List.cons.injEq, V.agg.injEq] at h
   obtain ⟨h1, h2⟩ := unq_eq t _ _ _ h.2
   obtain ⟨h3, h4⟩ := unqs_eq ts _ _ _ h2
   have h0 := h.1
   cases vs with
   | nil => cases h0
   | cons v vs =>
     simp only [hdV, tlV] at h1 h3
     simp only [unqs, views, hdV, tlV, h1, h3]; exact ⟨trivial, h4⟩
end
mutual
theorem fx_ok : ∀ (t : Ty) (v : V) (k k' : List V), okTy t = true -> fxL t v k = fxR t v k' -> hasTy t v /\ k = k'
 | .int _, v, k, k', _, h => by
   simp only [fxL, fxR, List.cons.injEq] at h
   simp only [view] at h; simp only [hasTy]; exact ⟨h.1.symm, h.2⟩
 | .bool, v, k, k', _, h => by
   simp only [fxL, fxR, List.cons.injEq, view] at h
   simp only [hasTy]
   exact ⟨.inl h.1.symm, h.2⟩
 | .str, v, k, k', _, h => by
   simp only [fxL, fxR, List.cons.injEq] at h
   simp only [view] at h; simp only [hasTy]; exact ⟨h.1.symm, h.2⟩
 | .agg ts, v, k, k', ho, h => by
   simp only [fxL, fxR, List.cons.injEq] at h; simp only [okTy] at ho
   obtain ⟨h1, h2⟩ := fxs_ok ts _ k k' ho h.2
   simp only [hasTy]; exact ⟨⟨h.1.symm, h1⟩, h2⟩
 | .sl ts, v, k, k', ho, h => by
   have ho' := ho
   simp only [okTy, Bool.and_eq_true] at ho
   by_cases hv : ∃ n m f, v = .sq n m f
   ·obtain ⟨n, m, f, rfl⟩ := hv
    simp only [fxL, fxR] at h
    obtain ⟨h1, h2⟩ := accJ_eq (P := fun j => hasTys ts (f j)) (fun j k k' hj => fxs_ok ts (f j) k k' ho.2 hj) m k k' h
    simp only [hasTy, lenV, atV, bndL]
    exact ⟨⟨.inr rfl, ho.1, h1⟩, h2⟩
   ·have h' : view (.sl ts) v = v /\ k = k' := by
     cases v <;> first | exact (hv ⟨_, _, _, rfl⟩).elim | (simp only [fxL, fxR, List.cons.injEq] at h; exact h)
    have := hasTys_views [.sl ts] [v] (by simp only [okTys, ho', Bool.and_true]) (by simp only [views, hdV, tlV, h'.1])
    simp only [hasTys, hdV] at this
    exact ⟨this.2.1, h'.2⟩
 | .fn f xs ys, v, k, k', ho, h => by
   simp only [fxL, fxR, List.cons.injEq] at h; simp only [okTy, Bool.and_eq_true] at ho
   obtain ⟨h1, h2⟩ := fxs_ok xs _ _ _ ho.1 h.2
   obtain ⟨h3, h4⟩ := fxs_ok ys _ _ _ ho.2 h2
   simp only [hasTy]; exact ⟨⟨h.1.symm, h1, h3⟩, h4⟩
 | .pd ts, v, k, k', ho, h => by
   simp only [fxL, fxR, List.cons.injEq] at h; simp only [okTy, Bool.and_eq_true] at ho
   obtain ⟨h1, h2⟩ := fxs_ok ts _ k k' ho.2 h.2
   simp only [hasTy]; exact ⟨⟨h.1.symm, ho.1, h1⟩, h2⟩
theorem fxs_ok : ∀ (ts : List Ty) (vs : List V) (k k' : List V), okTys ts = true -> fxLs ts vs k = fxRs ts vs k' -> hasTys ts vs /\ k = k'
 | [], vs, k, k', _, h => by
   simp only [fxLs, fxRs, List.cons.injEq, V.agg.injEq] at h
   simp only [hasTys]; exact ⟨h.1.symm, h.2⟩
 | t :: ts, vs, k, k', ho, h => by
   simp only [fxLs, fxRs, List.cons.injEq, V.agg.injEq] at h; simp only [okTys, Bool.and_eq_true] at ho
   obtain ⟨h1, h2⟩ := fx_ok t _ _ _ ho.1 h.2
   obtain ⟨h3, h4⟩ := fxs_ok ts _ _ _ ho.2 h2
   simp only [hasTys]; exact ⟨⟨h.1.symm, h1, h3⟩, h4⟩
end
def mkC (ts : List Ty) (pre : List V -> Prop) (r : List V -> V) : PCon := fun ds => some ((fxLs ts ds [], fxRs ts ds []), pre (unqs ts ds), r (unqs ts ds))
theorem mkC_okG {α : Type} {P : Program} {eqs : List TypeId} {its : List IFun} {ct : CTab} {f : FuncId} {fn : Func} {sf : SFun} {un : Unr} {ts : List Ty} {pre : List V -> Prop} {r : List V -> V} {K0 : V -> T α} {Q0 : V -> α -> Prop} (hK0 : ∀ w0 r v, sat (LPof w0 (SV ct)) (K0 v) (Q0 r) -> toA v = toA r) (hT : TabOk P eqs its ct) (hE : ∀ t ∈ eqs, EqInts P t) (hI : itsOk P eqs its) (hf : P.funcs[f]? = some fn)
 (hn : (fn.name == "runtime.NumGoroutine") = false) (hc : compFun P eqs its fn = some sf) (hd : dstC sf.ntmps sf.body = true) (ho : okTys ts = true)
 (h : ∀ w0 ds, pre (views ts ds) -> sat (LPof w0 (SV ct)) (evFun (cfOf ct LV) (cpOf ct) un LV sf (views ts ds) [] fun v _ => K0 v) (Q0 (r (views ts ds)))) : (vP (mkC ts pre r)).Ok P f := by
 refine ⟨fun B m lh w args vs K hrel hargs hsp => ?_, fun _ _ _ _ _ hk ⟨ds, d, p, r, h1, h2, h3, h4, h5⟩ => ⟨ds, d, p, r, h1, h2, h3, h4, hk _ _ h5⟩, fun _ _ _ _ ⟨_, _, _, _, _, _, _, _, h⟩ => h⟩
 obtain ⟨ds, d, p, r', h1, h2, ⟨h30, h3⟩, h4, h5⟩ := hsp
 simp only [mkC, Option.some.injEq, Prod.mk.injEq] at h2
 obtain ⟨rfl, rfl, rfl⟩ := h2
 have hty := (fxs_ok ts ds [] [] ho h30).1
 rw [(unqs_eq ts ds [] [] h30).1] at h3 h4 h5
 have key2 := vP_okG (C := fun ds' => some ((ds', views ts ds), pre (views ts ds), r (views ts ds))) (P := P) (f := f) hK0 hT hE hI hf hn hc hd (fun w0 ds' d' p' r' e he hp _ => by
  simp only [Option.some.injEq, Prod.mk.injEq] at e
  obtain ⟨rfl, rfl, rfl⟩ := e
  simp only at he
  subst he
  exact h w0 ds hp)
 exact key2.sound B m lh w args vs K hrel hargs ⟨views ts ds, _, _, _, views_ok ts ds args hty h1, rfl, ⟨rfl, h3⟩, h4, h5⟩
theorem mkC_okL {ts : List Ty} {pre : List V -> Prop} {r : List V -> V} {e : Nat} (hL : ∀ ds, pre (views ts ds) -> okL e (r (views ts ds))) : ∀ ds d p r', mkC ts pre r ds = some (d, p, r') -> d.1 = d.2 -> p -> okL e r' := by
 intro ds d p r' h h1 h2
 simp only [mkC, Option.some.injEq, Prod.mk.injEq] at h
 obtain ⟨rfl, rfl, rfl⟩ := h
 rw [(unqs_eq ts ds [] [] h1).1] at h2 ⊢
 exact hL ds h2
theorem mkCL_okG {α : Type} {P : Program} {eqs : List TypeId} {its : List IFun} {ct : CTab} {f : FuncId} {fn : Func} {sf : SFun} {un : Unr} {e : Nat} {ty : TypeId} {ts : List Ty} {pre : List V -> Prop} {r : List V -> V} {K0 : V -> List O -> T α} {Q0 : V -> α -> Prop} (hK0 : ∀ w0 r v h, sat (LPof w0 (SV ct)) (K0 v h) (Q0 r) -> chkL h v = true /\ toA (outV e ty h v) = toA r) (hT : TabOk P eqs its ct) (hE : ∀ t ∈ eqs, EqInts P t) (hI : itsOk P eqs its) (hf : P.funcs[f]? = some fn)
 (hn : (fn.name == "runtime.NumGoroutine") = false) (hc : compFun P eqs its fn = some sf) (hd : dstC sf.ntmps sf.body = true) (ho : okTys ts = true)
 (h : ∀ w0 ds, pre (views ts ds) -> sat (LPof w0 (SV ct)) (evFun (cfOf ct LV) (cpOf ct) un LV sf (views ts ds) [] K0) (Q0 (r (views ts ds)))) : (vL e ty (mkC ts pre r)).Ok P f := by
 refine ⟨fun B m lh w args vs K hrel hargs hsp => ?_, fun _ _ _ _ _ hk ⟨ds, d, p, r, n, g, h1, h2, h3, h4, h5, h6⟩ => ⟨ds, d, p, r, n, g, h1, h2, h3, h4, h5, fun x new hx => hk _ _ (h6 x new hx)⟩, fun _ _ lh _ ⟨_, _, _, _, _, _, _, _, _, h4, h5, h6⟩ => let ⟨x, new, hx⟩ := exL (ty := ty) h4 h5 lh; h6 x new hx⟩
 obtain ⟨ds, d, p, r', n, g, h1, h2, ⟨h30, h3⟩, h4, h5, h6⟩ := hsp
 simp only [mkC, Option.some.injEq, Prod.mk.injEq] at h2
 obtain ⟨rfl, rfl, rfl⟩ := h2
 have hty := (fxs_ok ts ds [] [] ho h30).1
 rw [(unqs_eq ts ds [] [] h30).1] at h3 h4 h5 h6
 have key2 := vL_okG (e := e) (ty := ty) (C := fun ds' => some ((ds', views ts ds), pre (views ts ds), r (views ts ds))) (P := P) (f := f) hK0 hT hE hI hf hn hc hd (fun w0 ds' d' p' r' e he hp => by
  simp only [Option.some.injEq, Prod.mk.injEq] at e
  obtain ⟨rfl, rfl, rfl⟩ := e
  simp only at he
  subst he
  exact h w0 ds hp)
 exact key2.sound B m lh w args vs K hrel hargs ⟨views ts ds, _, _, _, n, g, views_ok ts ds args hty h1, rfl, ⟨rfl, h3⟩, h4, h5, h6⟩
abbrev Rho := List (Option (Option Nat))
def rhoAt (ρ : Rho) (k : Nat) : Option (Option Nat) := match nth ρ k with
 | some x => x
 | none => none
mutual
def subV (ρ : Rho) : V -> V -> Prop
 | v, .any => True ∨ v = .any
 | .int k a, .int k' b => k = k' /\ a = b
 | .bool a, .bool b => a = b
 | .kb a, .bool b => a = b
 | .kb a, .kb b => a = b
 | .str a, .str b => a = b
 | .agg xs, .agg ys => subVs ρ xs ys
 | .tup xs, .tup ys => subVs ρ xs ys
 | .fn f xs ys, .fn g us vs => f = g /\ subVs ρ xs us /\ subVs ρ ys vs
 | .sl n f, .sl m g => n = m /\ f = g
 | .pd cs, .pd ds => cs = ds
 | .pl k o, .pl k1 o1 => rhoAt ρ k1 = some (some k) /\ o = o1
 | .pe k i j, .pe k1 i1 j1 => rhoAt ρ k1 = some (some k) /\ i = i1 /\ j = j1
 | .ss k o n c, .ss k1 o1 n1 c1 => rhoAt ρ k1 = some (some k) /\ o = o1 /\ n = n1 /\ c = c1
 | .gs k n, .gs k1 n1 => rhoAt ρ k1 = some (some k) /\ n = n1
 | .ns, .gs k1 n1 => rhoAt ρ k1 = some none /\ n1 = 0
 | .ns, .ns => True
 | .np, .np => True
 | .yl l, .yl l1 => l = l1
 | .go k o n, .go k1 o1 n1 => rhoAt ρ k1 = some (some k) /\ o = o1 /\ n = n1
 | _, _ => False
def subVs (ρ : Rho) : List V -> List V -> Prop
 | [], [] => True
 | x :: xs, y :: ys => subV ρ x y /\ subVs ρ xs ys
 | _, _ => False
end
def envSub (ρ : Rho) (e : Env) : Env -> Prop
 | [] => True
 | (s, v) :: l => subV ρ (getS e s) v /\ envSub ρ e l
def blkSub (ρ : Rho) (h : List O) (k : Nat) : O -> Prop
 | .cells cs ty => ∃ j ds, rhoAt ρ k = some (some j) /\ nth h j = some (.cells ds ty) /\ subVs ρ ds cs
 | .gl e n f ty => (rhoAt ρ k = some none /\ n = 0) ∨ ∃ j m g, rhoAt ρ k = some (some j) /\ nth h j = some (.gl e m g ty) /\ n <= m /\ ∀ i, i < n -> okE e (f i) = true /\ subVs ρ (g i) (f i)
 | .dead => False
 | .hid => True
def heapSub (ρ : Rho) (h : List O) : Nat -> List O -> Prop
 | _, [] => True
 | k, o :: l => blkSub ρ h k o /\ heapSub ρ h (k + 1) l
def injFrom (x : Option (Option Nat)) : Rho -> Bool
 | [] => true
 | y :: l => (match x, y with
   | some (some a), some (some b) => !Nat.beq a b
   | _, _ => true) && injFrom x l
def injR : Rho -> Bool
 | [] => true
 | x :: l => injFrom x l && injR l
def idTo (ρ : Rho) : Nat -> Bool
 | 0 => true
 | k + 1 => (match rhoAt ρ k with
   | some (some j) => Nat.beq j k
   | _ => false) && idTo ρ k
def nuOf (ρ : Rho) (ν : Nu) : Nu := ⟨fun k => match rhoAt ρ k with
 | some (some j) => ν j
 | some none => some none
 | none => none, ν.z⟩
section
variable {w0 : World} {ν : Nu} {ρ : Rho} {lh : List LObj}
mutual
theorem subV_ok : ∀ (v v1 : V) (a : AVal), subV ρ v v1 -> vr w0 ν.z ν v a -> vr w0 ν.z (nuOf ρ ν) v1 a
 | .int k n, v1, a, h, hv => by
   cases v1 <;> simp only [subV] at h
   case int => obtain ⟨rfl, rfl⟩ := h; simp only [vr] at hv ⊢; exact hv
   case any => simp only [vr]
 | .bool b, v1, a, h, hv => by
   cases v1 <;> simp only [subV] at h
   case bool => subst h; simp only [vr] at hv ⊢; exact hv
   case any => simp only [vr]
 | .kb b, v1, a, h, hv => by
   cases v1 <;> simp only [subV] at h
   case bool => subst h; simp only [vr] at hv ⊢; exact hv
   case kb => subst h; simp only [vr] at hv ⊢; exact hv
   case any => simp only [vr]
 | .str b, v1, a, h, hv => by
   cases v1 <;> simp only [subV] at h
   case str => subst h; simp only [vr] at hv ⊢; exact hv
   case any => simp only [vr]
 | .agg xs, v1, a, h, hv => by
   cases v1 <;> simp only [subV] at h
   case agg => simp only [vr] at hv ⊢; obtain ⟨az, h1, h2⟩ := hv; exact ⟨az, h1, subVs_ok xs _ az h h2⟩
   case any => simp only [vr]
 | .tup xs, v1, a, h, hv => by
   cases v1 <;> simp only [subV] at h
   case tup => simp only [vr] at hv ⊢; obtain ⟨az, h1, h2⟩ := hv; exact ⟨az, h1, subVs_ok xs _ az h h2⟩
   case any => simp only [vr]
 | .fn f xs ys, v1, a, h, hv => by
   cases v1 <;> simp only [subV] at h
   case fn => obtain ⟨rfl, g1, g2⟩ := h; simp only [vr] at hv ⊢; obtain ⟨az, bs, h1, h2, h3⟩ := hv; exact ⟨az, bs, h1, subVs_ok xs _ az g1 h2, subVs_ok ys _ bs g2 h3⟩
   case any => simp only [vr]
 | .sl n f, v1, a, h, hv => by
   cases v1 <;> simp only [subV] at h
   case sl => obtain ⟨rfl, rfl⟩ := h; simp only [vr] at hv ⊢; exact hv
   case any => simp only [vr]
 | .pd cs, v1, a, h, hv => by
   cases v1 <;> simp only [subV] at h
   case pd => subst h; simp only [vr] at hv ⊢; exact hv
   case any => simp only [vr]
 | .pl k o, v1, a, h, hv => by
   cases v1 <;> simp only [subV] at h
   case pl => obtain ⟨h1, rfl⟩ := h; simp only [vr] at hv ⊢; simp only [nuOf, h1]; exact hv
   case any => simp only [vr]
 | .pe k i j, v1, a, h, hv => by
   cases v1 <;> simp only [subV] at h
   case pe => obtain ⟨h1, rfl, rfl⟩ := h; simp only [vr] at hv ⊢; simp only [nuOf, h1]; exact hv
   case any => simp only [vr]
 | .ss k o n c, v1, a, h, hv => by
   cases v1 <;> simp only [subV] at h
   case ss => obtain ⟨h1, rfl, rfl, rfl⟩ := h; simp only [vr] at hv ⊢; simp only [nuOf, h1]; exact hv
   case any => simp only [vr]
 | .gs k n, v1, a, h, hv => by
   cases v1 <;> simp only [subV] at h
   case gs => obtain ⟨h1, rfl⟩ := h; simp only [vr] at hv ⊢; simp only [nuOf, h1]; exact hv
   case any => simp only [vr]
 | .ns, v1, a, h, hv => by
   cases v1 <;> simp only [subV] at h
   case gs => obtain ⟨h1, rfl⟩ := h; simp only [vr] at hv ⊢; simp only [nuOf, h1]; exact .inl ⟨trivial, trivial, hv⟩
   case ns => simp only [vr] at hv ⊢; exact hv
   case any => simp only [vr]
 | .np, v1, a, h, hv => by
   cases v1 <;> simp only [subV] at h
   case np => simp only [vr] at hv ⊢; exact hv
   case any => simp only [vr]
 | .any, v1, a, h, hv => by
   cases v1 <;> simp only [subV] at h
   case any => simp only [vr]
 | .gd b v, v1, a, h, hv => by
   cases v1 <;> simp only [subV] at h
   case any => simp only [vr]
 | .yl l, v1, a, h, hv => by
   cases v1 <;> simp only [subV] at h
   case yl => subst h; simp only [vr] at hv ⊢; exact hv
   case any => simp only [vr]
 | .go k o n, v1, a, h, hv => by
   cases v1 <;> simp only [subV] at h
   case go => obtain ⟨h1, rfl, rfl⟩ := h; simp only [vr] at hv ⊢; simp only [nuOf, h1]; exact hv
   case any => simp only [vr]
 | .sq n m f, v1, a, h, hv => by
   cases v1 <;> simp only [subV] at h
   case any => simp only [vr]
theorem subVs_ok : ∀ (vs us : List V) (az : List AVal), subVs ρ vs us -> vrs w0 ν.z ν vs az -> vrs w0 ν.z (nuOf ρ ν) us az
 | [], [], az, _, hv => by simp only [vrs] at hv ⊢; exact hv
 | v :: vs, u :: us, az, h, hv => by
   simp only [subVs] at h
   simp only [vrs] at hv ⊢
   obtain ⟨x, xs, h1, h2, h3⟩ := hv
   exact ⟨x, xs, h1, subV_ok v u x h.1 h2, subVs_ok vs us xs h.2 h3⟩
 | [], _ :: _, _, h, _ => by simp only [subVs] at h
 | _ :: _, [], _, h, _ => by simp only [subVs] at h
end
theorem envSub_at : ∀ {e e1 : Env} (s : Nat), envSub ρ e e1 -> getS e1 s = .any ∨ subV ρ (getS e s) (getS e1 s)
 | e, [], s, _ => .inl rfl
 | e, (d, v) :: l, s, h => by
   simp only [envSub] at h
   rw [getS_cons]
   by_cases hd : s = d
   ·subst hd; rw [if_pos rfl]; exact .inr h.1
   ·rw [if_neg hd]; exact envSub_at s h.2
theorem heapSub_at {h : List O} : ∀ {l : List O} {k i : Nat} {o : O}, heapSub ρ h k l -> l[i]? = some o -> blkSub ρ h (k + i) o
 | [], _, _, _, _, hi => by simp at hi
 | x :: l, k, 0, o, hh, hi => by simp at hi; subst hi; exact hh.1
 | x :: l, k, i + 1, o, hh, hi => by
   have := heapSub_at (i := i) hh.2 (by simpa using hi)
   rwa [show k + 1 + i = k + (i + 1) by omega] at this
theorem injFrom_ok : ∀ {l : Rho} {a i : Nat}, injFrom (some (some a)) l = true -> nth l i = some (some (some a)) -> False
 | [], _, _, _, h => by cases h
 | y :: l, a, 0, h, hi => by
   simp only [nth, Option.some.injEq] at hi; subst hi
   simp [injFrom] at h
 | y :: l, a, i + 1, h, hi => by
   simp only [injFrom, Bool.and_eq_true] at h
   exact injFrom_ok h.2 hi
theorem injR_ok : ∀ {l : Rho} {a i j : Nat}, injR l = true -> nth l i = some (some (some a)) -> nth l j = some (some (some a)) -> i = j
 | [], _, _, _, _, h, _ => by cases h
 | x :: l, a, 0, 0, _, _, _ => rfl
 | x :: l, a, i + 1, 0, h, hi, hj => by
   simp only [injR, Bool.and_eq_true] at h
   simp only [nth, Option.some.injEq] at hj; subst hj
   exact (injFrom_ok h.1 hi).elim
 | x :: l, a, 0, j + 1, h, hi, hj => by
   simp only [injR, Bool.and_eq_true] at h
   simp only [nth, Option.some.injEq] at hi; subst hi
   exact (injFrom_ok h.1 hj).elim
 | x :: l, a, i + 1, j + 1, h, hi, hj => by
   simp only [injR, Bool.and_eq_true] at h
   rw [injR_ok h.2 hi hj]
theorem idTo_ok : ∀ {n k : Nat}, idTo ρ n = true -> k < n -> rhoAt ρ k = some (some k)
 | n + 1, k, h, hk => by
   simp only [idTo, Bool.and_eq_true] at h
   rcases Nat.lt_succ_iff_lt_or_eq.1 hk with hk | rfl
   ·exact idTo_ok h.2 hk
   ·have h1 := h.1
    split at h1
    ·rename_i j hj; rw [hj, Nat.eq_of_beq_eq_true h1]
    ·cases h1
theorem rhoAt_some {k j : Nat} (h : rhoAt ρ k = some (some j)) : nth ρ k = some (some (some j)) := by
 unfold rhoAt at h
 split at h
 ·rename_i x hx; rw [hx, h]
 ·cases h
theorem SubV.ren (w0 : World) {nb : Nat} {e e1 : Env} {h h1 : List O} (ρ : Rho) (hl : Nat.beq (lenL ρ) (lenL h1) = true) (hi : injR ρ = true) (hid : idTo ρ nb = true) (he : envSub ρ e e1) (hh : heapSub ρ h 0 h1) : SubV w0 nb e h e1 h1 := by
 intro N ν nV nS sl lh hs hr
 have hlen : ρ.length = h1.length := by have := Nat.eq_of_beq_eq_true hl; rwa [lenL_eq, lenL_eq] at this
 have hlive : ∀ k, liveO h1 k -> ∀ x, nuOf ρ ν k = some (some x) -> ∃ j, rhoAt ρ k = some (some j) /\ liveO h j /\ ν j = some (some x) := fun k hk x hx => by
  have hx' := hx
  simp only [nuOf] at hx
  split at hx
  ·rename_i j hj
   refine ⟨j, hj, ?_, hx⟩
   rcases live_get hk with ⟨cs, ty, hc⟩ | ⟨e', n, f, ty, hc⟩
   ·obtain ⟨j', ds, g1, g2, g3⟩ := heapSub_at (k := 0) (i := k) hh hc
    rw [Nat.zero_add, hj] at g1; cases g1
    exact live_cells (by rwa [nth_eq] at g2)
   ·rcases heapSub_at (k := 0) (i := k) hh hc with ⟨g1, _⟩ | ⟨j', m, g, g1, g2, _⟩
    ·rw [Nat.zero_add, hj] at g1; cases g1
    ·rw [Nat.zero_add, hj] at g1; cases g1
     exact live_gl (by rwa [nth_eq] at g2)
  ·cases hx
  ·cases hx
 refine ⟨nuOf ρ ν, 0, 0, ⟨fun k x hk hx => by simp only [nuOf, idTo_ok hid hk]; exact hx, zle_refl _⟩, ⟨hs.len, fun i => ?_⟩, ⟨fun k o hk => ?_, fun k k' x x' hk hk' hx hx' hxx => ?_, fun k hk => ?_, fun k x hx => ?_, hr.zl, fun k x hk hx => let ⟨j, _, g2, g3⟩ := hlive k hk x hx; hr.zn j x g2 g3⟩⟩
 ·rcases envSub_at i he with h0 | h0
  ·rw [h0]; simp only [vr]
  ·exact subV_ok _ _ _ h0 (hs.at' i)
 ·have hb := heapSub_at (k := 0) (i := k) hh hk
  rw [Nat.zero_add] at hb
  cases o with
  | cells cs ty =>
    obtain ⟨j, ds, g1, g2, g3⟩ := hb
    rw [nth_eq] at g2
    obtain ⟨b, c, e', az, k1, k2, k3⟩ := hr.blk j _ g2
    exact ⟨b, c, e', az, by simp only [nuOf, g1]; exact k1, k2, subVs_ok _ _ _ g3 k3⟩
  | gl e' n f ty =>
    rcases hb with ⟨g1, rfl⟩ | ⟨j, m, g, g1, g2, g3, g4⟩
    ·exact .inl ⟨by simp only [nuOf, g1], rfl⟩
    ·rw [nth_eq] at g2
     rcases hr.blk j _ g2 with ⟨k1, k2⟩ | ⟨b, c, az, k1, k2, k3, k4, k5⟩
     ·exact .inl ⟨by simp only [nuOf, g1]; exact k1, by omega⟩
     ·exact .inr ⟨b, c, az, by simp only [nuOf, g1]; exact k1, k2, k3, ⟨by omega, by omega⟩, fun i hi => ⟨(g4 i hi).1, subVs_ok _ _ _ (g4 i hi).2 (k5 i (by omega)).2⟩⟩
  | dead => exact hb.elim
  | hid => trivial
 ·obtain ⟨j, g1, g2, g3⟩ := hlive k hk x hx
  obtain ⟨j', g1', g2', g3'⟩ := hlive k' hk' x' hx'
  have := hr.inj j j' x x' g2 g2' g3 g3' hxx
  subst this
  exact injR_ok hi (rhoAt_some g1) (rhoAt_some g1')
 ·simp only [nuOf, rhoAt, nth_eq]
  rw [List.getElem?_eq_none (by omega)]
 ·simp only [nuOf] at hx
  split at hx
  ·exact hr.rng _ x hx
  ·cases hx
  ·cases hx
theorem SubV.env (w0 : World) {nb : Nat} {e e1 : Env} {h : List O} (he : ∀ s, getS e1 s = .any ∨ getS e s = getS e1 s) : SubV w0 nb e h e1 h := by
 intro N ν nV nS sl lh hs hr
 refine ⟨ν, nV, nS, NuN.refl _ _, ⟨hs.len, fun i => ?_⟩, hr⟩
 rcases he i with h0 | h0
 ·rw [h0]; simp only [vr]
 ·rw [← h0]; exact hs.at' i
theorem SubV.refl (w0 : World) (nb : Nat) (e : Env) (h : List O) : SubV w0 nb e h e h := fun N ν nV nS sl lh hs hr => ⟨ν, nV, nS, NuN.refl _ _, hs, hr⟩
theorem SubV.trans {w0 : World} {nb : Nat} {e e1 e2 : Env} {h h1 h2 : List O} (a : SubV w0 nb e h e1 h1) (b : SubV w0 nb e1 h1 e2 h2) : SubV w0 nb e h e2 h2 := fun N ν nV nS sl lh hs hr => by
 obtain ⟨ν1, nV1, nS1, g0, g1, g2⟩ := a N ν nV nS sl lh hs hr
 obtain ⟨ν2, nV2, nS2, k0, k1, k2⟩ := b N ν1 nV1 nS1 sl lh g1 g2
 exact ⟨ν2, nV2, nS2, g0.trans k0, k1, k2⟩
end
def subT {α : Type} : T α -> List Bool -> T α
 | t, [] => t
 | .br _ x y, p :: ps => cond p (subT x ps) (subT y ps)
 | .und x y, p :: ps => cond p (subT x ps) (subT y ps)
 | .asm _ x, ps => subT x ps
 | .ob _ x, ps => subT x ps
 | .obi _ _ x, ps => subT x ps
 | .obp _ x, ps => subT x ps
 | .obq _ _ x, ps => subT x ps
 | t, _ => t
def pastT {α : Type} : T α -> T α
 | .ob _ x => pastT x
 | .obi _ _ x => pastT x
 | .obp _ x => pastT x
 | .obq _ _ x => pastT x
 | .asm _ x => pastT x
 | t => t
def eT : T (Ex × Env × List O) -> Env
 | .ret r => r.2.1
 | _ => []
def hT : T (Ex × Env × List O) -> List O
 | .ret r => r.2.2
 | _ => []
def rB : LBody -> RD
 | .i _ r => r
 | _ => ⟨[], .skip, .skip, [], 0⟩
def afT {α : Type} : T α -> Nat -> T α
 | .all f => f
 | _ => fun _ => .fail 0
def atT {α : Type} (t : T α) (p : List Bool) : T α := pastT (subT t p)
def slotsEq (e : Env) : Env -> Prop
 | [] => True
 | (s, v) :: l => getS e s = v /\ slotsEq e l
theorem slotsEq_at : ∀ {e e1 : Env} (s : Nat), slotsEq e e1 -> getS e1 s = .any ∨ getS e s = getS e1 s
 | e, [], s, _ => .inl rfl
 | e, (d, v) :: l, s, h => by
   simp only [slotsEq] at h
   rw [getS_cons]
   by_cases hd : s = d
   ·subst hd; rw [if_pos rfl]; exact .inr h.1
   ·rw [if_neg hd]; exact slotsEq_at s h.2
theorem SubV.slots (w0 : World) {nb : Nat} {e e1 : Env} {h h1 : List O} (hh : h = h1) (he : slotsEq e e1) : SubV w0 nb e h e1 h1 := by
 subst hh; exact SubV.env w0 fun s => slotsEq_at s he
theorem lp_ok {ct : CTab} {w0 : World} (hd : dstT ct = true) {lv nb : Nat} {un : Unr} {body : SCode} {e : Env} {h : List O} {Post : Ex -> Env -> List O -> Option Ex -> Prop} (bi : Nat)
 (I : Type) (inv : I -> Env × List O) (μ : I -> Nat) (h0 : ∃ i, SubV w0 nb e h (inv i).1 (inv i).2)
 (round : ∀ i, sat (LPof w0 (SV ct)) (evC (cfOf ct lv) (cpOf ct) un (lv, nb) bi body (inv i).1 (inv i).2 fun x e h => .ret (x, e, h)) fun r => match r.1 with
   | .normal => ∃ i', SubV w0 nb r.2.1 r.2.2 (inv i').1 (inv i').2 /\ μ i' < μ i
   | x => Post x r.2.1 r.2.2 none) : LPof w0 (SV ct) (lv, nb) (.s body) e h none Post :=
 loop_ok (fr := (lv, nb)) (cfOf_ok w0 ct hd lv) (cpOf_ok w0 ct _ lv) I inv μ h0 round
theorem ilp_ok {ct : CTab} {w0 : World} (hd : dstT ct = true) {lv nb : Nat} {un : Unr} {body : ICode} {rd : RD} {e : Env} {h : List O} {g : Option Ex} {Post : Ex -> Env -> List O -> Option Ex -> Prop} (bi bi' : Nat)
 (I : Type) (inv : I -> Env × List O × Option Ex) (μ : I -> Nat) (h0 : ∃ i, g = (inv i).2.2 /\ SubV w0 nb e h (inv i).1 (inv i).2.1)
 (round : ∀ i, sat (LPof w0 (SV ct)) (evIt (cfOf ct lv) (cpOf ct) un (lv, nb) rd (rdY (cfOf ct lv) (cpOf ct) un lv bi' rd) bi body (inv i).1 (inv i).2.1 (inv i).2.2 fun x e h g => .ret (x, e, h, g)) fun r => match r.1 with
   | .normal => ∃ i', r.2.2.2 = (inv i').2.2 /\ SubV w0 nb r.2.1 r.2.2.1 (inv i').1 (inv i').2.1 /\ μ i' < μ i
   | x => Post x r.2.1 r.2.2.1 r.2.2.2) : LPof w0 (SV ct) (lv, nb) (.i body rd) e h g Post :=
 iloop_ok (fr := (lv, nb)) (cfOf_ok w0 ct hd lv) (cpOf_ok w0 ct _ lv) I inv μ h0 round
def fieldsTys (P : Program) (rec : TypeId -> Option (List Ty)) : List Field -> Nat -> Option (List Ty × Nat)
 | [], off => some ([], off)
 | f :: l, off => match rec f.type, fieldsTys P rec l (off + P.cellsOf f.type) with
   | some ts, some (us, n) => if f.offset = off /\ ts.length = P.cellsOf f.type then some (ts ++ us, n) else none
   | _, _ => none
def cellTys (P : Program) : Nat -> TypeId -> Option (List Ty)
 | 0, _ => none
 | fu + 1, t => match P.underlying t with
   | some .bool => some [.bool]
   | some (.int k) => some [.int k]
   | some .string => some [.str]
   | some (.slice e) => match cellTys P fu e with
     | some ts => if ts.length = P.cellsOf e then some [.sl ts] else none
     | none => none
   | some (.struct fs) => match fieldsTys P (cellTys P fu) fs.toList 0 with
     | some (ts, n) => if n = P.cellsOf t then some ts else none
     | none => none
   | some (.array n e) => match cellTys P fu e with
     | some ts => if ts.length = P.cellsOf e /\ P.cellsOf t = n * P.cellsOf e then some (List.replicate n ts).flatten else none
     | none => none
   | _ => none
def rgI : IntKind -> Int -> Prop
 | .u8, n => 0 <= n /\ n <= 255
 | _, _ => True
theorem rgI_wf {k : IntKind} {n : Int} (h : (Lit.int k n).wf = true) : rgI k n := by
 have h1 : (decide (k.min <= n) && decide (n <= k.max)) = true := h
 rw [Bool.and_eq_true, decide_eq_true_eq, decide_eq_true_eq] at h1
 cases k <;> first | trivial | exact ⟨h1.1, h1.2⟩
mutual
def szTy : Ty -> V -> Prop
 | .int k, v => rgI k (iv v)
 | .str, v => (sv v).size <= 9223372036854775807
 | .agg ts, v => szTys ts (cellsV v)
 | .sl ts, v => ∀ i, i < lenV v -> szTys ts (atV v i)
 | _, _ => True
def szTys : List Ty -> List V -> Prop
 | [], _ => True
 | t :: ts, vs => szTy t (hdV vs) /\ szTys ts (tlV vs)
end
mutual
theorem szTy_view : ∀ (t : Ty) (v : V), szTy t v -> szTy t (view t v)
 | .int k, v, h => by simp only [view, szTy, iv] at h ⊢; exact h
 | .bool, _, _ => trivial
 | .str, v, h => by simp only [view, szTy, sv] at h ⊢; exact h
 | .agg ts, v, h => by simp only [view, szTy, cellsV] at h ⊢; exact szTys_views ts _ h
 | .sl ts, v, h => by simp only [view, szTy, lenV, atV] at h ⊢; exact fun i hi => szTys_views ts _ (h i hi)
 | .fn .., _, _ => trivial
 | .pd _, _, _ => trivial
theorem szTys_views : ∀ (ts : List Ty) (vs : List V), szTys ts vs -> szTys ts (views ts vs)
 | [], _, _ => trivial
 | t :: ts, vs, h => by simp only [szTys, views, hdV, tlV] at h ⊢; exact ⟨szTy_view t _ h.1, szTys_views ts _ h.2⟩
end
section
variable {w : World}
theorem szTys_append : ∀ {ts us : List Ty} {vs xs : List V}, hasTys ts vs -> szTys ts vs -> szTys us xs -> szTys (ts ++ us) (vs ++ xs)
 | [], _, _, _, h, _, k => by simp only [hasTys] at h; subst h; simpa using k
 | t :: ts, us, vs, xs, h, hz, k => by
   simp only [hasTys] at h
   rw [h.1]
   simp only [szTys] at hz
   simp only [List.cons_append, szTys, hdV, tlV]
   exact ⟨hz.1, szTys_append h.2.2 hz.2 k⟩
theorem hasTys_append : ∀ {ts us : List Ty} {vs xs : List V}, hasTys ts vs -> hasTys us xs -> hasTys (ts ++ us) (vs ++ xs)
 | [], _, _, _, h, k => by simp only [hasTys] at h; subst h; simpa using k
 | t :: ts, us, vs, xs, h, k => by
   simp only [hasTys] at h
   rw [h.1]
   simp only [List.cons_append, hasTys, hdV, tlV]
   exact ⟨trivial, h.2.1, hasTys_append h.2.2 k⟩
theorem gcells_of {w : World} {a : Addr} : ∀ (n i : Nat) (cs : List Value), (List.range' i n).mapM (fun j => w.cell? (a.add j)) = some cs -> gcells w a i n = some (cs.map ofVal) := by
 intro n
 induction n with
 | zero => intro i cs h; simp at h; subst h; rfl
 | succ n ih =>
   intro i cs h
   simp only [List.range'_succ, List.mapM_cons] at h
   cases hc : w.cell? (a.add i) with
   | none => simp [hc] at h
   | some v =>
     cases hr : (List.range' (i + 1) n).mapM (fun j => w.cell? (a.add j)) with
     | none => simp [hc, hr] at h
     | some l =>
       simp [hc, hr] at h
       subst h
       simp [gcells, hc, ih (i + 1) l hr]
end
theorem hasTys_cells : ∀ {ts : List Ty} {vs : List V}, hasTys ts vs -> ts.all isCellTy = true -> vs.all V.fc = true
 | [], vs, h, _ => by simp only [hasTys] at h; subst h; rfl
 | t :: ts, vs, h, ho => by
   simp only [hasTys] at h
   simp only [List.all_cons, Bool.and_eq_true] at ho
   rw [h.1]
   simp only [List.all_cons, Bool.and_eq_true]
   refine ⟨?_, hasTys_cells h.2.2 ho.2⟩
   have h1 := h.2.1
   cases t <;> simp only [hasTy] at h1
   case int => rw [h1]; rfl
   case bool => rcases h1 with h1 | h1 <;> (rw [h1]; rfl)
   case str => rw [h1]; rfl
   case sl => rcases h1.1 with h0 | h0 <;> (rw [h0]; rfl)
   all_goals simp [isCellTy] at ho
section
variable {P : Program}
theorem fieldsTys_cells {rec : TypeId -> Option (List Ty)} (hr : ∀ t ts, rec t = some ts -> ts.all isCellTy = true) : ∀ {fs : List Field} {off n : Nat} {ts : List Ty}, fieldsTys P rec fs off = some (ts, n) -> ts.all isCellTy = true
 | [], off, n, ts, h => by simp [fieldsTys] at h; rw [h.1]; rfl
 | f :: l, off, n, ts, h => by
   simp only [fieldsTys] at h
   split at h
   ·rename_i us vs m h1 h2
    split at h
    ·cases h; rw [List.all_append, hr _ _ h1, fieldsTys_cells hr h2]; rfl
    ·cases h
   ·cases h
theorem cellTys_cells : ∀ {fu : Nat} {t : TypeId} {ts : List Ty}, cellTys P fu t = some ts -> ts.all isCellTy = true
 | 0, _, _, h => by cases h
 | fu + 1, t, ts, h => by
   simp only [cellTys] at h
   split at h
   ·cases h; rfl
   ·cases h; rfl
   ·cases h; rfl
   ·split at h
    ·split at h
     ·cases h; rfl
     ·cases h
    ·cases h
   ·split at h
    ·rename_i us n hf
     split at h
     ·cases h; exact fieldsTys_cells (fun t ts => cellTys_cells (fu := fu)) hf
     ·cases h
    ·cases h
   ·split at h
    ·rename_i us hu
     split at h
     ·cases h
      rw [List.all_eq_true]; intro x hx
      obtain ⟨l, hl, hx⟩ := List.mem_flatten.1 hx
      rw [(List.mem_replicate.1 hl).2] at hx
      exact List.all_eq_true.1 (cellTys_cells hu) x hx
     ·cases h
    ·cases h
   ·cases h
variable {H : Type} {enc : TypeId × Value -> H} {w : World} {base : Nat} {spare : Nat -> Bool} {held : Bool}
end
end Go.Dx
namespace Go.Dx
open Go.Sx Go.RowKit
def ofArg : Value -> AVal
 | .agg cs => .agg (cs.toList.map ofVal)
 | v => ofVal v
theorem vrel_ofArg (v : Value) : vrel (fun _ => none) (ofArg v) v := by
 unfold ofArg; split
 ·rename_i cs; simp only [vrel]; exact ⟨cs, rfl, vrels_map_ofVal _ _⟩
 ·exact vrel_ofVal _ _
theorem vrels_ofArg : ∀ vs : List Value, vrels (fun _ => none) (vs.map ofArg) vs
 | [] => by simp [vrels]
 | v :: vs => by simp only [List.map_cons, vrels]; exact ⟨_, _, rfl, vrel_ofArg v, vrels_ofArg vs⟩
def argTy (P : Program) (fu : Nat) (t : TypeId) : Option Ty := match P.underlying t with
 | some (.struct _) => (cellTys P fu t).map .agg
 | some (.array _ _) => (cellTys P fu t).map .agg
 | some (.int k) => some (.int k)
 | some .bool => some .bool
 | _ => none
def argTys (P : Program) (fu : Nat) : List TypeId -> Option (List Ty)
 | [] => some []
 | t :: ts => match argTy P fu t, argTys P fu ts with
   | some x, some xs => some (x :: xs)
   | _, _ => none
section
variable {P : Program} {H : Type} {enc : TypeId × Value -> H} {W : World} {base : Nat}
mutual
theorem view_idem : ∀ (t : Ty) (v : V), view t (view t v) = view t v
 | .int k, v => by simp only [view, iv]
 | .bool, v => by simp only [view, bv]
 | .str, v => by simp only [view, sv]
 | .agg ts, v => by simp only [view, cellsV]; rw [views_idem ts]
 | .sl ts, v => by simp only [view, lenV, atV]; congr 1; funext i; exact views_idem ts _
 | .fn f xs ys, v => by simp only [view, fxs, fys]; rw [views_idem xs, views_idem ys]
 | .pd ts, v => by simp only [view, pdV]; rw [views_idem ts]
theorem views_idem : ∀ (ts : List Ty) (vs : List V), views ts (views ts vs) = views ts vs
 | [], vs => by simp only [views]
 | t :: ts, vs => by simp only [views, hdV, tlV]; rw [view_idem t, views_idem ts]
end
mutual
theorem fx_views : ∀ (t : Ty) (v : V) (k : List V), fxL t (view t v) k = fxR t (view t v) k
 | .int k, v, _ => by simp only [view, fxL, fxR, iv]
 | .bool, v, _ => by simp only [view, fxL, fxR, bv]
 | .str, v, _ => by simp only [view, fxL, fxR, sv]
 | .agg ts, v, k => by simp only [view, fxL, fxR, cellsV]; rw [fxs_views ts]
 | .sl ts, v, k => by
   have := view_idem (.sl ts) v
   simp only [view] at this ⊢
   simp only [fxL, fxR, view, this]
 | .fn f xs ys, v, k => by simp only [view, fxL, fxR, fxs, fys]; rw [fxs_views ys, fxs_views xs]
 | .pd ts, v, k => by simp only [view, fxL, fxR, pdV]; rw [fxs_views ts]
theorem fxs_views : ∀ (ts : List Ty) (vs : List V) (k : List V), fxLs ts (views ts vs) k = fxRs ts (views ts vs) k
 | [], vs, k => by simp only [views, fxLs, fxRs]
 | t :: ts, vs, k => by simp only [views, fxLs, fxRs, hdV, tlV]; rw [fxs_views ts, fx_views t]
end
end
end Go.Dx
namespace Go.Dx
open Go.Sx
inductive Leaf (J : Type) where
 | res (v : V)
 | head (j : J) (e : Env) (h : List O) (g : Option Ex)
structure Lp (J : Type) where
 fr : Nat × Nat
 body : LBody
 k : Ex -> Env -> List O -> Option Ex -> T (Leaf J)
section
variable {α β : Type}
def bindT : T α -> (α -> T β) -> T β
 | .ret a, f => f a
 | .br b x y, f => .br b (bindT x f) (bindT y f)
 | .ob b x, f => .ob b (bindT x f)
 | .obi c d x, f => .obi c d (bindT x f)
 | .obp p x, f => .obp p (bindT x f)
 | .obq a b x, f => .obq a b (bindT x f)
 | .fail n, _ => .fail n
 | .loop fr b e h g k, f => .loop fr b e h g fun x e h g => bindT (k x e h g) f
 | .all t, f => .all fun l => bindT (t l) f
 | .und x y, f => .und (bindT x f) (bindT y f)
 | .asm p x, f => .asm p (bindT x f)
theorem sat_bind {LP : LPred} {Q : β -> Prop} (f : α -> T β) : ∀ t : T α, sat LP (bindT t f) Q = sat LP t fun a => sat LP (f a) Q := by
 intro t
 induction t with
 | ret a => rfl
 | br b x y hx hy => simp only [bindT, sat, hx, hy]
 | ob b x hx => simp only [bindT, sat, hx]
 | obi c d x hx => simp only [bindT, sat, hx]
 | obp p x hx => simp only [bindT, sat, hx]
 | obq a b x hx => simp only [bindT, sat, hx]
 | fail n => rfl
 | loop fr b e h g k hk => simp only [bindT, sat, hk]
 | all t ht => simp only [bindT, sat, ht]
 | und x y hx hy => simp only [bindT, sat, hx, hy]
 | asm p x hx => simp only [bindT, sat, hx]
theorem sat_mono {LP : LPred} (hLP : ∀ fr b e h g (P P' : Ex -> Env -> List O -> Option Ex -> Prop), (∀ x e h g, P x e h g -> P' x e h g) -> LP fr b e h g P -> LP fr b e h g P') {Q Q' : α -> Prop} (hQ : ∀ a, Q a -> Q' a) : ∀ t : T α, sat LP t Q -> sat LP t Q' := by
 intro t
 induction t with
 | ret a => exact hQ a
 | br b x y hx hy => exact fun h => ⟨fun e => hx (h.1 e), fun e => hy (h.2 e)⟩
 | ob b x hx => exact fun h => ⟨h.1, hx h.2⟩
 | obi c d x hx => exact fun h => ⟨h.1, hx h.2⟩
 | obp p x hx => exact fun h => ⟨h.1, hx h.2⟩
 | obq a b x hx => exact fun h => ⟨h.1, hx h.2⟩
 | fail n => exact id
 | loop fr b e h g k hk => exact fun hs => hLP _ _ _ _ _ _ _ (fun x e h g => hk x e h g) hs
 | all t ht => exact fun h l => ht l (h l)
 | und x y hx hy => exact fun h => ⟨hx h.1, hy h.2⟩
 | asm p x hx => exact fun h hp => hx (h hp)
theorem LPof_mono (w0 : World) (S : Specs) : ∀ fr b e h g (P P' : Ex -> Env -> List O -> Option Ex -> Prop), (∀ x e h g, P x e h g -> P' x e h g) -> LPof w0 S fr b e h g P -> LPof w0 S fr b e h g P' := by
 intro fr b e h g P P' hP
 cases b with
 | s body => exact fun hl N nbS ν nV nS sl lh QA h1 h2 h3 h4 => hl N nbS ν nV nS sl lh QA h1 h2 h3 fun ex e' h' ν' sl' lh' nV' nS' g0 g1 g2 g3 => h4 ex e' h' ν' sl' lh' nV' nS' g0 g1 g2 (hP _ _ _ _ g3)
 | i body rd => exact fun hl N N0 ν nV nS sl sl0 lh QA h1 h2 h3 h4 h5 h6 h7 h8 => hl N N0 ν nV nS sl sl0 lh QA h1 h2 h3 h4 h5 h6 h7 fun ex e' h' g' ν' sl' lh' nV' nS' g0 g1 g2 g3 => h8 ex e' h' g' ν' sl' lh' nV' nS' g0 g1 g2 (hP _ _ _ _ g3)
end
mutual
def fitV (ρ : Rho) : V -> V -> V
 | .any, _ => .any
 | .int _ _, .int k a => .int k a
 | .bool _, .bool a => .bool a
 | .bool _, .kb a => .bool a
 | .kb _, .kb a => .kb a
 | .str _, .str a => .str a
 | .agg ys, .agg xs => .agg (fitVs ρ ys xs)
 | .tup ys, .tup xs => .tup (fitVs ρ ys xs)
 | .fn _ us vs, .fn f xs ys => .fn f (fitVs ρ us xs) (fitVs ρ vs ys)
 | .sl _ _, .sl n f => .sl n f
 | .pd _, .pd cs => .pd cs
 | .pl k1 _, .pl k o => match rhoAt ρ k1 with
   | some (some k') => cond (Nat.beq k' k) (.pl k1 o) .any
   | _ => .any
 | .pe k1 _ _, .pe k i j => match rhoAt ρ k1 with
   | some (some k') => cond (Nat.beq k' k) (.pe k1 i j) .any
   | _ => .any
 | .ss k1 _ _ _, .ss k o n c => match rhoAt ρ k1 with
   | some (some k') => cond (Nat.beq k' k) (.ss k1 o n c) .any
   | _ => .any
 | .gs k1 _, .gs k n => match rhoAt ρ k1 with
   | some (some k') => cond (Nat.beq k' k) (.gs k1 n) .any
   | _ => .any
 | .gs k1 _, .ns => match rhoAt ρ k1 with
   | some none => .gs k1 0
   | _ => .any
 | .ns, .ns => .ns
 | .np, .np => .np
 | .yl _, .yl l => .yl l
 | .go k1 _ _, .go k o n => match rhoAt ρ k1 with
   | some (some k') => cond (Nat.beq k' k) (.go k1 o n) .any
   | _ => .any
 | _, _ => .any
def fitVs (ρ : Rho) : List V -> List V -> List V
 | [], [] => []
 | y :: ys, x :: xs => fitV ρ y x :: fitVs ρ ys xs
 | [], _ :: _ => [.any]
 | _ :: _, [] => []
end
section
variable {ρ : Rho}
theorem rhoC {k k' : Nat} {x y : V} (hb : cond (Nat.beq k' k) x V.any = y) (hy : y ≠ V.any) : k' = k /\ x = y := by
 cases hc : Nat.beq k' k with
 | false => rw [hc] at hb; exact (hy hb.symm).elim
 | true => rw [hc] at hb; exact ⟨Nat.eq_of_beq_eq_true hc, hb⟩
mutual
theorem fitV_ok : ∀ (t v : V), fitV ρ t v = t -> subV ρ v t
 | .any, v, _ => by cases v <;> simp [subV]
 | .int k n, v, h => by cases v <;> simp only [fitV] at h <;> cases h <;> simp [subV]
 | .bool b, v, h => by cases v <;> simp only [fitV] at h <;> cases h <;> simp [subV]
 | .kb b, v, h => by cases v <;> simp only [fitV] at h <;> cases h <;> simp [subV]
 | .str b, v, h => by cases v <;> simp only [fitV] at h <;> cases h <;> simp [subV]
 | .agg ys, v, h => by
   cases v <;> simp only [fitV] at h <;> first | (cases h; done) | skip
   simp only [V.agg.injEq] at h; simp only [subV]; exact fitVs_ok ys _ h
 | .tup ys, v, h => by
   cases v <;> simp only [fitV] at h <;> first | (cases h; done) | skip
   simp only [V.tup.injEq] at h; simp only [subV]; exact fitVs_ok ys _ h
 | .fn f us vs, v, h => by
   cases v <;> simp only [fitV] at h <;> first | (cases h; done) | skip
   simp only [V.fn.injEq] at h; simp only [subV]; exact ⟨h.1, fitVs_ok us _ h.2.1, fitVs_ok vs _ h.2.2⟩
 | .sl n f, v, h => by cases v <;> simp only [fitV] at h <;> cases h <;> simp [subV]
 | .pd cs, v, h => by cases v <;> simp only [fitV] at h <;> cases h <;> simp [subV]
 | .pl k1 o1, v, h => by
   cases v <;> simp only [fitV] at h <;> first | (cases h; done) | skip
   split at h
   ·rename_i k' hk
    obtain ⟨rfl, e⟩ := rhoC h (by simp)
    simp only [V.pl.injEq, true_and] at e
    simp only [subV]; exact ⟨hk, e⟩
   ·cases h
 | .pe k1 i1 j1, v, h => by
   cases v <;> simp only [fitV] at h <;> first | (cases h; done) | skip
   split at h
   ·rename_i k' hk
    obtain ⟨rfl, e⟩ := rhoC h (by simp)
    simp only [V.pe.injEq, true_and] at e
    simp only [subV]; exact ⟨hk, e⟩
   ·cases h
 | .ss k1 i1 j1 c1, v, h => by
   cases v <;> simp only [fitV] at h <;> first | (cases h; done) | skip
   split at h
   ·rename_i k' hk
    obtain ⟨rfl, e⟩ := rhoC h (by simp)
    simp only [V.ss.injEq, true_and] at e
    simp only [subV]; exact ⟨hk, e⟩
   ·cases h
 | .gs k1 n1, v, h => by
   cases v <;> simp only [fitV] at h <;> first | (cases h; done) | skip
   ·split at h
    ·rename_i k' hk
     obtain ⟨rfl, e⟩ := rhoC h (by simp)
     simp only [V.gs.injEq, true_and] at e
     simp only [subV]; exact ⟨hk, e⟩
    ·cases h
   ·split at h
    ·rename_i hk
     simp only [V.gs.injEq, true_and] at h
     simp only [subV]; exact ⟨hk, h.symm⟩
    ·cases h
 | .ns, v, h => by cases v <;> simp only [fitV] at h <;> cases h <;> simp [subV]
 | .np, v, h => by cases v <;> simp only [fitV] at h <;> cases h <;> simp [subV]
 | .yl l, v, h => by cases v <;> simp only [fitV] at h <;> cases h <;> simp [subV]
 | .gd b x, v, h => by cases v <;> simp only [fitV] at h <;> cases h
 | .go k1 i1 j1, v, h => by
   cases v <;> simp only [fitV] at h <;> first | (cases h; done) | skip
   split at h
   ·rename_i k' hk
    obtain ⟨rfl, e⟩ := rhoC h (by simp)
    simp only [V.go.injEq, true_and] at e
    simp only [subV]; exact ⟨hk, e⟩
   ·cases h
 | .sq n m f, v, h => by cases v <;> simp only [fitV] at h <;> cases h
theorem fitVs_ok : ∀ (ts vs : List V), fitVs ρ ts vs = ts -> subVs ρ vs ts
 | [], [], _ => by simp [subVs]
 | y :: ys, x :: xs, h => by
   simp only [fitVs, List.cons.injEq] at h
   simp only [subVs]; exact ⟨fitV_ok y x h.1, fitVs_ok ys xs h.2⟩
 | [], _ :: _, h => by simp [fitVs] at h
 | _ :: _, [], h => by simp [fitVs] at h
end
mutual
theorem subV_nil : ∀ (v t : V), subV [] v t -> subV ρ v t
 | .int .., t, h => by cases t <;> simp only [subV] at h ⊢ <;> exact h
 | .bool _, t, h => by cases t <;> simp only [subV] at h ⊢ <;> exact h
 | .kb _, t, h => by cases t <;> simp only [subV] at h ⊢ <;> exact h
 | .str _, t, h => by cases t <;> simp only [subV] at h ⊢ <;> exact h
 | .agg xs, t, h => by cases t <;> simp only [subV] at h ⊢ <;> first | exact subVs_nil _ _ h | exact h
 | .tup xs, t, h => by cases t <;> simp only [subV] at h ⊢ <;> first | exact subVs_nil _ _ h | exact h
 | .fn f xs ys, t, h => by cases t <;> simp only [subV] at h ⊢ <;> first | exact ⟨h.1, subVs_nil _ _ h.2.1, subVs_nil _ _ h.2.2⟩ | exact h
 | .sl .., t, h => by cases t <;> simp only [subV] at h ⊢ <;> exact h
 | .pd .., t, h => by cases t <;> simp only [subV] at h ⊢ <;> exact h
 | .pl .., t, h => by cases t <;> simp only [subV] at h ⊢ <;> first | exact h | (simp [rhoAt, nth] at h)
 | .pe .., t, h => by cases t <;> simp only [subV] at h ⊢ <;> first | exact h | (simp [rhoAt, nth] at h)
 | .ss .., t, h => by cases t <;> simp only [subV] at h ⊢ <;> first | exact h | (simp [rhoAt, nth] at h)
 | .gs .., t, h => by cases t <;> simp only [subV] at h ⊢ <;> first | exact h | (simp [rhoAt, nth] at h)
 | .ns, t, h => by cases t <;> simp only [subV] at h ⊢ <;> first | exact h | (simp [rhoAt, nth] at h)
 | .np, t, h => by cases t <;> simp only [subV] at h ⊢ <;> exact h
 | .any, t, h => by cases t <;> simp only [subV] at h ⊢ <;> exact h
 | .gd .., t, h => by cases t <;> simp only [subV] at h ⊢ <;> exact h
 | .yl _, t, h => by cases t <;> simp only [subV] at h ⊢ <;> exact h
 | .go .., t, h => by cases t <;> simp only [subV] at h ⊢ <;> first | exact h | (simp [rhoAt, nth] at h)
 | .sq .., t, h => by cases t <;> simp only [subV] at h ⊢ <;> exact h
theorem subVs_nil : ∀ (vs ts : List V), subVs [] vs ts -> subVs ρ vs ts
 | [], [], _ => by simp [subVs]
 | v :: vs, t :: ts, h => by simp only [subVs] at h ⊢; exact ⟨subV_nil v t h.1, subVs_nil vs ts h.2⟩
 | [], _ :: _, h => by simp [subVs] at h
 | _ :: _, [], h => by simp [subVs] at h
end
end
def VFok (ts : List Ty) (n : Nat) (f : FnV) : Prop := ∀ i, i < n -> okE (lenL ts) (views ts (f i)) = true /\ subVs [] (f i) (views ts (f i))
structure VF where
 k : Nat
 ts : List Ty
 n : Nat
 f : Nat -> List V
 ok : VFok ts n f
theorem view_one {t : Ty} (h : isCellTy t = true) (v : V) : (view t v).one = true := by cases t <;> first | (simp [isCellTy] at h; done) | (simp only [view]; rfl)
theorem views_one : ∀ {ts : List Ty}, ts.all isCellTy = true -> ∀ vs, (views ts vs).all V.one = true
 | [], _, _ => by simp [views]
 | t :: ts, h, vs => by
   simp only [List.all_cons, Bool.and_eq_true] at h
   simp only [views, List.all_cons, Bool.and_eq_true]; exact ⟨view_one h.1 _, views_one h.2 _⟩
theorem okE_views {ts : List Ty} (h : ts.all isCellTy = true) (vs : List V) : okE (lenL ts) (views ts vs) = true := okE_of (by rw [views_len, lenL_eq]) (views_one h vs)
theorem subV_view {t : Ty} (h : isCellTy t = true) (v : V) : subV [] (view t v) (view t v) := by cases t <;> first | (simp [isCellTy] at h; done) | (simp only [view, subV]; try simp)
theorem subVs_views : ∀ {ts : List Ty}, ts.all isCellTy = true -> ∀ vs, subVs [] (views ts vs) (views ts vs)
 | [], _, _ => by simp [views, subVs]
 | t :: ts, h, vs => by
   simp only [List.all_cons, Bool.and_eq_true] at h
   simp only [views, subVs]; exact ⟨subV_view h.1 _, subVs_views h.2 _⟩
theorem vf_view {ts : List Ty} (h : ts.all isCellTy = true) (n : Nat) (f : FnV) : VFok ts n (elV ts f) := fun i _ => by
 simp only [elV, views_idem]
 exact ⟨okE_views h _, subVs_views h _⟩
theorem vf_join {ts : List Ty} {n m : Nat} {f g : Nat -> List V} (h1 : VFok ts n f) (h2 : VFok ts m g) : VFok ts (n + m) (joinF n f g) := fun i hi => by
 unfold joinF
 by_cases hlt : i < n
 ·have hb : Nat.blt i n = true := Nat.ble_eq_true_of_le hlt
  rw [hb]; exact h1 i hlt
 ·have hb : Nat.blt i n = false := by
   cases hb : Nat.blt i n with
   | false => rfl
   | true => have := Nat.le_of_ble_eq_true hb; omega
  rw [hb]; exact h2 _ (by omega)
theorem vf_const {ts : List Ty} (h : ts.all isCellTy = true) (n : Nat) {ds : List V} (hf : fitVs [] (views ts ds) ds = views ts ds) : VFok ts n fun _ => ds := fun i _ => ⟨okE_views h _, fitVs_ok _ _ hf⟩
theorem vf_set {ts : List Ty} (h : ts.all isCellTy = true) {n j : Nat} {ds : List V} {f : Nat -> List V} (h1 : VFok ts n f) (hf : fitVs [] (views ts ds) ds = views ts ds) : VFok ts n fun i => cond (Nat.beq i j) ds (f i) := fun i hi => by
 show okE _ (views ts (cond (Nat.beq i j) ds (f i))) = true /\ subVs [] (cond (Nat.beq i j) ds (f i)) (views ts (cond (Nat.beq i j) ds (f i)))
 cases Nat.beq i j with
 | true => exact ⟨okE_views h _, fitVs_ok _ _ hf⟩
 | false => exact h1 i hi
def fitAll (ts : List Ty) (f : FnV) : Nat -> List (List V)
 | 0 => []
 | n + 1 => fitVs [] (views ts (f n)) (f n) :: fitAll ts f n
def viewAll (ts : List Ty) (f : FnV) : Nat -> List (List V)
 | 0 => []
 | n + 1 => views ts (f n) :: viewAll ts f n
theorem vf_all {ts : List Ty} (h : ts.all isCellTy = true) {f : Nat -> List V} : ∀ {n : Nat}, fitAll ts f n = viewAll ts f n -> VFok ts n f
 | 0, _ => fun i hi => by omega
 | n + 1, hf => fun i hi => by
   simp only [fitAll, viewAll, List.cons.injEq] at hf
   by_cases e : i = n
   ·subst e; exact ⟨okE_views h _, fitVs_ok _ _ hf.1⟩
   ·exact vf_all h hf.2 i (by omega)
def fitE (ρ : Rho) (e : Env) : Env -> Env
 | [] => []
 | (s, t) :: l => (s, fitV ρ t (getS e s)) :: fitE ρ e l
theorem fitE_ok {ρ : Rho} {e : Env} : ∀ {e1 : Env}, fitE ρ e e1 = e1 -> envSub ρ e e1
 | [], _ => trivial
 | (s, t) :: l, h => by
   simp only [fitE, List.cons.injEq, Prod.mk.injEq, true_and] at h
   exact ⟨fitV_ok _ _ h.1, fitE_ok h.2⟩
def vfAt : List VF -> Nat -> Option VF
 | [], _ => none
 | v :: l, k => cond (Nat.beq k v.k) (some v) (vfAt l k)
def fitO (ρ : Rho) (h : List O) (vf : List VF) (k : Nat) : O -> O
 | .cells cs ty => match rhoAt ρ k with
   | some (some j) => match nth h j with
     | some (.cells ds ty') => .cells (fitVs ρ cs ds) ty'
     | _ => .dead
   | _ => .dead
 | .gl e n f ty => match rhoAt ρ k with
   | some none => .gl e 0 f ty
   | some (some j) => match nth h j with
     | some (.gl e' m g ty') => match vfAt vf k with
       | some v => .gl e' m (elV v.ts g) ty'
       | none => .dead
     | _ => .dead
   | none => .dead
 | .dead => .hid
 | .hid => .hid
def fitH (ρ : Rho) (h : List O) (vf : List VF) : Nat -> List O -> List O
 | _, [] => []
 | k, o :: l => fitO ρ h vf k o :: fitH ρ h vf (k + 1) l
def glsOf (ρ : Rho) (h : List O) : List VF -> List (Nat × Nat × (Nat -> List V))
 | [] => []
 | v :: l => (match rhoAt ρ v.k with
   | some (some j) => match nth h j with
     | some (.gl e m g _) => (e, m, g)
     | _ => (0, 0, fun _ => [])
   | _ => (0, 0, fun _ => [])) :: glsOf ρ h l
def glsTo : List VF -> List (Nat × Nat × (Nat -> List V))
 | [] => []
 | v :: l => (lenL v.ts, v.n, v.f) :: glsTo l
theorem vfAt_gls {ρ : Rho} {h : List O} {k : Nat} {v : VF} : ∀ {vf : List VF}, vfAt vf k = some v -> glsOf ρ h vf = glsTo vf -> v.k = k /\ (match rhoAt ρ v.k with
 | some (some j) => match nth h j with
   | some (.gl e m g _) => (e, m, g)
   | _ => (0, 0, fun _ => [])
 | _ => (0, 0, fun _ => [])) = (lenL v.ts, v.n, v.f)
 | [], h1, _ => by cases h1
 | x :: l, h1, h2 => by
   simp only [glsOf, glsTo, List.cons.injEq] at h2
   simp only [vfAt] at h1
   cases hb : Nat.beq k x.k with
   | true => rw [hb] at h1; cases h1; exact ⟨(Nat.eq_of_beq_eq_true hb).symm, h2.1⟩
   | false => rw [hb] at h1; exact vfAt_gls h1 h2.2
theorem fitO_ok {ρ : Rho} {h : List O} {vf : List VF} {k : Nat} {o : O} (hf : fitO ρ h vf k o = o) (hg : glsOf ρ h vf = glsTo vf) : blkSub ρ h k o := by
 cases o with
 | cells cs ty =>
   simp only [fitO] at hf
   split at hf
   ·rename_i j hj
    split at hf
    ·rename_i ds ty' hn
     simp only [O.cells.injEq] at hf
     exact ⟨j, ds, hj, by rw [hn, hf.2], fitVs_ok _ _ hf.1⟩
    ·cases hf
   ·cases hf
 | gl e n f ty =>
   simp only [fitO] at hf
   split at hf
   ·rename_i hj
    simp only [O.gl.injEq, true_and, and_true] at hf
    exact .inl ⟨hj, hf.symm⟩
   ·rename_i j hj
    split at hf
    ·rename_i e' m g ty' hn
     split at hf
     ·rename_i v hv
      obtain ⟨rfl, h2⟩ := vfAt_gls hv hg
      rw [hj] at h2
      simp only [hn, Prod.mk.injEq] at h2
      simp only [O.gl.injEq] at hf
      obtain ⟨rfl, rfl, rfl, rfl⟩ := hf
      obtain ⟨h3, h4, h5⟩ := h2
      refine .inr ⟨j, m, g, hj, hn, Nat.le_refl _, fun i hi => ?_⟩
      have := v.ok i (by rw [← h4]; exact hi)
      rw [← h5, ← h3] at this
      exact ⟨this.1, subVs_nil _ _ this.2⟩
     ·cases hf
    ·cases hf
   ·cases hf
 | dead => simp only [fitO] at hf; cases hf
 | hid => trivial
theorem fitH_ok {ρ : Rho} {h : List O} {vf : List VF} (hg : glsOf ρ h vf = glsTo vf) : ∀ {l : List O} {k : Nat}, fitH ρ h vf k l = l -> heapSub ρ h k l
 | [], _, _ => trivial
 | o :: l, k, hf => by
   simp only [fitH, List.cons.injEq] at hf
   exact ⟨fitO_ok hf.1 hg, fitH_ok hg hf.2⟩
def rhoOk (ρ : Rho) (nb : Nat) (h1 : List O) : Bool := Nat.beq (lenL ρ) (lenL h1) && (injR ρ && idTo ρ nb)
theorem fit_sub (w0 : World) {ρ : Rho} {nb : Nat} {e e1 : Env} {h h1 : List O} {vf : List VF} (h0 : rhoOk ρ nb h1 = true) (he : fitE ρ e e1 = e1) (hh : fitH ρ h vf 0 h1 = h1) (hg : glsOf ρ h vf = glsTo vf) : SubV w0 nb e h e1 h1 := by
 unfold rhoOk at h0
 simp only [Bool.and_eq_true] at h0
 exact SubV.ren w0 ρ h0.1 h0.2.1 h0.2.2 (fitE_ok he) (fitH_ok hg hh)
def frR (zs : List VF) (v v' : V) : Prop := v' = v ∨ ∃ k n z, v = .gs k n /\ z ∈ zs /\ z.k = k /\ n <= z.n /\ v' = .sl n (elV z.ts z.f)
def frRs (zs : List VF) : List V -> List V -> Prop
 | [], [] => True
 | a :: l, b :: m => frR zs a b /\ frRs zs l m
 | _, _ => False
structure FR (zs : List VF) where
 k : Nat
 n : Nat
 f : Nat -> List V
 g : Nat -> List V
 ok : ∀ i, i < n -> frRs zs (f i) (g i)
section
variable {zs : List VF}
theorem frE (v : V) : frR zs v v := .inl rfl
theorem frG {z : VF} {k n : Nat} {ts : List Ty} {f : Nat -> List V} (hz : z ∈ zs) (hk : z.k = k) (ht : z.ts = ts) (hf : z.f = f) (hn : n <= z.n) : frR zs (.gs k n) (.sl n (elV ts f)) := .inr ⟨k, n, z, rfl, hz, hk, hn, by rw [ht, hf]⟩
theorem frRs_refl : ∀ l : List V, frRs zs l l
 | [] => trivial
 | a :: l => ⟨.inl rfl, frRs_refl l⟩
theorem fr_id (n : Nat) (f : FnV) : ∀ i, i < n -> frRs zs (f i) (f i) := fun i _ => frRs_refl _
theorem fr_set {n j : Nat} {ds ds' : List V} {f f' : Nat -> List V} (h1 : ∀ i, i < n -> frRs zs (f i) (f' i)) (h : frRs zs ds ds') : ∀ i, i < n -> frRs zs (cond (Nat.beq i j) ds (f i)) (cond (Nat.beq i j) ds' (f' i)) := fun i hi => by
 cases Nat.beq i j with
 | true => exact h
 | false => exact h1 i hi
def frAt : List (FR zs) -> Nat -> Option (FR zs)
 | [], _ => none
 | v :: l, k => cond (Nat.beq k v.k) (some v) (frAt l k)
def frzO (fr : List (FR zs)) (k : Nat) (o : O) : O := match vfAt zs k with
 | some _ => .hid
 | none => match o with
   | .gl e n f ty => match frAt fr k with
     | some r => .gl e n r.g ty
     | none => .gl e n f ty
   | o => o
def frzH (fr : List (FR zs)) : Nat -> List O -> List O
 | _, [] => []
 | k, o :: l => frzO fr k o :: frzH fr (k + 1) l
def zTys (zs : List VF) : Bool := zs.all fun v => v.ts.all isCellTy
def glsZ (h : List O) : List VF -> List (Option (Nat × Nat × (Nat -> List V)))
 | [] => []
 | v :: l => (match nth h v.k with
   | some (.gl e m g _) => some (e, m, g)
   | _ => none) :: glsZ h l
def glsZTo : List VF -> List (Option (Nat × Nat × (Nat -> List V)))
 | [] => []
 | v :: l => some (lenL v.ts, v.n, v.f) :: glsZTo l
def frOf (h : List O) : List (FR zs) -> List (Option (Nat × (Nat -> List V)))
 | [] => []
 | v :: l => (match nth h v.k with
   | some (.gl _ m g _) => some (m, g)
   | _ => none) :: frOf h l
def frTo : List (FR zs) -> List (Option (Nat × (Nat -> List V)))
 | [] => []
 | v :: l => some (v.n, v.f) :: frTo l
theorem glsZ_at {h : List O} {v : VF} : ∀ {l : List VF}, glsZ h l = glsZTo l -> v ∈ l -> ∃ ty, h[v.k]? = some (.gl (lenL v.ts) v.n v.f ty)
 | [], _, hm => by cases hm
 | x :: l, he, hm => by
   simp only [glsZ, glsZTo, List.cons.injEq] at he
   rcases List.mem_cons.1 hm with rfl | hm
   ·have h1 := he.1
    rw [nth_eq] at h1
    split at h1
    ·rename_i e m g ty hk
     simp only [Option.some.injEq, Prod.mk.injEq] at h1
     obtain ⟨rfl, rfl, rfl⟩ := h1
     exact ⟨ty, hk⟩
    ·cases h1
   ·exact glsZ_at he.2 hm
theorem frOf_at {h : List O} {k : Nat} {r : FR zs} : ∀ {l : List (FR zs)}, frOf h l = frTo l -> frAt l k = some r -> ∃ e ty, h[k]? = some (.gl e r.n r.f ty)
 | [], _, hm => by cases hm
 | x :: l, he, hm => by
   simp only [frOf, frTo, List.cons.injEq] at he
   simp only [frAt] at hm
   cases hb : Nat.beq k x.k with
   | true =>
     rw [hb] at hm; cases hm
     have h1 := he.1
     rw [nth_eq, ← Nat.eq_of_beq_eq_true hb] at h1
     split at h1
     ·rename_i e m g ty hk
      simp only [Option.some.injEq, Prod.mk.injEq] at h1
      obtain ⟨rfl, rfl⟩ := h1
      exact ⟨e, ty, hk⟩
     ·cases h1
   | false => rw [hb] at hm; exact frOf_at he.2 hm
theorem vfAt_none {v : VF} : ∀ {l : List VF}, v ∈ l -> vfAt l v.k ≠ none
 | x :: l, hm => by
   simp only [vfAt]
   cases hb : Nat.beq v.k x.k with
   | true => simp
   | false =>
     rcases List.mem_cons.1 hm with rfl | hm
     ·simp at hb
     ·exact vfAt_none hm
theorem frzH_get (fr : List (FR zs)) : ∀ (l : List O) (b k : Nat), (frzH fr b l)[k]? = (l[k]?).map (frzO fr (b + k))
 | [], b, k => by simp [frzH]
 | o :: l, b, 0 => by simp [frzH]
 | o :: l, b, k + 1 => by
   simp only [frzH, List.getElem?_cons_succ]
   rw [frzH_get fr l (b + 1) k, show b + 1 + k = b + (k + 1) by omega]
theorem frR_one {v v' : V} (h : frR zs v v') (hv : v.one = true) : v'.one = true := by
 rcases h with rfl | ⟨k, n, z, _, _, _, _, rfl⟩
 ·exact hv
 ·rfl
theorem frRs_one : ∀ {l m : List V}, frRs zs l m -> l.all V.one = true -> lenL m = lenL l /\ m.all V.one = true
 | [], [], _, _ => ⟨rfl, rfl⟩
 | a :: l, b :: m, h, ho => by
   simp only [List.all_cons, Bool.and_eq_true] at ho ⊢
   obtain ⟨h1, h2⟩ := frRs_one h.2 ho.2
   exact ⟨by simp only [lenL, h1], frR_one h.1 ho.1, h2⟩
 | [], _ :: _, h, _ => h.elim
 | _ :: _, [], h, _ => h.elim
theorem frz_sub (w0 : World) {nb : Nat} {e : Env} {h : List O} {fr : List (FR zs)} (hc : zTys zs = true) (hz : glsZ h zs = glsZTo zs) (hf : frOf h fr = frTo fr) : SubV w0 nb e h e (frzH fr 0 h) := by
 classical
 intro N ν nV nS sl lh hs hr
 have hB : ∀ v, v ∈ zs -> ∃ ty, h[v.k]? = some (.gl (lenL v.ts) v.n v.f ty) := fun v hv => glsZ_at hz hv
 let Bf : Nat -> Prop := fun j => ∃ v x, v ∈ zs /\ ν v.k = some (some x) /\ x.1 = j
 let z1 : List LObj := lh.mapIdx fun j o => if isCells ν.z[j]? = true ∨ Bf j then o else .hid
 have z1get : ∀ j, z1[j]? = (lh[j]?).map fun o => if isCells ν.z[j]? = true ∨ Bf j then o else .hid := fun j => by simp only [z1, List.getElem?_mapIdx]
 have hza : zle ν.z z1 := fun j az ty hj => by
  rw [z1get, hr.zl j az ty hj]
  simp only [Option.map_some]
  rw [if_pos (.inl (by rw [hj]; rfl))]
 have hzb : zle z1 lh := fun j az ty hj => by
  rw [z1get] at hj
  cases hl : lh[j]? with
  | none => rw [hl] at hj; cases hj
  | some o =>
    rw [hl] at hj
    simp only [Option.map_some, Option.some.injEq] at hj
    split at hj
    ·rw [hj]
    ·cases hj
 let ν1 : Nu := ⟨ν.m, z1⟩
 have hsub : ν.sub ν1 := ⟨fun _ _ h => h, hza⟩
 have hfr : ∀ {v v' : V} {a : AVal}, frR zs v v' -> vr w0 ν.z ν v a -> vr w0 z1 ν1 v' a := by
  intro v v' a hv hx
  rcases hv with rfl | ⟨k, n, z, rfl, hm, rfl, hn, rfl⟩
  ·exact vr_up hsub _ _ hx
  ·obtain ⟨ty, hk⟩ := hB z hm
   have hts : z.ts.all isCellTy = true := by unfold zTys at hc; exact List.all_eq_true.1 hc z hm
   simp only [vr] at hx ⊢
   rcases hr.blk _ _ hk with ⟨h1, h2⟩ | ⟨b, c, az, h1, h2, h3, h4, h5⟩
   ·rcases hx with ⟨_, g2, rfl⟩ | ⟨b, c, e, g1, _⟩
    ·subst g2; exact ⟨none, 0, 0, rfl, Nat.le_refl _, by omega, trivial, fun i hi => by omega⟩
    ·rw [h1] at g1; cases g1
   ·rcases hx with ⟨g1, _⟩ | ⟨b', c', e', g1, rfl, g3⟩
    ·rw [h1] at g1; cases g1
    ·rw [h1] at g1
     obtain ⟨rfl, rfl, rfl⟩ : b = b' /\ c = c' /\ lenL z.ts = e' := by simpa using g1
     have hb : z1[b]? = some (.cells az ty) := by
      rw [z1get, h2]
      simp only [Option.map_some]
      rw [if_pos (.inr ⟨z, _, hm, h1, rfl⟩)]
     refine ⟨some (.l b 0), c, lenL z.ts, rfl, g3, by omega, ⟨az, ty, hb, Nat.zero_le _⟩, fun i hi => ?_⟩
     have hi' : i * lenL z.ts + lenL z.ts <= az.length := by
      rw [h3, ← Nat.succ_mul]; exact Nat.mul_le_mul_right _ (by omega)
     have hok := z.ok i (by omega)
     refine ⟨_, _, rfl, ?_, vrs_le hza _ _ (vrs_mono0 (ν := nuOf [] ν) (fun k x hx => ?_) _ _ (subVs_ok _ _ _ hok.2 (h5 i (by omega)).2)), views_fc _ _ hts⟩
     ·simp only [Ptr.add, lds, hb, Nat.zero_add]
      rw [if_pos (by omega)]
     ·simp only [nuOf, rhoAt, nth] at hx; cases hx
 have hfrs : ∀ {l m : List V} {az : List AVal}, frRs zs l m -> vrs w0 ν.z ν l az -> vrs w0 z1 ν1 m az := by
  intro l
  induction l with
  | nil => intro m az h1 h2; cases m with | nil => simp only [vrs] at h2 ⊢; exact h2 | cons => exact h1.elim
  | cons a l ih =>
    intro m az h1 h2
    cases m with
    | nil => exact h1.elim
    | cons b m =>
      simp only [vrs] at h2 ⊢
      obtain ⟨x, xs, rfl, g1, g2⟩ := h2
      exact ⟨x, xs, rfl, hfr h1.1 g1, ih h1.2 g2⟩
 have hget : ∀ k o, (frzH fr 0 h)[k]? = some o -> o ≠ .hid -> vfAt zs k = none /\ ∃ o', h[k]? = some o' /\ o = (match o' with
  | .gl e n f ty => match frAt fr k with
    | some r => O.gl e n r.g ty
    | none => .gl e n f ty
  | o => o) := fun k o hk ho => by
  rw [frzH_get, Nat.zero_add] at hk
  cases hg : h[k]? with
  | none => rw [hg] at hk; cases hk
  | some o' =>
    rw [hg] at hk
    simp only [Option.map_some, Option.some.injEq, frzO] at hk
    cases hv : vfAt zs k with
    | some v => rw [hv] at hk; exact (ho hk.symm).elim
    | none => rw [hv] at hk; exact ⟨rfl, o', rfl, hk.symm⟩
 have hlive : ∀ k, liveO (frzH fr 0 h) k -> vfAt zs k = none /\ liveO h k := fun k hk => by
  rcases live_get hk with ⟨cs, ty, g⟩ | ⟨e, n, f, ty, g⟩
  ·obtain ⟨h1, o', h2, h3⟩ := hget k _ g (by simp)
   refine ⟨h1, ?_⟩
   cases o' with
   | cells cs' ty' => exact live_cells h2
   | gl e n f ty => exact live_gl h2
   | dead => cases h3
   | hid => cases h3
  ·obtain ⟨h1, o', h2, h3⟩ := hget k _ g (by simp)
   refine ⟨h1, ?_⟩
   cases o' with
   | cells cs' ty' => exact live_cells h2
   | gl e n f ty => exact live_gl h2
   | dead => cases h3
   | hid => cases h3
 refine ⟨ν1, nV, nS, NuN.of hsub _, hs.mono hsub, ⟨fun k o hk => ?_, fun k k' x x' h1 h2 => hr.inj k k' x x' (hlive k h1).2 (hlive k' h2).2, fun k hk => hr.dom k ?_, hr.rng, hzb, fun k x hk hx => ?_⟩⟩
 ·by_cases ho : o = .hid
  ·subst ho; trivial
  ·obtain ⟨h1, o', h2, h3⟩ := hget k o hk ho
   have hb := hr.blk k o' h2
   cases o' with
   | cells cs ty => subst h3; exact brel_mono hsub (by simp) (fun b az ty g _ => g) hb
   | dead => subst h3; exact hb
   | hid => subst h3; trivial
   | gl e n f ty =>
     cases hfa : frAt fr k with
     | none => rw [hfa] at h3; subst h3; exact brel_mono hsub (by simp) (fun b az ty g _ => g) hb
     | some r =>
       rw [hfa] at h3; subst h3
       obtain ⟨e', ty', g⟩ := frOf_at hf hfa
       rw [h2] at g
       simp only [Option.some.injEq, O.gl.injEq] at g
       obtain ⟨_, rfl, rfl, _⟩ := g
       rcases hb with ⟨k1, k2⟩ | ⟨b, c, az, k1, k2, k3, k4, k5⟩
       ·exact .inl ⟨k1, k2⟩
       ·refine .inr ⟨b, c, az, k1, k2, k3, k4, fun i hi => ?_⟩
        obtain ⟨q1, q2⟩ := k5 i hi
        unfold okE at q1 ⊢
        simp only [Bool.and_eq_true] at q1 ⊢
        obtain ⟨p1, p2⟩ := frRs_one (r.ok i hi) q1.2
        exact ⟨⟨by rw [p1]; exact q1.1, p2⟩, hfrs (r.ok i hi) q2⟩
 ·have hl : (frzH fr 0 h).length = h.length := by
   have gen : ∀ (l : List O) (b : Nat), (frzH fr b l).length = l.length := fun l => by
    induction l with
    | nil => intro b; rfl
    | cons o l ih => intro b; simp [frzH, ih]
   exact gen h 0
  omega
 ·obtain ⟨h1, h2⟩ := hlive k hk
  have hx' : ν k = some (some x) := hx
  have g1 := hr.zn k x h2 hx'
  show isCells z1[x.1]? = false
  rw [z1get]
  cases hl : lh[x.1]? with
  | none => rfl
  | some o =>
    simp only [Option.map_some]
    rw [if_neg]
    ·rfl
    ·rintro (g2 | ⟨v, x', hv, g2, g3⟩)
     ·rw [g1] at g2; cases g2
     ·obtain ⟨ty, hk'⟩ := hB v hv
      have := hr.inj v.k k x' x (live_gl hk') h2 g2 hx' g3
      rw [← this] at h1
      exact vfAt_none hv h1
end
inductive RT (S : Type) where
 | ret (v : V)
 | next (ρ : Rho) (s : S) (vf : List VF)
 | enter (ρ : Rho) (s : S) (vf : List VF)
 | nextz (zs : List VF) (fr : List (FR zs)) (ρ : Rho) (s : S) (vf : List VF)
 | enterz (zs : List VF) (fr : List (FR zs)) (ρ : Rho) (s : S) (vf : List VF)
 | br (b : Bool) (x y : RT S)
 | brt (x : RT S)
 | brf (y : RT S)
 | brx (b : Bool) (x : RT S)
 | bry (b : Bool) (y : RT S)
 | ob (b : Bool) (x : RT S)
 | obt (x : RT S)
 | obv (b : Bool) (h : b = true) (x : RT S)
 | obi (x : RT S)
 | obj (c b : Bool) (x : RT S)
 | obc (x : RT S)
 | obp (p : Prop) (x : RT S)
 | und (x y : RT S)
 | asm (p : Prop) (x : RT S)
 | all (f : Nat -> RT S)
 | fail
structure LD (J S : Type) where
 id : S -> J
 lp : J -> Lp J
 inv : S -> Env × List O × Option Ex
inductive FT (J : Type) where
 | res (v : V)
 | head (j : J) (g : Option Ex) (ok : Bool) (e : Env) (h : List O) (vs : List (Nat × Nat × (Nat -> List V)))
 | loop (fr : Nat × Nat) (b : LBody) (k : Ex -> Env -> List O -> Option Ex -> T (Leaf J)) (g : Option Ex) (ok : Bool) (e : Env) (h : List O) (vs : List (Nat × Nat × (Nat -> List V)))
 | headz (c : Bool) (zg : List (Option (Nat × Nat × (Nat -> List V)))) (fg : List (Option (Nat × (Nat -> List V)))) (j : J) (g : Option Ex) (ok : Bool) (e : Env) (h : List O) (vs : List (Nat × Nat × (Nat -> List V)))
 | loopz (c : Bool) (zg : List (Option (Nat × Nat × (Nat -> List V)))) (fg : List (Option (Nat × (Nat -> List V)))) (fr : Nat × Nat) (b : LBody) (k : Ex -> Env -> List O -> Option Ex -> T (Leaf J)) (g : Option Ex) (ok : Bool) (e : Env) (h : List O) (vs : List (Nat × Nat × (Nat -> List V)))
 | br (b : Bool) (x y : FT J)
 | brt (b : Bool) (x : FT J)
 | brf (b : Bool) (y : FT J)
 | brx (b : Bool) (x : FT J)
 | bry (b : Bool) (y : FT J)
 | ob (b : Bool) (x : FT J)
 | obt (b : Bool) (x : FT J)
 | obi (x : FT J)
 | obj (c b : Bool) (x : FT J)
 | obp (p : Prop) (x : FT J)
 | und (x y : FT J)
 | asm (p : Prop) (x : FT J)
 | all (f : Nat -> FT J)
 | fail (n : Nat)
section
variable {J S : Type}
def fitT (D : LD J S) : T (Leaf J) -> RT S -> FT J
 | .ret (.res v), .ret _ => .res v
 | .ret (.head j e h g), .next ρ s vf => .head j g (rhoOk ρ (D.lp j).fr.2 (D.inv s).2.1) (fitE ρ e (D.inv s).1) (fitH ρ h vf 0 (D.inv s).2.1) (glsOf ρ h vf)
 | .loop fr b e h g k, .enter ρ s vf => .loop fr b k g (rhoOk ρ fr.2 (D.inv s).2.1) (fitE ρ e (D.inv s).1) (fitH ρ h vf 0 (D.inv s).2.1) (glsOf ρ h vf)
 | .ret (.head j e h g), .nextz zs fz ρ s vf => .headz (zTys zs) (glsZ h zs) (frOf h fz) j g (rhoOk ρ (D.lp j).fr.2 (D.inv s).2.1) (fitE ρ e (D.inv s).1) (fitH ρ (frzH fz 0 h) vf 0 (D.inv s).2.1) (glsOf ρ (frzH fz 0 h) vf)
 | .loop fr b e h g k, .enterz zs fz ρ s vf => .loopz (zTys zs) (glsZ h zs) (frOf h fz) fr b k g (rhoOk ρ fr.2 (D.inv s).2.1) (fitE ρ e (D.inv s).1) (fitH ρ (frzH fz 0 h) vf 0 (D.inv s).2.1) (glsOf ρ (frzH fz 0 h) vf)
 | .br b x y, .br _ x' y' => .br b (fitT D x x') (fitT D y y')
 | .br b x _, .brt x' => .brt b (fitT D x x')
 | .br b _ y, .brf y' => .brf b (fitT D y y')
 | .br b x _, .brx _ x' => .brx b (fitT D x x')
 | .br b _ y, .bry _ y' => .bry b (fitT D y y')
 | .ob b x, .ob _ x' => .ob b (fitT D x x')
 | .ob b x, .obt x' => .obt b (fitT D x x')
 | .ob b x, .obv _ _ x' => .ob b (fitT D x x')
 | .obp p x, .obc x' => .obp p (fitT D x x')
 | .obi _ d x, .obt x' => .obt d (fitT D x x')
 | .obi _ d x, .ob _ x' => .ob d (fitT D x x')
 | .obi _ d x, .obv _ _ x' => .ob d (fitT D x x')
 | .obi _ _ x, .obi x' => .obi (fitT D x x')
 | .obi c d x, .obj _ _ x' => .obj c d (fitT D x x')
 | .obp p x, .obp _ x' => .obp p (fitT D x x')
 | .obq _ _ x, t => fitT D x t
 | .und x y, .und x' y' => .und (fitT D x x') (fitT D y y')
 | .asm p x, .asm _ x' => .asm p (fitT D x x')
 | .all f, .all g => .all fun l => fitT D (f l) (g l)
 | .fail _, .fail => .fail 1
 | _, _ => .fail 0
def sameT : T (Leaf J) -> RT S -> T (Leaf J)
 | .br b x y, .br _ x' y' => .br b (sameT x x') (sameT y y')
 | .br b x y, .brt x' => .br b (sameT x x') y
 | .br b x y, .brf y' => .br b x (sameT y y')
 | .br b x y, .brx _ x' => .br b (sameT x x') y
 | .br b x y, .bry _ y' => .br b x (sameT y y')
 | .ob b x, .ob _ x' => .ob b (sameT x x')
 | .ob b x, .obt x' => .ob b (sameT x x')
 | .ob b x, .obv _ _ x' => .ob b (sameT x x')
 | .obp p x, .obp _ x' => .obp p (sameT x x')
 | .obp p x, .obc x' => .obp p (sameT x x')
 | .obi c d x, .obt x' => .obi c d (sameT x x')
 | .obi c d x, .ob _ x' => .obi c d (sameT x x')
 | .obi c d x, .obv _ _ x' => .obi c d (sameT x x')
 | .obi c _ x, .obi x' => .obi c c (sameT x x')
 | .obi c d x, .obj _ _ x' => .obi c d (sameT x x')
 | .obq a _ x, t => .obq a a (sameT x t)
 | .und x y, .und x' y' => .und (sameT x x') (sameT y y')
 | .asm p x, .asm _ x' => .asm p (sameT x x')
 | .all f, .all g => .all fun l => sameT (f l) (g l)
 | t, _ => t
def toF (D : LD J S) : RT S -> FT J
 | .ret v => .res v
 | .next _ s vf => .head (D.id s) (D.inv s).2.2 true (D.inv s).1 (D.inv s).2.1 (glsTo vf)
 | .enter _ s vf => .loop (D.lp (D.id s)).fr (D.lp (D.id s)).body (D.lp (D.id s)).k (D.inv s).2.2 true (D.inv s).1 (D.inv s).2.1 (glsTo vf)
 | .nextz zs fz _ s vf => .headz true (glsZTo zs) (frTo fz) (D.id s) (D.inv s).2.2 true (D.inv s).1 (D.inv s).2.1 (glsTo vf)
 | .enterz zs fz _ s vf => .loopz true (glsZTo zs) (frTo fz) (D.lp (D.id s)).fr (D.lp (D.id s)).body (D.lp (D.id s)).k (D.inv s).2.2 true (D.inv s).1 (D.inv s).2.1 (glsTo vf)
 | .br b x y => .br b (toF D x) (toF D y)
 | .brt x => .brt true (toF D x)
 | .brf y => .brf false (toF D y)
 | .brx b x => .brx b (toF D x)
 | .bry b y => .bry b (toF D y)
 | .ob b x => .ob b (toF D x)
 | .obt x => .obt true (toF D x)
 | .obv b _ x => .ob b (toF D x)
 | .obi x => .obi (toF D x)
 | .obj c b x => .obj c b (toF D x)
 | .obc x => .obp True (toF D x)
 | .obp p x => .obp p (toF D x)
 | .und x y => .und (toF D x) (toF D y)
 | .asm p x => .asm p (toF D x)
 | .all f => .all fun l => toF D (f l)
 | .fail => .fail 1
def evR (Nx : S -> V -> Prop) : RT S -> V -> Prop
 | .ret v, r => toA v = toA r
 | .next _ s _, r => Nx s r
 | .enter _ s _, r => Nx s r
 | .nextz _ _ _ s _, r => Nx s r
 | .enterz _ _ _ s _, r => Nx s r
 | .br b x y, r => (b = true -> evR Nx x r) /\ (b = false -> evR Nx y r)
 | .brt x, r => evR Nx x r
 | .brf y, r => evR Nx y r
 | .brx b x, r => b = true /\ evR Nx x r
 | .bry b y, r => b = false /\ evR Nx y r
 | .ob b x, r => b = true /\ evR Nx x r
 | .obt x, r => evR Nx x r
 | .obv _ _ x, r => evR Nx x r
 | .obi x, r => evR Nx x r
 | .obj c b x, r => (c = true -> b = true) /\ evR Nx x r
 | .obc x, r => evR Nx x r
 | .obp p x, r => p /\ evR Nx x r
 | .und x y, r => evR Nx x r /\ evR Nx y r
 | .asm p x, r => p -> evR Nx x r
 | .all f, r => ∀ l, evR Nx (f l) r
 | .fail, _ => False
def EvN (step : S -> RT S) : Nat -> S -> V -> Prop
 | 0, _, _ => False
 | n + 1, s, r => evR (EvN step n) (step s) r
def Ev (step : S -> RT S) (s : S) (r : V) : Prop := ∃ n, EvN step n s r
theorem evR_mono {Nx Ny : S -> V -> Prop} {r : V} (h : ∀ s, Nx s r -> Ny s r) : ∀ t : RT S, evR Nx t r -> evR Ny t r := by
 intro t
 induction t with
 | ret v => exact id
 | next ρ s vf => exact h s
 | enter ρ s vf => exact h s
 | nextz zs fz ρ s vf => exact h s
 | enterz zs fz ρ s vf => exact h s
 | br b x y hx hy => exact fun k => ⟨fun e => hx (k.1 e), fun e => hy (k.2 e)⟩
 | brt x hx => exact hx
 | brf y hy => exact hy
 | brx b x hx => exact fun k => ⟨k.1, hx k.2⟩
 | bry b y hy => exact fun k => ⟨k.1, hy k.2⟩
 | ob b x hx => exact fun k => ⟨k.1, hx k.2⟩
 | obt x hx => exact hx
 | obv b h x hx => exact hx
 | obi x hx => exact hx
 | obj c b x hx => exact fun k => ⟨k.1, hx k.2⟩
 | obc x hx => exact hx
 | obp p x hx => exact fun k => ⟨k.1, hx k.2⟩
 | und x y hx hy => exact fun k => ⟨hx k.1, hy k.2⟩
 | asm p x hx => exact fun k hp => hx (k hp)
 | all f hf => exact fun k l => hf l (k l)
 | fail => exact id
theorem EvN_succ {step : S -> RT S} {r : V} : ∀ {n : Nat} {s : S}, EvN step n s r -> EvN step (n + 1) s r
 | 0, s, h => h.elim
 | n + 1, s, h => evR_mono (fun s hs => EvN_succ hs) _ h
theorem EvN_mono {step : S -> RT S} {r : V} {n m : Nat} {s : S} (h : EvN step n s r) (hm : n <= m) : EvN step m s r := by
 induction hm with
 | refl => exact h
 | step _ ih => exact EvN_succ ih
section
variable {Nx : S -> V -> Prop} {r : V}
theorem evRet {v : V} (h : toA v = toA r) : evR Nx (.ret v) r := h
theorem evBr {b : Bool} {x y : RT S} (h1 : b = true -> evR Nx x r) (h2 : b = false -> evR Nx y r) : evR Nx (.br b x y) r := ⟨h1, h2⟩
theorem evBrt {x : RT S} (h : evR Nx x r) : evR Nx (.brt x) r := h
theorem evBrf {x : RT S} (h : evR Nx x r) : evR Nx (.brf x) r := h
theorem ntT {b : Bool} (h : b = false) : (!b) = true := by rw [h]; rfl
theorem ntF {b : Bool} (h : b = true) : (!b) = false := by rw [h]; rfl
theorem tnT {b : Bool} (h : (!b) = false) : b = true := by cases b; cases h; rfl
theorem evOb {b : Bool} {x : RT S} (h1 : b = true) (h2 : evR Nx x r) : evR Nx (.ob b x) r := ⟨h1, h2⟩
theorem evObt {x : RT S} (h : evR Nx x r) : evR Nx (.obt x) r := h
theorem evObv {b : Bool} {hb : b = true} {x : RT S} (h : evR Nx x r) : evR Nx (.obv b hb x) r := h
theorem evObi {x : RT S} (h : evR Nx x r) : evR Nx (.obi x) r := h
theorem evObj {c b : Bool} {x : RT S} (h1 : c = true -> b = true) (h2 : evR Nx x r) : evR Nx (.obj c b x) r := ⟨h1, h2⟩
theorem evObc {x : RT S} (h : evR Nx x r) : evR Nx (.obc x) r := h
theorem evObp {p : Prop} {x : RT S} (h1 : p) (h2 : evR Nx x r) : evR Nx (.obp p x) r := ⟨h1, h2⟩
theorem evUnd {x y : RT S} (h1 : evR Nx x r) (h2 : evR Nx y r) : evR Nx (.und x y) r := ⟨h1, h2⟩
theorem evAsm {p : Prop} {x : RT S} (h : p -> evR Nx x r) : evR Nx (.asm p x) r := h
theorem evAsm1 {p : Prop} {x : RT S} (h : p -> evR Nx x r) : evR Nx (.asm (true = true -> p) x) r := fun k => h (k rfl)
theorem evAll {f : Nat -> RT S} (h : ∀ l, evR Nx (f l) r) : evR Nx (.all f) r := h
theorem evEnter {ρ : Rho} {s : S} {vf : List VF} (h : Nx s r) : evR Nx (.enter ρ s vf) r := h
theorem evNextz {zs : List VF} {fz : List (FR zs)} {ρ : Rho} {s : S} {vf : List VF} (h : Nx s r) : evR Nx (.nextz zs fz ρ s vf) r := h
theorem evNext {ρ : Rho} {s : S} {vf : List VF} (h : Nx s r) : evR Nx (.next ρ s vf) r := h
end
def noAll : RT S -> Bool
 | .br _ x y => noAll x && noAll y
 | .brt x => noAll x
 | .brf y => noAll y
 | .brx _ x => noAll x
 | .bry _ y => noAll y
 | .ob _ x => noAll x
 | .obt x => noAll x
 | .obv _ _ x => noAll x
 | .obi x => noAll x
 | .obj _ _ x => noAll x
 | .obc x => noAll x
 | .obp _ x => noAll x
 | .und x y => noAll x && noAll y
 | .asm _ x => noAll x
 | .all _ => false
 | _ => true
theorem evR_ex {step : S -> RT S} {r : V} : ∀ t : RT S, noAll t = true -> evR (Ev step) t r -> ∃ n, evR (EvN step n) t r := by
 intro t
 induction t with
 | ret v => exact fun _ h => ⟨0, h⟩
 | next ρ s vf => exact fun _ ⟨n, h⟩ => ⟨n, h⟩
 | enter ρ s vf => exact fun _ ⟨n, h⟩ => ⟨n, h⟩
 | nextz zs fz ρ s vf => exact fun _ ⟨n, h⟩ => ⟨n, h⟩
 | enterz zs fz ρ s vf => exact fun _ ⟨n, h⟩ => ⟨n, h⟩
 | br b x y hx hy =>
   intro h0 h
   simp only [noAll, Bool.and_eq_true] at h0
   cases b with
   | true => obtain ⟨n, hn⟩ := hx h0.1 (h.1 rfl); exact ⟨n, fun _ => hn, fun e => by cases e⟩
   | false => obtain ⟨n, hn⟩ := hy h0.2 (h.2 rfl); exact ⟨n, (fun e => by cases e), fun _ => hn⟩
 | brt x hx => exact fun h0 h => hx h0 h
 | brf y hy => exact fun h0 h => hy h0 h
 | brx b x hx => exact fun h0 h => let ⟨n, hn⟩ := hx h0 h.2; ⟨n, h.1, hn⟩
 | bry b y hy => exact fun h0 h => let ⟨n, hn⟩ := hy h0 h.2; ⟨n, h.1, hn⟩
 | ob b x hx => exact fun h0 h => let ⟨n, hn⟩ := hx h0 h.2; ⟨n, h.1, hn⟩
 | obt x hx => exact fun h0 h => hx h0 h
 | obv b h x hx => exact fun h0 h => hx h0 h
 | obi x hx => exact fun h0 h => hx h0 h
 | obj c b x hx => exact fun h0 h => let ⟨n, hn⟩ := hx h0 h.2; ⟨n, h.1, hn⟩
 | obc x hx => exact fun h0 h => hx h0 h
 | obp p x hx => exact fun h0 h => let ⟨n, hn⟩ := hx h0 h.2; ⟨n, h.1, hn⟩
 | und x y hx hy =>
   intro h0 h
   simp only [noAll, Bool.and_eq_true] at h0
   obtain ⟨n, hn⟩ := hx h0.1 h.1
   obtain ⟨m, hm⟩ := hy h0.2 h.2
   exact ⟨max n m, evR_mono (fun s hs => EvN_mono hs (Nat.le_max_left _ _)) _ hn, evR_mono (fun s hs => EvN_mono hs (Nat.le_max_right _ _)) _ hm⟩
 | asm p x hx =>
   intro h0 h
   by_cases hp : p
   ·obtain ⟨n, hn⟩ := hx h0 (h hp); exact ⟨n, fun _ => hn⟩
   ·exact ⟨0, fun k => (hp k).elim⟩
 | all f hf => intro h0; cases h0
 | fail => exact fun _ h => h.elim
theorem Ev.of {step : S -> RT S} {s : S} {r : V} (h0 : noAll (step s) = true) (h : evR (Ev step) (step s) r) : Ev step s r :=
 let ⟨n, hn⟩ := evR_ex _ h0 h; ⟨n + 1, hn⟩
theorem fit_sat {w0 : World} {LP : LPred} {D : LD J S} {Q : Leaf J -> Prop} {Nx : S -> V -> Prop} {r : V} (hres : ∀ v, toA v = toA r -> Q (.res v))
 (hhead : ∀ s e h, Nx s r -> SubV w0 (D.lp (D.id s)).fr.2 e h (D.inv s).1 (D.inv s).2.1 -> Q (.head (D.id s) e h (D.inv s).2.2))
 (hloop : ∀ s e h, Nx s r -> SubV w0 (D.lp (D.id s)).fr.2 e h (D.inv s).1 (D.inv s).2.1 -> LP (D.lp (D.id s)).fr (D.lp (D.id s)).body e h (D.inv s).2.2 fun x e h g => sat LP ((D.lp (D.id s)).k x e h g) Q) :
 ∀ (t : T (Leaf J)) (rt : RT S), fitT D t rt = toF D rt -> sameT t rt = t -> evR Nx rt r -> sat LP t Q := by
 intro t
 induction t with
 | ret a =>
   intro rt hf _ hr
   cases a with
   | res v => cases rt <;> simp only [fitT, toF] at hf <;> cases hf; exact hres _ hr
   | head j e h g =>
     cases rt <;> simp only [fitT, toF] at hf <;> first | (cases hf; done) | skip
     ·simp only [FT.head.injEq] at hf
      obtain ⟨rfl, rfl, h1, h2, h3, h4⟩ := hf
      exact hhead _ e h hr (fit_sub w0 h1 h2 h3 h4)
     ·simp only [FT.headz.injEq] at hf
      obtain ⟨hc, hz, hfr, rfl, rfl, h1, h2, h3, h4⟩ := hf
      exact hhead _ e h hr ((frz_sub w0 hc hz hfr).trans (fit_sub w0 h1 h2 h3 h4))
 | br b x y hx hy =>
   intro rt hf hs hr
   cases rt <;> simp only [fitT, toF] at hf <;> first | (cases hf; done) | skip
   ·simp only [FT.br.injEq] at hf
    simp only [sameT, T.br.injEq, true_and] at hs
    obtain ⟨rfl, h1, h2⟩ := hf
    exact ⟨fun e => hx _ h1 hs.1 (hr.1 e), fun e => hy _ h2 hs.2 (hr.2 e)⟩
   ·simp only [FT.brt.injEq] at hf
    simp only [sameT, T.br.injEq, true_and] at hs
    obtain ⟨rfl, h1⟩ := hf
    exact ⟨fun e => hx _ h1 hs.1 hr, fun e => by cases e⟩
   ·simp only [FT.brf.injEq] at hf
    simp only [sameT, T.br.injEq, true_and] at hs
    obtain ⟨rfl, h1⟩ := hf
    exact ⟨(fun e => by cases e), fun e => hy _ h1 hs hr⟩
   ·simp only [FT.brx.injEq] at hf
    simp only [sameT, T.br.injEq, true_and] at hs
    obtain ⟨rfl, h1⟩ := hf
    exact ⟨fun e => hx _ h1 hs.1 hr.2, fun e => by rw [hr.1] at e; cases e⟩
   ·simp only [FT.bry.injEq] at hf
    simp only [sameT, T.br.injEq, true_and] at hs
    obtain ⟨rfl, h1⟩ := hf
    exact ⟨(fun e => by rw [hr.1] at e; cases e), fun e => hy _ h1 hs hr.2⟩
 | ob b x hx =>
   intro rt hf hs hr
   cases rt <;> simp only [fitT, toF] at hf <;> first | (cases hf; done) | skip
   ·simp only [FT.ob.injEq] at hf
    simp only [sameT, T.ob.injEq, true_and] at hs
    obtain ⟨rfl, h1⟩ := hf
    exact ⟨hr.1, hx _ h1 hs hr.2⟩
   ·simp only [FT.obt.injEq] at hf
    simp only [sameT, T.ob.injEq, true_and] at hs
    obtain ⟨rfl, h1⟩ := hf
    exact ⟨rfl, hx _ h1 hs hr⟩
   ·rename_i b' hb' x'
    simp only [FT.ob.injEq] at hf
    simp only [sameT, T.ob.injEq, true_and] at hs
    obtain ⟨rfl, h1⟩ := hf
    exact ⟨hb', hx _ h1 hs hr⟩
 | obp p x hx =>
   intro rt hf hs hr
   cases rt <;> simp only [fitT, toF] at hf <;> first | (cases hf; done) | skip
   ·simp only [FT.obp.injEq] at hf
    simp only [sameT, T.obp.injEq, true_and] at hs
    obtain ⟨rfl, h1⟩ := hf
    exact ⟨trivial, hx _ h1 hs hr⟩
   ·simp only [FT.obp.injEq] at hf
    simp only [sameT, T.obp.injEq, true_and] at hs
    obtain ⟨rfl, h1⟩ := hf
    exact ⟨hr.1, hx _ h1 hs hr.2⟩
 | obi c d x hx =>
   intro rt hf hs hr
   cases rt <;> simp only [fitT, toF] at hf <;> first | (cases hf; done) | skip
   ·simp only [FT.ob.injEq] at hf
    simp only [sameT, T.obi.injEq, true_and] at hs
    obtain ⟨rfl, h1⟩ := hf
    exact ⟨fun _ => hr.1, hx _ h1 hs hr.2⟩
   ·simp only [FT.obt.injEq] at hf
    simp only [sameT, T.obi.injEq, true_and] at hs
    obtain ⟨rfl, h1⟩ := hf
    exact ⟨fun _ => rfl, hx _ h1 hs hr⟩
   ·rename_i b' hb' x'
    simp only [FT.ob.injEq] at hf
    simp only [sameT, T.obi.injEq, true_and] at hs
    obtain ⟨rfl, h1⟩ := hf
    exact ⟨fun _ => hb', hx _ h1 hs hr⟩
   ·simp only [FT.obi.injEq] at hf
    simp only [sameT, T.obi.injEq, true_and] at hs
    obtain ⟨h0, h1⟩ := hs
    subst h0
    exact ⟨id, hx _ hf h1 hr⟩
   ·simp only [FT.obj.injEq] at hf
    simp only [sameT, T.obi.injEq, true_and] at hs
    obtain ⟨rfl, rfl, h1⟩ := hf
    exact ⟨hr.1, hx _ h1 hs hr.2⟩
 | obq a b x hx =>
   intro rt hf hs hr
   simp only [sameT, T.obq.injEq, true_and] at hs
   simp only [fitT] at hf
   exact ⟨hs.1, hx _ hf hs.2 hr⟩
 | fail n =>
   intro rt hf hs hr
   cases rt <;> simp only [fitT, toF] at hf <;> first | (cases hf; done) | exact hr.elim
 | loop fr b e h g k hk =>
   intro rt hf hs hr
   cases rt <;> simp only [fitT, toF] at hf <;> first | (cases hf; done) | skip
   ·simp only [FT.loop.injEq] at hf
    obtain ⟨rfl, rfl, rfl, rfl, h1, h2, h3, h4⟩ := hf
    exact hloop _ e h hr (fit_sub w0 h1 h2 h3 h4)
   ·simp only [FT.loopz.injEq] at hf
    obtain ⟨hc, hz, hfr, rfl, rfl, rfl, rfl, h1, h2, h3, h4⟩ := hf
    exact hloop _ e h hr ((frz_sub w0 hc hz hfr).trans (fit_sub w0 h1 h2 h3 h4))
 | all f hf0 =>
   intro rt hf hs hr
   cases rt <;> simp only [fitT, toF] at hf <;> first | (cases hf; done) | skip
   simp only [FT.all.injEq] at hf
   simp only [sameT, T.all.injEq] at hs
   exact fun l => hf0 l _ (congrFun hf l) (congrFun hs l) (hr l)
 | und x y hx hy =>
   intro rt hf hs hr
   cases rt <;> simp only [fitT, toF] at hf <;> first | (cases hf; done) | skip
   simp only [FT.und.injEq] at hf
   simp only [sameT, T.und.injEq] at hs
   exact ⟨hx _ hf.1 hs.1 hr.1, hy _ hf.2 hs.2 hr.2⟩
 | asm p x hx =>
   intro rt hf hs hr
   cases rt <;> simp only [fitT, toF] at hf <;> first | (cases hf; done) | skip
   simp only [FT.asm.injEq] at hf
   simp only [sameT, T.asm.injEq, true_and] at hs
   obtain ⟨rfl, h1⟩ := hf
   exact fun hp => hx _ h1 hs (hr hp)
def rdT (ct : CTab) (un : Unr) (j : J) (l : Lp J) (e : Env) (h : List O) (g : Option Ex) : T (Leaf J) :=
 match l.body with
 | .s body => bindT (evC (cfOf ct l.fr.1) (cpOf ct) un l.fr 0 body e h fun x e h => .ret (x, e, h)) fun r => match r.1 with
   | .normal => .ret (.head j r.2.1 r.2.2 none)
   | x => l.k x r.2.1 r.2.2 none
 | .i body rd => bindT (evIt (cfOf ct l.fr.1) (cpOf ct) un l.fr rd (rdY (cfOf ct l.fr.1) (cpOf ct) un l.fr.1 0 rd) 0 body e h g fun x e h g => .ret (x, e, h, g)) fun r => match r.1 with
   | .normal => .ret (.head j r.2.1 r.2.2.1 r.2.2.2)
   | x => l.k x r.2.1 r.2.2.1 r.2.2.2
def rdS (ct : CTab) (un : Unr) (D : LD J S) (s : S) : T (Leaf J) := rdT ct un (D.id s) (D.lp (D.id s)) (D.inv s).1 (D.inv s).2.1 (D.inv s).2.2
def QN (w0 : World) (D : LD J S) (step : S -> RT S) (r : V) (n : Nat) : Leaf J -> Prop
 | .res v => toA v = toA r
 | .head j e h g => ∃ s, D.id s = j /\ (D.inv s).2.2 = g /\ SubV w0 (D.lp (D.id s)).fr.2 e h (D.inv s).1 (D.inv s).2.1 /\ EvN step n s r
theorem QN_mono {w0 : World} {D : LD J S} {step : S -> RT S} {r : V} {n m : Nat} (hm : n <= m) : ∀ a, QN w0 D step r n a -> QN w0 D step r m a
 | .res v, h => h
 | .head j e h g, ⟨s, h1, h2, h3, h4⟩ => ⟨s, h1, h2, h3, EvN_mono h4 hm⟩
theorem LPof_s {w0 : World} {S : Specs} {fr : Nat × Nat} {body : SCode} {e : Env} {h : List O} {g : Option Ex} {P : Ex -> Env -> List O -> Option Ex -> Prop} (hl : LPof w0 S (fr.1, fr.2) (.s body) e h none P) : LPof w0 S fr (.s body) e h g P := hl
theorem loopN {ct : CTab} {un : Unr} {w0 : World} (hd : dstT ct = true) {D : LD J S} {step : S -> RT S} {r : V} (hs : ∀ s, fitT D (rdS ct un D s) (step s) = toF D (step s)) (hq : ∀ s, sameT (rdS ct un D s) (step s) = rdS ct un D s) :
 ∀ (n : Nat) (s : S) (e : Env) (h : List O), EvN step n s r -> SubV w0 (D.lp (D.id s)).fr.2 e h (D.inv s).1 (D.inv s).2.1 ->
 LPof w0 (SV ct) (D.lp (D.id s)).fr (D.lp (D.id s)).body e h (D.inv s).2.2 fun x e h g => sat (LPof w0 (SV ct)) ((D.lp (D.id s)).k x e h g) (QN w0 D step r n) := by
 intro n
 induction n using Nat.strongRecOn with
 | ind n ih =>
   intro s e h hn hsub
   have key : ∀ (p : Nat) (s' : S), p <= n -> EvN step p s' r -> ∃ m, p = m + 1 /\ sat (LPof w0 (SV ct)) (rdS ct un D s') (QN w0 D step r m) := by
    intro p s' hp he
    match p, hp, he with
    | 0, _, he => exact he.elim
    | m + 1, hp, he =>
      exact ⟨m, rfl, fit_sat (w0 := w0) (Nx := EvN step m) (fun v hv => hv) (fun s e h h1 h2 => ⟨s, rfl, rfl, h2, h1⟩) (fun s e h h1 h2 => ih m (by omega) s e h h1 h2) _ _ (hs s') (hq s') he⟩
   generalize hj : D.id s = j at *
   match hb : (D.lp j).body with
   | .s body =>
     refine LPof_s (lp_ok (un := un) hd 0 {p : Nat × S // p.1 <= n /\ EvN step p.1 p.2 r /\ D.id p.2 = j} (fun p => ((D.inv p.1.2).1, (D.inv p.1.2).2.1)) (fun p => p.1.1) ⟨⟨(n, s), Nat.le_refl _, hn, hj⟩, hsub⟩ ?_)
     rintro ⟨⟨p, s'⟩, hp, he, hj'⟩
     obtain ⟨m, hpm, hk⟩ := key p s' hp he
     simp only at hj' hp hpm
     unfold rdS rdT at hk
     rw [hj', hb] at hk
     simp only [sat_bind] at hk
     refine sat_mono (LPof_mono _ _) (fun a ha => ?_) _ hk
     obtain ⟨x, e', h'⟩ := a
     cases x with
     | normal =>
       obtain ⟨s2, g1, g2, g3, g4⟩ := ha
       rw [g1] at g3
       exact ⟨⟨(m, s2), by omega, g4, g1⟩, g3, by simp only; omega⟩
     | exit i => exact sat_mono (LPof_mono _ _) (QN_mono (by omega)) _ ha
     | ret => exact sat_mono (LPof_mono _ _) (QN_mono (by omega)) _ ha
   | .i body rd =>
     refine ilp_ok (un := un) hd 0 0 {p : Nat × S // p.1 <= n /\ EvN step p.1 p.2 r /\ D.id p.2 = j} (fun p => D.inv p.1.2) (fun p => p.1.1) ⟨⟨(n, s), Nat.le_refl _, hn, hj⟩, rfl, hsub⟩ ?_
     rintro ⟨⟨p, s'⟩, hp, he, hj'⟩
     obtain ⟨m, hpm, hk⟩ := key p s' hp he
     simp only at hj' hp hpm
     unfold rdS rdT at hk
     rw [hj', hb] at hk
     simp only [sat_bind] at hk
     refine sat_mono (LPof_mono _ _) (fun a ha => ?_) _ hk
     obtain ⟨x, e', h', g'⟩ := a
     cases x with
     | normal =>
       obtain ⟨s2, g1, g2, g3, g4⟩ := ha
       rw [g1] at g3
       exact ⟨⟨(m, s2), by omega, g4, g1⟩, g2.symm, g3, by simp only; omega⟩
     | exit i => exact sat_mono (LPof_mono _ _) (QN_mono (by omega)) _ ha
     | ret => exact sat_mono (LPof_mono _ _) (QN_mono (by omega)) _ ha
def runL (J : Type) (ct : CTab) (un : Unr) (sf : SFun) (ds : List V) : T (Leaf J) := evFun (cfOf ct LV) (cpOf ct) un LV sf ds [] fun v _ => .ret (.res v)
def topQ (r : V) : Leaf J -> Prop
 | .res v => toA v = toA r
 | .head .. => True
theorem QN_top {w0 : World} {D : LD J S} {step : S -> RT S} {r : V} {n : Nat} : ∀ a, QN w0 D step r n a -> topQ r a
 | .res v, h => h
 | .head .., _ => trivial
theorem run_ev {ct : CTab} {un : Unr} {w0 : World} (hd : dstT ct = true) {t : T (Leaf J)} (D : LD J S) (step : S -> RT S) (m : RT S) {r : V} (h1 : fitT D t m = toF D m) (h2 : sameT t m = t)
 (hs : ∀ s, fitT D (rdS ct un D s) (step s) = toF D (step s)) (hq : ∀ s, sameT (rdS ct un D s) (step s) = rdS ct un D s) (hr : evR (Ev step) m r) : sat (LPof w0 (SV ct)) t (topQ r) :=
 fit_sat (w0 := w0) (Nx := Ev step) (fun v hv => hv) (fun _ _ _ _ _ => trivial) (fun s e h ⟨n, hn⟩ hsub => LPof_mono _ _ _ _ _ _ _ _ _ (fun x e h g hk => sat_mono (LPof_mono _ _) QN_top _ hk) (loopN hd hs hq n s e h hn hsub)) _ _ h1 h2 hr
theorem allB_el {ts : List Ty} (h : ts.all isCellTy = true) (n : Nat) (f : FnV) : allB n (fun i => okE (lenL ts) (elV ts f i)) = true := allB_of fun i _ => okE_views h _
def lpT : T (Leaf J) -> Lp J
 | .loop fr b _ _ _ k => ⟨fr, b, k⟩
 | _ => ⟨(0, 0), .s .skip, fun _ _ _ _ => .fail 0⟩
def noD : LD J Empty := ⟨fun s => (nomatch s), fun _ => ⟨(0, 0), .s .skip, fun _ _ _ _ => .fail 0⟩, fun s => (nomatch s)⟩
def noE : Empty -> V -> Prop := fun s => nomatch s
theorem run_ev0 {ct : CTab} {w0 : World} (hd : dstT ct = true) {t : T (Leaf J)} (m : RT Empty) {r : V} (h1 : fitT noD t m = toF noD m) (h2 : sameT t m = t) (hr : evR noE m r) : sat (LPof w0 (SV ct)) t (topQ r) :=
 fit_sat (w0 := w0) (Nx := noE) (fun v hv => hv) (fun s => (nomatch s)) (fun s => (nomatch s)) _ _ h1 h2 hr
def Fit (D : LD J S) (t : T (Leaf J)) (m : RT S) : Prop := fitT D t m = toF D m /\ sameT t m = t
def Fits (ct : CTab) (un : Unr) (D : LD J S) (t : T (Leaf J)) (m : RT S) (st : S -> RT S) : Prop := Fit D t m /\ ∀ s, Fit D (rdS ct un D s) (st s)
def Run (ct : CTab) (t : T (Leaf J)) (r : V) : Prop := dstT ct = true -> ∀ w0, sat (LPof w0 (SV ct)) t (topQ r)
theorem rf0 {ct : CTab} {t : T (Leaf J)} {m : RT Empty} {r : V} (h : Fit noD t m) (hr : evR noE m r) : Run ct t r := fun hd _ => run_ev0 hd m h.1 h.2 hr
theorem rfs {ct : CTab} {un : Unr} {D : LD J S} {t : T (Leaf J)} {m : RT S} {st : S -> RT S} {r : V} (h : Fits ct un D t m st) (hr : evR (Ev st) m r) : Run ct t r := fun hd _ => run_ev hd D st m h.1.1 h.1.2 (fun s => (h.2 s).1) (fun s => (h.2 s).2) hr
inductive Cx where
 | i (n : Int)
 | n (n : Nat)
 | b (b : Bool)
 | s (s : ByteArray)
 | f (f : FnV)
def cxi : List Cx -> Nat -> Int
 | .i n :: _, 0 => n
 | _ :: l, k + 1 => cxi l k
 | _, _ => 0
def cxn : List Cx -> Nat -> Nat
 | .n n :: _, 0 => n
 | _ :: l, k + 1 => cxn l k
 | _, _ => 0
def cxf : List Cx -> Nat -> Nat -> List V
 | .f n :: _, 0 => n
 | _ :: l, k + 1 => cxf l k
 | _, _ => fun _ => []
abbrev JJ := Nat × List Cx
def runLL (J : Type) (e : Nat) (ty : TypeId) (ct : CTab) (un : Unr) (sf : SFun) (ds : List V) : T (Leaf J) := evFun (cfOf ct LV) (cpOf ct) un LV sf ds [] fun v h => .ob (chkL h v) (.ret (.res (outV e ty h v)))
theorem mkC_ev {P : Program} {eqs : List TypeId} {its : List IFun} {ct : CTab} {f : FuncId} {fn : Func} {sf : SFun} {un : Unr} {ts : List Ty} {pre : List V -> Prop} {r : List V -> V} (hT : TabOk P eqs its ct) (hE : ∀ t ∈ eqs, EqInts P t) (hI : itsOk P eqs its) (hf : P.funcs[f]? = some fn)
 (hn : (fn.name == "runtime.NumGoroutine") = false) (hc : compFun P eqs its fn = some sf) (hd : dstC sf.ntmps sf.body = true) (ho : okTys ts = true)
 (h : ∀ w0 ds, pre (views ts ds) -> sat (LPof w0 (SV ct)) (runL J ct un sf (views ts ds)) (topQ (r (views ts ds)))) : (vP (mkC ts pre r)).Ok P f :=
 mkC_okG (α := Leaf J) (K0 := fun v => .ret (.res v)) (Q0 := topQ) (fun _ _ _ h => h) hT hE hI hf hn hc hd ho h
theorem mkCL_ev {P : Program} {eqs : List TypeId} {its : List IFun} {ct : CTab} {f : FuncId} {fn : Func} {sf : SFun} {un : Unr} {e : Nat} {ty : TypeId} {ts : List Ty} {pre : List V -> Prop} {r : List V -> V} (hT : TabOk P eqs its ct) (hE : ∀ t ∈ eqs, EqInts P t) (hI : itsOk P eqs its) (hf : P.funcs[f]? = some fn)
 (hn : (fn.name == "runtime.NumGoroutine") = false) (hc : compFun P eqs its fn = some sf) (hd : dstC sf.ntmps sf.body = true) (ho : okTys ts = true)
 (h : ∀ w0 ds, pre (views ts ds) -> sat (LPof w0 (SV ct)) (runLL J e ty ct un sf (views ts ds)) (topQ (r (views ts ds)))) : (vL e ty (mkC ts pre r)).Ok P f :=
 mkCL_okG (α := Leaf J) (K0 := fun v h => .ob (chkL h v) (.ret (.res (outV e ty h v)))) (Q0 := topQ) (fun _ _ _ _ h => h) hT hE hI hf hn hc hd ho h
end
def scTy : Ty -> Bool
 | .int _ | .bool | .str => true
 | _ => false
theorem scTy_cell : ∀ {ts : List Ty}, ts.all scTy = true -> ts.all isCellTy = true
 | [], _ => rfl
 | t :: ts, h => by
   simp only [List.all_cons, Bool.and_eq_true] at h ⊢
   exact ⟨by cases t <;> first | rfl | (simp [scTy] at h), scTy_cell h.2⟩
theorem views_sc : ∀ {ts : List Ty} (vs : List V), ts.all scTy = true -> (toAs (views ts vs)).all scalar = true
 | [], _, _ => by simp [views, toAs]
 | t :: ts, vs, h => by
   simp only [List.all_cons, Bool.and_eq_true] at h
   simp only [views, toAs, List.all_cons, Bool.and_eq_true]
   exact ⟨by cases t <;> first | (simp [scTy] at h; done) | simp [view, toA, scalar], views_sc _ h.2⟩
theorem okL_tup {ts : List Ty} {e n : Nat} {f : Nat -> List V} {rest : List V} (he : lenL ts = e) (hs : ts.all scTy = true) (hr : (toAs rest).all scalar = true) (hn : n <= 9223372036854775807) : okL e (.tup (.sl n (elV ts f) :: rest)) :=
 ⟨n, _, rfl, hn, fun i _ => ⟨by rw [← he]; exact okE_views (scTy_cell hs) _, views_sc _ hs⟩, hr⟩
theorem toA_list {n m : Nat} {f g : Nat -> List V} (h : n = m) (hf : ∀ i, i < n -> toAs (f i) = toAs (g i)) : toA (.sl n f) = toA (.sl m g) := by
 subst h
 simp only [toA, AVal.fn.injEq, true_and]
 exact List.map_congr_left fun i hi => by rw [hf i (List.mem_range.1 hi)]
theorem toA_tup {v w : V} {vs ws : List V} (h : toA v = toA w) (hs : toAs vs = toAs ws) : toA (.tup (v :: vs)) = toA (.tup (w :: ws)) := by
 simp only [toA, toAs, h, hs]
end Go.Dx
namespace Go.Sx
def intType (P : Program) (t : TypeId) : Bool := match P.underlying t with
 | some (.int _) => true
 | _ => false
def intFields (P : Program) : List Field -> Nat -> Bool
 | [], _ => true
 | f :: fs, i => decide (f.name ≠ "_") && Nat.beq f.offset i && intType P f.type && intFields P fs (i + 1)
section
variable {P : Program} {m : Names}
theorem intType_eq {t : TypeId} (h : intType P t = true) : ∃ k, P.underlying t = some (.int k) := by
 unfold intType at h
 split at h
 ·rename_i k hk; exact ⟨k, hk⟩
 ·cases h
theorem run_part_int {t : TypeId} {k : IntKind} (ht : P.underlying t = some (.int k)) {us : Array Value} {i : Nat} {v : Value} (hv : us[i]? = some v) (w : World) : (part t us i).run P w = .ok v w := by
 unfold part
 have hi : (isAgg t).run P w = .ok false w := by
  unfold isAgg
  rw [run_bind_ok (run_underlying ht w)]; rfl
 rw [run_bind_ok hi]
 simp only [Bool.false_eq_true, if_false, hv]
 rfl
theorem eqFields_ints {d : Nat} : ∀ (fs : List Field) (i : Nat) (xs ys : List AVal) (us vs : Array Value) (b : Bool) (w : World), intFields P fs i = true -> fs.length = xs.length -> vrels m xs (us.toList.drop i) -> vrels m ys (vs.toList.drop i) -> eqCells xs ys = some b ->
 (Op.eqFields (d + 1) us vs fs).run P w = .ok b w
 | [], i, xs, ys, us, vs, b, w, _, hl, _, _, hb => by
   cases xs with
   | cons _ _ => simp at hl
   | nil => cases ys with
     | nil => simp [eqCells] at hb; subst hb; rfl
     | cons _ _ => simp [eqCells] at hb
 | f :: fs, i, xs, ys, us, vs, b, w, hf, hl, hx, hy, hb => by
   simp only [intFields, Bool.and_eq_true, decide_eq_true_eq] at hf
   obtain ⟨⟨⟨h1, h2⟩, h3⟩, h4⟩ := hf
   obtain ⟨k, hk⟩ := intType_eq h3
   have ho := Nat.eq_of_beq_eq_true h2
   cases xs with
   | nil => simp at hl
   | cons x xs => cases ys with
     | nil => cases x <;> simp [eqCells] at hb
     | cons y ys =>
       cases x <;> try (simp [eqCells] at hb; done)
       rename_i ka a
       cases y <;> try (simp [eqCells] at hb; done)
       rename_i kb c
       simp only [eqCells] at hb
       split at hb
       ·rename_i hkk
        subst hkk
        simp only [Option.map_eq_some_iff] at hb
        obtain ⟨b', hb', rfl⟩ := hb
        simp only [vrels] at hx hy
        obtain ⟨u, us', hu, hur, hus⟩ := hx
        obtain ⟨v, vs', hv, hvr, hvs⟩ := hy
        simp only [vrel] at hur hvr
        subst hur; subst hvr
        have gu : us[i]? = some (.int ka a) := by
         have := congrArg (·[0]?) hu
         simpa using this
        have gv : vs[i]? = some (.int ka c) := by
         have := congrArg (·[0]?) hv
         simpa using this
        have du : us.toList.drop (i + 1) = us' := by rw [← List.drop_drop, hu]; rfl
        have dv : vs.toList.drop (i + 1) = vs' := by rw [← List.drop_drop, hv]; rfl
        simp only [Op.eqFields]
        rw [if_pos h1, ho, run_bind_ok (run_part_int hk gu w), run_bind_ok (run_part_int hk gv w), run_bind_ok (run_equalIn_int w d f.type ka k a c hk)]
        cases hac : (a == c) with
        | false => simp only [Bool.not_false, if_true, Bool.false_and]; rfl
        | true =>
          simp only [Bool.not_true, Bool.false_eq_true, if_false, Bool.true_and]
          exact eqFields_ints fs (i + 1) xs ys us vs b' w h4 (by simpa using hl) (by rw [du]; exact hus) (by rw [dv]; exact hvs) hb'
       ·cases hb
theorem eqInts_struct {t : TypeId} (ht : P.underlying t = some (.struct (P.fieldsOf t))) (hp : P.stoodInHeld t = false) (hg : P.eqGuardType P.depth t = false) (hn : (P.info? t).map (·.size) = some (P.fieldsOf t).toList.length) (hf : intFields P (P.fieldsOf t).toList 0 = true) : EqInts P t := by
 refine ⟨hg, fun n hn' xs ys us vs m b w hl hx hy hb => ?_⟩
 rw [hn] at hn'; cases hn'
 unfold Op.equal
 rw [show Op.maxDepth = 9998 + 1 + 1 from rfl, run_equalIn_struct w _ t us vs ht hp]
 exact eqFields_ints (d := 9998) _ 0 xs ys us vs b w hf hl.symm (by simpa using hx) (by simpa using hy) hb
theorem eqItems_ints {d : Nat} {e : TypeId} (he : intType P e = true) (h1 : P.cellsOf e = 1) : ∀ (n i : Nat) (xs ys : List AVal) (us vs : Array Value) (b : Bool) (w : World), n = xs.length -> vrels m xs (us.toList.drop i) -> vrels m ys (vs.toList.drop i) -> eqCells xs ys = some b ->
 (Op.eqItems (d + 1) e (P.cellsOf e) us vs (List.range' i n)).run P w = .ok b w
 | 0, i, xs, ys, us, vs, b, w, hl, _, _, hb => by
   cases xs with
   | cons _ _ => simp at hl
   | nil => cases ys with
     | nil => simp [eqCells] at hb; subst hb; rfl
     | cons _ _ => simp [eqCells] at hb
 | n + 1, i, xs, ys, us, vs, b, w, hl, hx, hy, hb => by
   obtain ⟨k, hk⟩ := intType_eq he
   cases xs with
   | nil => simp at hl
   | cons x xs => cases ys with
     | nil => cases x <;> simp [eqCells] at hb
     | cons y ys =>
       cases x <;> try (simp [eqCells] at hb; done)
       rename_i ka a
       cases y <;> try (simp [eqCells] at hb; done)
       rename_i kb c
       simp only [eqCells] at hb
       split at hb
       ·rename_i hkk
        subst hkk
        simp only [Option.map_eq_some_iff] at hb
        obtain ⟨b', hb', rfl⟩ := hb
        simp only [vrels] at hx hy
        obtain ⟨u, us', hu, hur, hus⟩ := hx
        obtain ⟨v, vs', hv, hvr, hvs⟩ := hy
        simp only [vrel] at hur hvr
        subst hur; subst hvr
        have gu : us[i]? = some (.int ka a) := by
         have := congrArg (·[0]?) hu
         simpa using this
        have gv : vs[i]? = some (.int ka c) := by
         have := congrArg (·[0]?) hv
         simpa using this
        have du : us.toList.drop (i + 1) = us' := by rw [← List.drop_drop, hu]; rfl
        have dv : vs.toList.drop (i + 1) = vs' := by rw [← List.drop_drop, hv]; rfl
        rw [List.range'_succ]
        simp only [Op.eqItems, h1, Nat.mul_one]
        rw [run_bind_ok (run_part_int hk gu w), run_bind_ok (run_part_int hk gv w), run_bind_ok (run_equalIn_int w d e ka k a c hk)]
        cases hac : (a == c) with
        | false => simp only [Bool.not_false, if_true, Bool.false_and]; rfl
        | true =>
          simp only [Bool.not_true, Bool.false_eq_true, if_false, Bool.true_and]
          have := eqItems_ints (d := d) he h1 n (i + 1) xs ys us vs b' w (by simpa using hl) (by rw [du]; exact hus) (by rw [dv]; exact hvs) hb'
          rw [h1] at this; exact this
       ·cases hb
theorem eqInts_array {t : TypeId} (e : TypeId) (n : Nat) (ht : P.underlying t = some (.array n e)) (hi : (P.info? e).isSome = true) (hg : P.eqGuardType P.depth t = false) (hn : (P.info? t).map (·.size) = some n) (h1 : P.cellsOf e = 1) (hf : intType P e = true) : EqInts P t := by
 obtain ⟨ie, hi⟩ := Option.isSome_iff_exists.1 hi
 refine ⟨hg, fun n' hn' xs ys us vs m b w hl hx hy hb => ?_⟩
 rw [hn] at hn'; cases hn'
 unfold Op.equal
 rw [show Op.maxDepth = 9998 + 1 + 1 from rfl, run_equalIn_array w _ us vs ht hi, List.range_eq_range']
 exact eqItems_ints (d := 9998) hf h1 n 0 xs ys us vs b w hl.symm (by simpa using hx) (by simpa using hy) hb
end
end Go.Sx
