/- Part 3 of a proof. No conditions. -/
import Derived.Test.YtkdokmjehblpoaaGreatDoorRg2
import Derived.KernelRfl
import Derived.OpenShut
import Derived.ChangeArms
import Derived.Below
import Derived.ChangeSame
import Derived.Carry
import Derived.Laws.StructEq
import Derived.ChangeKeysEq
import Derived.Test.YtkdokmjehblpoaaGreatDoorChecked
set_option maxRecDepth 100000
set_option linter.unusedVariables false
set_option linter.unusedSimpArgs false
namespace Go.Dx
open Go.Sx
def jc (N : Nat) : List lO -> Bool
 | [] => true
 | .op o :: l => j0 N [o] && jc N l
 | .yld _ d _ :: l => (match d with | some d => Nat.blt d N | none => true) && jc N l
def m9 (N : Nat) : eH -> Bool
 | .reg ops => jc N ops
 | .draw ds => u6 N ds
 | .seq a b => m9 N a && m9 N b
 | .cond _ a b => m9 N a && m9 N b
 | .block _ b => m9 N b
 | .loop b => m9 N b
 | .scope b => m9 N b
 | _ => true
def tg : List gS -> Bool
 | [] => true
 | it :: l => m9 it.ntmps it.body && tg l
def qa (N : Nat) : List Nat -> Bool
 | [] => true
 | p :: l => Nat.blt p N && qa N l
def qz (N : Nat) : OT -> Bool
 | .done => true
 | .op o r => j0 N [o] && qz N r
 | .alt a b => qz N a && qz N b
def eF (N : Nat) : dp -> Bool
 | .reg ops => j0 N ops
 | .draw ds => u6 N ds
 | .allo t => qz N t
 | .seq a b => eF N a && eF N b
 | .cond _ a b => eF N a && eF N b
 | .block _ b => eF N b
 | .loop b => eF N b
 | .scope b => eF N b
 | .range _ ps a b its => qa N ps && (eF N a && (eF N b && tg its))
 | _ => true
def NuN (nb : Nat) (ν ν' : Nu) : Prop := (∀ k x, k < nb -> ν k = some x -> ν' k = some x) /\ zle ν.z ν'.z
theorem NuN.refl (nb : Nat) (ν : Nu) : NuN nb ν ν := ⟨fun _ _ _ h => h, kn _⟩
theorem NuN.trans {nb : Nat} {a b c : Nu} (h : NuN nb a b) (k : NuN nb b c) : NuN nb a c := ⟨fun i x hi hx => k.1 i x hi (h.1 i x hi hx), mO h.2 k.2⟩
theorem NuN.of {ν ν' : Nu} (h : ν.sub ν') (nb : Nat) : NuN nb ν ν' := ⟨fun k x _ hx => h.1 k x hx, h.2⟩
theorem NuN.sub {ν ν' : Nu} {nb : Nat} (h : NuN nb ν ν') (hd : ∀ k, nb <= k -> ν k = none) : ν.sub ν' := ⟨fun k x hx => (by
 rcases Nat.lt_or_ge k nb with hk | hk
 ·exact h.1 k x hk hx
 ·rw [hd k hk] at hx; exact absurd hx (by simp)), h.2⟩
def Ctx (w0 : World) (nb N0 : Nat) (e0 : Env) (sl0 : List ab) (ν : Nu) : Prop := ∃ ν0 : Nu, (∀ k, nb <= k -> ν0 k = none) /\ slR w0 ν0 N0 e0 sl0 /\ ν0.sub ν
theorem Ctx.step {w0 : World} {nb N0 : Nat} {e0 : Env} {sl0 : List ab} {ν ν' : Nu} (h : Ctx w0 nb N0 e0 sl0 ν) (hn : NuN nb ν ν') : Ctx w0 nb N0 e0 sl0 ν' := by
 obtain ⟨ν0, h1, h2, h3⟩ := h
 exact ⟨ν0, h1, h2, NuN.sub ⟨fun k x hk hx => hn.1 k x hk (h3.1 k x hx), mO h3.2 hn.2⟩ h1⟩
theorem Ctx.get {w0 : World} {nb N0 : Nat} {e0 : Env} {sl0 : List ab} {ν : Nu} (h : Ctx w0 nb N0 e0 sl0 ν) : slR w0 ν N0 e0 sl0 := let ⟨_, _, h2, h3⟩ := h; h2.mono h3
def YA (w0 : World) (S : FuncId -> a8) (ps : List Nat) (asg body : dp) (sl0 : List ab) : YH := fun xs lh K => xs.length = ps.length /\ ba w0 S lh.length asg (gT sl0 ps xs) lh (od (fun sl lh' => ba w0 S lh.length body sl lh' fun x _ lh => K x lh) fun _ _ _ => False)
abbrev uY := Nat -> FuncId -> a8
def bU (w0 : World) (S : uY) : dg := fun fr b e h g Post => match b with
 | .s body => ∀ (N nbS : Nat) (ν : Nu) (nV nS : Nat) (sl : List ab) (lh : List ae) (QA : Ex -> List ab -> List ae -> Prop), eF N body = true -> slR w0 ν N e sl -> HR w0 ν nV nS h lh ->
   (∀ ex e' h' ν' sl' lh' nV' nS', NuN fr.2 ν ν' -> slR w0 ν' N e' sl' -> HR w0 ν' nV' nS' h' lh' -> Post ex e' h' none -> QA ex sl' lh') -> ba w0 (S fr.1) nbS (.loop body) sl lh QA
 | .i body rd => ∀ (N N0 : Nat) (ν : Nu) (nV nS : Nat) (sl sl0 : List ab) (lh : List ae) (QA : IQ), m9 N body = true -> qa N0 rd.ps = true -> eF N0 rd.asg = true -> eF N0 rd.body = true -> slR w0 ν N e sl -> Ctx w0 fr.2 N0 rd.e0 sl0 ν -> HR w0 ν nV nS h lh ->
   (∀ ex e' h' g' ν' sl' lh' nV' nS', NuN fr.2 ν ν' -> slR w0 ν' N e' sl' -> HR w0 ν' nV' nS' h' lh' -> Post ex e' h' g' -> QA ex sl' lh' g') -> fZ w0 (S fr.1) rd.l (YA w0 (S fr.1) rd.ps rd.asg rd.body sl0) (.loop body) sl lh g QA
section
variable {w0 : World} {S : uY} {α : Type} {Q : α -> Prop} {cf : CF α} {cp : CP α}
theorem mW {ν : Nu} {N : Nat} : ∀ (ps : List Nat) (e : Env) (sl : List ab) (vs : List V) (az : List ab), qa N ps = true -> slR w0 ν N e sl -> vrs w0 ν.z ν vs az -> vs.length = ps.length -> slR w0 ν N (lD e ps vs) (gT sl ps az)
 | [], e, sl, vs, az, _, h, _, _ => by cases vs <;> simpa [lD, gT] using h
 | p :: ps, e, sl, [], az, _, _, _, hl => by cases hl
 | p :: ps, e, sl, v :: vs, az, hp, h, hv, hl => by
   simp only [vrs] at hv
   obtain ⟨x, xs, rfl, h1, h2⟩ := hv
   simp only [qa, Bool.and_eq_true] at hp
   simp only [lD, gT]
   exact mW ps _ _ vs xs hp.2 (h.set (by simpa [Nat.blt_eq] using hp.1) h1) h2 (by simpa using hl)
def DT (w0 : World) (LP : dg) (Q : α -> Prop) (nb N0 : Nat) (e0 : Env) (sl0 : List ab) (Y : YV α) (YS : YH) : Prop :=
 ∀ (vs : List V) (h : List O) (ν : Nu) (nV nS : Nat) (args : List ab) (lh : List ae) (K : Ex -> List O -> T α) (KA : Ex -> List ae -> Prop), Ctx w0 nb N0 e0 sl0 ν -> HR w0 ν nV nS h lh -> vrs w0 ν.z ν vs args -> sat LP (Y vs h K) Q ->
  (∀ x h' ν' nV' nS' lh', ν.sub ν' -> HR w0 ν' nV' nS' h' lh' -> sat LP (K x h') Q -> KA x lh') -> YS args lh KA
section it
variable {LP : dg} {nb N N0 lv : Nat} {rd : RD} {Y : YV α} {YS : YH} {sl0 : List ab} {un : Unr}
theorem gG {S1 : FuncId -> a8} {l : Nat} (hcf : oq w0 S1 LP false cf) (hY : DT w0 LP Q nb N0 rd.e0 sl0 Y YS) : ∀ (ops : List lO) (e : Env) (h : List O) (g : Option Ex) (ν : Nu) (nV nS : Nat) (sl : List ab) (lh : List ae) (K : Env -> List O -> Option Ex -> T α) (KA : List ab -> List ae -> Option Ex -> Prop), jc N ops = true ->
 slR w0 ν N e sl -> Ctx w0 nb N0 rd.e0 sl0 ν -> HR w0 ν nV nS h lh -> sat LP (gX cf l Y ops e h g K) Q -> (∀ e' h' g' ν' sl' lh' nV' nS', NuN nb ν ν' -> slR w0 ν' N e' sl' -> HR w0 ν' nV' nS' h' lh' -> sat LP (K e' h' g') Q -> KA sl' lh' g') -> cQ w0 S1 l YS ops sl lh g KA
 | [], e, h, g, ν, nV, nS, sl, lh, K, KA, _, h1, _, h2, h3, h4 => h4 _ _ _ _ _ _ _ _ (NuN.refl _ _) h1 h2 h3
 | .op o :: rest, e, h, g, ν, nV, nS, sl, lh, K, KA, hd, h1, hx, h2, h3, h4 => by
   simp only [jc, Bool.and_eq_true] at hd
   simp only [gX] at h3
   simp only [cQ]
   exact gE hcf [o] e h ν sl lh _ _ hd.1 h1 h2 h3 fun e' h' ν' sl' lh' k0 k1 k2 k3 => gG hcf hY rest e' h' g ν' nV nS sl' lh' K KA hd.2 k1 (hx.step (NuN.of k0 _)) k2 k3 fun e2 h2 g2 ν2 sl2 lh2 nV2 nS2 q0 => h4 e2 h2 g2 ν2 sl2 lh2 nV2 nS2 ((NuN.of k0 _).trans q0)
 | .yld t d xs :: rest, e, h, g, ν, nV, nS, sl, lh, K, KA, hd, h1, hx, h2, h3, h4 => by
   simp only [jc, Bool.and_eq_true] at hd
   simp only [gX] at h3
   split at h3
   ·rename_i l' hy
    simp only [sat] at h3
    obtain ⟨he, h3⟩ := h3
    simp only [List.cons.injEq, V.yl.injEq, and_true] at he
    subst he
    obtain ⟨us, k1, k2⟩ := jy h1 rfl h3
    have h0 := h1.at' t
    rw [hy] at h0
    simp only [vr] at h0
    simp only [cQ]
    refine ⟨trivial, h0, ?_⟩
    have hdd : ∀ i, d = some i -> i < N := fun i hi => by subst hi; simpa [Nat.blt_eq] using hd.1
    refine hY us h ν nV nS _ lh _ _ hx h2 k1 k2 fun x h' ν' nV' nS' lh' g1 g2 g3 => ?_
    have hp : ∀ b, slR w0 ν' N (dA e d (.kb b)) (dU sl d (.bool b)) := fun b => (h1.mono g1).put d hdd (by simp only [vr])
    cases x with
    | normal => exact gG hcf hY rest _ h' none ν' nV' nS' _ lh' K KA hd.2 (hp true) (hx.step (NuN.of g1 _)) g2 g3 fun e2 h2 g2 ν2 sl2 lh2 nV2 nS2 q0 => h4 e2 h2 g2 ν2 sl2 lh2 nV2 nS2 ((NuN.of g1 _).trans q0)
    | exit i => exact gG hcf hY rest _ h' _ ν' nV' nS' _ lh' K KA hd.2 (hp false) (hx.step (NuN.of g1 _)) g2 g3 fun e2 h2 g2 ν2 sl2 lh2 nV2 nS2 q0 => h4 e2 h2 g2 ν2 sl2 lh2 nV2 nS2 ((NuN.of g1 _).trans q0)
    | ret => exact gG hcf hY rest _ h' _ ν' nV' nS' _ lh' K KA hd.2 (hp false) (hx.step (NuN.of g1 _)) g2 g3 fun e2 h2 g2 ν2 sl2 lh2 nV2 nS2 q0 => h4 e2 h2 g2 ν2 sl2 lh2 nV2 nS2 ((NuN.of g1 _).trans q0)
   ·exact h3.elim
structure IUn (w0 : World) (LP : dg) (Q : α -> Prop) (nb N N0 : Nat) (e0 : Env) (sl0 : List ab) (ev : Env -> List O -> Option Ex -> (Ex -> Env -> List O -> Option Ex -> T α) -> T α) (K : Ex -> Env -> List O -> Option Ex -> T α) (ν0 : Nu) where
 n : Nat
 e : Env
 h : List O
 g : Option Ex
 ν : Nu
 nV : Nat
 nS : Nat
 sl : List ab
 lh : List ae
 hs : slR w0 ν N e sl
 hx : Ctx w0 nb N0 e0 sl0 ν
 hh : HR w0 ν nV nS h lh
 hn : NuN nb ν0 ν
 st : sat LP (DR ev n e h g K) Q
theorem xU (hcf : oq w0 (S lv) (bU w0 S) false cf) (hcp : pK w0 (S lv) (bU w0 S) cp) (hp0 : qa N0 rd.ps = true) (hp1 : eF N0 rd.asg = true) (hp2 : eF N0 rd.body = true) (hYS : YS = YA w0 (S lv) rd.ps rd.asg rd.body sl0) (hY : DT w0 (bU w0 S) Q nb N0 rd.e0 sl0 Y YS) : ∀ (c : eH) (bi : Nat) (e : Env) (h : List O) (g : Option Ex) (ν : Nu) (nV nS : Nat) (sl : List ab) (lh : List ae) (K : Ex -> Env -> List O -> Option Ex -> T α) (KA : IQ),
 m9 N c = true -> slR w0 ν N e sl -> Ctx w0 nb N0 rd.e0 sl0 ν -> HR w0 ν nV nS h lh -> sat (bU w0 S) (jq cf cp un (lv, nb) rd Y bi c e h g K) Q ->
 (∀ x e' h' g' ν' sl' lh' nV' nS', NuN nb ν ν' -> slR w0 ν' N e' sl' -> HR w0 ν' nV' nS' h' lh' -> sat (bU w0 S) (K x e' h' g') Q -> KA x sl' lh' g') -> fZ w0 (S lv) rd.l YS c sl lh g KA := by
 intro c
 induction c with
 | skip => intro bi e h g ν nV nS sl lh K KA _ h1 _ h2 h3 h4; exact h4 .normal _ _ _ _ _ _ _ _ (NuN.refl _ _) h1 h2 h3
 | reg ops =>
   intro bi e h g ν nV nS sl lh K KA hd h1 hx h2 h3 h4
   exact gG hcf hY ops e h g ν nV nS sl lh _ _ hd h1 hx h2 h3 fun e' h' g' ν' sl' lh' nV' nS' k0 k1 k2 k3 => h4 .normal _ _ _ _ _ _ _ _ k0 k1 k2 k3
 | draw ds =>
   intro bi e h g ν nV nS sl lh K KA hd h1 hx h2 h3 h4
   exact rv hcp hd h1 h2 h3 fun e' h' ν' sl' lh' _ _ k0 g1 g2 g3 => h4 .normal _ _ _ _ _ _ _ _ (NuN.of k0 _) g1 g2 g3
 | seq a b iha ihb =>
   intro bi e h g ν nV nS sl lh K KA hd h1 hx h2 h3 h4
   simp only [m9, Bool.and_eq_true] at hd
   refine iha bi e h g ν nV nS sl lh _ _ hd.1 h1 hx h2 h3 fun x e' h' g' ν' sl' lh' nV' nS' g0 g1 g2 g3 => ?_
   cases x with
   | normal => exact ihb bi e' h' g' ν' nV' nS' sl' lh' K KA hd.2 g1 (hx.step g0) g2 g3 fun x e2 h2 g2 ν2 sl2 lh2 nV2 nS2 q0 => h4 x e2 h2 g2 ν2 sl2 lh2 nV2 nS2 (g0.trans q0)
   | exit i => exact h4 _ _ _ _ _ _ _ _ _ g0 g1 g2 g3
   | ret => exact h4 _ _ _ _ _ _ _ _ _ g0 g1 g2 g3
 | cond c a b iha ihb =>
   intro bi e h g ν nV nS sl lh K KA hd h1 hx h2 h3 h4
   simp only [m9, Bool.and_eq_true] at hd
   simp only [jq] at h3
   have ha := h1.arg c
   simp only [fZ]
   split at h3
   ·rename_i hc
    rw [hc] at ha; simp only [vr] at ha; rw [ha]
    exact ⟨fun _ => iha bi e h g ν nV nS sl lh K KA hd.1 h1 hx h2 h3 h4, (fun he => by cases he)⟩
   ·rename_i hc
    rw [hc] at ha; simp only [vr] at ha; rw [ha]
    exact ⟨(fun he => by cases he), fun _ => ihb bi e h g ν nV nS sl lh K KA hd.2 h1 hx h2 h3 h4⟩
   ·rename_i t hc
    rw [hc] at ha; simp only [vr] at ha; rw [ha]
    split at h3
    ·rename_i s
     simp only [sat] at h3
     simp only [arg] at ha
     exact ⟨fun et => iha bi _ h g ν nV nS sl lh K KA hd.1 (h1.know (by simp only [vr]; rw [ha, et])) hx h2 (h3.1 et) h4, fun et => ihb bi _ h g ν nV nS sl lh K KA hd.2 (h1.know (by simp only [vr]; rw [ha, et])) hx h2 (h3.2 et) h4⟩
    ·simp only [sat] at h3
     exact ⟨fun et => iha bi _ h g ν nV nS sl lh K KA hd.1 h1 hx h2 (h3.1 et) h4, fun et => ihb bi _ h g ν nV nS sl lh K KA hd.2 h1 hx h2 (h3.2 et) h4⟩
   ·exact h3.elim
 | block id b ih =>
   intro bi e h g ν nV nS sl lh K KA hd h1 hx h2 h3 h4
   refine ih id e h g ν nV nS sl lh _ _ hd h1 hx h2 h3 fun x e' h' g' ν' sl' lh' nV' nS' g0 g1 g2 g3 => ?_
   cases x with
   | normal => exact h4 _ _ _ _ _ _ _ _ _ g0 g1 g2 g3
   | ret => exact h4 _ _ _ _ _ _ _ _ _ g0 g1 g2 g3
   | exit i =>
     simp only [pu]
     by_cases hi : i = id
     ·subst hi; rw [if_pos rfl]; simp only [Nat.beq_refl, cond] at g3; exact h4 _ _ _ _ _ _ _ _ _ g0 g1 g2 g3
     ·rw [if_neg hi]
      have : Nat.beq i id = false := by cases hb : Nat.beq i id with | false => rfl | true => exact (hi (Nat.eq_of_beq_eq_true hb)).elim
      simp only [this, cond] at g3; exact h4 _ _ _ _ _ _ _ _ _ g0 g1 g2 g3
 | loop b ih =>
   intro bi e h g ν nV nS sl lh K KA hd h1 hx h2 h3 h4
   simp only [jq] at h3
   split at h3
   ·subst hYS
    exact h3 N N0 ν nV nS sl sl0 lh KA hd hp0 hp1 hp2 h1 hx h2 h4
   ·rename_i n hn
    simp only [fZ]
    refine ⟨IUn w0 (bU w0 S) Q nb N N0 rd.e0 sl0 (jq cf cp un (lv, nb) rd Y bi b) K ν, IUn.sl, IUn.lh, IUn.g, IUn.n, ⟨n + 1, e, h, g, ν, nV, nS, sl, lh, h1, hx, h2, NuN.refl _ _, h3⟩, rfl, rfl, rfl, fun s => ?_⟩
    have hst := s.st
    have hsn := s.hn
    match hm : s.n, hst with
    | 0, hst => exact hst.elim
    | k + 1, hst =>
      simp only [DR] at hst
      refine ih bi s.e s.h s.g s.ν s.nV s.nS s.sl s.lh _ _ hd s.hs s.hx s.hh hst fun x e' h' g' ν' sl' lh' nV' nS' g0 g1 g2 g3 => ?_
      cases x with
      | normal => exact ⟨⟨k, e', h', g', ν', nV', nS', sl', lh', g1, s.hx.step g0, g2, hsn.trans g0, g3⟩, rfl, rfl, rfl, Nat.lt_succ_self k⟩
      | exit i => exact h4 _ _ _ _ _ _ _ _ _ (hsn.trans g0) g1 g2 g3
      | ret => exact h4 _ _ _ _ _ _ _ _ _ (hsn.trans g0) g1 g2 g3
 | exit i => intro bi e h g ν nV nS sl lh K KA _ h1 _ h2 h3 h4; exact h4 _ _ _ _ _ _ _ _ _ (NuN.refl _ _) h1 h2 h3
 | ret => intro bi e h g ν nV nS sl lh K KA _ h1 _ h2 h3 h4; exact h4 _ _ _ _ _ _ _ _ _ (NuN.refl _ _) h1 h2 h3
 | scope b ih => intro bi e h g ν nV nS sl lh K KA hd h1 hx h2 h3 h4; exact ih bi e h g ν nV nS sl lh K KA hd h1 hx h2 h3 h4
end it
structure SUn (w0 : World) (LP : dg) (Q : α -> Prop) (nb N : Nat) (ev : Env -> List O -> (Ex -> Env -> List O -> T α) -> T α) (K : Ex -> Env -> List O -> T α) (ν0 : Nu) where
 n : Nat
 e : Env
 h : List O
 ν : Nu
 nV : Nat
 nS : Nat
 sl : List ab
 lh : List ae
 hs : slR w0 ν N e sl
 hh : HR w0 ν nV nS h lh
 hn : NuN nb ν0 ν
 st : sat LP (evL ev n e h K) Q
theorem gD : ∀ l : List ab, kj l l
 | [] => by simp [kj]
 | a :: l => by unfold kj; exact ⟨.inr rfl, gD l⟩
theorem pJ : ∀ {its : List gS} {it : gS}, tg its = true -> it ∈ its -> m9 it.ntmps it.body = true
 | [], _, _, h => by cases h
 | x :: l, it, h, hm => by
   simp only [tg, Bool.and_eq_true] at h
   rcases List.mem_cons.1 hm with rfl | hm
   ·exact h.1
   ·exact pJ h.2 hm
theorem tj {lh : List ae} {ν : Nu} : ∀ {us : List V} {az rest : List ab} {j i : Nat}, vrs w0 lh ν us az -> (∀ a, a ∈ rest -> True) -> vr w0 lh ν (em (zC us j) (j + i)) ((az ++ rest).getD i .any)
 | [], az, rest, j, i, h, _ => by simp only [zC, em, vr]
 | u :: us, az, rest, j, i, h, hr => by
   simp only [vrs] at h; obtain ⟨x, xs, rfl, h1, h2⟩ := h
   simp only [zC]; rw [fW]
   cases i with
   | zero => rw [if_pos (by omega)]; simpa using h1
   | succ i =>
     rw [if_neg (by omega)]
     have := tj (j := j + 1) (i := i) (rest := rest) h2 hr
     rw [show j + 1 + i = j + (i + 1) by omega] at this
     simpa using this
theorem ou {S1 : FuncId -> a8} {LP : dg} {N : Nat} (hcf : oq w0 S1 LP false cf) : ∀ (t : OT) (e : Env) (h : List O) (ν : Nu) (nV nS : Nat) (sl : List ab) (lh : List ae) (K : Env -> List O -> T α) (KA : List ab -> List ae -> Prop), qz N t = true ->
 slR w0 ν N e sl -> HR w0 ν nV nS h lh -> sat LP (vz cf t e h K) Q -> (∀ e' h' ν' sl' lh', ν.sub ν' -> slR w0 ν' N e' sl' -> HR w0 ν' nV nS h' lh' -> sat LP (K e' h') Q -> KA sl' lh') -> mK w0 S1 t sl lh KA
 | .done, e, h, ν, nV, nS, sl, lh, K, KA, _, h1, h2, h3, h4 => h4 _ _ _ _ _ (Nu.sub_refl ν) h1 h2 h3
 | .op o r, e, h, ν, nV, nS, sl, lh, K, KA, hd, h1, h2, h3, h4 => by
   simp only [qz, Bool.and_eq_true] at hd
   simp only [vz] at h3
   simp only [mK]
   exact gE hcf [o] e h ν sl lh _ _ hd.1 h1 h2 h3 fun e' h' ν' sl' lh' k0 k1 k2 k3 => ou hcf r e' h' ν' nV nS sl' lh' K KA hd.2 k1 k2 k3 fun e2 h2 ν2 sl2 lh2 q0 => h4 e2 h2 ν2 sl2 lh2 (Nu.sub_trans k0 q0)
 | .alt a b, e, h, ν, nV, nS, sl, lh, K, KA, hd, h1, h2, h3, h4 => by
   simp only [qz, Bool.and_eq_true] at hd
   simp only [vz, sat] at h3
   exact ⟨ou hcf a e h ν nV nS sl lh K KA hd.1 h1 h2 h3.1 h4, ou hcf b e h ν nV nS sl lh K KA hd.2 h1 h2 h3.2 h4⟩
theorem sR {lv : Nat} (hcf : oq w0 (S lv) (bU w0 S) false cf) (hcp : pK w0 (S lv) (bU w0 S) cp) {un : Unr} {N : Nat} : ∀ (c : dp) (nb nbS bi : Nat) (e : Env) (h : List O) (ν : Nu) (nV nS : Nat) (sl : List ab) (lh : List ae) (K : Ex -> Env -> List O -> T α) (KA : Ex -> List ab -> List ae -> Prop),
 eF N c = true -> slR w0 ν N e sl -> HR w0 ν nV nS h lh -> sat (bU w0 S) (evC cf cp un (lv, nb) bi c e h K) Q ->
 (∀ x e' h' ν' sl' lh' nV' nS', NuN nb ν ν' -> slR w0 ν' N e' sl' -> HR w0 ν' nV' nS' h' lh' -> sat (bU w0 S) (K x e' h') Q -> KA x sl' lh') -> ba w0 (S lv) nbS c sl lh KA := by
 intro c
 induction c with
 | skip => intro nb nbS bi e h ν nV nS sl lh K KA _ h1 h2 h3 h4; exact h4 .normal _ _ _ _ _ _ _ (NuN.refl _ _) h1 h2 h3
 | reg ops =>
   intro nb nbS bi e h ν nV nS sl lh K KA hd h1 h2 h3 h4
   exact gE hcf ops e h ν sl lh _ _ hd h1 h2 h3 fun e' h' ν' sl' lh' g0 g1 g2 g3 => h4 .normal _ _ _ _ _ _ _ (NuN.of g0 _) g1 g2 g3
 | allo t =>
   intro nb nbS bi e h ν nV nS sl lh K KA hd h1 h2 h3 h4
   exact ou hcf t e h ν nV nS sl lh _ _ hd h1 h2 h3 fun e' h' ν' sl' lh' g0 g1 g2 g3 => h4 .normal _ _ _ _ _ _ _ (NuN.of g0 _) g1 g2 g3
 | draw ds =>
   intro nb nbS bi e h ν nV nS sl lh K KA hd h1 h2 h3 h4
   exact rv hcp hd h1 h2 h3 fun e' h' ν' sl' lh' _ _ g0 g1 g2 g3 => h4 .normal _ _ _ _ _ _ _ (NuN.of g0 _) g1 g2 g3
 | seq a b iha ihb =>
   intro nb nbS bi e h ν nV nS sl lh K KA hd h1 h2 h3 h4
   simp only [eF, Bool.and_eq_true] at hd
   refine iha nb nbS bi e h ν nV nS sl lh _ _ hd.1 h1 h2 h3 fun x e' h' ν' sl' lh' nV' nS' g0 g1 g2 g3 => ?_
   cases x with
   | normal => exact ihb nb nbS bi e' h' ν' nV' nS' sl' lh' K KA hd.2 g1 g2 g3 fun x e2 h2 ν2 sl2 lh2 nV2 nS2 q0 => h4 x e2 h2 ν2 sl2 lh2 nV2 nS2 (g0.trans q0)
   | exit i => exact h4 _ _ _ _ _ _ _ _ g0 g1 g2 g3
   | ret => exact h4 _ _ _ _ _ _ _ _ g0 g1 g2 g3
 | cond c a b iha ihb =>
   intro nb nbS bi e h ν nV nS sl lh K KA hd h1 h2 h3 h4
   simp only [eF, Bool.and_eq_true] at hd
   simp only [evC] at h3
   have ha := h1.arg c
   simp only [ba]
   split at h3
   ·rename_i hc
    rw [hc] at ha; simp only [vr] at ha; rw [ha]
    exact ⟨fun _ => iha nb nbS bi e h ν nV nS sl lh K KA hd.1 h1 h2 h3 h4, (fun he => by cases he)⟩
   ·rename_i hc
    rw [hc] at ha; simp only [vr] at ha; rw [ha]
    exact ⟨(fun he => by cases he), fun _ => ihb nb nbS bi e h ν nV nS sl lh K KA hd.2 h1 h2 h3 h4⟩
   ·rename_i t hc
    rw [hc] at ha; simp only [vr] at ha; rw [ha]
    split at h3
    ·rename_i s
     simp only [sat] at h3
     simp only [arg] at ha
     exact ⟨fun et => iha nb nbS bi _ h ν nV nS sl lh K KA hd.1 (h1.know (by simp only [vr]; rw [ha, et])) h2 (h3.1 et) h4, fun et => ihb nb nbS bi _ h ν nV nS sl lh K KA hd.2 (h1.know (by simp only [vr]; rw [ha, et])) h2 (h3.2 et) h4⟩
    ·simp only [sat] at h3
     exact ⟨fun et => iha nb nbS bi _ h ν nV nS sl lh K KA hd.1 h1 h2 (h3.1 et) h4, fun et => ihb nb nbS bi _ h ν nV nS sl lh K KA hd.2 h1 h2 (h3.2 et) h4⟩
   ·exact h3.elim
 | block id b ih =>
   intro nb nbS bi e h ν nV nS sl lh K KA hd h1 h2 h3 h4
   refine ih nb nbS id e h ν nV nS sl lh _ _ hd h1 h2 h3 fun x e' h' ν' sl' lh' nV' nS' g0 g1 g2 g3 => ?_
   cases x with
   | normal => exact h4 _ _ _ _ _ _ _ _ g0 g1 g2 g3
   | ret => exact h4 _ _ _ _ _ _ _ _ g0 g1 g2 g3
   | exit i =>
     simp only [o8]
     by_cases hi : i = id
     ·subst hi; rw [if_pos rfl]; simp only [Nat.beq_refl, cond] at g3; exact h4 _ _ _ _ _ _ _ _ g0 g1 g2 g3
     ·rw [if_neg hi]
      have : Nat.beq i id = false := by cases hb : Nat.beq i id with | false => rfl | true => exact (hi (Nat.eq_of_beq_eq_true hb)).elim
      simp only [this, cond] at g3; exact h4 _ _ _ _ _ _ _ _ g0 g1 g2 g3
 | loop b ih =>
   intro nb nbS bi e h ν nV nS sl lh K KA hd h1 h2 h3 h4
   simp only [evC] at h3
   split at h3
   ·exact h3 N nbS ν nV nS sl lh KA hd h1 h2 h4
   ·rename_i n hn
    simp only [ba]
    refine ⟨SUn w0 (bU w0 S) Q nb N (evC cf cp un (lv, nb) bi b) K ν, SUn.sl, SUn.lh, SUn.n, ⟨n + 1, e, h, ν, nV, nS, sl, lh, h1, h2, NuN.refl _ _, h3⟩, .inl ⟨rfl, gD _⟩, fun s => ?_⟩
    have hst := s.st
    have hsn := s.hn
    match hm : s.n, hst with
    | 0, hst => exact hst.elim
    | k + 1, hst =>
      simp only [evL] at hst
      refine ih nb nbS bi s.e s.h s.ν s.nV s.nS s.sl s.lh _ _ hd s.hs s.hh hst fun x e' h' ν' sl' lh' nV' nS' g0 g1 g2 g3 => ?_
      cases x with
      | normal => exact ⟨⟨k, e', h', ν', nV', nS', sl', lh', g1, g2, hsn.trans g0, g3⟩, .inl ⟨rfl, gD _⟩, Nat.lt_succ_self k⟩
      | exit i => exact h4 _ _ _ _ _ _ _ _ (hsn.trans g0) g1 g2 g3
      | ret => exact h4 _ _ _ _ _ _ _ _ (hsn.trans g0) g1 g2 g3
 | exit i => intro nb nbS bi e h ν nV nS sl lh K KA _ h1 h2 h3 h4; exact h4 _ _ _ _ _ _ _ _ (NuN.refl _ _) h1 h2 h3
 | ret => intro nb nbS bi e h ν nV nS sl lh K KA _ h1 h2 h3 h4; exact h4 _ _ _ _ _ _ _ _ (NuN.refl _ _) h1 h2 h3
 | scope b ih => intro nb nbS bi e h ν nV nS sl lh K KA hd h1 h2 h3 h4; exact ih nb nbS bi e h ν nV nS sl lh K KA hd h1 h2 h3 h4
 | range gop ps asg body its iha ihb =>
   intro nb nbS bi e h ν nV nS sl lh K KA hd h1 h2 h3 h4
   simp only [eF, Bool.and_eq_true] at hd
   simp only [evC] at h3
   have ha := h1.arg gop
   simp only [ba]
   split at h3
   ·rename_i f ys hg
    rw [hg] at ha
    simp only [vr, vrs] at ha
    obtain ⟨us, vs, hav, rfl, hys⟩ := ha
    rw [hav]
    dsimp only
    split at h3
    ·rename_i it hit
     rw [hit]
     dsimp only
     cases hb : Nat.ble (aX ys + 1) it.ntmps with
     | false => rw [hb] at h3; exact h3.elim
     | true =>
       rw [hb] at h3
       simp only [cond, sat] at h3
       have hle := Nat.le_of_ble_eq_true hb
       rw [aU] at hle
       have hl := aS hys
       intro l
       have hdom : ∀ k, aX h <= k -> ν k = none := fun k hk => h2.dom k (by rw [← aU]; exact hk)
       have hctx : Ctx w0 (aX h) N e sl ν := ⟨ν, hdom, h1, Nu.sub_refl ν⟩
       have hY : DT w0 (bU w0 S) Q (aX h) N e sl (fun vs h K => cond (Nat.beq (aX vs) (aX ps)) (evC cf cp un (lv, aX h) bi asg (lD e ps vs) h fun x e1 h1 => match x with
        | .normal => evC cf cp un (lv, aX h) bi body e1 h1 fun x _ h2 => K x h2
        | _ => .fail 94) (.fail 95)) (YA w0 (S lv) ps asg body sl) := by
        intro vs h ν nV nS args lh K KA hx hh hv hs hK
        dsimp only at hs
        cases hb : Nat.beq (aX vs) (aX ps) with
        | false => rw [hb] at hs; exact hs.elim
        | true =>
          rw [hb] at hs
          simp only [cond] at hs
          have hlen := Nat.eq_of_beq_eq_true hb
          rw [aU, aU] at hlen
          have hdom : ∀ k, aX h <= k -> ν k = none := fun k hk => hh.dom k (by rw [← aU]; exact hk)
          refine ⟨by rw [aS hv]; exact hlen, ?_⟩
          refine iha (aX h) _ bi _ h ν nV nS _ lh _ _ hd.2.1 (mW ps e sl vs args hd.1 hx.get hv hlen) hh hs fun x e' h' ν' sl' lh' nV' nS' g0 g1 g2 g3 => ?_
          cases x with
          | normal => exact ihb (aX h) _ bi _ h' ν' nV' nS' _ lh' _ _ hd.2.2.1 g1 g2 g3 fun x e2 h2 ν2 sl2 lh2 nV2 nS2 q0 q1 q2 q3 => hK x h2 ν2 nV2 nS2 lh2 ((g0.trans q0).sub hdom) q2 q3
          | exit i => exact g3.elim
          | ret => exact g3.elim
       refine xU (rd := ⟨ps, asg, body, e, l⟩) (Y := _) (sl0 := sl) (nb := aX h) hcf hcp hd.1 hd.2.1 hd.2.2.1 rfl hY it.body 0 _ h none ν nV nS _ lh _ _ (pJ hd.2.2.2 (ku hit).1) ⟨by simp; omega, fun i => ?_⟩ hctx h2 (h3 l) fun x e' h' g' ν' sl' lh' nV' nS' g0 g1 g2 g3 => ?_
       ·rw [fW]
        cases i with
        | zero => simp [vr]
        | succ i =>
          rw [if_neg (by omega)]
          have := tj (j := 1) (i := i) (rest := List.replicate (it.ntmps - (vs.length + 1)) .any) hys (fun _ _ => trivial)
          rw [show 1 + i = i + 1 by omega] at this
          simpa using this
       ·have hsub := g0.sub hdom
        cases x with
        | exit i => exact g3.elim
        | normal =>
          cases g' with
          | none => exact h4 .normal e h' ν' sl lh' nV' nS' (NuN.of hsub _) (h1.mono hsub) g2 g3
          | some x => exact h4 x e h' ν' sl lh' nV' nS' (NuN.of hsub _) (h1.mono hsub) g2 g3
        | ret =>
          cases g' with
          | none => exact h4 .normal e h' ν' sl lh' nV' nS' (NuN.of hsub _) (h1.mono hsub) g2 g3
          | some x => exact h4 x e h' ν' sl lh' nV' nS' (NuN.of hsub _) (h1.mono hsub) g2 g3
    ·exact h3.elim
   ·exact h3.elim
theorem j5 {LP : dg} {ν : Nu} {nV nS N : Nat} {e : Env} {h : List O} {sl : List ab} {lh : List ae} (h1 : slR w0 ν N e sl) (h2 : HR w0 ν nV nS h lh) : ∀ (rs : List sP) (K : List V -> T α) (KA : List ab -> Prop), sat LP (oh e h rs K) Q ->
 (∀ us az, vrs w0 ν.z ν us az -> sat LP (K us) Q -> KA az) -> fe w0 sl lh rs KA
 | [], K, KA, hs, hK => hK [] [] (by simp only [vrs]) hs
 | .tmp t :: l, K, KA, hs, hK => by
   simp only [oh] at hs
   obtain ⟨u, g1, g2⟩ := BC rfl (h1.at' t) hs
   exact j5 h1 h2 l _ _ g2 fun us az g3 g4 => hK (u :: us) _ (by simp only [vrs]; exact ⟨_, _, rfl, g1, g3⟩) g4
 | .cell t n :: l, K, KA, hs, hK => by
   cases n with
   | none =>
     simp only [oh] at hs
     obtain ⟨g0, hs⟩ := pA rfl hs
     split at hs
     ·rename_i v hv
      obtain ⟨p, x, e1, e2, e3⟩ := vO h2 (h1.at' t) hv g0
      simp only [fe, e1]
      exact ⟨x, e2, j5 h1 h2 l _ _ hs fun us az g3 g4 => hK (v :: us) _ (by simp only [vrs]; exact ⟨_, _, rfl, e3, g3⟩) g4⟩
     ·exact hs.elim
   | some n =>
     simp only [oh] at hs
     obtain ⟨g0, hs⟩ := pA rfl hs
     split at hs
     ·rename_i cs hv
      obtain ⟨p, x, e1, e2, e3⟩ := xc h2 (h1.at' t) hv g0
      simp only [fe, e1]
      exact ⟨x, e2, j5 h1 h2 l _ _ hs fun us az g3 g4 => hK (.agg cs :: us) _ (by simp only [vrs]; exact ⟨_, _, rfl, by simp only [vr]; exact ⟨_, rfl, e3⟩, g3⟩) g4⟩
     ·exact hs.elim
theorem yx {lh : List ae} {ν : Nu} : ∀ {us : List V} {az : List ab}, vrs w0 lh ν us az -> vr w0 lh ν (nl us) (mg az)
 | [], az, h => by simp only [vrs] at h; subst h; simp only [nl, mg, vr]; exact ⟨_, rfl, by simp only [vrs]⟩
 | [u], az, h => by simp only [vrs] at h; obtain ⟨x, xs, rfl, h1, rfl⟩ := h; exact h1
 | u :: v :: us, az, h => by
   have h' := h
   simp only [vrs] at h; obtain ⟨x, xs, rfl, h1, y, ys, rfl, h2⟩ := h
   simp only [nl, mg, vr]; exact ⟨_, rfl, h'⟩
theorem HR.none (w0 : World) : HR w0 Nu.nil 0 0 [] [] := ⟨(fun k o h => by simp at h), (fun k k' x x' _ _ h => by cases h), (fun _ _ => rfl), (fun k x h => by cases h), yH _, (fun k x _ h => by cases h)⟩
theorem tE {lv : Nat} (hcf : oq w0 (S lv) (bU w0 S) false cf) (hcp : pK w0 (S lv) (bU w0 S) cp) {un : Unr} {sf : aT} {args : List V} {az : List ab} {h : List O} {lh : List ae} {ν : Nu} {nV nS : Nat} {K : V -> List O -> T α} {KA : ab -> List ae -> Prop} (hd : eF sf.ntmps sf.body = true)
 (ha : vrs w0 ν.z ν args az) (hh : HR w0 ν nV nS h lh) (hs : sat (bU w0 S) (pr cf cp un lv sf args h K) Q)
 (hK : ∀ v h' ν' a lh', ν.sub ν' -> (∀ nV nS, HR w0 ν' nV nS h' lh') -> vr w0 ν'.z ν' v a -> sat (bU w0 S) (K v h') Q -> KA a lh') : yr w0 (S lv) sf az lh KA := by
 unfold pr at hs
 cases hb : Nat.ble (aX args) sf.ntmps with
 | false => rw [hb] at hs; exact hs.elim
 | true =>
   rw [hb] at hs
   simp only [cond] at hs
   have hle := Nat.le_of_ble_eq_true hb
   rw [aU] at hle
   have hl := aS ha
   have hdom : ∀ k, aX h <= k -> ν k = none := fun k hk => hh.dom k (by rw [← aU]; exact hk)
   unfold yr
   refine sR hcf hcp sf.body (aX h) _ 0 _ h ν nV nS _ lh _ _ hd ⟨by simp; omega, fun i => ?_⟩ hh hs fun x e' h' ν' sl' lh' nV' nS' g0 g1 g2 g3 => ?_
   ·have := tj (j := 0) (i := i) (rest := List.replicate (sf.ntmps - az.length) .any) ha (fun _ _ => trivial)
    rwa [Nat.zero_add] at this
   ·cases x with
    | exit i => exact g3.elim
    | normal => exact j5 g1 g2 _ _ _ g3 fun us vs k1 k2 => hK _ _ ν' _ _ (g0.sub hdom) (fun a b => g2.undead a b) (yx k1) k2
    | ret => exact j5 g1 g2 _ _ _ g3 fun us vs k1 k2 => hK _ _ ν' _ _ (g0.sub hdom) (fun a b => g2.undead a b) (yx k1) k2
def eG (w0 : World) (nb : Nat) (e : Env) (h : List O) (e1 : Env) (h1 : List O) : Prop :=
 ∀ (N : Nat) (ν : Nu) (nV nS : Nat) (sl : List ab) (lh : List ae), slR w0 ν N e sl -> HR w0 ν nV nS h lh -> ∃ ν1 nV1 nS1, NuN nb ν ν1 /\ slR w0 ν1 N e1 sl /\ HR w0 ν1 nV1 nS1 h1 lh
structure LSt (w0 : World) (nb N : Nat) (I : Type) (inv : I -> Env × List O) (ν0 : Nu) where
 i : I
 ν : Nu
 nV : Nat
 nS : Nat
 sl : List ab
 lh : List ae
 hs : slR w0 ν N (inv i).1 sl
 hh : HR w0 ν nV nS (inv i).2 lh
 hn : NuN nb ν0 ν
theorem D4 {fr : Nat × Nat} {cf : CF (Ex × Env × List O)} {cp : CP (Ex × Env × List O)} (hcf : oq w0 (S fr.1) (bU w0 S) false cf) (hcp : pK w0 (S fr.1) (bU w0 S) cp) {un : Unr} {bi : Nat} {body : dp} {e : Env} {h : List O} {Post : Ex -> Env -> List O -> Option Ex -> Prop}
 (I : Type) (inv : I -> Env × List O) (μ : I -> Nat) (h0 : ∃ i, eG w0 fr.2 e h (inv i).1 (inv i).2)
 (round : ∀ i, sat (bU w0 S) (evC cf cp un fr bi body (inv i).1 (inv i).2 fun x e h => .ret (x, e, h)) fun r => match r.1 with
   | .normal => ∃ i', eG w0 fr.2 r.2.1 r.2.2 (inv i').1 (inv i').2 /\ μ i' < μ i
   | x => Post x r.2.1 r.2.2 none) : bU w0 S fr (.s body) e h none Post := by
 intro N nbS ν nV nS sl lh QA hd h1 h2 hQ
 obtain ⟨i0, hi0⟩ := h0
 obtain ⟨ν1, nV1, nS1, g0, g1, g2⟩ := hi0 N ν nV nS sl lh h1 h2
 simp only [ba]
 refine ⟨LSt w0 fr.2 N I inv ν, fun s => s.sl, fun s => s.lh, fun s => μ s.i, ⟨i0, ν1, nV1, nS1, sl, lh, g1, g2, g0⟩, .inl ⟨rfl, gD _⟩, fun s => ?_⟩
 refine sR hcf hcp body fr.2 nbS bi _ _ s.ν s.nV s.nS s.sl s.lh _ _ hd s.hs s.hh (round s.i) fun x e' h' ν' sl' lh' nV' nS' k0 k1 k2 k3 => ?_
 simp only [sat] at k3
 cases x with
 | normal =>
   obtain ⟨i', k4, k5⟩ := k3
   obtain ⟨ν2, nV2, nS2, k8, k6, k7⟩ := k4 N ν' nV' nS' sl' lh' k1 k2
   exact ⟨⟨i', ν2, nV2, nS2, sl', lh', k6, k7, (s.hn.trans k0).trans k8⟩, .inl ⟨rfl, gD _⟩, k5⟩
 | exit i => exact hQ _ _ _ _ _ _ _ _ (s.hn.trans k0) k1 k2 k3
 | ret => exact hQ _ _ _ _ _ _ _ _ (s.hn.trans k0) k1 k2 k3
structure LL (w0 : World) (nb N : Nat) (I : Type) (inv : I -> Env × List O × Option Ex) (ν0 : Nu) where
 i : I
 ν : Nu
 nV : Nat
 nS : Nat
 sl : List ab
 lh : List ae
 hs : slR w0 ν N (inv i).1 sl
 hh : HR w0 ν nV nS (inv i).2.1 lh
 hn : NuN nb ν0 ν
def rdY (cf : CF α) (cp : CP α) (un : Unr) (lv bi : Nat) (rd : RD) : YV α := fun vs h K => cond (Nat.beq (aX vs) (aX rd.ps)) (evC cf cp un (lv, aX h) bi rd.asg (lD rd.e0 rd.ps vs) h fun x e1 h1 => match x with
 | .normal => evC cf cp un (lv, aX h) bi rd.body e1 h1 fun x _ h2 => K x h2
 | _ => .fail 94) (.fail 95)
theorem GG {lv bi : Nat} {un : Unr} {rd : RD} {nb N : Nat} {sl : List ab} (hcf : oq w0 (S lv) (bU w0 S) false cf) (hcp : pK w0 (S lv) (bU w0 S) cp) (h0 : qa N rd.ps = true) (h1 : eF N rd.asg = true) (h2 : eF N rd.body = true) :
 DT w0 (bU w0 S) Q nb N rd.e0 sl (rdY cf cp un lv bi rd) (YA w0 (S lv) rd.ps rd.asg rd.body sl) := by
 intro vs h ν nV nS args lh K KA hx hh hv hs hK
 unfold rdY at hs
 cases hb : Nat.beq (aX vs) (aX rd.ps) with
 | false => rw [hb] at hs; exact hs.elim
 | true =>
   rw [hb] at hs
   simp only [cond] at hs
   have hlen := Nat.eq_of_beq_eq_true hb
   rw [aU, aU] at hlen
   have hdom : ∀ k, aX h <= k -> ν k = none := fun k hk => hh.dom k (by rw [← aU]; exact hk)
   refine ⟨by rw [aS hv]; exact hlen, ?_⟩
   refine sR hcf hcp rd.asg (aX h) _ bi _ h ν nV nS _ lh _ _ h1 (mW rd.ps rd.e0 sl vs args h0 hx.get hv hlen) hh hs fun x e' h' ν' sl' lh' nV' nS' g0 g1 g2 g3 => ?_
   cases x with
   | normal => exact sR hcf hcp rd.body (aX h) _ bi _ h' ν' nV' nS' _ lh' _ _ h2 g1 g2 g3 fun x e2 h2 ν2 sl2 lh2 nV2 nS2 q0 q1 q2 q3 => hK x h2 ν2 nV2 nS2 lh2 ((g0.trans q0).sub hdom) q2 q3
   | exit i => exact g3.elim
   | ret => exact g3.elim
theorem BJ {fr : Nat × Nat} {cf : CF (Ex × Env × List O × Option Ex)} {cp : CP (Ex × Env × List O × Option Ex)} (hcf : oq w0 (S fr.1) (bU w0 S) false cf) (hcp : pK w0 (S fr.1) (bU w0 S) cp) {un : Unr} {bi bi' : Nat} {body : eH} {rd : RD} {e : Env} {h : List O} {g : Option Ex} {Post : Ex -> Env -> List O -> Option Ex -> Prop}
 (I : Type) (inv : I -> Env × List O × Option Ex) (μ : I -> Nat) (h0 : ∃ i, g = (inv i).2.2 /\ eG w0 fr.2 e h (inv i).1 (inv i).2.1)
 (round : ∀ i, sat (bU w0 S) (jq cf cp un fr rd (rdY cf cp un fr.1 bi' rd) bi body (inv i).1 (inv i).2.1 (inv i).2.2 fun x e h g => .ret (x, e, h, g)) fun r => match r.1 with
   | .normal => ∃ i', r.2.2.2 = (inv i').2.2 /\ eG w0 fr.2 r.2.1 r.2.2.1 (inv i').1 (inv i').2.1 /\ μ i' < μ i
   | x => Post x r.2.1 r.2.2.1 r.2.2.2) : bU w0 S fr (.i body rd) e h g Post := by
 intro N N0 ν nV nS sl sl0 lh QA hd hp0 hp1 hp2 h1 hx h2 hQ
 obtain ⟨i0, rfl, hi0⟩ := h0
 obtain ⟨ν1, nV1, nS1, g0, g1, g2⟩ := hi0 N ν nV nS sl lh h1 h2
 simp only [fZ]
 refine ⟨LL w0 fr.2 N I inv ν, fun s => s.sl, fun s => s.lh, fun s => (inv s.i).2.2, fun s => μ s.i, ⟨i0, ν1, nV1, nS1, sl, lh, g1, g2, g0⟩, rfl, rfl, rfl, fun s => ?_⟩
 refine xU (Y := rdY cf cp un fr.1 bi' rd) (sl0 := sl0) hcf hcp hp0 hp1 hp2 rfl (GG hcf hcp hp0 hp1 hp2) body bi _ _ _ s.ν s.nV s.nS s.sl s.lh _ _ hd s.hs (hx.step s.hn) s.hh (round s.i) fun x e' h' g' ν' sl' lh' nV' nS' k0 k1 k2 k3 => ?_
 simp only [sat] at k3
 cases x with
 | normal =>
   obtain ⟨i', k9, k4, k5⟩ := k3
   obtain ⟨ν2, nV2, nS2, k8, k6, k7⟩ := k4 N ν' nV' nS' sl' lh' k1 k2
   exact ⟨⟨i', ν2, nV2, nS2, sl', lh', k6, k7, (s.hn.trans k0).trans k8⟩, rfl, rfl, k9, k5⟩
 | exit i => exact hQ _ _ _ _ _ _ _ _ _ (s.hn.trans k0) k1 k2 k3
 | ret => exact hQ _ _ _ _ _ _ _ _ _ (s.hn.trans k0) k1 k2 k3
end
section
variable {B : bP} {m : aq} {lh : List ae} {w : World}
mutual
theorem bV (h : aD B m lh w) : ∀ (d : V) (x : ab) (u : Value), d.fc = true -> vr B.w0 lh Nu.nil d x -> vrel m x u -> vr w [] Nu.nil d (aN u)
 | .int .., x, u, _, hd, hv => by simp only [vr] at hd; subst hd; simp only [vrel] at hv; subst hv; simp only [aN, vr]
 | .bool _, x, u, _, hd, hv => by simp only [vr] at hd; subst hd; simp only [vrel] at hv; subst hv; simp only [aN, vr]
 | .kb _, x, u, _, hd, hv => by simp only [vr] at hd; subst hd; simp only [vrel] at hv; subst hv; simp only [aN, vr]
 | .str _, x, u, _, hd, hv => by simp only [vr] at hd; subst hd; simp only [vrel] at hv; subst hv; simp only [aN, vr]
 | .agg _, _, _, hc, _, _ => by cases hc
 | .tup _, _, _, hc, _, _ => by cases hc
 | .fn .., _, _, hc, _, _ => by cases hc
 | .gd .., _, _, hc, _, _ => by cases hc
 | .yl _, _, _, hc, _, _ => by cases hc
 | .sl n f, x, u, _, hd, hv => by
   simp only [vr] at hd ⊢
   obtain ⟨p, c, esz, rfl, h2, h3, h4, h5⟩ := hd
   simp only [vrel] at hv
   obtain ⟨q, rfl, hq⟩ := hv
   refine ⟨q.map .g, c, esz, by cases q <;> rfl, h2, h3, by cases q <;> trivial, fun i hi => ?_⟩
   obtain ⟨p', az, rfl, g2, g3, g4⟩ := h5 i hi
   obtain ⟨a, us, hqa, k1, k2⟩ := oZ (q := q.map fun a => a.add (i * esz)) h (by
    cases p' with
    | g a => simp only [b9] at hq; subst hq; simp [b9, Ptr.add]
    | l k off => simp only [b9] at hq; obtain ⟨b, e1, rfl⟩ := hq; simp only [b9, Ptr.add]; exact ⟨b, e1, by simp [Addr.add]⟩) g2
   cases q with
   | none => cases hqa
   | some a0 =>
     simp at hqa
     subst hqa
     exact ⟨.g a0, _, rfl, k1, kE h (f i) az us g4 g3 k2, g4⟩
 | .sq n m f, x, u, _, hd, hv => by
   simp only [vr] at hd ⊢
   obtain ⟨p, c, esz, rfl, h2, h3, h4, h5⟩ := hd
   simp only [vrel] at hv
   obtain ⟨q, rfl, hq⟩ := hv
   refine ⟨q.map .g, c, esz, by cases q <;> rfl, h2, h3, by cases q <;> trivial, fun i hi => ?_⟩
   obtain ⟨p', az, rfl, g2, g3, g4⟩ := h5 i hi
   obtain ⟨a, us, hqa, k1, k2⟩ := oZ (q := q.map fun a => a.add (i * esz)) h (by
    cases p' with
    | g a => simp only [b9] at hq; subst hq; simp [b9, Ptr.add]
    | l k off => simp only [b9] at hq; obtain ⟨b, e1, rfl⟩ := hq; simp only [b9, Ptr.add]; exact ⟨b, e1, by simp [Addr.add]⟩) g2
   cases q with
   | none => cases hqa
   | some a0 =>
     simp at hqa
     subst hqa
     exact ⟨.g a0, _, rfl, k1, kE h (f i) az us g4 g3 k2, g4⟩
 | .pd cs, x, u, _, hd, hv => by
   simp only [vr] at hd ⊢
   obtain ⟨p, az, rfl, _, h3, h4, h5⟩ := hd
   simp only [vrel] at hv
   obtain ⟨q, rfl, hq⟩ := hv
   obtain ⟨a, us, rfl, k1, k2⟩ := oZ h hq h3
   exact ⟨.g a, _, rfl, trivial, k1, kE h cs az us h5 h4 k2, h5⟩
 | .pl k off, x, u, _, hd, hv => by simp only [vr] at hd; obtain ⟨b, c, e, h1, h2⟩ := hd; cases h1
 | .pe k i j, x, u, _, hd, hv => by simp only [vr] at hd; obtain ⟨b, c, e, h1, h2⟩ := hd; cases h1
 | .ss k off n c, x, u, _, hd, hv => by simp only [vr] at hd; obtain ⟨b, c, e, h1, h2⟩ := hd; cases h1
 | .gs k n, x, u, _, hd, hv => by simp only [vr] at hd; rcases hd with ⟨h1, _⟩ | ⟨b, c, e, h1, _⟩ <;> cases h1
 | .go k off n, x, u, _, hd, hv => by simp only [vr] at hd; rcases hd with ⟨h1, _⟩ | ⟨b, c, e, o, h1, _⟩ <;> cases h1
 | .ns, x, u, _, hd, hv => by simp only [vr] at hd; subst hd; simp only [vrel, b9] at hv; obtain ⟨q, rfl, rfl⟩ := hv; simp only [aN, vr]
 | .np, x, u, _, hd, hv => by simp only [vr] at hd; subst hd; simp only [vrel, b9] at hv; obtain ⟨q, rfl, rfl⟩ := hv; simp only [aN, vr]
 | .any, x, u, _, hd, hv => by simp only [vr]
theorem kE (h : aD B m lh w) : ∀ (ds : List V) (xs : List ab) (us : List Value), ds.all V.fc = true -> vrs B.w0 lh Nu.nil ds xs -> ah m xs us -> vrs w [] Nu.nil ds (us.map aN)
 | [], xs, us, _, hd, hv => by simp only [vrs] at hd; subst hd; simp only [ah] at hv; subst hv; simp only [vrs, List.map_nil]
 | d :: ds, xs, us, hc, hd, hv => by
   simp only [List.all_cons, Bool.and_eq_true] at hc
   simp only [vrs] at hd
   obtain ⟨x, xs', rfl, h2, h3⟩ := hd
   simp only [ah] at hv
   obtain ⟨u, us', rfl, h4, h5⟩ := hv
   simp only [List.map_cons, vrs]
   exact ⟨_, _, rfl, bV h d x u hc.1 h2 h4, kE h ds xs' us' hc.2 h3 h5⟩
end
mutual
theorem xz (h : aD B m lh w) : ∀ (d : V) (x : ab) (u : Value), vr B.w0 lh Nu.nil d x -> vrel m x u -> ∃ x', vrel (fun _ => none) x' u /\ vr w [] Nu.nil d x'
 | .agg cs, x, u, hd, hv => by
   simp only [vr] at hd
   obtain ⟨az, rfl, h1⟩ := hd
   simp only [vrel] at hv
   obtain ⟨us, rfl, h2⟩ := hv
   obtain ⟨xs', g1, g2⟩ := iP h cs az us.toList h1 h2
   exact ⟨.agg xs', by simp only [vrel]; exact ⟨us, rfl, g1⟩, by simp only [vr]; exact ⟨_, rfl, g2⟩⟩
 | .tup cs, x, u, hd, hv => by
   simp only [vr] at hd
   obtain ⟨az, rfl, h1⟩ := hd
   simp only [vrel] at hv
   obtain ⟨us, rfl, h2⟩ := hv
   obtain ⟨xs', g1, g2⟩ := iP h cs az us.toList h1 h2
   exact ⟨.tup xs', by simp only [vrel]; exact ⟨us, rfl, g1⟩, by simp only [vr]; exact ⟨_, rfl, g2⟩⟩
 | .fn f xs ys, x, u, hd, hv => by
   simp only [vr] at hd
   obtain ⟨us, vs, rfl, h1, h2⟩ := hd
   simp only [vrel] at hv
   obtain ⟨us', vs', rfl, h3, h4⟩ := hv
   obtain ⟨az, g1, g2⟩ := iP h xs us us'.toList h1 h3
   obtain ⟨bs, g3, g4⟩ := iP h ys vs vs'.toList h2 h4
   exact ⟨.fn (.func f) az bs, by simp only [vrel]; exact ⟨us', vs', rfl, g1, g3⟩, by simp only [vr]; exact ⟨az, bs, rfl, g2, g4⟩⟩
 | .gd b v, x, u, hd, hv => by
   simp only [vr] at hd
   cases b with
   | true => obtain ⟨x', g1, g2⟩ := xz h v x u (hd.1 rfl) hv; exact ⟨x', g1, by simp only [vr]; exact ⟨fun _ => g2, fun e => by cases e⟩⟩
   | false =>
     obtain ⟨l, rfl⟩ := hd.2 rfl
     simp only [vrel] at hv
     obtain ⟨vs, rfl, _⟩ := hv
     exact ⟨.tup (vs.toList.map aN), by simp only [vrel]; exact ⟨vs, rfl, aZ _ _⟩, by simp only [vr]; exact ⟨(fun e => by cases e), fun _ => ⟨_, rfl⟩⟩⟩
 | .int k n, x, u, hd, hv => ⟨aN u, bb _ u, bV h (.int k n) x u rfl hd hv⟩
 | .bool b, x, u, hd, hv => ⟨aN u, bb _ u, bV h (.bool b) x u rfl hd hv⟩
 | .kb b, x, u, hd, hv => ⟨aN u, bb _ u, bV h (.kb b) x u rfl hd hv⟩
 | .str b, x, u, hd, hv => ⟨aN u, bb _ u, bV h (.str b) x u rfl hd hv⟩
 | .sl n f, x, u, hd, hv => ⟨aN u, bb _ u, bV h (.sl n f) x u rfl hd hv⟩
 | .sq n m f, x, u, hd, hv => ⟨aN u, bb _ u, bV h (.sq n m f) x u rfl hd hv⟩
 | .pd b, x, u, hd, hv => ⟨aN u, bb _ u, bV h (.pd b) x u rfl hd hv⟩
 | .pl k off, x, u, hd, hv => ⟨aN u, bb _ u, bV h (.pl k off) x u rfl hd hv⟩
 | .pe k i j, x, u, hd, hv => ⟨aN u, bb _ u, bV h (.pe k i j) x u rfl hd hv⟩
 | .ss k off n c, x, u, hd, hv => ⟨aN u, bb _ u, bV h (.ss k off n c) x u rfl hd hv⟩
 | .gs k n, x, u, hd, hv => ⟨aN u, bb _ u, bV h (.gs k n) x u rfl hd hv⟩
 | .ns, x, u, hd, hv => ⟨aN u, bb _ u, bV h .ns x u rfl hd hv⟩
 | .np, x, u, hd, hv => ⟨aN u, bb _ u, bV h .np x u rfl hd hv⟩
 | .any, x, u, hd, hv => ⟨aN u, bb _ u, bV h .any x u rfl hd hv⟩
 | .go k off n, x, u, hd, hv => ⟨aN u, bb _ u, bV h (.go k off n) x u rfl hd hv⟩
 | .yl l, x, u, hd, hv => ⟨kc l, by simp only [vr] at hd; subst hd; simp only [kc, vrel] at hv ⊢; exact hv, by simp only [vr]⟩
theorem iP (h : aD B m lh w) : ∀ (ds : List V) (xs : List ab) (us : List Value), vrs B.w0 lh Nu.nil ds xs -> ah m xs us -> ∃ xs', ah (fun _ => none) xs' us /\ vrs w [] Nu.nil ds xs'
 | [], xs, us, hd, hv => by
   simp only [vrs] at hd; subst hd
   simp only [ah] at hv; subst hv
   exact ⟨[], by simp only [ah], by simp only [vrs]⟩
 | d :: ds, xs, us, hd, hv => by
   simp only [vrs] at hd
   obtain ⟨x, xs', rfl, h2, h3⟩ := hd
   simp only [ah] at hv
   obtain ⟨u, us', rfl, h4, h5⟩ := hv
   obtain ⟨a, g1, g2⟩ := xz h d x u h2 h4
   obtain ⟨az, g3, g4⟩ := iP h ds xs' us' h3 h5
   exact ⟨a :: az, by simp only [ah]; exact ⟨_, _, rfl, g1, g3⟩, by simp only [vrs]; exact ⟨_, _, rfl, g2, g4⟩⟩
end
end
section
variable {w0 : World} {ν : Nu} {nV nS : Nat} {h : List O} {lh : List ae}
theorem BG (v : V) : (lK v).fc = true := by
 unfold lK
 cases hv : v.fc with
 | true => simpa using hv
 | false => rfl
theorem BZ {v : V} {a : ab} (hv : vr w0 lh Nu.nil v a) : vr w0 lh Nu.nil (lK v) a := by
 unfold lK
 cases v.fc with
 | true => exact hv
 | false => simp only [cond, vr]
theorem mM (g : V -> V) (l : List V) : (l.map fun v => lK (g v)).all V.fc = true := by
 rw [List.all_eq_true]; intro x hx
 rw [List.mem_map] at hx
 obtain ⟨v, _, rfl⟩ := hx
 exact BG _
theorem ot {lh' : List ae} {ν' : Nu} {g : V -> V} (hg : ∀ v a, vr w0 lh ν v a -> vr w0 lh' ν' (g v) a) : ∀ {vs : List V} {az : List ab}, vrs w0 lh ν vs az -> vrs w0 lh' ν' (vs.map g) az
 | [], az, hv => by simp only [vrs] at hv ⊢; subst hv; simp only [List.map_nil, vrs]
 | v :: vs, az, hv => by simp only [vrs] at hv; obtain ⟨x, xs, rfl, h1, h2⟩ := hv; simp only [List.map_cons, vrs]; exact ⟨_, _, rfl, hg v x h1, ot hg h2⟩
theorem mf (hh : HR w0 ν nV nS h lh) : ∀ (fu : Nat) (v : V) (a : ab), vr w0 ν.z ν v a -> vr w0 lh Nu.nil (iM h fu v) a
 | 0, v, a, _ => by simp only [iM, vr]
 | fu + 1, v, a, hv => by
   have ih : ∀ {vs : List V} {az : List ab}, vrs w0 ν.z ν vs az -> vrs w0 lh Nu.nil (vs.map (iM h fu)) az := fun hvs => ot (fun v a => mf hh fu v a) hvs
   have ihc : ∀ {vs : List V} {az : List ab}, vrs w0 ν.z ν vs az -> vrs w0 lh Nu.nil (vs.map fun v => lK (iM h fu v)) az := fun hvs => ot (fun v a hv => BZ (mf hh fu v a hv)) hvs
   unfold iM
   split
   ·simp only [vr] at hv ⊢; exact hv
   ·simp only [vr] at hv ⊢; exact hv
   ·simp only [vr] at hv ⊢; exact hv
   ·simp only [vr] at hv ⊢; exact hv
   ·rename_i n f
    exact nR hh.zl _ _ (by simp only [vr] at hv ⊢; exact hv)
   ·rename_i n m f
    exact nR hh.zl _ _ (by simp only [vr] at hv ⊢; exact hv)
   ·rename_i cs
    exact nR hh.zl _ _ (by simp only [vr] at hv ⊢; exact hv)
   ·simp only [vr] at hv ⊢; subst hv; exact ⟨none, 0, 0, rfl, Nat.le_refl _, by omega, trivial, fun i hi => by omega⟩
   ·simp only [vr] at hv ⊢; obtain ⟨az, h1, h2⟩ := hv; exact ⟨az, h1, ih h2⟩
   ·simp only [vr] at hv ⊢; obtain ⟨us, vs, h1, h2, h3⟩ := hv; exact ⟨us, vs, h1, ih h2, ih h3⟩
   ·rename_i k off
    rw [aF]
    split
    ·rename_i cs ty hk
     rw [aU]
     cases hb : Nat.ble off cs.length with
     | false => simp only [cond, vr]
     | true =>
       have hle := Nat.le_of_ble_eq_true hb
       simp only [cond]
       obtain ⟨b, c0, e0, az, h1, h2, h3⟩ := hh.blk k _ hk
       simp only [vr] at hv ⊢
       obtain ⟨b', c', e', g1, rfl⟩ := hv
       rw [h1] at g1
       obtain ⟨rfl, rfl, rfl⟩ : b = b' /\ c0 = c' /\ e0 = e' := by simpa using g1
       have hl := aS h3
       refine ⟨.l b off, az.drop off, rfl, by simp [okP, h2, isCells], ?_, ihc (dQ _ h3), mM _ _⟩
       simp only [lds, h2, List.length_map, List.length_drop]
       rw [if_pos (by omega), List.take_of_length_le (by simp; omega)]
    ·simp only [vr]
   ·rename_i k n
    rw [aF]
    split
    ·rename_i e n' f ty hk
     cases hb : Nat.ble n n' with
     | false => simp only [cond, vr]
     | true =>
       have hle := Nat.le_of_ble_eq_true hb
       simp only [cond]
       have hb := hh.blk k _ hk
       simp only [vr] at hv ⊢
       rcases hb with ⟨h1, h2⟩ | ⟨b, c, az, h1, h2, h3, h4, h5⟩
       ·rcases hv with ⟨_, g2, rfl⟩ | ⟨b, c, e, g1, _⟩
        ·subst g2; exact ⟨none, 0, 0, rfl, Nat.le_refl _, by omega, trivial, fun i hi => by omega⟩
        ·rw [h1] at g1; cases g1
       ·rcases hv with ⟨g1, _⟩ | ⟨b', c', e', g1, rfl, g3⟩
        ·rw [h1] at g1; cases g1
        ·rw [h1] at g1
         obtain ⟨rfl, rfl, rfl⟩ : b = b' /\ c = c' /\ e = e' := by simpa using g1
         refine ⟨some (.l b 0), c, e, rfl, g3, by omega, ⟨az, ty, h2, Nat.zero_le _⟩, fun i hi => ?_⟩
         have hi' : i * e + e <= az.length := by
          rw [h3, ← Nat.succ_mul]; exact Nat.mul_le_mul_right e (by omega)
         refine ⟨_, _, rfl, ?_, ihc (h5 i (by omega)).2, mM _ _⟩
         simp only [Ptr.add, lds, h2, Nat.zero_add]
         rw [if_pos (by omega)]
    ·simp only [vr]
   ·rename_i k off n c
    rw [aF]
    split
    ·rename_i cs ty hk
     rw [aU]
     cases hb : (Nat.ble n 9223372036854775807 && (Nat.ble n c && Nat.ble (off + n * ((cs.length - off) / c)) cs.length)) with
     | false => simp only [cond, vr]
     | true =>
       simp only [Bool.and_eq_true] at hb
       have b1 := Nat.le_of_ble_eq_true hb.1
       have b2 := Nat.le_of_ble_eq_true hb.2.1
       have b3 := Nat.le_of_ble_eq_true hb.2.2
       simp only [cond]
       obtain ⟨b, c0, e0, az, h1, h2, h3⟩ := hh.blk k _ hk
       simp only [vr] at hv ⊢
       obtain ⟨b', c', e', g1, rfl⟩ := hv
       rw [h1] at g1
       obtain ⟨rfl, rfl, rfl⟩ : b = b' /\ c0 = c' /\ e0 = e' := by simpa using g1
       have hl := aS h3
       refine ⟨some (.l b off), c, (cs.length - off) / c, rfl, ⟨b2, b2⟩, b1, ⟨az, ty, h2, by omega⟩, fun i hi => ?_⟩
       have hi' : off + i * ((cs.length - off) / c) + (cs.length - off) / c <= cs.length := by
        have : (i + 1) * ((cs.length - off) / c) <= n * ((cs.length - off) / c) := Nat.mul_le_mul_right _ (by omega)
        rw [Nat.succ_mul] at this
        omega
       refine ⟨_, _, rfl, ?_, eD _ (dQ _ (ihc h3)), yB _ _ (mM _ _)⟩
       simp only [Ptr.add, lds, h2]
       rw [if_pos (by omega)]
    ·simp only [vr]
   ·simp only [vr]
theorem B2 (hz : zle ν.z lh) {v : V} {a : ab} (hv : vr w0 ν.z ν v a) : vr w0 lh Nu.nil (uK v) a := by
 unfold uK
 split
 ·simp only [vr] at hv ⊢; exact hv
 ·simp only [vr] at hv ⊢; exact hv
 ·simp only [vr] at hv ⊢; exact hv
 ·simp only [vr] at hv ⊢; exact hv
 ·exact nR hz _ _ (by simp only [vr] at hv ⊢; exact hv)
 ·exact nR hz _ _ (by simp only [vr] at hv ⊢; exact hv)
 ·simp only [vr]
theorem Cs (v : V) : (uK v).fc = true := by cases v <;> rfl
theorem zV (l : List V) : (l.map uK).all V.fc = true := by
 rw [List.all_eq_true]; intro x hx
 rw [List.mem_map] at hx
 obtain ⟨v, _, rfl⟩ := hx
 exact Cs _
def okS (l : List (Nat × Nat)) : Prop := ∀ p, p ∈ l -> p.1 <= p.2
theorem yu {a b : List (Nat × Nat)} (h : okS (pP a b)) : okS a /\ okS b := by
 rw [hJ] at h
 exact ⟨fun p hp => h p (List.mem_append_left _ hp), fun p hp => h p (List.mem_append_right _ hp)⟩
theorem wl {α : Type} {LP : dg} {Q : α -> Prop} : ∀ {l : List (Nat × Nat)} {x : T α}, sat LP (obs l x) Q -> okS l /\ sat LP x Q
 | [], x, h => ⟨(fun p hp => by cases hp), h⟩
 | p :: l, x, h => by
   simp only [obs, sat] at h
   obtain ⟨h1, h2⟩ := wl h.2
   refine ⟨fun q hq => ?_, h2⟩
   rcases List.mem_cons.1 hq with rfl | hq
   ·exact Nat.le_of_ble_eq_true h.1
   ·exact h1 q hq
theorem uh (hh : HR w0 ν nV nS h lh) {k n : Nat} {a : ab} (hm : okS (ym h k n)) (hv : vr w0 ν.z ν (.gs k n) a) : vr w0 lh Nu.nil (xP h k n) a := by
 unfold ym at hm
 unfold xP
 rw [aF] at hm ⊢
 split
 ·rename_i e n' f ty hk
  rw [hk] at hm
  have hle : n <= n' := hm (n, n') List.mem_cons_self
  have hb := hh.blk k _ hk
  simp only [vr] at hv ⊢
  rcases hb with ⟨h1, h2⟩ | ⟨b, c, az, h1, h2, h3, h4, h5⟩
  ·rcases hv with ⟨_, g2, rfl⟩ | ⟨b, c, e, g1, _⟩
   ·subst g2; exact ⟨none, 0, 0, rfl, Nat.le_refl _, by omega, trivial, fun i hi => by omega⟩
   ·rw [h1] at g1; cases g1
  ·rcases hv with ⟨g1, _⟩ | ⟨b', c', e', g1, rfl, g3⟩
   ·rw [h1] at g1; cases g1
   ·rw [h1] at g1
    obtain ⟨rfl, rfl, rfl⟩ : b = b' /\ c = c' /\ e = e' := by simpa using g1
    refine ⟨some (.l b 0), c, e, rfl, g3, by omega, ⟨az, ty, h2, Nat.zero_le _⟩, fun i hi => ?_⟩
    have hi' : i * e + e <= az.length := by
     rw [h3, ← Nat.succ_mul]; exact Nat.mul_le_mul_right e (by omega)
    refine ⟨_, _, rfl, ?_, ot (fun v a hv => B2 hh.zl hv) (h5 i (by omega)).2, zV _⟩
    simp only [Ptr.add, lds, h2, Nat.zero_add]
    rw [if_pos (by omega)]
 ·simp only [vr]
theorem Cj (hh : HR w0 ν nV nS h lh) {v : V} {a : ab} (hb : okS (EM h v)) (hv : vr w0 ν.z ν v a) : vr w0 lh Nu.nil (yb h v) a := by
 unfold yb
 split
 ·exact uh hh hb hv
 ·exact mf hh 11 _ a hv
theorem rQ (hh : HR w0 ν nV nS h lh) : ∀ {vs : List V} {az : List ab}, okS (wL h vs) -> vrs w0 ν.z ν vs az -> vrs w0 lh Nu.nil (vs.map (yb h)) az
 | [], az, _, hv => by simp only [vrs, List.map_nil] at hv ⊢; exact hv
 | v :: vs, az, hb, hv => by
   have hb := yu hb
   simp only [vrs] at hv
   obtain ⟨x, xs, rfl, h1, h2⟩ := hv
   simp only [List.map_cons, vrs]; exact ⟨_, _, rfl, Cj hh hb.1 h1, rQ hh hb.2 h2⟩
theorem Ca (hh : HR w0 ν nV nS h lh) {v : V} {a : ab} (hb : okS (ET h v)) (hv : vr w0 ν.z ν v a) : vr w0 lh Nu.nil (tI h v) a := by
 unfold tI
 split
 ·exact uh hh hb hv
 ·simp only [vr] at hv ⊢
  obtain ⟨az, h1, h2⟩ := hv
  exact ⟨az, h1, rQ hh hb h2⟩
 ·exact mf hh 12 _ a hv
theorem pY (hh : HR w0 ν nV nS h lh) : ∀ {vs : List V} {az : List ab}, okS (sG h vs) -> vrs w0 ν.z ν vs az -> vrs w0 lh Nu.nil (vs.map (tI h)) az
 | [], az, _, hv => by simp only [vrs, List.map_nil] at hv ⊢; exact hv
 | v :: vs, az, hb, hv => by
   have hb := yu hb
   simp only [vrs] at hv
   obtain ⟨x, xs, rfl, h1, h2⟩ := hv
   simp only [List.map_cons, vrs]; exact ⟨_, _, rfl, Ca hh hb.1 h1, pY hh hb.2 h2⟩
end
end Go.Dx
namespace Go.Sx
section
variable {P : Program} {S : FuncId -> a8} {w0 : World}
theorem dZ (hS : ∀ f, (S f).Ok P f) : ∀ (ops : List SOp) (sl : List ab) (lh : List ae) {K K' : List ab -> List ae -> Prop}, (∀ s l, K s l -> K' s l) -> dl w0 S ops sl lh K -> dl w0 S ops sl lh K'
 | [], _, _, _, _, hk, h => hk _ _ h
 | o :: rest, sl, lh, K, K', hk, h => by
   have ih := fun sl lh => dZ hS rest sl lh hk
   simp only [dl] at h ⊢
   split at h
   ·exact dB hS (fun _ _ => ih _ _) h
   ·split at h
    ·exact ⟨fun e => dB hS (fun _ _ => ih _ _) (h.1 e), fun e => ih _ _ (h.2 e)⟩
    ·exact ih _ _ h
    ·exact ih _ _ h
    ·exact h.elim
theorem fL (hS : ∀ f, (S f).Ok P f) {Q : Prop} : ∀ (ops : List SOp) (sl : List ab) (lh : List ae), dl w0 S ops sl lh (fun _ _ => Q) -> Q
 | [], _, _, h => h
 | o :: rest, sl, lh, h => by
   have ih := fun sl lh => fL hS (Q := Q) rest sl lh
   simp only [dl] at h
   split at h
   ·exact je hS (dB hS (fun _ _ => ih _ _) h)
   ·rename_i d want _
    split at h
    ·rename_i b _
     by_cases e : b = want
     ·exact je hS (dB hS (fun _ _ => ih _ _) (h.1 e))
     ·exact ih _ _ (h.2 (by cases b <;> cases want <;> simp_all))
    ·exact ih _ _ h
    ·exact ih _ _ h
    ·exact h.elim
theorem nK (hS : ∀ f, (S f).Ok P f) {Ws : List (List Nat)} {n0 : Nat} {K K' : List ab -> List ae -> Prop} (hk : ∀ s l, K s l -> K' s l) : ∀ (ds : List DOp) (i : Nat) (sl : List ab) (lh : List ae), fB w0 S Ws n0 K ds i sl lh -> fB w0 S Ws n0 K' ds i sl lh
 | [], _, _, _, h => hk _ _ h
 | d :: rest, i, sl, lh, h => pC hS (fun s l => nK hS hk rest (i + 1) s l) h
theorem kP (hS : ∀ f, (S f).Ok P f) {Ws : List (List Nat)} {n0 : Nat} {Q : Prop} : ∀ (ds : List DOp) (i : Nat) (sl : List ab) (lh : List ae), fB w0 S Ws n0 (fun _ _ => Q) ds i sl lh -> Q
 | [], _, _, _, h => h
 | d :: rest, i, sl, lh, h => kk hS (iO hS (fun _ => kP hS rest (i + 1) _ _) h)
theorem ij (hS : ∀ f, (S f).Ok P f) {ds : List DOp} {sl : List ab} {lh : List ae} {K K' : List ab -> List ae -> Prop} (hk : ∀ s l, K s l -> K' s l) (h : lC w0 S ds sl lh K) : lC w0 S ds sl lh K' := ⟨h.1, nK hS hk ds 0 _ _ h.2⟩
theorem kK (hS : ∀ f, (S f).Ok P f) {ds : List DOp} {sl : List ab} {lh : List ae} {Q : Prop} (h : lC w0 S ds sl lh (fun _ _ => Q)) : Q := kP hS ds 0 _ _ h.2
section it
variable {l : Nat} {Y : YH}
theorem fR (hS : ∀ f, (S f).Ok P f) (hY : ∀ xs lh K K', (∀ x l, K x l -> K' x l) -> Y xs lh K -> Y xs lh K') : ∀ (ops : List lO) (sl : List ab) (lh : List ae) (g : Option Ex) {K K' : List ab -> List ae -> Option Ex -> Prop}, (∀ s l g, K s l g -> K' s l g) -> cQ w0 S l Y ops sl lh g K -> cQ w0 S l Y ops sl lh g K'
 | [], _, _, _, _, _, hk, h => hk _ _ _ h
 | .op o :: rest, sl, lh, g, _, _, hk, h => by
   simp only [cQ] at h ⊢
   exact dZ hS _ _ _ (fun _ _ => fR hS hY rest _ _ g hk) h
 | .yld t d xs :: rest, sl, lh, g, _, _, hk, h => by
   simp only [cQ] at h ⊢
   refine ⟨h.1, h.2.1, hY _ _ _ _ (fun x l hx => ?_) h.2.2⟩
   cases x <;> exact fR hS hY rest _ _ _ hk hx
theorem gP (hS : ∀ f, (S f).Ok P f) (hY : ∀ xs lh K K', (∀ x l, K x l -> K' x l) -> Y xs lh K -> Y xs lh K') (hY' : ∀ xs lh (Q : Prop), Y xs lh (fun _ _ => Q) -> Q) {Q : Prop} : ∀ (ops : List lO) (sl : List ab) (lh : List ae) (g : Option Ex), cQ w0 S l Y ops sl lh g (fun _ _ _ => Q) -> Q
 | [], _, _, _, h => h
 | .op o :: rest, sl, lh, g, h => by
   simp only [cQ] at h
   exact fL hS _ _ _ (dZ hS _ _ _ (fun _ _ => gP hS hY hY' rest _ _ g) h)
 | .yld t d xs :: rest, sl, lh, g, h => by
   simp only [cQ] at h
   refine hY' _ _ _ (hY _ _ _ _ (fun x l hx => ?_) h.2.2)
   cases x <;> exact gP hS hY hY' rest _ _ _ hx
theorem zG (hS : ∀ f, (S f).Ok P f) (hY : ∀ xs lh K K', (∀ x l, K x l -> K' x l) -> Y xs lh K -> Y xs lh K') : ∀ (c : eH) (sl : List ab) (lh : List ae) (g : Option Ex) {Q Q' : IQ}, (∀ x s l g, Q x s l g -> Q' x s l g) -> fZ w0 S l Y c sl lh g Q -> fZ w0 S l Y c sl lh g Q' := by
 intro c
 induction c with
 | reg ops => intro sl lh g Q Q' hq h; exact fR hS hY ops sl lh g (fun _ _ _ => hq _ _ _ _) h
 | draw ds => intro sl lh g Q Q' hq h; exact ij hS (fun _ _ => hq _ _ _ _) h
 | seq a b iha ihb =>
   intro sl lh g Q Q' hq h
   refine iha sl lh g (fun x s l g hx => ?_) h
   cases x with
   | normal => exact ihb _ _ _ hq hx
   | exit i => exact hq _ _ _ _ hx
   | ret => exact hq _ _ _ _ hx
 | cond c a b iha ihb =>
   intro sl lh g Q Q' hq h
   simp only [fZ] at h ⊢
   split at h
   ·exact ⟨fun e => iha _ _ _ hq (h.1 e), fun e => ihb _ _ _ hq (h.2 e)⟩
   ·exact h.elim
 | block id b ih =>
   intro sl lh g Q Q' hq h
   refine ih sl lh g (fun x s l g hx => ?_) h
   cases x with
   | normal => exact hq _ _ _ _ hx
   | ret => exact hq _ _ _ _ hx
   | exit i => simp only [pu] at hx ⊢; split at hx <;> rename_i e <;> simp only [e, if_true, if_false] <;> exact hq _ _ _ _ hx
 | loop b ih =>
   intro sl lh g Q Q' hq h
   simp only [fZ] at h ⊢
   obtain ⟨ι, shs, shl, shg, μ, i0, h1, h2, h3, hr⟩ := h
   refine ⟨ι, shs, shl, shg, μ, i0, h1, h2, h3, fun i => ih _ _ _ (fun x s l g hx => ?_) (hr i)⟩
   cases x with
   | normal => exact hx
   | exit i => exact hq _ _ _ _ hx
   | ret => exact hq _ _ _ _ hx
 | scope b ih => intro sl lh g Q Q' hq h; exact ih sl lh g hq h
 | skip => intro sl lh g Q Q' hq h; exact hq _ _ _ _ h
 | exit i => intro sl lh g Q Q' hq h; exact hq _ _ _ _ h
 | ret => intro sl lh g Q Q' hq h; exact hq _ _ _ _ h
theorem vm (hS : ∀ f, (S f).Ok P f) (hY : ∀ xs lh K K', (∀ x l, K x l -> K' x l) -> Y xs lh K -> Y xs lh K') (hY' : ∀ xs lh (Q : Prop), Y xs lh (fun _ _ => Q) -> Q) {R : Prop} : ∀ (c : eH) (sl : List ab) (lh : List ae) (g : Option Ex) {Q : IQ}, (∀ x s l g, Q x s l g -> R) -> fZ w0 S l Y c sl lh g Q -> R := by
 intro c
 induction c with
 | reg ops => intro sl lh g Q hq h; exact gP hS hY hY' ops sl lh g (fR hS hY ops sl lh g (fun _ _ _ => hq _ _ _ _) h)
 | draw ds => intro sl lh g Q hq h; exact kK hS (ij hS (K' := fun _ _ => R) (fun _ _ => hq _ _ _ _) h)
 | seq a b iha ihb =>
   intro sl lh g Q hq h
   refine iha sl lh g (fun x s l g hx => ?_) h
   cases x with
   | normal => exact ihb _ _ _ hq hx
   | exit i => exact hq _ _ _ _ hx
   | ret => exact hq _ _ _ _ hx
 | cond c a b iha ihb =>
   intro sl lh g Q hq h
   simp only [fZ] at h
   split at h
   ·rename_i t _
    cases t with
    | true => exact iha _ _ _ hq (h.1 rfl)
    | false => exact ihb _ _ _ hq (h.2 rfl)
   ·exact h.elim
 | block id b ih =>
   intro sl lh g Q hq h
   refine ih sl lh g (fun x s l g hx => ?_) h
   cases x with
   | normal => exact hq _ _ _ _ hx
   | ret => exact hq _ _ _ _ hx
   | exit i => simp only [pu] at hx; split at hx <;> exact hq _ _ _ _ hx
 | loop b ih =>
   intro sl lh g Q hq h
   simp only [fZ] at h
   obtain ⟨ι, shs, shl, shg, μ, i0, h1, h2, h3, hr⟩ := h
   have key : ∀ k i, μ i = k -> R := fun k => by
    induction k using Nat.strongRecOn with
    | _ k ihk =>
      intro i hi
      refine ih _ _ _ (fun x s l g hx => ?_) (hr i)
      cases x with
      | normal => obtain ⟨i', _, _, _, hlt⟩ := hx; exact ihk _ (by rw [← hi]; exact hlt) i' rfl
      | exit i => exact hq _ _ _ _ hx
      | ret => exact hq _ _ _ _ hx
   exact key _ i0 rfl
 | scope b ih => intro sl lh g Q hq h; exact ih sl lh g hq h
 | skip => intro sl lh g Q hq h; exact hq _ _ _ _ h
 | exit i => intro sl lh g Q hq h; exact hq _ _ _ _ h
 | ret => intro sl lh g Q hq h; exact hq _ _ _ _ h
end it
theorem iQ (hS : ∀ f, (S f).Ok P f) : ∀ (t : OT) (sl : List ab) (lh : List ae) {K K' : List ab -> List ae -> Prop}, (∀ s l, K s l -> K' s l) -> mK w0 S t sl lh K -> mK w0 S t sl lh K'
 | .done, sl, lh, K, K', hk, h => hk _ _ h
 | .op o r, sl, lh, K, K', hk, h => dZ hS [o] sl lh (fun s l h => iQ hS r s l hk h) h
 | .alt a b, sl, lh, K, K', hk, h => ⟨iQ hS a sl lh hk h.1, iQ hS b sl lh hk h.2⟩
theorem kl (hS : ∀ f, (S f).Ok P f) : ∀ (t : OT) (sl : List ab) (lh : List ae) {R : Prop}, mK w0 S t sl lh (fun _ _ => R) -> R
 | .done, sl, lh, R, h => h
 | .op o r, sl, lh, R, h => fL hS [o] sl lh (dZ hS [o] sl lh (K' := fun _ _ => R) (fun s l h => kl hS r s l h) h)
 | .alt a b, sl, lh, R, h => kl hS a sl lh h.1
theorem ri (hS : ∀ f, (S f).Ok P f) : ∀ (c : dp), (∀ (nb : Nat) (sl : List ab) (lh : List ae) {Q Q' : Ex -> List ab -> List ae -> Prop}, (∀ x s l, Q x s l -> Q' x s l) -> ba w0 S nb c sl lh Q -> ba w0 S nb c sl lh Q') /\
 ∀ (nb : Nat) (sl : List ab) (lh : List ae) {Q : Ex -> List ab -> List ae -> Prop} {R : Prop}, (∀ x s l, Q x s l -> R) -> ba w0 S nb c sl lh Q -> R := by
 intro c
 induction c with
 | reg ops => exact ⟨fun nb sl lh Q Q' hq h => dZ hS ops sl lh (fun _ _ => hq _ _ _) h, fun nb sl lh Q R hq h => fL hS ops sl lh (dZ hS ops sl lh (fun _ _ => hq _ _ _) h)⟩
 | allo t => exact ⟨fun nb sl lh Q Q' hq h => iQ hS t sl lh (fun _ _ => hq _ _ _) h, fun nb sl lh Q R hq h => kl hS t sl lh (iQ hS t sl lh (K' := fun _ _ => R) (fun _ _ => hq _ _ _) h)⟩
 | draw ds => exact ⟨fun nb sl lh Q Q' hq h => ij hS (fun _ _ => hq _ _ _) h, fun nb sl lh Q R hq h => kK hS (ij hS (K' := fun _ _ => R) (fun _ _ => hq _ _ _) h)⟩
 | seq a b iha ihb =>
   refine ⟨fun nb sl lh Q Q' hq h => iha.1 nb sl lh (fun x s l hx => ?_) h, fun nb sl lh Q R hq h => iha.2 nb sl lh (fun x s l hx => ?_) h⟩
   ·cases x with
    | normal => exact ihb.1 nb _ _ hq hx
    | exit i => exact hq _ _ _ hx
    | ret => exact hq _ _ _ hx
   ·cases x with
    | normal => exact ihb.2 nb _ _ hq hx
    | exit i => exact hq _ _ _ hx
    | ret => exact hq _ _ _ hx
 | cond c a b iha ihb =>
   refine ⟨fun nb sl lh Q Q' hq h => ?_, fun nb sl lh Q R hq h => ?_⟩
   ·simp only [ba] at h ⊢
    split at h
    ·exact ⟨fun e => iha.1 nb _ _ hq (h.1 e), fun e => ihb.1 nb _ _ hq (h.2 e)⟩
    ·exact h.elim
   ·simp only [ba] at h
    split at h
    ·rename_i t _
     cases t with
     | true => exact iha.2 nb _ _ hq (h.1 rfl)
     | false => exact ihb.2 nb _ _ hq (h.2 rfl)
    ·exact h.elim
 | block id b ih =>
   refine ⟨fun nb sl lh Q Q' hq h => ih.1 nb sl lh (fun x s l hx => ?_) h, fun nb sl lh Q R hq h => ih.2 nb sl lh (fun x s l hx => ?_) h⟩
   ·cases x with
    | normal => exact hq _ _ _ hx
    | ret => exact hq _ _ _ hx
    | exit i => simp only [o8] at hx ⊢; split at hx <;> rename_i e <;> simp only [e, if_true, if_false] <;> exact hq _ _ _ hx
   ·cases x with
    | normal => exact hq _ _ _ hx
    | ret => exact hq _ _ _ hx
    | exit i => simp only [o8] at hx; split at hx <;> exact hq _ _ _ hx
 | loop b ih =>
   refine ⟨fun nb sl lh Q Q' hq h => ?_, fun nb sl lh Q R hq h => ?_⟩
   ·simp only [ba] at h ⊢
    obtain ⟨ι, shs, shl, μ, i0, h1, hr⟩ := h
    refine ⟨ι, shs, shl, μ, i0, h1, fun i => ih.1 nb _ _ (fun x s l hx => ?_) (hr i)⟩
    cases x with
    | normal => exact hx
    | exit i => exact hq _ _ _ hx
    | ret => exact hq _ _ _ hx
   ·simp only [ba] at h
    obtain ⟨ι, shs, shl, μ, i0, h1, hr⟩ := h
    have key : ∀ k i, μ i = k -> R := fun k => by
     induction k using Nat.strongRecOn with
     | _ k ihk =>
       intro i hi
       refine ih.2 nb _ _ (fun x s l hx => ?_) (hr i)
       cases x with
       | normal => obtain ⟨i', _, hlt⟩ := hx; exact ihk _ (by rw [← hi]; exact hlt) i' rfl
       | exit i => exact hq _ _ _ hx
       | ret => exact hq _ _ _ hx
    exact key _ i0 rfl
 | scope b ih => exact ⟨fun nb sl lh Q Q' hq h => ih.1 nb sl lh hq h, fun nb sl lh Q R hq h => ih.2 nb sl lh hq h⟩
 | skip => exact ⟨fun nb sl lh Q Q' hq h => hq _ _ _ h, fun nb sl lh Q R hq h => hq _ _ _ h⟩
 | exit i => exact ⟨fun nb sl lh Q Q' hq h => hq _ _ _ h, fun nb sl lh Q R hq h => hq _ _ _ h⟩
 | ret => exact ⟨fun nb sl lh Q Q' hq h => hq _ _ _ h, fun nb sl lh Q R hq h => hq _ _ _ h⟩
 | range g ps asg body its iha ihb =>
   have hY : ∀ (sl xs : List ab) (lh : List ae) (K K' : Ex -> List ae -> Prop), (∀ x l, K x l -> K' x l) -> (xs.length = ps.length /\ ba w0 S lh.length asg (gT sl ps xs) lh (od (fun sl lh' => ba w0 S lh.length body sl lh' fun x _ lh => K x lh) fun _ _ _ => False)) -> (xs.length = ps.length /\ ba w0 S lh.length asg (gT sl ps xs) lh (od (fun sl lh' => ba w0 S lh.length body sl lh' fun x _ lh => K' x lh) fun _ _ _ => False)) := fun sl xs lh K K' hk h => by
    refine ⟨h.1, iha.1 _ _ _ (fun x s l hx => ?_) h.2⟩
    cases x with
    | normal => exact ihb.1 _ _ _ (fun _ _ _ => hk _ _) hx
    | exit i => exact hx
    | ret => exact hx
   have hY' : ∀ (sl xs : List ab) (lh : List ae) (Q : Prop), (xs.length = ps.length /\ ba w0 S lh.length asg (gT sl ps xs) lh (od (fun sl lh' => ba w0 S lh.length body sl lh' fun _ _ _ => Q) fun _ _ _ => False)) -> Q := fun sl xs lh Q h => by
    refine iha.2 _ _ _ (fun x s l hx => ?_) h.2
    cases x with
    | normal => exact ihb.2 _ _ _ (fun _ _ _ h => h) hx
    | exit i => exact hx.elim
    | ret => exact hx.elim
   refine ⟨fun nb sl lh Q Q' hq h => ?_, fun nb sl lh Q R hq h => ?_⟩
   ·simp only [ba] at h ⊢
    split at h
    ·split at h
     ·exact fun l => zG hS (fun xs lh K K' => hY sl xs lh K K') _ _ _ _ (fun x s l g hx => by cases x <;> cases g <;> first | exact hx | exact hq _ _ _ hx) (h l)
     ·exact h.elim
    ·exact h.elim
   ·simp only [ba] at h
    split at h
    ·split at h
     ·exact vm hS (fun xs lh K K' => hY sl xs lh K K') (fun xs lh Q => hY' sl xs lh Q) _ _ _ _ (fun x s l g hx => by cases x <;> cases g <;> first | exact hx.elim | exact hq _ _ _ hx) (h 0)
     ·exact h.elim
    ·exact h.elim
theorem jD : ∀ (rs : List sP) (sl : List ab) (lh : List ae) {K K' : List ab -> Prop}, (∀ vs, K vs -> K' vs) -> fe w0 sl lh rs K -> fe w0 sl lh rs K'
 | [], _, _, _, _, hk, h => hk _ h
 | .tmp t :: l, sl, lh, _, _, hk, h => jD l sl lh (fun _ => hk _) h
 | .cell t n :: l, sl, lh, _, _, hk, h => by
   simp only [fe] at h ⊢
   split at h
   ·split at h
    ·obtain ⟨v, h1, h2⟩ := h; exact ⟨v, h1, jD l sl lh (fun _ => hk _) h2⟩
    ·obtain ⟨v, h1, h2⟩ := h; exact ⟨v, h1, jD l sl lh (fun _ => hk _) h2⟩
   ·exact h.elim
theorem fQ {R : Prop} : ∀ (rs : List sP) (sl : List ab) (lh : List ae), fe w0 sl lh rs (fun _ => R) -> R
 | [], _, _, h => h
 | .tmp t :: l, sl, lh, h => fQ l sl lh h
 | .cell t n :: l, sl, lh, h => by
   simp only [fe] at h
   split at h
   ·split at h
    ·obtain ⟨v, h1, h2⟩ := h; exact fQ l sl lh h2
    ·obtain ⟨v, h1, h2⟩ := h; exact fQ l sl lh h2
   ·exact h.elim
def AT (S : FuncId -> a8) (sf : aT) : a8 := fun w0 args lh K => yr w0 S sf args lh K
theorem CU {eqs : List TypeId} {its : List gS} {f : FuncId} {fn : Func} {sf : aT} (hS : ∀ g, (S g).Ok P g) (hE : ∀ t ∈ eqs, cW P t) (hI : nX P eqs its) (hf : P.funcs[f]? = some fn) (hn : (fn.name == "runtime.NumGoroutine") = false) (hc : eZ P eqs its fn = some sf) : (AT S sf).Ok P f := by
 have mono : ∀ w0 args lh K K', (∀ r l, K r l -> K' r l) -> AT S sf w0 args lh K -> AT S sf w0 args lh K' := fun w0 args lh K K' hk h =>
  (ri hS sf.body).1 _ _ _ (fun x s l hx => by cases x <;> first | exact hx | exact jD _ _ _ (fun _ => hk _ _) hx) h
 refine ⟨rj hS hE hI hf hn hc fun w0 args lh K _ _ h => ?_, mono, fun w0 args lh Q h => (ri hS sf.body).2 _ _ _ (fun x s l hx => by cases x <;> first | exact hx.elim | exact fQ _ _ _ hx) h⟩
 exact mono w0 args lh K _ (fun r l hk => ⟨r, l, .inl ⟨rfl, by unfold kj; exact ⟨.inr rfl, by simp [kj]⟩⟩, hk⟩) h
end
end Go.Sx
namespace Go.Dx
open Go.Sx
mutual
def toA : V -> ab
 | .int k n => .int k n
 | .bool b => .bool b
 | .kb b => .bool b
 | .str s => .str s
 | .agg cs => .agg (jU cs)
 | .tup cs => .tup (jU cs)
 | .sl n f => .fn (.func 0) [] ((List.range n).map fun i => .agg (jU (f i)))
 | _ => .any
def jU : List V -> List ab
 | [] => []
 | v :: vs => toA v :: jU vs
end
section
variable {w0 : World} {lh : List ae} {ν : Nu}
theorem ji : ∀ {v : V}, aY (toA v) = true -> ∀ a, vr w0 lh ν v a ↔ a = toA v
 | .int .., _, a => by simp only [vr, toA]
 | .bool _, _, a => by simp only [vr, toA]
 | .kb _, _, a => by simp only [vr, toA]
 | .str _, _, a => by simp only [vr, toA]
 | .agg _, h, _ => by simp [toA, aY] at h
 | .tup _, h, _ => by simp [toA, aY] at h
 | .fn .., h, _ => by simp [toA, aY] at h
 | .sl .., h, _ => by simp [toA, aY] at h
 | .pd .., h, _ => by simp [toA, aY] at h
 | .pl .., h, _ => by simp [toA, aY] at h
 | .pe .., h, _ => by simp [toA, aY] at h
 | .ss .., h, _ => by simp [toA, aY] at h
 | .gs .., h, _ => by simp [toA, aY] at h
 | .ns, h, _ => by simp [toA, aY] at h
 | .np, h, _ => by simp [toA, aY] at h
 | .any, h, _ => by simp [toA, aY] at h
 | .gd .., h, _ => by simp [toA, aY] at h
 | .yl _, h, _ => by simp [toA, aY] at h
 | .go .., h, _ => by simp [toA, aY] at h
 | .sq .., h, _ => by simp [toA, aY] at h
theorem el : ∀ {vs : List V}, (jU vs).all aY = true -> ∀ az, vrs w0 lh ν vs az ↔ az = jU vs
 | [], _, az => by simp only [vrs, jU]
 | v :: vs, h, az => by
   simp only [jU, List.all_cons, Bool.and_eq_true] at h
   simp only [vrs, jU]
   constructor
   ·rintro ⟨x, xs, rfl, h1, h2⟩; rw [(ji h.1 x).1 h1, (el h.2 xs).1 h2]
   ·rintro rfl; exact ⟨_, _, rfl, (ji h.1 _).2 rfl, (el h.2 _).2 rfl⟩
theorem lr {v : V} (h : (match toA v with | .agg ds => ds.all aY | a => aY a) = true) (a : ab) : vr w0 lh ν v a ↔ a = toA v := by
 cases v with
 | agg cs =>
   simp only [toA] at h
   simp only [vr, toA]
   constructor
   ·rintro ⟨az, rfl, h1⟩; rw [(el h az).1 h1]
   ·rintro rfl; exact ⟨_, rfl, (el h _).2 rfl⟩
 | _ => first | exact ji (by simpa [toA] using h) a | (simp [toA, aY] at h)
theorem jB : ∀ {vs : List V}, ((jU vs).all fun | .agg ds => ds.all aY | a => aY a) = true -> ∀ az, vrs w0 lh ν vs az ↔ az = jU vs
 | [], _, az => by simp only [vrs, jU]
 | v :: vs, h, az => by
   simp only [jU, List.all_cons, Bool.and_eq_true] at h
   simp only [vrs, jU]
   constructor
   ·rintro ⟨x, xs, rfl, h1, h2⟩; rw [(lr h.1 x).1 h1, (jB h.2 xs).1 h2]
   ·rintro rfl; exact ⟨_, _, rfl, (lr h.1 _).2 rfl, (jB h.2 _).2 rfl⟩
theorem r3 {v : V} (h : km (toA v) = true) (a : ab) : vr w0 lh ν v a ↔ a = toA v := by
 cases v with
 | tup cs =>
   simp only [toA, km] at h
   simp only [vr, toA]
   constructor
   ·rintro ⟨az, rfl, h1⟩; rw [(jB h az).1 h1]
   ·rintro rfl; exact ⟨_, rfl, (jB h _).2 rfl⟩
 | agg cs => exact lr (by simpa [toA, km] using h) a
 | _ => first | exact ji (by simpa [toA, km] using h) a | (simp [toA, km, aY] at h)
end
def vb : V -> Option (Nat × (Nat -> List V))
 | .sl n f => some (n, f)
 | .tup (.sl n f :: _) => some (n, f)
 | _ => none
def G1 : V -> List V
 | .tup (_ :: vs) => vs
 | _ => []
def Ej (v : V) : V -> V
 | .tup (_ :: vs) => .tup (v :: vs)
 | _ => v
def EI (a : ab) : V -> ab
 | .tup (_ :: vs) => .tup (a :: jU vs)
 | _ => a
theorem uA {r : V} {n : Nat} {f : Nat -> List V} (h : vb r = some (n, f)) : r = .sl n f ∨ ∃ vs, r = .tup (.sl n f :: vs) := by
 unfold vb at h
 split at h
 ·cases h; exact .inl rfl
 ·cases h; exact .inr ⟨_, rfl⟩
 ·cases h
def okL (e : Nat) (r : V) : Prop := ∃ n f, vb r = some (n, f) /\ n <= 9223372036854775807 /\ (∀ i, i < n -> okE e (f i) = true /\ (jU (f i)).all aY = true) /\ (jU (G1 r)).all aY = true
def Kz (e : Nat) (ty : TypeId) (nb : Nat) (lh : List ae) (n : Nat) (f : FnV) (x : ab) : Prop :=
 (n = 0 /\ x = .slice none 0 0) ∨ ∃ b c az, nb <= b /\ lh[b]? = some (.cells az ty) /\ x = .slice (some (.l b 0)) n c /\ az.length = c * e /\ n <= c /\ ∀ i, i < n -> (az.drop (i * e)).take e = jU (f i)
abbrev a7 := List V -> Option ((List V × List V) × Prop × V)
inductive Ent where
 | con (C : a7)
 | conL (e : Nat) (ty : TypeId) (C : a7) (h : ∀ ds d p r, C ds = some (d, p, r) -> d.1 = d.2 -> p -> okL e r)
 | inl (sf : aT) (un : Unr)
abbrev bj := List (FuncId × Ent)
def jK : bj -> FuncId -> Option Ent
 | [], _ => none
 | (k, c) :: l, f => cond (Nat.beq f k) (some c) (jK l f)
def vP (C : a7) : a8 := fun w0 args lh K => ∃ ds d p r, vrs w0 lh Nu.nil ds args /\ C ds = some (d, p, r) /\ (d.1 = d.2 /\ p) /\ km (toA r) = true /\ K (toA r) lh
def vL (e : Nat) (ty : TypeId) (C : a7) : a8 := fun w0 args lh K => ∃ ds d p r n f, vrs w0 lh Nu.nil ds args /\ C ds = some (d, p, r) /\ (d.1 = d.2 /\ p) /\ vb r = some (n, f) /\ okL e r /\ ∀ x new, Kz e ty lh.length (lh ++ new) n f x -> K (EI x r) (lh ++ new)
def SV (ct : bj) : uY
 | 0, f => match jK ct f with
   | some (.con C) => vP C
   | some (.conL e ty C _) => vL e ty C
   | _ => C8
 | n + 1, f => match jK ct f with
   | some (.con C) => vP C
   | some (.conL e ty C _) => vL e ty C
   | some (.inl sf _) => AT (SV ct n) sf
   | none => C8
section
variable {α : Type}
def uZ (C : a7) (vs : List V) (h : List O) (K : V -> T α) : T α := match C (vs.map (tI h)) with
 | none => .fail 81
 | some (d, p, r) => .obq d.1 d.2 (.obp p (.ob (km (toA r)) (obs (sG h vs) (K r))))
def tu (e : Nat) (ty : TypeId) (C : a7) (vs : List V) (h : List O) (K : V -> List O -> T α) : T α := match C (vs.map (tI h)) with
 | none => .fail 81
 | some (d, p, r) => match vb r with
   | none => .fail 85
   | some (n, f) => .obq d.1 d.2 (.obp p (obs (sG h vs) (K (Ej (.gs (aX h) n) r) (tX h (.gl e n f ty)))))
def mQ (ct : bj) : CP α := fun f vs h K => match jK ct f with
 | some (.con C) => uZ C vs h K
 | _ => .fail 80
def lU (ct : bj) : Nat -> CF α
 | 0, f, vs, h, K => match jK ct f with
   | some (.con C) => uZ C vs h fun v => K v h
   | some (.conL e ty C _) => tu e ty C vs h K
   | _ => .fail 82
 | n + 1, f, vs, h, K => match jK ct f with
   | some (.con C) => uZ C vs h fun v => K v h
   | some (.conL e ty C _) => tu e ty C vs h K
   | some (.inl sf un) => pr (lU ct n) (mQ ct) un n sf vs h K
   | none => .fail 83
theorem qc {w0 : World} {LP : dg} {C : a7} {vs : List V} {h : List O} {K : V -> T α} {Q : α -> Prop} {ν : Nu} {nV nS : Nat} {args : List ab} {lh : List ae} {KA : ab -> List ae -> Prop} (hv : vrs w0 ν.z ν vs args) (hh : HR w0 ν nV nS h lh) (hs : sat LP (uZ C vs h K) Q)
 (hK : ∀ v a, vr w0 ν.z ν v a -> sat LP (K v) Q -> KA a lh) : vP C w0 args lh KA := by
 unfold uZ at hs
 split at hs
 ·exact hs.elim
 ·rename_i d p r hr
  simp only [sat] at hs
  obtain ⟨hb, hs4⟩ := wl hs.2.2.2
  exact ⟨_, d, p, r, pY hh hb hv, hr, ⟨hs.1, hs.2.1⟩, hs.2.2.1, hK r (toA r) ((r3 hs.2.2.1 _).2 rfl) hs4⟩
theorem rb {w0 : World} {LP : dg} {e : Nat} {ty : TypeId} {C : a7} (hC : ∀ ds d p r, C ds = some (d, p, r) -> d.1 = d.2 -> p -> okL e r) {vs : List V} {h : List O} {K : V -> List O -> T α} {Q : α -> Prop} {ν : Nu} {nV nS : Nat} {args : List ab} {lh : List ae} {KA : ab -> List ae -> Prop} (hv : vrs w0 ν.z ν vs args) (hh : HR w0 ν nV nS h lh) (hs : sat LP (tu e ty C vs h K) Q)
 (hK : ∀ v h' ν' a lh', ν.sub ν' -> HR w0 ν' nV nS h' lh' -> vr w0 ν'.z ν' v a -> sat LP (K v h') Q -> KA a lh') : vL e ty C w0 args lh KA := by
 unfold tu at hs
 split at hs
 ·exact hs.elim
 ·rename_i d p r hr
  split at hs
  ·exact hs.elim
  ·rename_i n f hl
   simp only [sat] at hs
   obtain ⟨hb, hs4⟩ := wl hs.2.2
   have ho := hC _ _ _ _ hr hs.1 hs.2.1
   refine ⟨_, d, p, r, n, f, pY hh hb hv, hr, ⟨hs.1, hs.2.1⟩, hl, ho, fun x new hx => ?_⟩
   obtain ⟨n', f', hl', hn, hel, hrs⟩ := ho
   rw [hl] at hl'; cases hl'
   have hp := hh.dom h.length (Nat.le_refl _)
   have key : ∃ y : Option (Nat × Nat × Nat), vr w0 ν.z (upd ν h.length y) (.gs h.length n) x /\ ut w0 (upd ν h.length y) nV nS (lh ++ new) h.length (.gl e n f ty) /\ ∀ z, y = some z -> lh.length <= z.1 /\ z.1 < (lh ++ new).length := by
    rcases hx with ⟨rfl, rfl⟩ | ⟨b, c, az, hb, hbl, rfl, hal, hnc, hall⟩
    ·exact ⟨none, by simp only [vr]; exact .inl ⟨cN _ _ _, by simp⟩, .inl ⟨cN _ _ _, rfl⟩, fun z hz => by cases hz⟩
    ·refine ⟨some (b, c, e), by simp only [vr]; exact .inr ⟨b, c, e, cN _ _ _, rfl, hnc⟩, .inr ⟨b, c, az, cN _ _ _, hbl, hal, ⟨hnc, hn⟩, fun i hi => ⟨(hel i hi).1, ?_⟩⟩, fun z hz => ?_⟩
     ·rw [hall i hi]; exact (el (hel i hi).2 _).2 rfl
     ·cases hz; exact ⟨hb, (List.getElem?_eq_some_iff.1 hbl).1⟩
   obtain ⟨y, k1, k2, k3⟩ := key
   have hsub := e8 (x := y) hp
   refine hK _ _ (upd ν h.length y) _ _ hsub ?_ ?_ hs4
   ·rw [lQ]
    have hcell : ∀ k o, (h ++ [O.gl e n f ty])[k]? = some o -> (k = h.length /\ o = .gl e n f ty) ∨ (k < h.length /\ h[k]? = some o) := fun k o hk => by
     rw [List.getElem?_append] at hk
     split at hk
     ·rename_i hlt; exact .inr ⟨hlt, hk⟩
     ·have : k - h.length = 0 := by
       apply Classical.byContradiction; intro hne
       rw [List.getElem?_eq_none (by simp; omega)] at hk; cases hk
      rw [this] at hk; simp at hk
      exact .inl ⟨by omega, hk.symm⟩
    have hlive : ∀ k, aB (h ++ [O.gl e n f ty]) k -> k = h.length ∨ aB h k := fun k hl => by
     rcases c4 hl with ⟨cs, t, hk⟩ | ⟨_, _, _, _, hk⟩
     ·rcases hcell k _ hk with ⟨e1, _⟩ | ⟨_, g⟩
      ·exact .inl e1
      ·exact .inr (bS g)
     ·rcases hcell k _ hk with ⟨e1, _⟩ | ⟨_, g⟩
      ·exact .inl e1
      ·exact .inr (dG g)
    have hne : ∀ k, aB h k -> k ≠ h.length := fun k hl e1 => by
     rcases c4 hl with ⟨cs, t, hk⟩ | ⟨_, _, _, _, hk⟩ <;> (have := (List.getElem?_eq_some_iff.1 hk).1; omega)
    refine ⟨fun k o hk => ?_, fun k k' x1 x2 h1 h2 h3 h4 h5 => ?_, fun k hk => ?_, fun k x1 hk => ?_, fun j az ty hj => ?_, fun k x1 hl hk => ?_⟩
    ·rcases hcell k o hk with ⟨rfl, rfl⟩ | ⟨hlt, hk⟩
     ·exact k2
     ·by_cases hd : o = .dead
      ·subst hd
       obtain ⟨g1, g2, g3⟩ := hh.blk k _ hk
       exact ⟨by rw [cO, if_neg (Nat.ne_of_lt hlt)]; exact g1, g2, by rw [List.getElem?_append_left (List.getElem?_eq_some_iff.1 g3).1]; exact g3⟩
      ·exact cm hsub hd (fun b az ty' g1 _ => by rw [List.getElem?_append_left (List.getElem?_eq_some_iff.1 g1).1]; exact g1) (hh.blk k _ hk)
    ·rw [cO] at h3 h4
     rcases hlive k h1 with e1 | e1 <;> rcases hlive k' h2 with e2 | e2
     ·omega
     ·rw [if_pos e1] at h3; rw [if_neg (hne _ e2)] at h4; simp only [Option.some.injEq] at h3
      have := (k3 _ h3).1; have := hh.rng _ _ h4; omega
     ·rw [if_neg (hne _ e1)] at h3; rw [if_pos e2] at h4; simp only [Option.some.injEq] at h4
      have := (k3 _ h4).1; have := hh.rng _ _ h3; omega
     ·rw [if_neg (hne _ e1)] at h3; rw [if_neg (hne _ e2)] at h4
      exact hh.inj k k' x1 x2 e1 e2 h3 h4 h5
    ·simp only [List.length_append, List.length_cons, List.length_nil] at hk
     rw [cO, if_neg (by omega)]; exact hh.dom k (by omega)
    ·rw [cO] at hk
     split at hk
     ·simp only [Option.some.injEq] at hk; exact (k3 _ hk).2
     ·rw [List.length_append]; exact Nat.lt_of_lt_of_le (hh.rng k x1 hk) (by omega)
    ·have g1 := hh.zl j az ty hj
     rw [List.getElem?_append_left (List.getElem?_eq_some_iff.1 g1).1]; exact g1
    ·rw [cO] at hk
     rcases hlive k hl with e1 | e1
     ·rw [if_pos e1] at hk; simp only [Option.some.injEq] at hk
      have := (k3 _ hk).1
      exact Be hh.zl (by rw [List.getElem?_eq_none (by omega)]; rfl)
     ·rw [if_neg (hne _ e1)] at hk; exact hh.zn k x1 e1 hk
   ·rw [aU]
    rcases uA hl with rfl | ⟨us, rfl⟩
    ·exact k1
    ·simp only [Ej, EI, vr]
     refine ⟨_, rfl, ?_⟩
     simp only [vrs]
     exact ⟨_, _, rfl, k1, (el hrs _).2 rfl⟩
theorem oH (w0 : World) (ct : bj) (LP : dg) (lv : Nat) : pK w0 (SV ct lv) LP (mQ (α := α) ct) := by
 intro f vs h K Q ν nV nS args lh KA hv hh hs hK
 unfold mQ at hs
 split at hs
 ·rename_i C hC
  have : SV ct lv f = vP C := by cases lv <;> simp only [SV, hC]
  rw [this]
  exact qc hv hh hs hK
 ·exact hs.elim
def ll : bj -> Bool
 | [] => true
 | (_, .con _) :: l => ll l
 | (_, .conL ..) :: l => ll l
 | (_, .inl sf _) :: l => eF sf.ntmps sf.body && ll l
theorem rf : ∀ {ct : bj} {f : FuncId} {sf : aT} {un : Unr}, ll ct = true -> jK ct f = some (.inl sf un) -> eF sf.ntmps sf.body = true
 | [], _, _, _, _, h => by cases h
 | (k, c) :: l, f, sf, un, hd, h => by
   simp only [jK] at h
   cases hb : Nat.beq f k with
   | true =>
     rw [hb] at h; simp only [cond] at h; cases h
     simp only [ll, Bool.and_eq_true] at hd; exact hd.1
   | false =>
     rw [hb] at h; simp only [cond] at h
     refine rf (ct := l) ?_ h
     cases c with
     | con C => exact hd
     | conL e ty C h => exact hd
     | inl sf' un' => simp only [ll, Bool.and_eq_true] at hd; exact hd.2
theorem ox (w0 : World) (ct : bj) (hd : ll ct = true) : ∀ (lv : Nat), oq w0 (SV ct lv) (bU w0 (SV ct)) false (lU (α := α) ct lv)
 | 0 => by
   intro f vs h K Q ν nV nS args lh KA hv hh hs hK
   simp only [lU] at hs
   split at hs
   ·rename_i C hC
    have : SV ct 0 f = vP C := by simp only [SV, hC]
    rw [this]
    exact qc hv hh hs fun v a hv hs => hK v h ν a lh (fun e => by cases e) (Nu.sub_refl ν) hh hv hs
   ·rename_i e ty C hC0 hC
    have : SV ct 0 f = vL e ty C := by simp only [SV, hC]
    rw [this]
    exact rb hC0 hv hh hs fun v h' ν' a lh' g0 g1 g2 g3 => hK v h' ν' a lh' (fun e => by cases e) g0 g1 g2 g3
   ·exact hs.elim
 | n + 1 => by
   intro f vs h K Q ν nV nS args lh KA hv hh hs hK
   simp only [lU] at hs
   split at hs
   ·rename_i C hC
    have : SV ct (n + 1) f = vP C := by simp only [SV, hC]
    rw [this]
    exact qc hv hh hs fun v a hv hs => hK v h ν a lh (fun e => by cases e) (Nu.sub_refl ν) hh hv hs
   ·rename_i e ty C hC0 hC
    have : SV ct (n + 1) f = vL e ty C := by simp only [SV, hC]
    rw [this]
    exact rb hC0 hv hh hs fun v h' ν' a lh' g0 g1 g2 g3 => hK v h' ν' a lh' (fun e => by cases e) g0 g1 g2 g3
   ·rename_i sf un hC
    have : SV ct (n + 1) f = AT (SV ct n) sf := by simp only [SV, hC]
    rw [this]
    exact tE (ox w0 ct hd n) (oH w0 ct _ n) (rf hd hC) hv hh hs fun v h' ν' a lh' g0 g1 g2 g3 => hK v h' ν' a lh' (fun e => by cases e) g0 (g1 nV nS) g2 g3
   ·exact hs.elim
end
inductive be (P : Program) (eqs : List TypeId) (its : List gS) : bj -> Prop
 | nil : be P eqs its []
 | con {f : FuncId} {C : a7} {ct : bj} (h : (vP C).Ok P f) (hl : be P eqs its ct) : be P eqs its ((f, .con C) :: ct)
 | conL {f : FuncId} {e : Nat} {ty : TypeId} {C : a7} {hC : ∀ ds d p r, C ds = some (d, p, r) -> d.1 = d.2 -> p -> okL e r} {ct : bj} (h : (vL e ty C).Ok P f) (hl : be P eqs its ct) : be P eqs its ((f, .conL e ty C hC) :: ct)
 | inl {f : FuncId} {fn : Func} {sf : aT} {un : Unr} {ct : bj} (hf : P.funcs[f]? = some fn) (hn : (fn.name == "runtime.NumGoroutine") = false) (hc : eZ P eqs its fn = some sf) (hd : eF sf.ntmps sf.body = true) (hl : be P eqs its ct) : be P eqs its ((f, .inl sf un) :: ct)
theorem be.look {P : Program} {eqs : List TypeId} {its : List gS} {ct : bj} (h : be P eqs its ct) : ∀ {f : FuncId} {x : Ent}, jK ct f = some x -> match x with
 | .con C => (vP C).Ok P f
 | .conL e ty C _ => (vL e ty C).Ok P f
 | .inl sf _ => ∃ fn, P.funcs[f]? = some fn /\ (fn.name == "runtime.NumGoroutine") = false /\ eZ P eqs its fn = some sf := by
 induction h with
 | nil => intro f x h; cases h
 | @con k C ct h hl ih =>
   intro f x hx
   simp only [jK] at hx
   cases hb : Nat.beq f k with
   | true => rw [hb] at hx; simp only [cond] at hx; cases hx; have := Nat.eq_of_beq_eq_true hb; subst this; exact h
   | false => rw [hb] at hx; simp only [cond] at hx; exact ih hx
 | @conL k e ty C hC ct h hl ih =>
   intro f x hx
   simp only [jK] at hx
   cases hb : Nat.beq f k with
   | true => rw [hb] at hx; simp only [cond] at hx; cases hx; have := Nat.eq_of_beq_eq_true hb; subst this; exact h
   | false => rw [hb] at hx; simp only [cond] at hx; exact ih hx
 | @inl k fn sf un ct hf hn hc hd hl ih =>
   intro f x hx
   simp only [jK] at hx
   cases hb : Nat.beq f k with
   | true => rw [hb] at hx; simp only [cond] at hx; cases hx; have := Nat.eq_of_beq_eq_true hb; subst this; exact ⟨fn, hf, hn, hc⟩
   | false => rw [hb] at hx; simp only [cond] at hx; exact ih hx
theorem be.dst {P : Program} {eqs : List TypeId} {its : List gS} {ct : bj} (h : be P eqs its ct) : ll ct = true := by
 induction h with
 | nil => rfl
 | con h hl ih => exact ih
 | conL h hl ih => exact ih
 | inl hf hn hc hd hl ih => simp only [ll, hd, ih, Bool.and_self]
theorem be.ok {P : Program} {eqs : List TypeId} {its : List gS} {ct : bj} (h : be P eqs its ct) (hE : ∀ t ∈ eqs, cW P t) (hI : nX P eqs its) : ∀ (lv : Nat) (g : FuncId), (SV ct lv g).Ok P g
 | 0, g => by
   simp only [SV]
   split
   ·rename_i C hC; exact h.look hC
   ·rename_i e ty C hC0 hC; exact h.look hC
   ·exact vX g
 | n + 1, g => by
   simp only [SV]
   split
   ·rename_i C hC; exact h.look hC
   ·rename_i e ty C hC0 hC; exact h.look hC
   ·rename_i sf un hC
    obtain ⟨fn, h1, h2, h3⟩ := h.look hC
    exact CU (h.ok hE hI n) hE hI h1 h2 h3
   ·exact vX g
def LV : Nat := 12
def run (ct : bj) (un : Unr) (sf : aT) (ds : List V) : T V := pr (lU ct LV) (mQ ct) un LV sf ds [] fun v _ => .ret v
theorem GT {α : Type} {P : Program} {eqs : List TypeId} {its : List gS} {ct : bj} {f : FuncId} {fn : Func} {sf : aT} {un : Unr} {C : a7} {K0 : V -> T α} {Q0 : V -> α -> Prop} (hK0 : ∀ w0 r v, sat (bU w0 (SV ct)) (K0 v) (Q0 r) -> toA v = toA r) (hT : be P eqs its ct) (hE : ∀ t ∈ eqs, cW P t) (hI : nX P eqs its) (hf : P.funcs[f]? = some fn)
 (hn : (fn.name == "runtime.NumGoroutine") = false) (hc : eZ P eqs its fn = some sf) (hd : eF sf.ntmps sf.body = true)
 (h : ∀ w0 ds d p r, C ds = some (d, p, r) -> d.1 = d.2 -> p -> km (toA r) = true -> sat (bU w0 (SV ct)) (pr (lU ct LV) (mQ ct) un LV sf ds [] fun v _ => K0 v) (Q0 r)) : (vP C).Ok P f := by
 refine ⟨fun B m lh w args vs K hrel hargs hsp => ?_, fun _ _ _ _ _ hk ⟨ds, d, p, r, h1, h2, h3, h4, h5⟩ => ⟨ds, d, p, r, h1, h2, h3, h4, hk _ _ h5⟩, fun _ _ _ _ ⟨_, _, _, _, _, _, _, _, h⟩ => h⟩
 obtain ⟨ds, d, p, r, h1, h2, ⟨h30, h3⟩, h4, h5⟩ := hsp
 obtain ⟨args', g1, g2⟩ := iP hrel ds args vs h1 hargs
 have hs := rj (Sp := fun w0 args lh K => lh = [] /\ ∃ ds d p r, vrs w0 [] Nu.nil ds args /\ C ds = some (d, p, r) /\ (d.1 = d.2 /\ p) /\ km (toA r) = true /\ K (toA r) []) (hT.ok hE hI LV) hE hI hf hn hc (fun w0 args lh K hw ha ⟨e, ds, d, p, r, k1, k2, ⟨k30, k3⟩, k4, k5⟩ => by
  subst e
  refine tE (ox w0 ct hT.dst LV) (oH w0 ct _ LV) hd k1 (HR.none w0) (h w0 ds d p r k2 k30 k3 k4) fun v h' ν' a lh' _ q1 q2 q3 => ?_
  have q3 := hK0 _ _ _ q3
  have := (r3 (by rw [q3]; exact k4) a).1 q2
  rw [q3] at this
  subst this
  exact CH (lh := []) (l := lh') (BX k4) hw k5)
 obtain ⟨e1, e2⟩ := hs ⟨w, w, fun _ => False, []⟩ (fun _ => none) [] w args' vs (fun r' _ => r' = toA r) (aD.start w) g1 ⟨rfl, ds, d, p, r, g2, h2, ⟨h30, h3⟩, h4, rfl⟩
 refine ⟨e1, e2.mono fun e w' ⟨v, r', m1, lh1, he, hv, _, hr, hk⟩ => ?_⟩
 subst hk
 exact ⟨v, _, m, lh, he, zI h4 hv, Ext.refl _ _, hrel.back hr, h5⟩
inductive Ty where
 | int (k : IntKind)
 | bool
 | str
 | agg (ts : List Ty)
 | sl (ts : List Ty)
 | fn (f : FuncId) (xs ys : List Ty)
 | pd (ts : List Ty)
def iv : V -> Int
 | .int _ n => n
 | _ => 0
def bv : V -> Bool
 | .bool b => b
 | .kb b => b
 | _ => false
def sv : V -> ByteArray
 | .str s => s
 | _ => ByteArray.empty
def c5 : V -> Nat
 | .sl n _ => n
 | .sq n _ _ => n
 | _ => 0
def zi : V -> Nat
 | .sl n _ => n
 | .sq _ m _ => m
 | _ => 0
def atV : V -> Nat -> List V
 | .sl _ f, i => f i
 | .sq _ _ f, i => f i
 | _, _ => []
def cD : V -> List V
 | .agg cs => cs
 | _ => []
def fxs : V -> List V
 | .fn _ xs _ => xs
 | _ => []
def fys : V -> List V
 | .fn _ _ ys => ys
 | _ => []
def pdV : V -> List V
 | .pd cs => cs
 | _ => []
def hdV : List V -> V
 | v :: _ => v
 | [] => .any
def tlV : List V -> List V
 | _ :: vs => vs
 | [] => []
def a6 : Ty -> Bool
 | .agg _ => false
 | .fn .. => false
 | .pd _ => false
 | _ => true
mutual
def view : Ty -> V -> V
 | .int k, v => .int k (iv v)
 | .bool, v => .bool (bv v)
 | .str, v => .str (sv v)
 | .agg ts, v => .agg (ap ts (cD v))
 | .sl ts, v => .sl (c5 v) fun i => ap ts (atV v i)
 | .fn f xs ys, v => .fn f (ap xs (fxs v)) (ap ys (fys v))
 | .pd ts, v => .pd (ap ts (pdV v))
def ap : List Ty -> List V -> List V
 | [], _ => []
 | t :: ts, vs => view t (hdV vs) :: ap ts (tlV vs)
end
mutual
def bw : Ty -> V -> Prop
 | .int k, v => v = .int k (iv v)
 | .bool, v => v = .bool (bv v) ∨ v = .kb (bv v)
 | .str, v => v = .str (sv v)
 | .agg ts, v => v = .agg (cD v) /\ aI ts (cD v)
 | .sl ts, v => (v = .sl (c5 v) (atV v) ∨ v = .sq (c5 v) (zi v) (atV v)) /\ ts.all a6 = true /\ ∀ i, i < zi v -> aI ts (atV v i)
 | .fn f xs ys, v => v = .fn f (fxs v) (fys v) /\ aI xs (fxs v) /\ aI ys (fys v)
 | .pd ts, v => v = .pd (pdV v) /\ ts.all a6 = true /\ aI ts (pdV v)
def aI : List Ty -> List V -> Prop
 | [], vs => vs = []
 | t :: ts, vs => vs = hdV vs :: tlV vs /\ bw t (hdV vs) /\ aI ts (tlV vs)
end
theorem jW : ∀ (ts : List Ty) (vs : List V), ts.all a6 = true -> (ap ts vs).all V.fc = true
 | [], _, _ => by simp [ap]
 | t :: ts, vs, h => by
   simp only [List.all_cons, Bool.and_eq_true] at h
   simp only [ap, List.all_cons, Bool.and_eq_true]
   refine ⟨?_, jW ts _ h.2⟩
   cases t <;> first | rfl | (simp [a6] at h) | (simp only [view]; rfl)
theorem pN : ∀ {ts : List Ty} {vs : List V}, aI ts vs -> vs.length = ts.length
 | [], vs, h => by simp only [aI] at h; subst h; rfl
 | t :: ts, vs, h => by simp only [aI] at h; rw [h.1]; simp [pN h.2.2]
section
variable {w0 : World} {lh : List ae}
theorem nd : ∀ (ts : List Ty) (vs : List V), (ap ts vs).length = ts.length
 | [], _ => by simp [ap]
 | t :: ts, vs => by simp [ap, nd ts]
mutual
theorem CQ : ∀ (t : Ty) (v : V) (a : ab), bw t v -> vr w0 lh Nu.nil v a -> vr w0 lh Nu.nil (view t v) a
 | .int k, v, a, h, hv => by simp only [bw] at h; simp only [view]; rw [h] at hv; exact hv
 | .bool, v, a, h, hv => by
   simp only [bw] at h; simp only [view, vr]
   rcases h with h | h <;> (rw [h] at hv; simp only [vr] at hv; exact hv)
 | .str, v, a, h, hv => by simp only [bw] at h; simp only [view]; rw [h] at hv; exact hv
 | .agg ts, v, a, h, hv => by
   simp only [bw] at h
   rw [h.1] at hv
   simp only [view, vr] at hv ⊢
   obtain ⟨az, h1, h2⟩ := hv
   exact ⟨az, h1, ep ts _ az h.2 h2⟩
 | .sl ts, v, a, h, hv => by
   simp only [bw] at h
   rcases h.1 with h0 | h0
   ·have hb : zi v = c5 v := by rw [h0]; rfl
    rw [h0] at hv
    simp only [view, vr] at hv ⊢
    obtain ⟨p, c, esz, h1, h2, h3, h4, h5⟩ := hv
    exact ⟨p, c, esz, h1, h2, h3, h4, fun i hi => let ⟨q, az, g1, g2, g3, g4⟩ := h5 i hi; ⟨q, az, g1, g2, ep ts _ az (h.2.2 i (by omega)) g3, jW ts _ h.2.1⟩⟩
   ·rw [h0] at hv
    simp only [view, vr] at hv ⊢
    obtain ⟨p, c, esz, h1, ⟨h2, h2'⟩, h3, h4, h5⟩ := hv
    exact ⟨p, c, esz, h1, h2, h3, h4, fun i hi => let ⟨q, az, g1, g2, g3, g4⟩ := h5 i hi; ⟨q, az, g1, g2, ep ts _ az (h.2.2 i (by omega)) g3, jW ts _ h.2.1⟩⟩
 | .fn f xs ys, v, a, h, hv => by
   simp only [bw] at h
   rw [h.1] at hv
   simp only [view, vr] at hv ⊢
   obtain ⟨us, vs, h1, h2, h3⟩ := hv
   exact ⟨us, vs, h1, ep xs _ us h.2.1 h2, ep ys _ vs h.2.2 h3⟩
 | .pd ts, v, a, h, hv => by
   simp only [bw] at h
   rw [h.1] at hv
   simp only [view, vr] at hv ⊢
   obtain ⟨p, az, h1, h2, h3, h4, h5⟩ := hv
   have hl := pN h.2.2
   refine ⟨p, az, h1, h2, by rw [nd, ← hl]; exact h3, ep ts _ az h.2.2 h4, jW ts _ h.2.1⟩
theorem ep : ∀ (ts : List Ty) (vs : List V) (az : List ab), aI ts vs -> vrs w0 lh Nu.nil vs az -> vrs w0 lh Nu.nil (ap ts vs) az
 | [], vs, az, h, hv => by simp only [aI] at h; subst h; simpa only [ap] using hv
 | t :: ts, vs, az, h, hv => by
   simp only [aI] at h
   rw [h.1] at hv
   simp only [vrs] at hv
   obtain ⟨x, xs, rfl, h1, h2⟩ := hv
   simp only [ap, vrs]
   exact ⟨x, xs, rfl, CQ t _ x h.2.1 h1, ep ts _ xs h.2.2 h2⟩
end
end
mutual
def pE : Ty -> Bool
 | .agg ts => ff ts
 | .sl ts => ts.all a6 && ff ts
 | .fn _ xs ys => ff xs && ff ys
 | .pd ts => ts.all a6 && ff ts
 | _ => true
def ff : List Ty -> Bool
 | [] => true
 | t :: ts => pE t && ff ts
end
def yM : Nat -> (Nat -> List V -> List V) -> List V -> List V
 | 0, _, k => k
 | j + 1, g, k => g j (yM j g k)
mutual
def fxL : Ty -> V -> List V -> List V
 | .agg ts, v, k => .agg (cD v) :: gk ts (cD v) k
 | .sl ts, v, k => match v with
   | .sq _ m f => yM m (fun j k => gk ts (f j) k) k
   | v => view (.sl ts) v :: k
 | .fn f xs ys, v, k => .fn f (fxs v) (fys v) :: gk xs (fxs v) (gk ys (fys v) k)
 | .pd ts, v, k => .pd (pdV v) :: gk ts (pdV v) k
 | t, v, k => view t v :: k
def gk : List Ty -> List V -> List V -> List V
 | [], _, k => .agg [] :: k
 | t :: ts, vs, k => .agg (hdV vs :: tlV vs) :: fxL t (hdV vs) (gk ts (tlV vs) k)
end
mutual
def fxR : Ty -> V -> List V -> List V
 | .agg ts, v, k => v :: gi ts (cD v) k
 | .sl ts, v, k => match v with
   | .sq _ m f => yM m (fun j k => gi ts (f j) k) k
   | v => v :: k
 | .fn _ xs ys, v, k => v :: gi xs (fxs v) (gi ys (fys v) k)
 | .pd ts, v, k => v :: gi ts (pdV v) k
 | _, v, k => v :: k
def gi : List Ty -> List V -> List V -> List V
 | [], vs, k => .agg vs :: k
 | t :: ts, vs, k => .agg vs :: fxR t (hdV vs) (gi ts (tlV vs) k)
end
theorem sT {P : Nat -> Prop} {g g' : Nat -> List V -> List V} (hg : ∀ j k k', g j k = g' j k' -> P j /\ k = k') : ∀ (m : Nat) (k k' : List V), yM m g k = yM m g' k' -> (∀ j, j < m -> P j) /\ k = k'
 | 0, k, k', h => ⟨fun j hj => by omega, h⟩
 | m + 1, k, k', h => by
   simp only [yM] at h
   obtain ⟨h1, h2⟩ := hg m _ _ h
   obtain ⟨h3, h4⟩ := sT hg m k k' h2
   exact ⟨fun j hj => by
    by_cases e : j = m
    ·subst e; exact h1
    ·exact h3 j (by omega), h4⟩
theorem sg : ∀ (ts : List Ty) (vs : List V), ff ts = true -> ap ts vs = vs -> aI ts vs := by
 have key : ∀ (ts : List Ty), ff ts = true -> ∀ vs, ap ts vs = vs -> aI ts vs := fun ts ho vs h => hasTys_of' ts vs ho h
 exact fun ts vs ho h => key ts ho vs h
where
 hasTy_of' : ∀ (t : Ty) (v : V), pE t = true -> view t v = v -> bw t v
 | .int k, v, _, h => by simp only [view] at h; simp only [bw]; exact h.symm
 | .bool, v, _, h => by simp only [view] at h; simp only [bw]; exact .inl h.symm
 | .str, v, _, h => by simp only [view] at h; simp only [bw]; exact h.symm
 | .agg ts, v, ho, h => by
   simp only [view] at h; simp only [pE] at ho
   have h2 : ap ts (cD v) = cD v := by have := congrArg cD h; simpa only [cD] using this
   simp only [bw]
   exact ⟨by rw [h2] at h; exact h.symm, hasTys_of' ts _ ho h2⟩
 | .sl ts, v, ho, h => by
   simp only [view] at h; simp only [pE, Bool.and_eq_true] at ho
   have h2 : ∀ i, ap ts (atV v i) = atV v i := fun i => by
    have := congrArg (fun u => atV u i) h
    simpa only [atV] using this
   simp only [bw]
   refine ⟨.inl ?_, ho.1, fun i _ => hasTys_of' ts _ ho.2 (h2 i)⟩
   have h3 : (fun i => ap ts (atV v i)) = atV v := funext h2
   rw [h3] at h; exact h.symm
 | .fn f xs ys, v, ho, h => by
   simp only [view] at h; simp only [pE, Bool.and_eq_true] at ho
   have h2 : ap xs (fxs v) = fxs v := by have := congrArg fxs h; simpa only [fxs] using this
   have h3 : ap ys (fys v) = fys v := by have := congrArg fys h; simpa only [fys] using this
   simp only [bw]
   exact ⟨by rw [h2, h3] at h; exact h.symm, hasTys_of' xs _ ho.1 h2, hasTys_of' ys _ ho.2 h3⟩
 | .pd ts, v, ho, h => by
   simp only [view] at h; simp only [pE, Bool.and_eq_true] at ho
   have h2 : ap ts (pdV v) = pdV v := by have := congrArg pdV h; simpa only [pdV] using this
   simp only [bw]
   exact ⟨by rw [h2] at h; exact h.symm, ho.1, hasTys_of' ts _ ho.2 h2⟩
 hasTys_of' : ∀ (ts : List Ty) (vs : List V), ff ts = true -> ap ts vs = vs -> aI ts vs
 | [], vs, _, h => by simp only [ap] at h; simp only [aI]; exact h.symm
 | t :: ts, vs, ho, h => by
   simp only [ap] at h; simp only [ff, Bool.and_eq_true] at ho
   have h2 : view t (hdV vs) = hdV vs := by have := congrArg hdV h; simpa only [hdV] using this
   have h3 : ap ts (tlV vs) = tlV vs := by have := congrArg tlV h; simpa only [tlV] using this
   simp only [aI]
   exact ⟨by rw [h2, h3] at h; exact h.symm, hasTy_of' t _ ho.1 h2, hasTys_of' ts _ ho.2 h3⟩
def elV (ts : List Ty) (f : FnV) : Nat -> List V := fun i => ap ts (f i)
mutual
def unq : Ty -> V -> V
 | .agg ts, v => match v with
   | .agg cs => .agg (kI ts cs)
   | v => v
 | .sl ts, v => match v with
   | .sq n _ f => .sl n (elV ts f)
   | v => v
 | .fn _ xs ys, v => match v with
   | .fn f us vs => .fn f (kI xs us) (kI ys vs)
   | v => v
 | .pd ts, v => match v with
   | .pd cs => .pd (kI ts cs)
   | v => v
 | _, v => v
def kI : List Ty -> List V -> List V
 | [], _ => []
 | t :: ts, vs => match vs with
   | v :: vs => unq t v :: kI ts vs
   | [] => []
end
mutual
theorem G3 : ∀ (t : Ty) (v : V) (k k' : List V), fxL t v k = fxR t v k' -> unq t v = view t v /\ k = k'
 | .int _, v, k, k', h => by
   simp only [fxL, fxR, List.cons.injEq] at h
   simp only [unq]; exact ⟨h.1.symm, h.2⟩
 | .bool, v, k, k', h => by
   simp only [fxL, fxR, List.cons.injEq] at h
   simp only [unq]; exact ⟨h.1.symm, h.2⟩
 | .str, v, k, k', h => by
   simp only [fxL, fxR, List.cons.injEq] at h
   simp only [unq]; exact ⟨h.1.symm, h.2⟩
 | .agg ts, v, k, k', h => by
   simp only [fxL, fxR, List.cons.injEq] at h
   obtain ⟨h1, h2⟩ := gV ts _ k k' h.2
   obtain ⟨cs, rfl⟩ : ∃ cs, v = .agg cs := ⟨_, h.1.symm⟩
   simp only [cD] at h1
   simp only [unq, view, cD, h1]; exact ⟨trivial, h2⟩
 | .sl ts, v, k, k', h => by
   by_cases hv : ∃ n m f, v = .sq n m f
   ·obtain ⟨n, m, f, rfl⟩ := hv
    simp only [fxL, fxR] at h
    obtain ⟨_, h2⟩ := sT (P := fun _ => True) (fun j k k' hj => ⟨trivial, (gV ts (f j) k k' hj).2⟩) m k k' h
    exact ⟨rfl, h2⟩
   ·cases v <;> first | exact (hv ⟨_, _, _, rfl⟩).elim | (simp only [fxL, fxR, List.cons.injEq] at h; simp only [unq]; exact ⟨h.1.symm, h.2⟩)
 | .fn f xs ys, v, k, k', h => by
   simp only [fxL, fxR, List.cons.injEq] at h
   obtain ⟨h1, h2⟩ := gV xs _ _ _ h.2
   obtain ⟨h3, h4⟩ := gV ys _ _ _ h2
   obtain ⟨us, vs, rfl⟩ : ∃ us vs, v = .fn f us vs := ⟨_, _, h.1.symm⟩
   simp only [fxs] at h1
   simp only [fys] at h3
   simp only [unq, view, fxs, fys, h1, h3]; exact ⟨trivial, h4⟩
 | .pd ts, v, k, k', h => by
   simp only [fxL, fxR, List.cons.injEq] at h
   obtain ⟨h1, h2⟩ := gV ts _ k k' h.2
   obtain ⟨cs, rfl⟩ : ∃ cs, v = .pd cs := ⟨_, h.1.symm⟩
   simp only [pdV] at h1
   simp only [unq, view, pdV, h1]; exact ⟨trivial, h2⟩
theorem gV : ∀ (ts : List Ty) (vs : List V) (k k' : List V), gk ts vs k = gi ts vs k' -> kI ts vs = ap ts vs /\ k = k'
 | [], vs, k, k', h => by
   simp only [gk, gi, List.cons.injEq, V.agg.injEq] at h
   simp only [kI, ap]; exact ⟨trivial, h.2⟩
 | t :: ts, vs, k, k', h => by
   simp only [gk, gi, List.cons.injEq, V.agg.injEq] at h
   obtain ⟨h1, h2⟩ := G3 t _ _ _ h.2
   obtain ⟨h3, h4⟩ := gV ts _ _ _ h2
   have h0 := h.1
   cases vs with
   | nil => cases h0
   | cons v vs =>
     simp only [hdV, tlV] at h1 h3
     simp only [kI, ap, hdV, tlV, h1, h3]; exact ⟨trivial, h4⟩
end
mutual
theorem Hz : ∀ (t : Ty) (v : V) (k k' : List V), pE t = true -> fxL t v k = fxR t v k' -> bw t v /\ k = k'
 | .int _, v, k, k', _, h => by
   simp only [fxL, fxR, List.cons.injEq] at h
   simp only [view] at h; simp only [bw]; exact ⟨h.1.symm, h.2⟩
 | .bool, v, k, k', _, h => by
   simp only [fxL, fxR, List.cons.injEq, view] at h
   simp only [bw]
   exact ⟨.inl h.1.symm, h.2⟩
 | .str, v, k, k', _, h => by
   simp only [fxL, fxR, List.cons.injEq] at h
   simp only [view] at h; simp only [bw]; exact ⟨h.1.symm, h.2⟩
 | .agg ts, v, k, k', ho, h => by
   simp only [fxL, fxR, List.cons.injEq] at h; simp only [pE] at ho
   obtain ⟨h1, h2⟩ := ke ts _ k k' ho h.2
   simp only [bw]; exact ⟨⟨h.1.symm, h1⟩, h2⟩
 | .sl ts, v, k, k', ho, h => by
   have ho' := ho
   simp only [pE, Bool.and_eq_true] at ho
   by_cases hv : ∃ n m f, v = .sq n m f
   ·obtain ⟨n, m, f, rfl⟩ := hv
    simp only [fxL, fxR] at h
    obtain ⟨h1, h2⟩ := sT (P := fun j => aI ts (f j)) (fun j k k' hj => ke ts (f j) k k' ho.2 hj) m k k' h
    simp only [bw, c5, atV, zi]
    exact ⟨⟨.inr rfl, ho.1, h1⟩, h2⟩
   ·have h' : view (.sl ts) v = v /\ k = k' := by
     cases v <;> first | exact (hv ⟨_, _, _, rfl⟩).elim | (simp only [fxL, fxR, List.cons.injEq] at h; exact h)
    have := sg [.sl ts] [v] (by simp only [ff, ho', Bool.and_true]) (by simp only [ap, hdV, tlV, h'.1])
    simp only [aI, hdV] at this
    exact ⟨this.2.1, h'.2⟩
 | .fn f xs ys, v, k, k', ho, h => by
   simp only [fxL, fxR, List.cons.injEq] at h; simp only [pE, Bool.and_eq_true] at ho
   obtain ⟨h1, h2⟩ := ke xs _ _ _ ho.1 h.2
   obtain ⟨h3, h4⟩ := ke ys _ _ _ ho.2 h2
   simp only [bw]; exact ⟨⟨h.1.symm, h1, h3⟩, h4⟩
 | .pd ts, v, k, k', ho, h => by
   simp only [fxL, fxR, List.cons.injEq] at h; simp only [pE, Bool.and_eq_true] at ho
   obtain ⟨h1, h2⟩ := ke ts _ k k' ho.2 h.2
   simp only [bw]; exact ⟨⟨h.1.symm, ho.1, h1⟩, h2⟩
theorem ke : ∀ (ts : List Ty) (vs : List V) (k k' : List V), ff ts = true -> gk ts vs k = gi ts vs k' -> aI ts vs /\ k = k'
 | [], vs, k, k', _, h => by
   simp only [gk, gi, List.cons.injEq, V.agg.injEq] at h
   simp only [aI]; exact ⟨h.1.symm, h.2⟩
 | t :: ts, vs, k, k', ho, h => by
   simp only [gk, gi, List.cons.injEq, V.agg.injEq] at h; simp only [ff, Bool.and_eq_true] at ho
   obtain ⟨h1, h2⟩ := Hz t _ _ _ ho.1 h.2
   obtain ⟨h3, h4⟩ := ke ts _ _ _ ho.2 h2
   simp only [aI]; exact ⟨⟨h.1.symm, h1, h3⟩, h4⟩
end
def mkC (ts : List Ty) (pre : List V -> Prop) (r : List V -> V) : a7 := fun ds => some ((gk ts ds [], gi ts ds []), pre (kI ts ds), r (kI ts ds))
theorem DG {α : Type} {P : Program} {eqs : List TypeId} {its : List gS} {ct : bj} {f : FuncId} {fn : Func} {sf : aT} {un : Unr} {ts : List Ty} {pre : List V -> Prop} {r : List V -> V} {K0 : V -> T α} {Q0 : V -> α -> Prop} (hK0 : ∀ w0 r v, sat (bU w0 (SV ct)) (K0 v) (Q0 r) -> toA v = toA r) (hT : be P eqs its ct) (hE : ∀ t ∈ eqs, cW P t) (hI : nX P eqs its) (hf : P.funcs[f]? = some fn)
 (hn : (fn.name == "runtime.NumGoroutine") = false) (hc : eZ P eqs its fn = some sf) (hd : eF sf.ntmps sf.body = true) (ho : ff ts = true)
 (h : ∀ w0 ds, pre (ap ts ds) -> sat (bU w0 (SV ct)) (pr (lU ct LV) (mQ ct) un LV sf (ap ts ds) [] fun v _ => K0 v) (Q0 (r (ap ts ds)))) : (vP (mkC ts pre r)).Ok P f := by
 refine ⟨fun B m lh w args vs K hrel hargs hsp => ?_, fun _ _ _ _ _ hk ⟨ds, d, p, r, h1, h2, h3, h4, h5⟩ => ⟨ds, d, p, r, h1, h2, h3, h4, hk _ _ h5⟩, fun _ _ _ _ ⟨_, _, _, _, _, _, _, _, h⟩ => h⟩
 obtain ⟨ds, d, p, r', h1, h2, ⟨h30, h3⟩, h4, h5⟩ := hsp
 simp only [mkC, Option.some.injEq, Prod.mk.injEq] at h2
 obtain ⟨rfl, rfl, rfl⟩ := h2
 have hty := (ke ts ds [] [] ho h30).1
 rw [(gV ts ds [] [] h30).1] at h3 h4 h5
 have key2 := GT (C := fun ds' => some ((ds', ap ts ds), pre (ap ts ds), r (ap ts ds))) (P := P) (f := f) hK0 hT hE hI hf hn hc hd (fun w0 ds' d' p' r' e he hp _ => by
  simp only [Option.some.injEq, Prod.mk.injEq] at e
  obtain ⟨rfl, rfl, rfl⟩ := e
  simp only at he
  subst he
  exact h w0 ds hp)
 exact key2.sound B m lh w args vs K hrel hargs ⟨ap ts ds, _, _, _, ep ts ds args hty h1, rfl, ⟨rfl, h3⟩, h4, h5⟩
abbrev Rho := List (Option (Option Nat))
def bW (ρ : Rho) (k : Nat) : Option (Option Nat) := match nth ρ k with
 | some x => x
 | none => none
mutual
def bh (ρ : Rho) : V -> V -> Prop
 | v, .any => True ∨ v = .any
 | .int k a, .int k' b => k = k' /\ a = b
 | .bool a, .bool b => a = b
 | .kb a, .bool b => a = b
 | .kb a, .kb b => a = b
 | .str a, .str b => a = b
 | .agg xs, .agg ys => c8 ρ xs ys
 | .tup xs, .tup ys => c8 ρ xs ys
 | .fn f xs ys, .fn g us vs => f = g /\ c8 ρ xs us /\ c8 ρ ys vs
 | .sl n f, .sl m g => n = m /\ f = g
 | .pd cs, .pd ds => cs = ds
 | .pl k o, .pl k1 o1 => bW ρ k1 = some (some k) /\ o = o1
 | .pe k i j, .pe k1 i1 j1 => bW ρ k1 = some (some k) /\ i = i1 /\ j = j1
 | .ss k o n c, .ss k1 o1 n1 c1 => bW ρ k1 = some (some k) /\ o = o1 /\ n = n1 /\ c = c1
 | .gs k n, .gs k1 n1 => bW ρ k1 = some (some k) /\ n = n1
 | .ns, .gs k1 n1 => bW ρ k1 = some none /\ n1 = 0
 | .ns, .ns => True
 | .np, .np => True
 | .yl l, .yl l1 => l = l1
 | .go k o n, .go k1 o1 n1 => bW ρ k1 = some (some k) /\ o = o1 /\ n = n1
 | _, _ => False
def c8 (ρ : Rho) : List V -> List V -> Prop
 | [], [] => True
 | x :: xs, y :: ys => bh ρ x y /\ c8 ρ xs ys
 | _, _ => False
end
def pW (ρ : Rho) (e : Env) : Env -> Prop
 | [] => True
 | (s, v) :: l => bh ρ (em e s) v /\ pW ρ e l
def wE (ρ : Rho) (h : List O) (k : Nat) : O -> Prop
 | .cells cs ty => ∃ j ds, bW ρ k = some (some j) /\ nth h j = some (.cells ds ty) /\ c8 ρ ds cs
 | .gl e n f ty => (bW ρ k = some none /\ n = 0) ∨ ∃ j m g, bW ρ k = some (some j) /\ nth h j = some (.gl e m g ty) /\ n <= m /\ ∀ i, i < n -> okE e (f i) = true /\ c8 ρ (g i) (f i)
 | .dead => False
 | .hid => True
def oG (ρ : Rho) (h : List O) : Nat -> List O -> Prop
 | _, [] => True
 | k, o :: l => wE ρ h k o /\ oG ρ h (k + 1) l
def lX (x : Option (Option Nat)) : Rho -> Bool
 | [] => true
 | y :: l => (match x, y with
   | some (some a), some (some b) => !Nat.beq a b
   | _, _ => true) && lX x l
def vV : Rho -> Bool
 | [] => true
 | x :: l => lX x l && vV l
def Ci (ρ : Rho) : Nat -> Bool
 | 0 => true
 | k + 1 => (match bW ρ k with
   | some (some j) => Nat.beq j k
   | _ => false) && Ci ρ k
def iS (ρ : Rho) (ν : Nu) : Nu := ⟨fun k => match bW ρ k with
 | some (some j) => ν j
 | some none => some none
 | none => none, ν.z⟩
section
variable {w0 : World} {ν : Nu} {ρ : Rho} {lh : List ae}
mutual
theorem xT : ∀ (v v1 : V) (a : ab), bh ρ v v1 -> vr w0 ν.z ν v a -> vr w0 ν.z (iS ρ ν) v1 a
 | .int k n, v1, a, h, hv => by
   cases v1 <;> simp only [bh] at h
   case int => obtain ⟨rfl, rfl⟩ := h; simp only [vr] at hv ⊢; exact hv
   case any => simp only [vr]
 | .bool b, v1, a, h, hv => by
   cases v1 <;> simp only [bh] at h
   case bool => subst h; simp only [vr] at hv ⊢; exact hv
   case any => simp only [vr]
 | .kb b, v1, a, h, hv => by
   cases v1 <;> simp only [bh] at h
   case bool => subst h; simp only [vr] at hv ⊢; exact hv
   case kb => subst h; simp only [vr] at hv ⊢; exact hv
   case any => simp only [vr]
 | .str b, v1, a, h, hv => by
   cases v1 <;> simp only [bh] at h
   case str => subst h; simp only [vr] at hv ⊢; exact hv
   case any => simp only [vr]
 | .agg xs, v1, a, h, hv => by
   cases v1 <;> simp only [bh] at h
   case agg => simp only [vr] at hv ⊢; obtain ⟨az, h1, h2⟩ := hv; exact ⟨az, h1, fp xs _ az h h2⟩
   case any => simp only [vr]
 | .tup xs, v1, a, h, hv => by
   cases v1 <;> simp only [bh] at h
   case tup => simp only [vr] at hv ⊢; obtain ⟨az, h1, h2⟩ := hv; exact ⟨az, h1, fp xs _ az h h2⟩
   case any => simp only [vr]
 | .fn f xs ys, v1, a, h, hv => by
   cases v1 <;> simp only [bh] at h
   case fn => obtain ⟨rfl, g1, g2⟩ := h; simp only [vr] at hv ⊢; obtain ⟨az, bs, h1, h2, h3⟩ := hv; exact ⟨az, bs, h1, fp xs _ az g1 h2, fp ys _ bs g2 h3⟩
   case any => simp only [vr]
 | .sl n f, v1, a, h, hv => by
   cases v1 <;> simp only [bh] at h
   case sl => obtain ⟨rfl, rfl⟩ := h; simp only [vr] at hv ⊢; exact hv
   case any => simp only [vr]
 | .pd cs, v1, a, h, hv => by
   cases v1 <;> simp only [bh] at h
   case pd => subst h; simp only [vr] at hv ⊢; exact hv
   case any => simp only [vr]
 | .pl k o, v1, a, h, hv => by
   cases v1 <;> simp only [bh] at h
   case pl => obtain ⟨h1, rfl⟩ := h; simp only [vr] at hv ⊢; simp only [iS, h1]; exact hv
   case any => simp only [vr]
 | .pe k i j, v1, a, h, hv => by
   cases v1 <;> simp only [bh] at h
   case pe => obtain ⟨h1, rfl, rfl⟩ := h; simp only [vr] at hv ⊢; simp only [iS, h1]; exact hv
   case any => simp only [vr]
 | .ss k o n c, v1, a, h, hv => by
   cases v1 <;> simp only [bh] at h
   case ss => obtain ⟨h1, rfl, rfl, rfl⟩ := h; simp only [vr] at hv ⊢; simp only [iS, h1]; exact hv
   case any => simp only [vr]
 | .gs k n, v1, a, h, hv => by
   cases v1 <;> simp only [bh] at h
   case gs => obtain ⟨h1, rfl⟩ := h; simp only [vr] at hv ⊢; simp only [iS, h1]; exact hv
   case any => simp only [vr]
 | .ns, v1, a, h, hv => by
   cases v1 <;> simp only [bh] at h
   case gs => obtain ⟨h1, rfl⟩ := h; simp only [vr] at hv ⊢; simp only [iS, h1]; exact .inl ⟨trivial, trivial, hv⟩
   case ns => simp only [vr] at hv ⊢; exact hv
   case any => simp only [vr]
 | .np, v1, a, h, hv => by
   cases v1 <;> simp only [bh] at h
   case np => simp only [vr] at hv ⊢; exact hv
   case any => simp only [vr]
 | .any, v1, a, h, hv => by
   cases v1 <;> simp only [bh] at h
   case any => simp only [vr]
 | .gd b v, v1, a, h, hv => by
   cases v1 <;> simp only [bh] at h
   case any => simp only [vr]
 | .yl l, v1, a, h, hv => by
   cases v1 <;> simp only [bh] at h
   case yl => subst h; simp only [vr] at hv ⊢; exact hv
   case any => simp only [vr]
 | .go k o n, v1, a, h, hv => by
   cases v1 <;> simp only [bh] at h
   case go => obtain ⟨h1, rfl, rfl⟩ := h; simp only [vr] at hv ⊢; simp only [iS, h1]; exact hv
   case any => simp only [vr]
 | .sq n m f, v1, a, h, hv => by
   cases v1 <;> simp only [bh] at h
   case any => simp only [vr]
theorem fp : ∀ (vs us : List V) (az : List ab), c8 ρ vs us -> vrs w0 ν.z ν vs az -> vrs w0 ν.z (iS ρ ν) us az
 | [], [], az, _, hv => by simp only [vrs] at hv ⊢; exact hv
 | v :: vs, u :: us, az, h, hv => by
   simp only [c8] at h
   simp only [vrs] at hv ⊢
   obtain ⟨x, xs, h1, h2, h3⟩ := hv
   exact ⟨x, xs, h1, xT v u x h.1 h2, fp vs us xs h.2 h3⟩
 | [], _ :: _, _, h, _ => by simp only [c8] at h
 | _ :: _, [], _, h, _ => by simp only [c8] at h
end
theorem qV : ∀ {e e1 : Env} (s : Nat), pW ρ e e1 -> em e1 s = .any ∨ bh ρ (em e s) (em e1 s)
 | e, [], s, _ => .inl rfl
 | e, (d, v) :: l, s, h => by
   simp only [pW] at h
   rw [fW]
   by_cases hd : s = d
   ·subst hd; rw [if_pos rfl]; exact .inr h.1
   ·rw [if_neg hd]; exact qV s h.2
theorem jt {h : List O} : ∀ {l : List O} {k i : Nat} {o : O}, oG ρ h k l -> l[i]? = some o -> wE ρ h (k + i) o
 | [], _, _, _, _, hi => by simp at hi
 | x :: l, k, 0, o, hh, hi => by simp at hi; subst hi; exact hh.1
 | x :: l, k, i + 1, o, hh, hi => by
   have := jt (i := i) hh.2 (by simpa using hi)
   rwa [show k + 1 + i = k + (i + 1) by omega] at this
theorem lE : ∀ {l : Rho} {a i : Nat}, lX (some (some a)) l = true -> nth l i = some (some (some a)) -> False
 | [], _, _, _, h => by cases h
 | y :: l, a, 0, h, hi => by
   simp only [nth, Option.some.injEq] at hi; subst hi
   simp [lX] at h
 | y :: l, a, i + 1, h, hi => by
   simp only [lX, Bool.and_eq_true] at h
   exact lE h.2 hi
theorem xw : ∀ {l : Rho} {a i j : Nat}, vV l = true -> nth l i = some (some (some a)) -> nth l j = some (some (some a)) -> i = j
 | [], _, _, _, _, h, _ => by cases h
 | x :: l, a, 0, 0, _, _, _ => rfl
 | x :: l, a, i + 1, 0, h, hi, hj => by
   simp only [vV, Bool.and_eq_true] at h
   simp only [nth, Option.some.injEq] at hj; subst hj
   exact (lE h.1 hi).elim
 | x :: l, a, 0, j + 1, h, hi, hj => by
   simp only [vV, Bool.and_eq_true] at h
   simp only [nth, Option.some.injEq] at hi; subst hi
   exact (lE h.1 hj).elim
 | x :: l, a, i + 1, j + 1, h, hi, hj => by
   simp only [vV, Bool.and_eq_true] at h
   rw [xw h.2 hi hj]
theorem xH : ∀ {n k : Nat}, Ci ρ n = true -> k < n -> bW ρ k = some (some k)
 | n + 1, k, h, hk => by
   simp only [Ci, Bool.and_eq_true] at h
   rcases Nat.lt_succ_iff_lt_or_eq.1 hk with hk | rfl
   ·exact xH h.2 hk
   ·have h1 := h.1
    split at h1
    ·rename_i j hj; rw [hj, Nat.eq_of_beq_eq_true h1]
    ·cases h1
theorem oY {k j : Nat} (h : bW ρ k = some (some j)) : nth ρ k = some (some (some j)) := by
 unfold bW at h
 split at h
 ·rename_i x hx; rw [hx, h]
 ·cases h
theorem eG.ren (w0 : World) {nb : Nat} {e e1 : Env} {h h1 : List O} (ρ : Rho) (hl : Nat.beq (aX ρ) (aX h1) = true) (hi : vV ρ = true) (hid : Ci ρ nb = true) (he : pW ρ e e1) (hh : oG ρ h 0 h1) : eG w0 nb e h e1 h1 := by
 intro N ν nV nS sl lh hs hr
 have hlen : ρ.length = h1.length := by have := Nat.eq_of_beq_eq_true hl; rwa [aU, aU] at this
 have hlive : ∀ k, aB h1 k -> ∀ x, iS ρ ν k = some (some x) -> ∃ j, bW ρ k = some (some j) /\ aB h j /\ ν j = some (some x) := fun k hk x hx => by
  have hx' := hx
  simp only [iS] at hx
  split at hx
  ·rename_i j hj
   refine ⟨j, hj, ?_, hx⟩
   rcases c4 hk with ⟨cs, ty, hc⟩ | ⟨e', n, f, ty, hc⟩
   ·obtain ⟨j', ds, g1, g2, g3⟩ := jt (k := 0) (i := k) hh hc
    rw [Nat.zero_add, hj] at g1; cases g1
    exact bS (by rwa [aF] at g2)
   ·rcases jt (k := 0) (i := k) hh hc with ⟨g1, _⟩ | ⟨j', m, g, g1, g2, _⟩
    ·rw [Nat.zero_add, hj] at g1; cases g1
    ·rw [Nat.zero_add, hj] at g1; cases g1
     exact dG (by rwa [aF] at g2)
  ·cases hx
  ·cases hx
 refine ⟨iS ρ ν, 0, 0, ⟨fun k x hk hx => by simp only [iS, xH hid hk]; exact hx, kn _⟩, ⟨hs.len, fun i => ?_⟩, ⟨fun k o hk => ?_, fun k k' x x' hk hk' hx hx' hxx => ?_, fun k hk => ?_, fun k x hx => ?_, hr.zl, fun k x hk hx => let ⟨j, _, g2, g3⟩ := hlive k hk x hx; hr.zn j x g2 g3⟩⟩
 ·rcases qV i he with h0 | h0
  ·rw [h0]; simp only [vr]
  ·exact xT _ _ _ h0 (hs.at' i)
 ·have hb := jt (k := 0) (i := k) hh hk
  rw [Nat.zero_add] at hb
  cases o with
  | cells cs ty =>
    obtain ⟨j, ds, g1, g2, g3⟩ := hb
    rw [aF] at g2
    obtain ⟨b, c, e', az, k1, k2, k3⟩ := hr.blk j _ g2
    exact ⟨b, c, e', az, by simp only [iS, g1]; exact k1, k2, fp _ _ _ g3 k3⟩
  | gl e' n f ty =>
    rcases hb with ⟨g1, rfl⟩ | ⟨j, m, g, g1, g2, g3, g4⟩
    ·exact .inl ⟨by simp only [iS, g1], rfl⟩
    ·rw [aF] at g2
     rcases hr.blk j _ g2 with ⟨k1, k2⟩ | ⟨b, c, az, k1, k2, k3, k4, k5⟩
     ·exact .inl ⟨by simp only [iS, g1]; exact k1, by omega⟩
     ·exact .inr ⟨b, c, az, by simp only [iS, g1]; exact k1, k2, k3, ⟨by omega, by omega⟩, fun i hi => ⟨(g4 i hi).1, fp _ _ _ (g4 i hi).2 (k5 i (by omega)).2⟩⟩
  | dead => exact hb.elim
  | hid => trivial
 ·obtain ⟨j, g1, g2, g3⟩ := hlive k hk x hx
  obtain ⟨j', g1', g2', g3'⟩ := hlive k' hk' x' hx'
  have := hr.inj j j' x x' g2 g2' g3 g3' hxx
  subst this
  exact xw hi (oY g1) (oY g1')
 ·simp only [iS, bW, aF]
  rw [List.getElem?_eq_none (by omega)]
 ·simp only [iS] at hx
  split at hx
  ·exact hr.rng _ x hx
  ·cases hx
  ·cases hx
theorem eG.env (w0 : World) {nb : Nat} {e e1 : Env} {h : List O} (he : ∀ s, em e1 s = .any ∨ em e s = em e1 s) : eG w0 nb e h e1 h := by
 intro N ν nV nS sl lh hs hr
 refine ⟨ν, nV, nS, NuN.refl _ _, ⟨hs.len, fun i => ?_⟩, hr⟩
 rcases he i with h0 | h0
 ·rw [h0]; simp only [vr]
 ·rw [← h0]; exact hs.at' i
theorem eG.refl (w0 : World) (nb : Nat) (e : Env) (h : List O) : eG w0 nb e h e h := fun N ν nV nS sl lh hs hr => ⟨ν, nV, nS, NuN.refl _ _, hs, hr⟩
theorem eG.trans {w0 : World} {nb : Nat} {e e1 e2 : Env} {h h1 h2 : List O} (a : eG w0 nb e h e1 h1) (b : eG w0 nb e1 h1 e2 h2) : eG w0 nb e h e2 h2 := fun N ν nV nS sl lh hs hr => by
 obtain ⟨ν1, nV1, nS1, g0, g1, g2⟩ := a N ν nV nS sl lh hs hr
 obtain ⟨ν2, nV2, nS2, k0, k1, k2⟩ := b N ν1 nV1 nS1 sl lh g1 g2
 exact ⟨ν2, nV2, nS2, g0.trans k0, k1, k2⟩
end
def qA {α : Type} : T α -> List Bool -> T α
 | t, [] => t
 | .br _ x y, p :: ps => cond p (qA x ps) (qA y ps)
 | .und x y, p :: ps => cond p (qA x ps) (qA y ps)
 | .asm _ x, ps => qA x ps
 | .ob _ x, ps => qA x ps
 | .obi _ _ x, ps => qA x ps
 | .obp _ x, ps => qA x ps
 | .obq _ _ x, ps => qA x ps
 | t, _ => t
def rO {α : Type} : T α -> T α
 | .ob _ x => rO x
 | .obi _ _ x => rO x
 | .obp _ x => rO x
 | .obq _ _ x => rO x
 | .asm _ x => rO x
 | t => t
def eT : T (Ex × Env × List O) -> Env
 | .ret r => r.2.1
 | _ => []
def hT : T (Ex × Env × List O) -> List O
 | .ret r => r.2.2
 | _ => []
def rB : qR -> RD
 | .i _ r => r
 | _ => ⟨[], .skip, .skip, [], 0⟩
def afT {α : Type} : T α -> Nat -> T α
 | .all f => f
 | _ => fun _ => .fail 0
def atT {α : Type} (t : T α) (p : List Bool) : T α := rO (qA t p)
def oy (e : Env) : Env -> Prop
 | [] => True
 | (s, v) :: l => em e s = v /\ oy e l
theorem po : ∀ {e e1 : Env} (s : Nat), oy e e1 -> em e1 s = .any ∨ em e s = em e1 s
 | e, [], s, _ => .inl rfl
 | e, (d, v) :: l, s, h => by
   simp only [oy] at h
   rw [fW]
   by_cases hd : s = d
   ·subst hd; rw [if_pos rfl]; exact .inr h.1
   ·rw [if_neg hd]; exact po s h.2
theorem eG.slots (w0 : World) {nb : Nat} {e e1 : Env} {h h1 : List O} (hh : h = h1) (he : oy e e1) : eG w0 nb e h e1 h1 := by
 subst hh; exact eG.env w0 fun s => po s he
theorem JN {ct : bj} {w0 : World} (hd : ll ct = true) {lv nb : Nat} {un : Unr} {body : dp} {e : Env} {h : List O} {Post : Ex -> Env -> List O -> Option Ex -> Prop} (bi : Nat)
 (I : Type) (inv : I -> Env × List O) (μ : I -> Nat) (h0 : ∃ i, eG w0 nb e h (inv i).1 (inv i).2)
 (round : ∀ i, sat (bU w0 (SV ct)) (evC (lU ct lv) (mQ ct) un (lv, nb) bi body (inv i).1 (inv i).2 fun x e h => .ret (x, e, h)) fun r => match r.1 with
   | .normal => ∃ i', eG w0 nb r.2.1 r.2.2 (inv i').1 (inv i').2 /\ μ i' < μ i
   | x => Post x r.2.1 r.2.2 none) : bU w0 (SV ct) (lv, nb) (.s body) e h none Post :=
 D4 (fr := (lv, nb)) (ox w0 ct hd lv) (oH w0 ct _ lv) I inv μ h0 round
theorem F9 {ct : bj} {w0 : World} (hd : ll ct = true) {lv nb : Nat} {un : Unr} {body : eH} {rd : RD} {e : Env} {h : List O} {g : Option Ex} {Post : Ex -> Env -> List O -> Option Ex -> Prop} (bi bi' : Nat)
 (I : Type) (inv : I -> Env × List O × Option Ex) (μ : I -> Nat) (h0 : ∃ i, g = (inv i).2.2 /\ eG w0 nb e h (inv i).1 (inv i).2.1)
 (round : ∀ i, sat (bU w0 (SV ct)) (jq (lU ct lv) (mQ ct) un (lv, nb) rd (rdY (lU ct lv) (mQ ct) un lv bi' rd) bi body (inv i).1 (inv i).2.1 (inv i).2.2 fun x e h g => .ret (x, e, h, g)) fun r => match r.1 with
   | .normal => ∃ i', r.2.2.2 = (inv i').2.2 /\ eG w0 nb r.2.1 r.2.2.1 (inv i').1 (inv i').2.1 /\ μ i' < μ i
   | x => Post x r.2.1 r.2.2.1 r.2.2.2) : bU w0 (SV ct) (lv, nb) (.i body rd) e h g Post :=
 BJ (fr := (lv, nb)) (ox w0 ct hd lv) (oH w0 ct _ lv) I inv μ h0 round
def ej (P : Program) (rec : TypeId -> Option (List Ty)) : List Field -> Nat -> Option (List Ty × Nat)
 | [], off => some ([], off)
 | f :: l, off => match rec f.type, ej P rec l (off + P.cellsOf f.type) with
   | some ts, some (us, n) => if f.offset = off /\ ts.length = P.cellsOf f.type then some (ts ++ us, n) else none
   | _, _ => none
def e9 (P : Program) : Nat -> TypeId -> Option (List Ty)
 | 0, _ => none
 | fu + 1, t => match P.underlying t with
   | some .bool => some [.bool]
   | some (.int k) => some [.int k]
   | some .string => some [.str]
   | some (.slice e) => match e9 P fu e with
     | some ts => if ts.length = P.cellsOf e then some [.sl ts] else none
     | none => none
   | some (.struct fs) => match ej P (e9 P fu) fs.toList 0 with
     | some (ts, n) => if n = P.cellsOf t then some ts else none
     | none => none
   | some (.array n e) => match e9 P fu e with
     | some ts => if ts.length = P.cellsOf e /\ P.cellsOf t = n * P.cellsOf e then some (List.replicate n ts).flatten else none
     | none => none
   | _ => none
def rgI : IntKind -> Int -> Prop
 | .u8, n => 0 <= n /\ n <= 255
 | _, _ => True
theorem BT {k : IntKind} {n : Int} (h : (Lit.int k n).wf = true) : rgI k n := by
 have h1 : (decide (k.min <= n) && decide (n <= k.max)) = true := h
 rw [Bool.and_eq_true, decide_eq_true_eq, decide_eq_true_eq] at h1
 cases k <;> first | trivial | exact ⟨h1.1, h1.2⟩
mutual
def qI : Ty -> V -> Prop
 | .int k, v => rgI k (iv v)
 | .str, v => (sv v).size <= 9223372036854775807
 | .agg ts, v => d9 ts (cD v)
 | .sl ts, v => ∀ i, i < c5 v -> d9 ts (atV v i)
 | _, _ => True
def d9 : List Ty -> List V -> Prop
 | [], _ => True
 | t :: ts, vs => qI t (hdV vs) /\ d9 ts (tlV vs)
end
mutual
theorem yU : ∀ (t : Ty) (v : V), qI t v -> qI t (view t v)
 | .int k, v, h => by simp only [view, qI, iv] at h ⊢; exact h
 | .bool, _, _ => trivial
 | .str, v, h => by simp only [view, qI, sv] at h ⊢; exact h
 | .agg ts, v, h => by simp only [view, qI, cD] at h ⊢; exact ft ts _ h
 | .sl ts, v, h => by simp only [view, qI, c5, atV] at h ⊢; exact fun i hi => ft ts _ (h i hi)
 | .fn .., _, _ => trivial
 | .pd _, _, _ => trivial
theorem ft : ∀ (ts : List Ty) (vs : List V), d9 ts vs -> d9 ts (ap ts vs)
 | [], _, _ => trivial
 | t :: ts, vs, h => by simp only [d9, ap, hdV, tlV] at h ⊢; exact ⟨yU t _ h.1, ft ts _ h.2⟩
end
section
variable {w : World}
theorem jj : ∀ {ts us : List Ty} {vs xs : List V}, aI ts vs -> d9 ts vs -> d9 us xs -> d9 (ts ++ us) (vs ++ xs)
 | [], _, _, _, h, _, k => by simp only [aI] at h; subst h; simpa using k
 | t :: ts, us, vs, xs, h, hz, k => by
   simp only [aI] at h
   rw [h.1]
   simp only [d9] at hz
   simp only [List.cons_append, d9, hdV, tlV]
   exact ⟨hz.1, jj h.2.2 hz.2 k⟩
theorem ir : ∀ {ts us : List Ty} {vs xs : List V}, aI ts vs -> aI us xs -> aI (ts ++ us) (vs ++ xs)
 | [], _, _, _, h, k => by simp only [aI] at h; subst h; simpa using k
 | t :: ts, us, vs, xs, h, k => by
   simp only [aI] at h
   rw [h.1]
   simp only [List.cons_append, aI, hdV, tlV]
   exact ⟨trivial, h.2.1, ir h.2.2 k⟩
theorem fX {w : World} {a : Addr} : ∀ (n i : Nat) (cs : List Value), (List.range' i n).mapM (fun j => w.cell? (a.add j)) = some cs -> dL w a i n = some (cs.map aN) := by
 intro n
 induction n with
 | zero => intro i cs h; simp at h; subst h; rfl
 | succ n ih =>
   intro i cs h
   simp only [List.range'_succ, List.mapM_cons] at h
   cases hc : w.cell? (a.add i) with
   | none => simp [hc] at h
   | some v =>
     cases hr : (List.range' (i + 1) n).mapM (fun j => w.cell? (a.add j)) with
     | none => simp [hc, hr] at h
     | some l =>
       simp [hc, hr] at h
       subst h
       simp [dL, hc, ih (i + 1) l hr]
end
theorem me : ∀ {ts : List Ty} {vs : List V}, aI ts vs -> ts.all a6 = true -> vs.all V.fc = true
 | [], vs, h, _ => by simp only [aI] at h; subst h; rfl
 | t :: ts, vs, h, ho => by
   simp only [aI] at h
   simp only [List.all_cons, Bool.and_eq_true] at ho
   rw [h.1]
   simp only [List.all_cons, Bool.and_eq_true]
   refine ⟨?_, me h.2.2 ho.2⟩
   have h1 := h.2.1
   cases t <;> simp only [bw] at h1
   case int => rw [h1]; rfl
   case bool => rcases h1 with h1 | h1 <;> (rw [h1]; rfl)
   case str => rw [h1]; rfl
   case sl => rcases h1.1 with h0 | h0 <;> (rw [h0]; rfl)
   all_goals simp [a6] at ho
section
variable {P : Program}
theorem jJ {rec : TypeId -> Option (List Ty)} (hr : ∀ t ts, rec t = some ts -> ts.all a6 = true) : ∀ {fs : List Field} {off n : Nat} {ts : List Ty}, ej P rec fs off = some (ts, n) -> ts.all a6 = true
 | [], off, n, ts, h => by simp [ej] at h; rw [h.1]; rfl
 | f :: l, off, n, ts, h => by
   simp only [ej] at h
   split at h
   ·rename_i us vs m h1 h2
    split at h
    ·cases h; rw [List.all_append, hr _ _ h1, jJ hr h2]; rfl
    ·cases h
   ·cases h
theorem fd : ∀ {fu : Nat} {t : TypeId} {ts : List Ty}, e9 P fu t = some ts -> ts.all a6 = true
 | 0, _, _, h => by cases h
 | fu + 1, t, ts, h => by
   simp only [e9] at h
   split at h
   ·cases h; rfl
   ·cases h; rfl
   ·cases h; rfl
   ·split at h
    ·split at h
     ·cases h; rfl
     ·cases h
    ·cases h
   ·split at h
    ·rename_i us n hf
     split at h
     ·cases h; exact jJ (fun t ts => fd (fu := fu)) hf
     ·cases h
    ·cases h
   ·split at h
    ·rename_i us hu
     split at h
     ·cases h
      rw [List.all_eq_true]; intro x hx
      obtain ⟨l, hl, hx⟩ := List.mem_flatten.1 hx
      rw [(List.mem_replicate.1 hl).2] at hx
      exact List.all_eq_true.1 (fd hu) x hx
     ·cases h
    ·cases h
   ·cases h
variable {H : Type} {enc : TypeId × Value -> H} {w : World} {base : Nat} {spare : Nat -> Bool} {held : Bool}
end
end Go.Dx
namespace Go.Dx
open Go.Sx Go.RowKit
def kY : Value -> ab
 | .agg cs => .agg (cs.toList.map aN)
 | v => aN v
theorem wJ (v : Value) : vrel (fun _ => none) (kY v) v := by
 unfold kY; split
 ·rename_i cs; simp only [vrel]; exact ⟨cs, rfl, aZ _ _⟩
 ·exact bb _ _
theorem oa : ∀ vs : List Value, ah (fun _ => none) (vs.map kY) vs
 | [] => by simp [ah]
 | v :: vs => by simp only [List.map_cons, ah]; exact ⟨_, _, rfl, wJ v, oa vs⟩
def A5 (P : Program) (fu : Nat) (t : TypeId) : Option Ty := match P.underlying t with
 | some (.struct _) => (e9 P fu t).map .agg
 | some (.array _ _) => (e9 P fu t).map .agg
 | some (.int k) => some (.int k)
 | some .bool => some .bool
 | _ => none
def argTys (P : Program) (fu : Nat) : List TypeId -> Option (List Ty)
 | [] => some []
 | t :: ts => match A5 P fu t, argTys P fu ts with
   | some x, some xs => some (x :: xs)
   | _, _ => none
section
variable {P : Program} {H : Type} {enc : TypeId × Value -> H} {W : World} {base : Nat}
mutual
theorem rH : ∀ (t : Ty) (v : V), view t (view t v) = view t v
 | .int k, v => by simp only [view, iv]
 | .bool, v => by simp only [view, bv]
 | .str, v => by simp only [view, sv]
 | .agg ts, v => by simp only [view, cD]; rw [bn ts]
 | .sl ts, v => by simp only [view, c5, atV]; congr 1; funext i; exact bn ts _
 | .fn f xs ys, v => by simp only [view, fxs, fys]; rw [bn xs, bn ys]
 | .pd ts, v => by simp only [view, pdV]; rw [bn ts]
theorem bn : ∀ (ts : List Ty) (vs : List V), ap ts (ap ts vs) = ap ts vs
 | [], vs => by simp only [ap]
 | t :: ts, vs => by simp only [ap, hdV, tlV]; rw [rH t, bn ts]
end
mutual
theorem Bs : ∀ (t : Ty) (v : V) (k : List V), fxL t (view t v) k = fxR t (view t v) k
 | .int k, v, _ => by simp only [view, fxL, fxR, iv]
 | .bool, v, _ => by simp only [view, fxL, fxR, bv]
 | .str, v, _ => by simp only [view, fxL, fxR, sv]
 | .agg ts, v, k => by simp only [view, fxL, fxR, cD]; rw [dH ts]
 | .sl ts, v, k => by
   have := rH (.sl ts) v
   simp only [view] at this ⊢
   simp only [fxL, fxR, view, this]
 | .fn f xs ys, v, k => by simp only [view, fxL, fxR, fxs, fys]; rw [dH ys, dH xs]
 | .pd ts, v, k => by simp only [view, fxL, fxR, pdV]; rw [dH ts]
theorem dH : ∀ (ts : List Ty) (vs : List V) (k : List V), gk ts (ap ts vs) k = gi ts (ap ts vs) k
 | [], vs, k => by simp only [ap, gk, gi]
 | t :: ts, vs, k => by simp only [ap, gk, gi, hdV, tlV]; rw [dH ts, Bs t]
end
end
end Go.Dx
namespace Go.Dx
open Go.Sx
inductive ca (J : Type) where
 | res (v : V)
 | head (j : J) (e : Env) (h : List O) (g : Option Ex)
structure Lp (J : Type) where
 fr : Nat × Nat
 body : qR
 k : Ex -> Env -> List O -> Option Ex -> T (ca J)
section
variable {α β : Type}
def dE : T α -> (α -> T β) -> T β
 | .ret a, f => f a
 | .br b x y, f => .br b (dE x f) (dE y f)
 | .ob b x, f => .ob b (dE x f)
 | .obi c d x, f => .obi c d (dE x f)
 | .obp p x, f => .obp p (dE x f)
 | .obq a b x, f => .obq a b (dE x f)
 | .fail n, _ => .fail n
 | .loop fr b e h g k, f => .loop fr b e h g fun x e h g => dE (k x e h g) f
 | .all t, f => .all fun l => dE (t l) f
 | .und x y, f => .und (dE x f) (dE y f)
 | .asm p x, f => .asm p (dE x f)
theorem tw {LP : dg} {Q : β -> Prop} (f : α -> T β) : ∀ t : T α, sat LP (dE t f) Q = sat LP t fun a => sat LP (f a) Q := by
 intro t
 induction t with
 | ret a => rfl
 | br b x y hx hy => simp only [dE, sat, hx, hy]
 | ob b x hx => simp only [dE, sat, hx]
 | obi c d x hx => simp only [dE, sat, hx]
 | obp p x hx => simp only [dE, sat, hx]
 | obq a b x hx => simp only [dE, sat, hx]
 | fail n => rfl
 | loop fr b e h g k hk => simp only [dE, sat, hk]
 | all t ht => simp only [dE, sat, ht]
 | und x y hx hy => simp only [dE, sat, hx, hy]
 | asm p x hx => simp only [dE, sat, hx]
theorem gq {LP : dg} (hLP : ∀ fr b e h g (P P' : Ex -> Env -> List O -> Option Ex -> Prop), (∀ x e h g, P x e h g -> P' x e h g) -> LP fr b e h g P -> LP fr b e h g P') {Q Q' : α -> Prop} (hQ : ∀ a, Q a -> Q' a) : ∀ t : T α, sat LP t Q -> sat LP t Q' := by
 intro t
 induction t with
 | ret a => exact hQ a
 | br b x y hx hy => exact fun h => ⟨fun e => hx (h.1 e), fun e => hy (h.2 e)⟩
 | ob b x hx => exact fun h => ⟨h.1, hx h.2⟩
 | obi c d x hx => exact fun h => ⟨h.1, hx h.2⟩
 | obp p x hx => exact fun h => ⟨h.1, hx h.2⟩
 | obq a b x hx => exact fun h => ⟨h.1, hx h.2⟩
 | fail n => exact id
 | loop fr b e h g k hk => exact fun hs => hLP _ _ _ _ _ _ _ (fun x e h g => hk x e h g) hs
 | all t ht => exact fun h l => ht l (h l)
 | und x y hx hy => exact fun h => ⟨hx h.1, hy h.2⟩
 | asm p x hx => exact fun h hp => hx (h hp)
theorem ed (w0 : World) (S : uY) : ∀ fr b e h g (P P' : Ex -> Env -> List O -> Option Ex -> Prop), (∀ x e h g, P x e h g -> P' x e h g) -> bU w0 S fr b e h g P -> bU w0 S fr b e h g P' := by
 intro fr b e h g P P' hP
 cases b with
 | s body => exact fun hl N nbS ν nV nS sl lh QA h1 h2 h3 h4 => hl N nbS ν nV nS sl lh QA h1 h2 h3 fun ex e' h' ν' sl' lh' nV' nS' g0 g1 g2 g3 => h4 ex e' h' ν' sl' lh' nV' nS' g0 g1 g2 (hP _ _ _ _ g3)
 | i body rd => exact fun hl N N0 ν nV nS sl sl0 lh QA h1 h2 h3 h4 h5 h6 h7 h8 => hl N N0 ν nV nS sl sl0 lh QA h1 h2 h3 h4 h5 h6 h7 fun ex e' h' g' ν' sl' lh' nV' nS' g0 g1 g2 g3 => h8 ex e' h' g' ν' sl' lh' nV' nS' g0 g1 g2 (hP _ _ _ _ g3)
end
mutual
def gR (ρ : Rho) : V -> V -> V
 | .any, _ => .any
 | .int _ _, .int k a => .int k a
 | .bool _, .bool a => .bool a
 | .bool _, .kb a => .bool a
 | .kb _, .kb a => .kb a
 | .str _, .str a => .str a
 | .agg ys, .agg xs => .agg (ig ρ ys xs)
 | .tup ys, .tup xs => .tup (ig ρ ys xs)
 | .fn _ us vs, .fn f xs ys => .fn f (ig ρ us xs) (ig ρ vs ys)
 | .sl _ _, .sl n f => .sl n f
 | .pd _, .pd cs => .pd cs
 | .pl k1 _, .pl k o => match bW ρ k1 with
   | some (some k') => cond (Nat.beq k' k) (.pl k1 o) .any
   | _ => .any
 | .pe k1 _ _, .pe k i j => match bW ρ k1 with
   | some (some k') => cond (Nat.beq k' k) (.pe k1 i j) .any
   | _ => .any
 | .ss k1 _ _ _, .ss k o n c => match bW ρ k1 with
   | some (some k') => cond (Nat.beq k' k) (.ss k1 o n c) .any
   | _ => .any
 | .gs k1 _, .gs k n => match bW ρ k1 with
   | some (some k') => cond (Nat.beq k' k) (.gs k1 n) .any
   | _ => .any
 | .gs k1 _, .ns => match bW ρ k1 with
   | some none => .gs k1 0
   | _ => .any
 | .ns, .ns => .ns
 | .np, .np => .np
 | .yl _, .yl l => .yl l
 | .go k1 _ _, .go k o n => match bW ρ k1 with
   | some (some k') => cond (Nat.beq k' k) (.go k1 o n) .any
   | _ => .any
 | _, _ => .any
def ig (ρ : Rho) : List V -> List V -> List V
 | [], [] => []
 | y :: ys, x :: xs => gR ρ y x :: ig ρ ys xs
 | [], _ :: _ => [.any]
 | _ :: _, [] => []
end
section
variable {ρ : Rho}
theorem AJ {k k' : Nat} {x y : V} (hb : cond (Nat.beq k' k) x V.any = y) (hy : y ≠ V.any) : k' = k /\ x = y := by
 cases hc : Nat.beq k' k with
 | false => rw [hc] at hb; exact (hy hb.symm).elim
 | true => rw [hc] at hb; exact ⟨Nat.eq_of_beq_eq_true hc, hb⟩
mutual
theorem xJ : ∀ (t v : V), gR ρ t v = t -> bh ρ v t
 | .any, v, _ => by cases v <;> simp [bh]
 | .int k n, v, h => by cases v <;> simp only [gR] at h <;> cases h <;> simp [bh]
 | .bool b, v, h => by cases v <;> simp only [gR] at h <;> cases h <;> simp [bh]
 | .kb b, v, h => by cases v <;> simp only [gR] at h <;> cases h <;> simp [bh]
 | .str b, v, h => by cases v <;> simp only [gR] at h <;> cases h <;> simp [bh]
 | .agg ys, v, h => by
   cases v <;> simp only [gR] at h <;> first | (cases h; done) | skip
   simp only [V.agg.injEq] at h; simp only [bh]; exact dR ys _ h
 | .tup ys, v, h => by
   cases v <;> simp only [gR] at h <;> first | (cases h; done) | skip
   simp only [V.tup.injEq] at h; simp only [bh]; exact dR ys _ h
 | .fn f us vs, v, h => by
   cases v <;> simp only [gR] at h <;> first | (cases h; done) | skip
   simp only [V.fn.injEq] at h; simp only [bh]; exact ⟨h.1, dR us _ h.2.1, dR vs _ h.2.2⟩
 | .sl n f, v, h => by cases v <;> simp only [gR] at h <;> cases h <;> simp [bh]
 | .pd cs, v, h => by cases v <;> simp only [gR] at h <;> cases h <;> simp [bh]
 | .pl k1 o1, v, h => by
   cases v <;> simp only [gR] at h <;> first | (cases h; done) | skip
   split at h
   ·rename_i k' hk
    obtain ⟨rfl, e⟩ := AJ h (by simp)
    simp only [V.pl.injEq, true_and] at e
    simp only [bh]; exact ⟨hk, e⟩
   ·cases h
 | .pe k1 i1 j1, v, h => by
   cases v <;> simp only [gR] at h <;> first | (cases h; done) | skip
   split at h
   ·rename_i k' hk
    obtain ⟨rfl, e⟩ := AJ h (by simp)
    simp only [V.pe.injEq, true_and] at e
    simp only [bh]; exact ⟨hk, e⟩
   ·cases h
 | .ss k1 i1 j1 c1, v, h => by
   cases v <;> simp only [gR] at h <;> first | (cases h; done) | skip
   split at h
   ·rename_i k' hk
    obtain ⟨rfl, e⟩ := AJ h (by simp)
    simp only [V.ss.injEq, true_and] at e
    simp only [bh]; exact ⟨hk, e⟩
   ·cases h
 | .gs k1 n1, v, h => by
   cases v <;> simp only [gR] at h <;> first | (cases h; done) | skip
   ·split at h
    ·rename_i k' hk
     obtain ⟨rfl, e⟩ := AJ h (by simp)
     simp only [V.gs.injEq, true_and] at e
     simp only [bh]; exact ⟨hk, e⟩
    ·cases h
   ·split at h
    ·rename_i hk
     simp only [V.gs.injEq, true_and] at h
     simp only [bh]; exact ⟨hk, h.symm⟩
    ·cases h
 | .ns, v, h => by cases v <;> simp only [gR] at h <;> cases h <;> simp [bh]
 | .np, v, h => by cases v <;> simp only [gR] at h <;> cases h <;> simp [bh]
 | .yl l, v, h => by cases v <;> simp only [gR] at h <;> cases h <;> simp [bh]
 | .gd b x, v, h => by cases v <;> simp only [gR] at h <;> cases h
 | .go k1 i1 j1, v, h => by
   cases v <;> simp only [gR] at h <;> first | (cases h; done) | skip
   split at h
   ·rename_i k' hk
    obtain ⟨rfl, e⟩ := AJ h (by simp)
    simp only [V.go.injEq, true_and] at e
    simp only [bh]; exact ⟨hk, e⟩
   ·cases h
 | .sq n m f, v, h => by cases v <;> simp only [gR] at h <;> cases h
theorem dR : ∀ (ts vs : List V), ig ρ ts vs = ts -> c8 ρ vs ts
 | [], [], _ => by simp [c8]
 | y :: ys, x :: xs, h => by
   simp only [ig, List.cons.injEq] at h
   simp only [c8]; exact ⟨xJ y x h.1, dR ys xs h.2⟩
 | [], _ :: _, h => by simp [ig] at h
 | _ :: _, [], h => by simp [ig] at h
end
mutual
theorem A3 : ∀ (v t : V), bh [] v t -> bh ρ v t
 | .int .., t, h => by cases t <;> simp only [bh] at h ⊢ <;> exact h
 | .bool _, t, h => by cases t <;> simp only [bh] at h ⊢ <;> exact h
 | .kb _, t, h => by cases t <;> simp only [bh] at h ⊢ <;> exact h
 | .str _, t, h => by cases t <;> simp only [bh] at h ⊢ <;> exact h
 | .agg xs, t, h => by cases t <;> simp only [bh] at h ⊢ <;> first | exact fS _ _ h | exact h
 | .tup xs, t, h => by cases t <;> simp only [bh] at h ⊢ <;> first | exact fS _ _ h | exact h
 | .fn f xs ys, t, h => by cases t <;> simp only [bh] at h ⊢ <;> first | exact ⟨h.1, fS _ _ h.2.1, fS _ _ h.2.2⟩ | exact h
 | .sl .., t, h => by cases t <;> simp only [bh] at h ⊢ <;> exact h
 | .pd .., t, h => by cases t <;> simp only [bh] at h ⊢ <;> exact h
 | .pl .., t, h => by cases t <;> simp only [bh] at h ⊢ <;> first | exact h | (simp [bW, nth] at h)
 | .pe .., t, h => by cases t <;> simp only [bh] at h ⊢ <;> first | exact h | (simp [bW, nth] at h)
 | .ss .., t, h => by cases t <;> simp only [bh] at h ⊢ <;> first | exact h | (simp [bW, nth] at h)
 | .gs .., t, h => by cases t <;> simp only [bh] at h ⊢ <;> first | exact h | (simp [bW, nth] at h)
 | .ns, t, h => by cases t <;> simp only [bh] at h ⊢ <;> first | exact h | (simp [bW, nth] at h)
 | .np, t, h => by cases t <;> simp only [bh] at h ⊢ <;> exact h
 | .any, t, h => by cases t <;> simp only [bh] at h ⊢ <;> exact h
 | .gd .., t, h => by cases t <;> simp only [bh] at h ⊢ <;> exact h
 | .yl _, t, h => by cases t <;> simp only [bh] at h ⊢ <;> exact h
 | .go .., t, h => by cases t <;> simp only [bh] at h ⊢ <;> first | exact h | (simp [bW, nth] at h)
 | .sq .., t, h => by cases t <;> simp only [bh] at h ⊢ <;> exact h
theorem fS : ∀ (vs ts : List V), c8 [] vs ts -> c8 ρ vs ts
 | [], [], _ => by simp [c8]
 | v :: vs, t :: ts, h => by simp only [c8] at h ⊢; exact ⟨A3 v t h.1, fS vs ts h.2⟩
 | [], _ :: _, h => by simp [c8] at h
 | _ :: _, [], h => by simp [c8] at h
end
end
def pp (ts : List Ty) (n : Nat) (f : FnV) : Prop := ∀ i, i < n -> okE (aX ts) (ap ts (f i)) = true /\ c8 [] (f i) (ap ts (f i))
structure VF where
 k : Nat
 ts : List Ty
 n : Nat
 f : Nat -> List V
 ok : pp ts n f
theorem BP {t : Ty} (h : a6 t = true) (v : V) : (view t v).one = true := by cases t <;> first | (simp [a6] at h; done) | (simp only [view]; rfl)
theorem rM : ∀ {ts : List Ty}, ts.all a6 = true -> ∀ vs, (ap ts vs).all V.one = true
 | [], _, _ => by simp [ap]
 | t :: ts, h, vs => by
   simp only [List.all_cons, Bool.and_eq_true] at h
   simp only [ap, List.all_cons, Bool.and_eq_true]; exact ⟨BP h.1 _, rM h.2 _⟩
theorem fV {ts : List Ty} (h : ts.all a6 = true) (vs : List V) : okE (aX ts) (ap ts vs) = true := wD (by rw [nd, aU]) (rM h vs)
theorem zW {t : Ty} (h : a6 t = true) (v : V) : bh [] (view t v) (view t v) := by cases t <;> first | (simp [a6] at h; done) | (simp only [view, bh]; try simp)
theorem nN : ∀ {ts : List Ty}, ts.all a6 = true -> ∀ vs, c8 [] (ap ts vs) (ap ts vs)
 | [], _, _ => by simp [ap, c8]
 | t :: ts, h, vs => by
   simp only [List.all_cons, Bool.and_eq_true] at h
   simp only [ap, c8]; exact ⟨zW h.1 _, nN h.2 _⟩
theorem al {ts : List Ty} (h : ts.all a6 = true) (n : Nat) (f : FnV) : pp ts n (elV ts f) := fun i _ => by
 simp only [elV, bn]
 exact ⟨fV h _, nN h _⟩
theorem dX {ts : List Ty} {n m : Nat} {f g : Nat -> List V} (h1 : pp ts n f) (h2 : pp ts m g) : pp ts (n + m) (av n f g) := fun i hi => by
 unfold av
 by_cases hlt : i < n
 ·have hb : Nat.blt i n = true := Nat.ble_eq_true_of_le hlt
  rw [hb]; exact h1 i hlt
 ·have hb : Nat.blt i n = false := by
   cases hb : Nat.blt i n with
   | false => rfl
   | true => have := Nat.le_of_ble_eq_true hb; omega
  rw [hb]; exact h2 _ (by omega)
theorem dh {ts : List Ty} (h : ts.all a6 = true) (n : Nat) {ds : List V} (hf : ig [] (ap ts ds) ds = ap ts ds) : pp ts n fun _ => ds := fun i _ => ⟨fV h _, dR _ _ hf⟩
theorem fA {ts : List Ty} (h : ts.all a6 = true) {n j : Nat} {ds : List V} {f : Nat -> List V} (h1 : pp ts n f) (hf : ig [] (ap ts ds) ds = ap ts ds) : pp ts n fun i => cond (Nat.beq i j) ds (f i) := fun i hi => by
 show okE _ (ap ts (cond (Nat.beq i j) ds (f i))) = true /\ c8 [] (cond (Nat.beq i j) ds (f i)) (ap ts (cond (Nat.beq i j) ds (f i)))
 cases Nat.beq i j with
 | true => exact ⟨fV h _, dR _ _ hf⟩
 | false => exact h1 i hi
def vR (ts : List Ty) (f : FnV) : Nat -> List (List V)
 | 0 => []
 | n + 1 => ig [] (ap ts (f n)) (f n) :: vR ts f n
def sF (ts : List Ty) (f : FnV) : Nat -> List (List V)
 | 0 => []
 | n + 1 => ap ts (f n) :: sF ts f n
theorem Cp {ts : List Ty} (h : ts.all a6 = true) {f : Nat -> List V} : ∀ {n : Nat}, vR ts f n = sF ts f n -> pp ts n f
 | 0, _ => fun i hi => by omega
 | n + 1, hf => fun i hi => by
   simp only [vR, sF, List.cons.injEq] at hf
   by_cases e : i = n
   ·subst e; exact ⟨fV h _, dR _ _ hf.1⟩
   ·exact Cp h hf.2 i (by omega)
def u7 (ρ : Rho) (e : Env) : Env -> Env
 | [] => []
 | (s, t) :: l => (s, gR ρ t (em e s)) :: u7 ρ e l
theorem xx {ρ : Rho} {e : Env} : ∀ {e1 : Env}, u7 ρ e e1 = e1 -> pW ρ e e1
 | [], _ => trivial
 | (s, t) :: l, h => by
   simp only [u7, List.cons.injEq, Prod.mk.injEq, true_and] at h
   exact ⟨xJ _ _ h.1, xx h.2⟩
def qH : List VF -> Nat -> Option VF
 | [], _ => none
 | v :: l, k => cond (Nat.beq k v.k) (some v) (qH l k)
def BM (ρ : Rho) (h : List O) (vf : List VF) (k : Nat) : O -> O
 | .cells cs ty => match bW ρ k with
   | some (some j) => match nth h j with
     | some (.cells ds ty') => .cells (ig ρ cs ds) ty'
     | _ => .dead
   | _ => .dead
 | .gl e n f ty => match bW ρ k with
   | some none => .gl e 0 f ty
   | some (some j) => match nth h j with
     | some (.gl e' m g ty') => match qH vf k with
       | some v => .gl e' m (elV v.ts g) ty'
       | none => .dead
     | _ => .dead
   | none => .dead
 | .dead => .hid
 | .hid => .hid
def vc (ρ : Rho) (h : List O) (vf : List VF) : Nat -> List O -> List O
 | _, [] => []
 | k, o :: l => BM ρ h vf k o :: vc ρ h vf (k + 1) l
def kW (ρ : Rho) (h : List O) : List VF -> List (Nat × Nat × (Nat -> List V))
 | [] => []
 | v :: l => (match bW ρ v.k with
   | some (some j) => match nth h j with
     | some (.gl e m g _) => (e, m, g)
     | _ => (0, 0, fun _ => [])
   | _ => (0, 0, fun _ => [])) :: kW ρ h l
def kZ : List VF -> List (Nat × Nat × (Nat -> List V))
 | [] => []
 | v :: l => (aX v.ts, v.n, v.f) :: kZ l
theorem vn {ρ : Rho} {h : List O} {k : Nat} {v : VF} : ∀ {vf : List VF}, qH vf k = some v -> kW ρ h vf = kZ vf -> v.k = k /\ (match bW ρ v.k with
 | some (some j) => match nth h j with
   | some (.gl e m g _) => (e, m, g)
   | _ => (0, 0, fun _ => [])
 | _ => (0, 0, fun _ => [])) = (aX v.ts, v.n, v.f)
 | [], h1, _ => by cases h1
 | x :: l, h1, h2 => by
   simp only [kW, kZ, List.cons.injEq] at h2
   simp only [qH] at h1
   cases hb : Nat.beq k x.k with
   | true => rw [hb] at h1; cases h1; exact ⟨(Nat.eq_of_beq_eq_true hb).symm, h2.1⟩
   | false => rw [hb] at h1; exact vn h1 h2.2
theorem Dw {ρ : Rho} {h : List O} {vf : List VF} {k : Nat} {o : O} (hf : BM ρ h vf k o = o) (hg : kW ρ h vf = kZ vf) : wE ρ h k o := by
 cases o with
 | cells cs ty =>
   simp only [BM] at hf
   split at hf
   ·rename_i j hj
    split at hf
    ·rename_i ds ty' hn
     simp only [O.cells.injEq] at hf
     exact ⟨j, ds, hj, by rw [hn, hf.2], dR _ _ hf.1⟩
    ·cases hf
   ·cases hf
 | gl e n f ty =>
   simp only [BM] at hf
   split at hf
   ·rename_i hj
    simp only [O.gl.injEq, true_and, and_true] at hf
    exact .inl ⟨hj, hf.symm⟩
   ·rename_i j hj
    split at hf
    ·rename_i e' m g ty' hn
     split at hf
     ·rename_i v hv
      obtain ⟨rfl, h2⟩ := vn hv hg
      rw [hj] at h2
      simp only [hn, Prod.mk.injEq] at h2
      simp only [O.gl.injEq] at hf
      obtain ⟨rfl, rfl, rfl, rfl⟩ := hf
      obtain ⟨h3, h4, h5⟩ := h2
      refine .inr ⟨j, m, g, hj, hn, Nat.le_refl _, fun i hi => ?_⟩
      have := v.ok i (by rw [← h4]; exact hi)
      rw [← h5, ← h3] at this
      exact ⟨this.1, fS _ _ this.2⟩
     ·cases hf
    ·cases hf
   ·cases hf
 | dead => simp only [BM] at hf; cases hf
 | hid => trivial
theorem yv {ρ : Rho} {h : List O} {vf : List VF} (hg : kW ρ h vf = kZ vf) : ∀ {l : List O} {k : Nat}, vc ρ h vf k l = l -> oG ρ h k l
 | [], _, _ => trivial
 | o :: l, k, hf => by
   simp only [vc, List.cons.injEq] at hf
   exact ⟨Dw hf.1 hg, yv hg hf.2⟩
def ro (ρ : Rho) (nb : Nat) (h1 : List O) : Bool := Nat.beq (aX ρ) (aX h1) && (vV ρ && Ci ρ nb)
theorem oA (w0 : World) {ρ : Rho} {nb : Nat} {e e1 : Env} {h h1 : List O} {vf : List VF} (h0 : ro ρ nb h1 = true) (he : u7 ρ e e1 = e1) (hh : vc ρ h vf 0 h1 = h1) (hg : kW ρ h vf = kZ vf) : eG w0 nb e h e1 h1 := by
 unfold ro at h0
 simp only [Bool.and_eq_true] at h0
 exact eG.ren w0 ρ h0.1 h0.2.1 h0.2.2 (xx he) (yv hg hh)
def frR (zs : List VF) (v v' : V) : Prop := v' = v ∨ ∃ k n z, v = .gs k n /\ z ∈ zs /\ z.k = k /\ n <= z.n /\ v' = .sl n (elV z.ts z.f)
def DW (zs : List VF) : List V -> List V -> Prop
 | [], [] => True
 | a :: l, b :: m => frR zs a b /\ DW zs l m
 | _, _ => False
structure FR (zs : List VF) where
 k : Nat
 n : Nat
 f : Nat -> List V
 g : Nat -> List V
 ok : ∀ i, i < n -> DW zs (f i) (g i)
section
variable {zs : List VF}
def zA : List (FR zs) -> Nat -> Option (FR zs)
 | [], _ => none
 | v :: l, k => cond (Nat.beq k v.k) (some v) (zA l k)
def FC (fr : List (FR zs)) (k : Nat) (o : O) : O := match qH zs k with
 | some _ => .hid
 | none => match o with
   | .gl e n f ty => match zA fr k with
     | some r => .gl e n r.g ty
     | none => .gl e n f ty
   | o => o
def frzH (fr : List (FR zs)) : Nat -> List O -> List O
 | _, [] => []
 | k, o :: l => FC fr k o :: frzH fr (k + 1) l
def DP (zs : List VF) : Bool := zs.all fun v => v.ts.all a6
def Ad (h : List O) : List VF -> List (Option (Nat × Nat × (Nat -> List V)))
 | [] => []
 | v :: l => (match nth h v.k with
   | some (.gl e m g _) => some (e, m, g)
   | _ => none) :: Ad h l
def nq : List VF -> List (Option (Nat × Nat × (Nat -> List V)))
 | [] => []
 | v :: l => some (aX v.ts, v.n, v.f) :: nq l
def Ae (h : List O) : List (FR zs) -> List (Option (Nat × (Nat -> List V)))
 | [] => []
 | v :: l => (match nth h v.k with
   | some (.gl _ m g _) => some (m, g)
   | _ => none) :: Ae h l
def z6 : List (FR zs) -> List (Option (Nat × (Nat -> List V)))
 | [] => []
 | v :: l => some (v.n, v.f) :: z6 l
theorem xW {h : List O} {v : VF} : ∀ {l : List VF}, Ad h l = nq l -> v ∈ l -> ∃ ty, h[v.k]? = some (.gl (aX v.ts) v.n v.f ty)
 | [], _, hm => by cases hm
 | x :: l, he, hm => by
   simp only [Ad, nq, List.cons.injEq] at he
   rcases List.mem_cons.1 hm with rfl | hm
   ·have h1 := he.1
    rw [aF] at h1
    split at h1
    ·rename_i e m g ty hk
     simp only [Option.some.injEq, Prod.mk.injEq] at h1
     obtain ⟨rfl, rfl, rfl⟩ := h1
     exact ⟨ty, hk⟩
    ·cases h1
   ·exact xW he.2 hm
theorem yc {h : List O} {k : Nat} {r : FR zs} : ∀ {l : List (FR zs)}, Ae h l = z6 l -> zA l k = some r -> ∃ e ty, h[k]? = some (.gl e r.n r.f ty)
 | [], _, hm => by cases hm
 | x :: l, he, hm => by
   simp only [Ae, z6, List.cons.injEq] at he
   simp only [zA] at hm
   cases hb : Nat.beq k x.k with
   | true =>
     rw [hb] at hm; cases hm
     have h1 := he.1
     rw [aF, ← Nat.eq_of_beq_eq_true hb] at h1
     split at h1
     ·rename_i e m g ty hk
      simp only [Option.some.injEq, Prod.mk.injEq] at h1
      obtain ⟨rfl, rfl⟩ := h1
      exact ⟨e, ty, hk⟩
     ·cases h1
   | false => rw [hb] at hm; exact yc he.2 hm
theorem rm {v : VF} : ∀ {l : List VF}, v ∈ l -> qH l v.k ≠ none
 | x :: l, hm => by
   simp only [qH]
   cases hb : Nat.beq v.k x.k with
   | true => simp
   | false =>
     rcases List.mem_cons.1 hm with rfl | hm
     ·simp at hb
     ·exact rm hm
theorem tV (fr : List (FR zs)) : ∀ (l : List O) (b k : Nat), (frzH fr b l)[k]? = (l[k]?).map (FC fr (b + k))
 | [], b, k => by simp [frzH]
 | o :: l, b, 0 => by simp [frzH]
 | o :: l, b, k + 1 => by
   simp only [frzH, List.getElem?_cons_succ]
   rw [tV fr l (b + 1) k, show b + 1 + k = b + (k + 1) by omega]
theorem CL {v v' : V} (h : frR zs v v') (hv : v.one = true) : v'.one = true := by
 rcases h with rfl | ⟨k, n, z, _, _, _, _, rfl⟩
 ·exact hv
 ·rfl
theorem uS : ∀ {l m : List V}, DW zs l m -> l.all V.one = true -> aX m = aX l /\ m.all V.one = true
 | [], [], _, _ => ⟨rfl, rfl⟩
 | a :: l, b :: m, h, ho => by
   simp only [List.all_cons, Bool.and_eq_true] at ho ⊢
   obtain ⟨h1, h2⟩ := uS h.2 ho.2
   exact ⟨by simp only [aX, h1], CL h.1 ho.1, h2⟩
 | [], _ :: _, h, _ => h.elim
 | _ :: _, [], h, _ => h.elim
theorem yo (w0 : World) {nb : Nat} {e : Env} {h : List O} {fr : List (FR zs)} (hc : DP zs = true) (hz : Ad h zs = nq zs) (hf : Ae h fr = z6 fr) : eG w0 nb e h e (frzH fr 0 h) := by
 classical
 intro N ν nV nS sl lh hs hr
 have hB : ∀ v, v ∈ zs -> ∃ ty, h[v.k]? = some (.gl (aX v.ts) v.n v.f ty) := fun v hv => xW hz hv
 let Bf : Nat -> Prop := fun j => ∃ v x, v ∈ zs /\ ν v.k = some (some x) /\ x.1 = j
 let z1 : List ae := lh.mapIdx fun j o => if isCells ν.z[j]? = true ∨ Bf j then o else .hid
 have z1get : ∀ j, z1[j]? = (lh[j]?).map fun o => if isCells ν.z[j]? = true ∨ Bf j then o else .hid := fun j => by simp only [z1, List.getElem?_mapIdx]
 have hza : zle ν.z z1 := fun j az ty hj => by
  rw [z1get, hr.zl j az ty hj]
  simp only [Option.map_some]
  rw [if_pos (.inl (by rw [hj]; rfl))]
 have hzb : zle z1 lh := fun j az ty hj => by
  rw [z1get] at hj
  cases hl : lh[j]? with
  | none => rw [hl] at hj; cases hj
  | some o =>
    rw [hl] at hj
    simp only [Option.map_some, Option.some.injEq] at hj
    split at hj
    ·rw [hj]
    ·cases hj
 let ν1 : Nu := ⟨ν.m, z1⟩
 have hsub : ν.sub ν1 := ⟨fun _ _ h => h, hza⟩
 have hfr : ∀ {v v' : V} {a : ab}, frR zs v v' -> vr w0 ν.z ν v a -> vr w0 z1 ν1 v' a := by
  intro v v' a hv hx
  rcases hv with rfl | ⟨k, n, z, rfl, hm, rfl, hn, rfl⟩
  ·exact ES hsub _ _ hx
  ·obtain ⟨ty, hk⟩ := hB z hm
   have hts : z.ts.all a6 = true := by unfold DP at hc; exact List.all_eq_true.1 hc z hm
   simp only [vr] at hx ⊢
   rcases hr.blk _ _ hk with ⟨h1, h2⟩ | ⟨b, c, az, h1, h2, h3, h4, h5⟩
   ·rcases hx with ⟨_, g2, rfl⟩ | ⟨b, c, e, g1, _⟩
    ·subst g2; exact ⟨none, 0, 0, rfl, Nat.le_refl _, by omega, trivial, fun i hi => by omega⟩
    ·rw [h1] at g1; cases g1
   ·rcases hx with ⟨g1, _⟩ | ⟨b', c', e', g1, rfl, g3⟩
    ·rw [h1] at g1; cases g1
    ·rw [h1] at g1
     obtain ⟨rfl, rfl, rfl⟩ : b = b' /\ c = c' /\ aX z.ts = e' := by simpa using g1
     have hb : z1[b]? = some (.cells az ty) := by
      rw [z1get, h2]
      simp only [Option.map_some]
      rw [if_pos (.inr ⟨z, _, hm, h1, rfl⟩)]
     refine ⟨some (.l b 0), c, aX z.ts, rfl, g3, by omega, ⟨az, ty, hb, Nat.zero_le _⟩, fun i hi => ?_⟩
     have hi' : i * aX z.ts + aX z.ts <= az.length := by
      rw [h3, ← Nat.succ_mul]; exact Nat.mul_le_mul_right _ (by omega)
     have hok := z.ok i (by omega)
     refine ⟨_, _, rfl, ?_, il hza _ _ (eP (ν := iS [] ν) (fun k x hx => ?_) _ _ (fp _ _ _ hok.2 (h5 i (by omega)).2)), jW _ _ hts⟩
     ·simp only [Ptr.add, lds, hb, Nat.zero_add]
      rw [if_pos (by omega)]
     ·simp only [iS, bW, nth] at hx; cases hx
 have hfrs : ∀ {l m : List V} {az : List ab}, DW zs l m -> vrs w0 ν.z ν l az -> vrs w0 z1 ν1 m az := by
  intro l
  induction l with
  | nil => intro m az h1 h2; cases m with | nil => simp only [vrs] at h2 ⊢; exact h2 | cons => exact h1.elim
  | cons a l ih =>
    intro m az h1 h2
    cases m with
    | nil => exact h1.elim
    | cons b m =>
      simp only [vrs] at h2 ⊢
      obtain ⟨x, xs, rfl, g1, g2⟩ := h2
      exact ⟨x, xs, rfl, hfr h1.1 g1, ih h1.2 g2⟩
 have hget : ∀ k o, (frzH fr 0 h)[k]? = some o -> o ≠ .hid -> qH zs k = none /\ ∃ o', h[k]? = some o' /\ o = (match o' with
  | .gl e n f ty => match zA fr k with
    | some r => O.gl e n r.g ty
    | none => .gl e n f ty
  | o => o) := fun k o hk ho => by
  rw [tV, Nat.zero_add] at hk
  cases hg : h[k]? with
  | none => rw [hg] at hk; cases hk
  | some o' =>
    rw [hg] at hk
    simp only [Option.map_some, Option.some.injEq, FC] at hk
    cases hv : qH zs k with
    | some v => rw [hv] at hk; exact (ho hk.symm).elim
    | none => rw [hv] at hk; exact ⟨rfl, o', rfl, hk.symm⟩
 have hlive : ∀ k, aB (frzH fr 0 h) k -> qH zs k = none /\ aB h k := fun k hk => by
  rcases c4 hk with ⟨cs, ty, g⟩ | ⟨e, n, f, ty, g⟩
  ·obtain ⟨h1, o', h2, h3⟩ := hget k _ g (by simp)
   refine ⟨h1, ?_⟩
   cases o' with
   | cells cs' ty' => exact bS h2
   | gl e n f ty => exact dG h2
   | dead => cases h3
   | hid => cases h3
  ·obtain ⟨h1, o', h2, h3⟩ := hget k _ g (by simp)
   refine ⟨h1, ?_⟩
   cases o' with
   | cells cs' ty' => exact bS h2
   | gl e n f ty => exact dG h2
   | dead => cases h3
   | hid => cases h3
 refine ⟨ν1, nV, nS, NuN.of hsub _, hs.mono hsub, ⟨fun k o hk => ?_, fun k k' x x' h1 h2 => hr.inj k k' x x' (hlive k h1).2 (hlive k' h2).2, fun k hk => hr.dom k ?_, hr.rng, hzb, fun k x hk hx => ?_⟩⟩
 ·by_cases ho : o = .hid
  ·subst ho; trivial
  ·obtain ⟨h1, o', h2, h3⟩ := hget k o hk ho
   have hb := hr.blk k o' h2
   cases o' with
   | cells cs ty => subst h3; exact cm hsub (by simp) (fun b az ty g _ => g) hb
   | dead => subst h3; exact hb
   | hid => subst h3; trivial
   | gl e n f ty =>
     cases hfa : zA fr k with
     | none => rw [hfa] at h3; subst h3; exact cm hsub (by simp) (fun b az ty g _ => g) hb
     | some r =>
       rw [hfa] at h3; subst h3
       obtain ⟨e', ty', g⟩ := yc hf hfa
       rw [h2] at g
       simp only [Option.some.injEq, O.gl.injEq] at g
       obtain ⟨_, rfl, rfl, _⟩ := g
       rcases hb with ⟨k1, k2⟩ | ⟨b, c, az, k1, k2, k3, k4, k5⟩
       ·exact .inl ⟨k1, k2⟩
       ·refine .inr ⟨b, c, az, k1, k2, k3, k4, fun i hi => ?_⟩
        obtain ⟨q1, q2⟩ := k5 i hi
        unfold okE at q1 ⊢
        simp only [Bool.and_eq_true] at q1 ⊢
        obtain ⟨p1, p2⟩ := uS (r.ok i hi) q1.2
        exact ⟨⟨by rw [p1]; exact q1.1, p2⟩, hfrs (r.ok i hi) q2⟩
 ·have hl : (frzH fr 0 h).length = h.length := by
   have gen : ∀ (l : List O) (b : Nat), (frzH fr b l).length = l.length := fun l => by
    induction l with
    | nil => intro b; rfl
    | cons o l ih => intro b; simp [frzH, ih]
   exact gen h 0
  omega
 ·obtain ⟨h1, h2⟩ := hlive k hk
  have hx' : ν k = some (some x) := hx
  have g1 := hr.zn k x h2 hx'
  show isCells z1[x.1]? = false
  rw [z1get]
  cases hl : lh[x.1]? with
  | none => rfl
  | some o =>
    simp only [Option.map_some]
    rw [if_neg]
    ·rfl
    ·rintro (g2 | ⟨v, x', hv, g2, g3⟩)
     ·rw [g1] at g2; cases g2
     ·obtain ⟨ty, hk'⟩ := hB v hv
      have := hr.inj v.k k x' x (dG hk') h2 g2 hx' g3
      rw [← this] at h1
      exact rm hv h1
end
inductive RT (S : Type) where
 | ret (v : V)
 | next (ρ : Rho) (s : S) (vf : List VF)
 | enter (ρ : Rho) (s : S) (vf : List VF)
 | nextz (zs : List VF) (fr : List (FR zs)) (ρ : Rho) (s : S) (vf : List VF)
 | enterz (zs : List VF) (fr : List (FR zs)) (ρ : Rho) (s : S) (vf : List VF)
 | br (b : Bool) (x y : RT S)
 | brt (x : RT S)
 | brf (y : RT S)
 | brx (b : Bool) (x : RT S)
 | bry (b : Bool) (y : RT S)
 | ob (b : Bool) (x : RT S)
 | obt (x : RT S)
 | obv (b : Bool) (h : b = true) (x : RT S)
 | obi (x : RT S)
 | obj (c b : Bool) (x : RT S)
 | obc (x : RT S)
 | obp (p : Prop) (x : RT S)
 | obe (ts : List Ty) (ds : List V) (x : RT S)
 | und (x y : RT S)
 | asm (p : Prop) (x : RT S)
 | all (f : Nat -> RT S)
 | fail
structure LD (J S : Type) where
 id : S -> J
 lp : J -> Lp J
 inv : S -> Env × List O × Option Ex
inductive FT (J : Type) where
 | res (v : V)
 | head (j : J) (g : Option Ex) (ok : Bool) (e : Env) (h : List O) (vs : List (Nat × Nat × (Nat -> List V)))
 | loop (fr : Nat × Nat) (b : qR) (k : Ex -> Env -> List O -> Option Ex -> T (ca J)) (g : Option Ex) (ok : Bool) (e : Env) (h : List O) (vs : List (Nat × Nat × (Nat -> List V)))
 | headz (c : Bool) (zg : List (Option (Nat × Nat × (Nat -> List V)))) (fg : List (Option (Nat × (Nat -> List V)))) (j : J) (g : Option Ex) (ok : Bool) (e : Env) (h : List O) (vs : List (Nat × Nat × (Nat -> List V)))
 | loopz (c : Bool) (zg : List (Option (Nat × Nat × (Nat -> List V)))) (fg : List (Option (Nat × (Nat -> List V)))) (fr : Nat × Nat) (b : qR) (k : Ex -> Env -> List O -> Option Ex -> T (ca J)) (g : Option Ex) (ok : Bool) (e : Env) (h : List O) (vs : List (Nat × Nat × (Nat -> List V)))
 | br (b : Bool) (x y : FT J)
 | brt (b : Bool) (x : FT J)
 | brf (b : Bool) (y : FT J)
 | brx (b : Bool) (x : FT J)
 | bry (b : Bool) (y : FT J)
 | ob (b : Bool) (x : FT J)
 | obt (b : Bool) (x : FT J)
 | obi (x : FT J)
 | obj (c b : Bool) (x : FT J)
 | obp (p : Prop) (x : FT J)
 | obe (a b : List V) (x : FT J)
 | und (x y : FT J)
 | asm (p : Prop) (x : FT J)
 | all (f : Nat -> FT J)
 | fail (n : Nat)
section
variable {J S : Type}
def J8 (a b : List V) (k : RT S -> FT J) : RT S -> FT J
 | .obe _ _ x => .obe a b (k x)
 | t => k t
def HO (a b : List V) (k : RT S -> T (ca J)) : RT S -> T (ca J)
 | .obe _ _ x => .obq a b (k x)
 | t => .obq a a (k t)
def cU (D : LD J S) : T (ca J) -> RT S -> FT J
 | .ret (.res v), .ret _ => .res v
 | .ret (.head j e h g), .next ρ s vf => .head j g (ro ρ (D.lp j).fr.2 (D.inv s).2.1) (u7 ρ e (D.inv s).1) (vc ρ h vf 0 (D.inv s).2.1) (kW ρ h vf)
 | .loop fr b e h g k, .enter ρ s vf => .loop fr b k g (ro ρ fr.2 (D.inv s).2.1) (u7 ρ e (D.inv s).1) (vc ρ h vf 0 (D.inv s).2.1) (kW ρ h vf)
 | .ret (.head j e h g), .nextz zs fz ρ s vf => .headz (DP zs) (Ad h zs) (Ae h fz) j g (ro ρ (D.lp j).fr.2 (D.inv s).2.1) (u7 ρ e (D.inv s).1) (vc ρ (frzH fz 0 h) vf 0 (D.inv s).2.1) (kW ρ (frzH fz 0 h) vf)
 | .loop fr b e h g k, .enterz zs fz ρ s vf => .loopz (DP zs) (Ad h zs) (Ae h fz) fr b k g (ro ρ fr.2 (D.inv s).2.1) (u7 ρ e (D.inv s).1) (vc ρ (frzH fz 0 h) vf 0 (D.inv s).2.1) (kW ρ (frzH fz 0 h) vf)
 | .br b x y, .br _ x' y' => .br b (cU D x x') (cU D y y')
 | .br b x _, .brt x' => .brt b (cU D x x')
 | .br b _ y, .brf y' => .brf b (cU D y y')
 | .br b x _, .brx _ x' => .brx b (cU D x x')
 | .br b _ y, .bry _ y' => .bry b (cU D y y')
 | .ob b x, .ob _ x' => .ob b (cU D x x')
 | .ob b x, .obt x' => .obt b (cU D x x')
 | .ob b x, .obv _ _ x' => .ob b (cU D x x')
 | .obp p x, .obc x' => .obp p (cU D x x')
 | .obi _ d x, .obt x' => .obt d (cU D x x')
 | .obi _ d x, .ob _ x' => .ob d (cU D x x')
 | .obi _ d x, .obv _ _ x' => .ob d (cU D x x')
 | .obi _ _ x, .obi x' => .obi (cU D x x')
 | .obi c d x, .obj _ _ x' => .obj c d (cU D x x')
 | .obp p x, .obp _ x' => .obp p (cU D x x')
 | .obq a b x, t => J8 a b (cU D x) t
 | .und x y, .und x' y' => .und (cU D x x') (cU D y y')
 | .asm p x, .asm _ x' => .asm p (cU D x x')
 | .all f, .all g => .all fun l => cU D (f l) (g l)
 | .fail _, .fail => .fail 1
 | _, _ => .fail 0
def bf : T (ca J) -> RT S -> T (ca J)
 | .br b x y, .br _ x' y' => .br b (bf x x') (bf y y')
 | .br b x y, .brt x' => .br b (bf x x') y
 | .br b x y, .brf y' => .br b x (bf y y')
 | .br b x y, .brx _ x' => .br b (bf x x') y
 | .br b x y, .bry _ y' => .br b x (bf y y')
 | .ob b x, .ob _ x' => .ob b (bf x x')
 | .ob b x, .obt x' => .ob b (bf x x')
 | .ob b x, .obv _ _ x' => .ob b (bf x x')
 | .obp p x, .obp _ x' => .obp p (bf x x')
 | .obp p x, .obc x' => .obp p (bf x x')
 | .obi c d x, .obt x' => .obi c d (bf x x')
 | .obi c d x, .ob _ x' => .obi c d (bf x x')
 | .obi c d x, .obv _ _ x' => .obi c d (bf x x')
 | .obi c _ x, .obi x' => .obi c c (bf x x')
 | .obi c d x, .obj _ _ x' => .obi c d (bf x x')
 | .obq a b x, t => HO a b (bf x) t
 | .und x y, .und x' y' => .und (bf x x') (bf y y')
 | .asm p x, .asm _ x' => .asm p (bf x x')
 | .all f, .all g => .all fun l => bf (f l) (g l)
 | t, _ => t
def toF (D : LD J S) : RT S -> FT J
 | .ret v => .res v
 | .next _ s vf => .head (D.id s) (D.inv s).2.2 true (D.inv s).1 (D.inv s).2.1 (kZ vf)
 | .enter _ s vf => .loop (D.lp (D.id s)).fr (D.lp (D.id s)).body (D.lp (D.id s)).k (D.inv s).2.2 true (D.inv s).1 (D.inv s).2.1 (kZ vf)
 | .nextz zs fz _ s vf => .headz true (nq zs) (z6 fz) (D.id s) (D.inv s).2.2 true (D.inv s).1 (D.inv s).2.1 (kZ vf)
 | .enterz zs fz _ s vf => .loopz true (nq zs) (z6 fz) (D.lp (D.id s)).fr (D.lp (D.id s)).body (D.lp (D.id s)).k (D.inv s).2.2 true (D.inv s).1 (D.inv s).2.1 (kZ vf)
 | .br b x y => .br b (toF D x) (toF D y)
 | .brt x => .brt true (toF D x)
 | .brf y => .brf false (toF D y)
 | .brx b x => .brx b (toF D x)
 | .bry b y => .bry b (toF D y)
 | .ob b x => .ob b (toF D x)
 | .obt x => .obt true (toF D x)
 | .obv b _ x => .ob b (toF D x)
 | .obi x => .obi (toF D x)
 | .obj c b x => .obj c b (toF D x)
 | .obc x => .obp True (toF D x)
 | .obp p x => .obp p (toF D x)
 | .obe ts ds x => .obe (gk ts ds []) (gi ts ds []) (toF D x)
 | .und x y => .und (toF D x) (toF D y)
 | .asm p x => .asm p (toF D x)
 | .all f => .all fun l => toF D (f l)
 | .fail => .fail 1
def evR (Nx : S -> V -> Prop) : RT S -> V -> Prop
 | .ret v, r => toA v = toA r
 | .next _ s _, r => Nx s r
 | .enter _ s _, r => Nx s r
 | .nextz _ _ _ s _, r => Nx s r
 | .enterz _ _ _ s _, r => Nx s r
 | .br b x y, r => (b = true -> evR Nx x r) /\ (b = false -> evR Nx y r)
 | .brt x, r => evR Nx x r
 | .brf y, r => evR Nx y r
 | .brx b x, r => b = true /\ evR Nx x r
 | .bry b y, r => b = false /\ evR Nx y r
 | .ob b x, r => b = true /\ evR Nx x r
 | .obt x, r => evR Nx x r
 | .obv _ _ x, r => evR Nx x r
 | .obi x, r => evR Nx x r
 | .obj c b x, r => (c = true -> b = true) /\ evR Nx x r
 | .obc x, r => evR Nx x r
 | .obp p x, r => p /\ evR Nx x r
 | .obe ts ds x, r => gk ts ds [] = gi ts ds [] /\ evR Nx x r
 | .und x y, r => evR Nx x r /\ evR Nx y r
 | .asm p x, r => p -> evR Nx x r
 | .all f, r => ∀ l, evR Nx (f l) r
 | .fail, _ => False
def EvN (step : S -> RT S) : Nat -> S -> V -> Prop
 | 0, _, _ => False
 | n + 1, s, r => evR (EvN step n) (step s) r
def Ev (step : S -> RT S) (s : S) (r : V) : Prop := ∃ n, EvN step n s r
theorem o6 {Nx Ny : S -> V -> Prop} {r : V} (h : ∀ s, Nx s r -> Ny s r) : ∀ t : RT S, evR Nx t r -> evR Ny t r := by
 intro t
 induction t with
 | ret v => exact id
 | next ρ s vf => exact h s
 | enter ρ s vf => exact h s
 | nextz zs fz ρ s vf => exact h s
 | enterz zs fz ρ s vf => exact h s
 | br b x y hx hy => exact fun k => ⟨fun e => hx (k.1 e), fun e => hy (k.2 e)⟩
 | brt x hx => exact hx
 | brf y hy => exact hy
 | brx b x hx => exact fun k => ⟨k.1, hx k.2⟩
 | bry b y hy => exact fun k => ⟨k.1, hy k.2⟩
 | ob b x hx => exact fun k => ⟨k.1, hx k.2⟩
 | obt x hx => exact hx
 | obv b h x hx => exact hx
 | obi x hx => exact hx
 | obj c b x hx => exact fun k => ⟨k.1, hx k.2⟩
 | obc x hx => exact hx
 | obp p x hx => exact fun k => ⟨k.1, hx k.2⟩
 | obe a b x hx => exact fun k => ⟨k.1, hx k.2⟩
 | und x y hx hy => exact fun k => ⟨hx k.1, hy k.2⟩
 | asm p x hx => exact fun k hp => hx (k hp)
 | all f hf => exact fun k l => hf l (k l)
 | fail => exact id
theorem uE {step : S -> RT S} {r : V} : ∀ {n : Nat} {s : S}, EvN step n s r -> EvN step (n + 1) s r
 | 0, s, h => h.elim
 | n + 1, s, h => o6 (fun s hs => uE hs) _ h
theorem o7 {step : S -> RT S} {r : V} {n m : Nat} {s : S} (h : EvN step n s r) (hm : n <= m) : EvN step m s r := by
 induction hm with
 | refl => exact h
 | step _ ih => exact uE ih
section
variable {Nx : S -> V -> Prop} {r : V}
theorem ao {v : V} (h : toA v = toA r) : evR Nx (.ret v) r := h
theorem aL {b : Bool} {x y : RT S} (h1 : b = true -> evR Nx x r) (h2 : b = false -> evR Nx y r) : evR Nx (.br b x y) r := ⟨h1, h2⟩
theorem bz {x : RT S} (h : evR Nx x r) : evR Nx (.brt x) r := h
theorem bD {x : RT S} (h : evR Nx x r) : evR Nx (.brf x) r := h
theorem ntT {b : Bool} (h : b = false) : (!b) = true := by rw [h]; rfl
theorem ntF {b : Bool} (h : b = true) : (!b) = false := by rw [h]; rfl
theorem tnT {b : Bool} (h : (!b) = false) : b = true := by cases b; cases h; rfl
theorem ac {b : Bool} {x : RT S} (h1 : b = true) (h2 : evR Nx x r) : evR Nx (.ob b x) r := ⟨h1, h2⟩
theorem af {x : RT S} (h : evR Nx x r) : evR Nx (.obt x) r := h
theorem cG {b : Bool} {hb : b = true} {x : RT S} (h : evR Nx x r) : evR Nx (.obv b hb x) r := h
theorem ak {x : RT S} (h : evR Nx x r) : evR Nx (.obi x) r := h
theorem eJ {c b : Bool} {x : RT S} (h1 : c = true -> b = true) (h2 : evR Nx x r) : evR Nx (.obj c b x) r := ⟨h1, h2⟩
theorem ar {x : RT S} (h : evR Nx x r) : evR Nx (.obc x) r := h
theorem aO {p : Prop} {x : RT S} (h1 : p) (h2 : evR Nx x r) : evR Nx (.obp p x) r := ⟨h1, h2⟩
theorem bc {ts : List Ty} {ds : List V} {x : RT S} (h1 : gk ts ds [] = gi ts ds []) (h2 : evR Nx x r) : evR Nx (.obe ts ds x) r := ⟨h1, h2⟩
theorem Kf {x y : RT S} (h1 : evR Nx x r) (h2 : evR Nx y r) : evR Nx (.und x y) r := ⟨h1, h2⟩
theorem dT {p : Prop} {x : RT S} (h : p -> evR Nx x r) : evR Nx (.asm p x) r := h
theorem dF {p : Prop} {x : RT S} (h : p -> evR Nx x r) : evR Nx (.asm (true = true -> p) x) r := fun k => h (k rfl)
theorem EE {f : Nat -> RT S} (h : ∀ l, evR Nx (f l) r) : evR Nx (.all f) r := h
theorem aJ {ρ : Rho} {s : S} {vf : List VF} (h : Nx s r) : evR Nx (.enter ρ s vf) r := h
theorem aR {ρ : Rho} {s : S} {vf : List VF} (h : Nx s r) : evR Nx (.next ρ s vf) r := h
end
def cz : RT S -> Bool
 | .br _ x y => cz x && cz y
 | .brt x => cz x
 | .brf y => cz y
 | .brx _ x => cz x
 | .bry _ y => cz y
 | .ob _ x => cz x
 | .obt x => cz x
 | .obv _ _ x => cz x
 | .obi x => cz x
 | .obj _ _ x => cz x
 | .obc x => cz x
 | .obp _ x => cz x
 | .obe _ _ x => cz x
 | .und x y => cz x && cz y
 | .asm _ x => cz x
 | .all _ => false
 | _ => true
theorem Fx {step : S -> RT S} {r : V} : ∀ t : RT S, cz t = true -> evR (Ev step) t r -> ∃ n, evR (EvN step n) t r := by
 intro t
 induction t with
 | ret v => exact fun _ h => ⟨0, h⟩
 | next ρ s vf => exact fun _ ⟨n, h⟩ => ⟨n, h⟩
 | enter ρ s vf => exact fun _ ⟨n, h⟩ => ⟨n, h⟩
 | nextz zs fz ρ s vf => exact fun _ ⟨n, h⟩ => ⟨n, h⟩
 | enterz zs fz ρ s vf => exact fun _ ⟨n, h⟩ => ⟨n, h⟩
 | br b x y hx hy =>
   intro h0 h
   simp only [cz, Bool.and_eq_true] at h0
   cases b with
   | true => obtain ⟨n, hn⟩ := hx h0.1 (h.1 rfl); exact ⟨n, fun _ => hn, fun e => by cases e⟩
   | false => obtain ⟨n, hn⟩ := hy h0.2 (h.2 rfl); exact ⟨n, (fun e => by cases e), fun _ => hn⟩
 | brt x hx => exact fun h0 h => hx h0 h
 | brf y hy => exact fun h0 h => hy h0 h
 | brx b x hx => exact fun h0 h => let ⟨n, hn⟩ := hx h0 h.2; ⟨n, h.1, hn⟩
 | bry b y hy => exact fun h0 h => let ⟨n, hn⟩ := hy h0 h.2; ⟨n, h.1, hn⟩
 | ob b x hx => exact fun h0 h => let ⟨n, hn⟩ := hx h0 h.2; ⟨n, h.1, hn⟩
 | obt x hx => exact fun h0 h => hx h0 h
 | obv b h x hx => exact fun h0 h => hx h0 h
 | obi x hx => exact fun h0 h => hx h0 h
 | obj c b x hx => exact fun h0 h => let ⟨n, hn⟩ := hx h0 h.2; ⟨n, h.1, hn⟩
 | obc x hx => exact fun h0 h => hx h0 h
 | obp p x hx => exact fun h0 h => let ⟨n, hn⟩ := hx h0 h.2; ⟨n, h.1, hn⟩
 | obe a b x hx => exact fun h0 h => let ⟨n, hn⟩ := hx h0 h.2; ⟨n, h.1, hn⟩
 | und x y hx hy =>
   intro h0 h
   simp only [cz, Bool.and_eq_true] at h0
   obtain ⟨n, hn⟩ := hx h0.1 h.1
   obtain ⟨m, hm⟩ := hy h0.2 h.2
   exact ⟨max n m, o6 (fun s hs => o7 hs (Nat.le_max_left _ _)) _ hn, o6 (fun s hs => o7 hs (Nat.le_max_right _ _)) _ hm⟩
 | asm p x hx =>
   intro h0 h
   by_cases hp : p
   ·obtain ⟨n, hn⟩ := hx h0 (h hp); exact ⟨n, fun _ => hn⟩
   ·exact ⟨0, fun k => (hp k).elim⟩
 | all f hf => intro h0; cases h0
 | fail => exact fun _ h => h.elim
theorem Ev.of {step : S -> RT S} {s : S} {r : V} (h0 : cz (step s) = true) (h : evR (Ev step) (step s) r) : Ev step s r :=
 let ⟨n, hn⟩ := Fx _ h0 h; ⟨n + 1, hn⟩
theorem tt {w0 : World} {LP : dg} {D : LD J S} {Q : ca J -> Prop} {Nx : S -> V -> Prop} {r : V} (hres : ∀ v, toA v = toA r -> Q (.res v))
 (hhead : ∀ s e h, Nx s r -> eG w0 (D.lp (D.id s)).fr.2 e h (D.inv s).1 (D.inv s).2.1 -> Q (.head (D.id s) e h (D.inv s).2.2))
 (hloop : ∀ s e h, Nx s r -> eG w0 (D.lp (D.id s)).fr.2 e h (D.inv s).1 (D.inv s).2.1 -> LP (D.lp (D.id s)).fr (D.lp (D.id s)).body e h (D.inv s).2.2 fun x e h g => sat LP ((D.lp (D.id s)).k x e h g) Q) :
 ∀ (t : T (ca J)) (rt : RT S), cU D t rt = toF D rt -> bf t rt = t -> evR Nx rt r -> sat LP t Q := by
 intro t
 induction t with
 | ret a =>
   intro rt hf _ hr
   cases a with
   | res v => cases rt <;> simp only [cU, toF] at hf <;> cases hf; exact hres _ hr
   | head j e h g =>
     cases rt <;> simp only [cU, toF] at hf <;> first | (cases hf; done) | skip
     ·simp only [FT.head.injEq] at hf
      obtain ⟨rfl, rfl, h1, h2, h3, h4⟩ := hf
      exact hhead _ e h hr (oA w0 h1 h2 h3 h4)
     ·simp only [FT.headz.injEq] at hf
      obtain ⟨hc, hz, hfr, rfl, rfl, h1, h2, h3, h4⟩ := hf
      exact hhead _ e h hr ((yo w0 hc hz hfr).trans (oA w0 h1 h2 h3 h4))
 | br b x y hx hy =>
   intro rt hf hs hr
   cases rt <;> simp only [cU, toF] at hf <;> first | (cases hf; done) | skip
   ·simp only [FT.br.injEq] at hf
    simp only [bf, T.br.injEq, true_and] at hs
    obtain ⟨rfl, h1, h2⟩ := hf
    exact ⟨fun e => hx _ h1 hs.1 (hr.1 e), fun e => hy _ h2 hs.2 (hr.2 e)⟩
   ·simp only [FT.brt.injEq] at hf
    simp only [bf, T.br.injEq, true_and] at hs
    obtain ⟨rfl, h1⟩ := hf
    exact ⟨fun e => hx _ h1 hs.1 hr, fun e => by cases e⟩
   ·simp only [FT.brf.injEq] at hf
    simp only [bf, T.br.injEq, true_and] at hs
    obtain ⟨rfl, h1⟩ := hf
    exact ⟨(fun e => by cases e), fun e => hy _ h1 hs hr⟩
   ·simp only [FT.brx.injEq] at hf
    simp only [bf, T.br.injEq, true_and] at hs
    obtain ⟨rfl, h1⟩ := hf
    exact ⟨fun e => hx _ h1 hs.1 hr.2, fun e => by rw [hr.1] at e; cases e⟩
   ·simp only [FT.bry.injEq] at hf
    simp only [bf, T.br.injEq, true_and] at hs
    obtain ⟨rfl, h1⟩ := hf
    exact ⟨(fun e => by rw [hr.1] at e; cases e), fun e => hy _ h1 hs hr.2⟩
 | ob b x hx =>
   intro rt hf hs hr
   cases rt <;> simp only [cU, toF] at hf <;> first | (cases hf; done) | skip
   ·simp only [FT.ob.injEq] at hf
    simp only [bf, T.ob.injEq, true_and] at hs
    obtain ⟨rfl, h1⟩ := hf
    exact ⟨hr.1, hx _ h1 hs hr.2⟩
   ·simp only [FT.obt.injEq] at hf
    simp only [bf, T.ob.injEq, true_and] at hs
    obtain ⟨rfl, h1⟩ := hf
    exact ⟨rfl, hx _ h1 hs hr⟩
   ·rename_i b' hb' x'
    simp only [FT.ob.injEq] at hf
    simp only [bf, T.ob.injEq, true_and] at hs
    obtain ⟨rfl, h1⟩ := hf
    exact ⟨hb', hx _ h1 hs hr⟩
 | obp p x hx =>
   intro rt hf hs hr
   cases rt <;> simp only [cU, toF] at hf <;> first | (cases hf; done) | skip
   ·simp only [FT.obp.injEq] at hf
    simp only [bf, T.obp.injEq, true_and] at hs
    obtain ⟨rfl, h1⟩ := hf
    exact ⟨trivial, hx _ h1 hs hr⟩
   ·simp only [FT.obp.injEq] at hf
    simp only [bf, T.obp.injEq, true_and] at hs
    obtain ⟨rfl, h1⟩ := hf
    exact ⟨hr.1, hx _ h1 hs hr.2⟩
 | obi c d x hx =>
   intro rt hf hs hr
   cases rt <;> simp only [cU, toF] at hf <;> first | (cases hf; done) | skip
   ·simp only [FT.ob.injEq] at hf
    simp only [bf, T.obi.injEq, true_and] at hs
    obtain ⟨rfl, h1⟩ := hf
    exact ⟨fun _ => hr.1, hx _ h1 hs hr.2⟩
   ·simp only [FT.obt.injEq] at hf
    simp only [bf, T.obi.injEq, true_and] at hs
    obtain ⟨rfl, h1⟩ := hf
    exact ⟨fun _ => rfl, hx _ h1 hs hr⟩
   ·rename_i b' hb' x'
    simp only [FT.ob.injEq] at hf
    simp only [bf, T.obi.injEq, true_and] at hs
    obtain ⟨rfl, h1⟩ := hf
    exact ⟨fun _ => hb', hx _ h1 hs hr⟩
   ·simp only [FT.obi.injEq] at hf
    simp only [bf, T.obi.injEq, true_and] at hs
    obtain ⟨h0, h1⟩ := hs
    subst h0
    exact ⟨id, hx _ hf h1 hr⟩
   ·simp only [FT.obj.injEq] at hf
    simp only [bf, T.obi.injEq, true_and] at hs
    obtain ⟨rfl, rfl, h1⟩ := hf
    exact ⟨hr.1, hx _ h1 hs hr.2⟩
 | obq a b x hx =>
   intro rt hf hs hr
   have gen : J8 a b (cU D x) rt = cU D x rt -> HO a b (bf x) rt = .obq a a (bf x rt) -> sat LP (.obq a b x) Q := fun e1 e2 => by
    have hs' : T.obq a a (bf x rt) = T.obq a b x := e2.symm.trans hs
    simp only [T.obq.injEq, true_and] at hs'
    exact ⟨hs'.1, hx _ (e1.symm.trans hf) hs'.2 hr⟩
   cases rt <;> first | exact gen rfl rfl | skip
   rename_i ts ds x'
   have hf' : FT.obe a b (cU D x x') = FT.obe (gk ts ds []) (gi ts ds []) (toF D x') := hf
   have hs' : T.obq a b (bf x x') = T.obq a b x := hs
   simp only [FT.obe.injEq] at hf'
   simp only [T.obq.injEq, true_and] at hs'
   obtain ⟨rfl, rfl, h1⟩ := hf'
   exact ⟨hr.1, hx _ h1 hs' hr.2⟩
 | fail n =>
   intro rt hf hs hr
   cases rt <;> simp only [cU, toF] at hf <;> first | (cases hf; done) | exact hr.elim
 | loop fr b e h g k hk =>
   intro rt hf hs hr
   cases rt <;> simp only [cU, toF] at hf <;> first | (cases hf; done) | skip
   ·simp only [FT.loop.injEq] at hf
    obtain ⟨rfl, rfl, rfl, rfl, h1, h2, h3, h4⟩ := hf
    exact hloop _ e h hr (oA w0 h1 h2 h3 h4)
   ·simp only [FT.loopz.injEq] at hf
    obtain ⟨hc, hz, hfr, rfl, rfl, rfl, rfl, h1, h2, h3, h4⟩ := hf
    exact hloop _ e h hr ((yo w0 hc hz hfr).trans (oA w0 h1 h2 h3 h4))
 | all f hf0 =>
   intro rt hf hs hr
   cases rt <;> simp only [cU, toF] at hf <;> first | (cases hf; done) | skip
   simp only [FT.all.injEq] at hf
   simp only [bf, T.all.injEq] at hs
   exact fun l => hf0 l _ (congrFun hf l) (congrFun hs l) (hr l)
 | und x y hx hy =>
   intro rt hf hs hr
   cases rt <;> simp only [cU, toF] at hf <;> first | (cases hf; done) | skip
   simp only [FT.und.injEq] at hf
   simp only [bf, T.und.injEq] at hs
   exact ⟨hx _ hf.1 hs.1 hr.1, hy _ hf.2 hs.2 hr.2⟩
 | asm p x hx =>
   intro rt hf hs hr
   cases rt <;> simp only [cU, toF] at hf <;> first | (cases hf; done) | skip
   simp only [FT.asm.injEq] at hf
   simp only [bf, T.asm.injEq, true_and] at hs
   obtain ⟨rfl, h1⟩ := hf
   exact fun hp => hx _ h1 hs (hr hp)
def rdT (ct : bj) (un : Unr) (j : J) (l : Lp J) (e : Env) (h : List O) (g : Option Ex) : T (ca J) :=
 match l.body with
 | .s body => dE (evC (lU ct l.fr.1) (mQ ct) un l.fr 0 body e h fun x e h => .ret (x, e, h)) fun r => match r.1 with
   | .normal => .ret (.head j r.2.1 r.2.2 none)
   | x => l.k x r.2.1 r.2.2 none
 | .i body rd => dE (jq (lU ct l.fr.1) (mQ ct) un l.fr rd (rdY (lU ct l.fr.1) (mQ ct) un l.fr.1 0 rd) 0 body e h g fun x e h g => .ret (x, e, h, g)) fun r => match r.1 with
   | .normal => .ret (.head j r.2.1 r.2.2.1 r.2.2.2)
   | x => l.k x r.2.1 r.2.2.1 r.2.2.2
def rdS (ct : bj) (un : Unr) (D : LD J S) (s : S) : T (ca J) := rdT ct un (D.id s) (D.lp (D.id s)) (D.inv s).1 (D.inv s).2.1 (D.inv s).2.2
def QN (w0 : World) (D : LD J S) (step : S -> RT S) (r : V) (n : Nat) : ca J -> Prop
 | .res v => toA v = toA r
 | .head j e h g => ∃ s, D.id s = j /\ (D.inv s).2.2 = g /\ eG w0 (D.lp (D.id s)).fr.2 e h (D.inv s).1 (D.inv s).2.1 /\ EvN step n s r
theorem oB {w0 : World} {D : LD J S} {step : S -> RT S} {r : V} {n m : Nat} (hm : n <= m) : ∀ a, QN w0 D step r n a -> QN w0 D step r m a
 | .res v, h => h
 | .head j e h g, ⟨s, h1, h2, h3, h4⟩ => ⟨s, h1, h2, h3, o7 h4 hm⟩
theorem Ge {w0 : World} {S : uY} {fr : Nat × Nat} {body : dp} {e : Env} {h : List O} {g : Option Ex} {P : Ex -> Env -> List O -> Option Ex -> Prop} (hl : bU w0 S (fr.1, fr.2) (.s body) e h none P) : bU w0 S fr (.s body) e h g P := hl
theorem HG {ct : bj} {un : Unr} {w0 : World} (hd : ll ct = true) {D : LD J S} {step : S -> RT S} {r : V} (hs : ∀ s, cU D (rdS ct un D s) (step s) = toF D (step s)) (hq : ∀ s, bf (rdS ct un D s) (step s) = rdS ct un D s) :
 ∀ (n : Nat) (s : S) (e : Env) (h : List O), EvN step n s r -> eG w0 (D.lp (D.id s)).fr.2 e h (D.inv s).1 (D.inv s).2.1 ->
 bU w0 (SV ct) (D.lp (D.id s)).fr (D.lp (D.id s)).body e h (D.inv s).2.2 fun x e h g => sat (bU w0 (SV ct)) ((D.lp (D.id s)).k x e h g) (QN w0 D step r n) := by
 intro n
 induction n using Nat.strongRecOn with
 | ind n ih =>
   intro s e h hn hsub
   have key : ∀ (p : Nat) (s' : S), p <= n -> EvN step p s' r -> ∃ m, p = m + 1 /\ sat (bU w0 (SV ct)) (rdS ct un D s') (QN w0 D step r m) := by
    intro p s' hp he
    match p, hp, he with
    | 0, _, he => exact he.elim
    | m + 1, hp, he =>
      exact ⟨m, rfl, tt (w0 := w0) (Nx := EvN step m) (fun v hv => hv) (fun s e h h1 h2 => ⟨s, rfl, rfl, h2, h1⟩) (fun s e h h1 h2 => ih m (by omega) s e h h1 h2) _ _ (hs s') (hq s') he⟩
   generalize hj : D.id s = j at *
   match hb : (D.lp j).body with
   | .s body =>
     refine Ge (JN (un := un) hd 0 {p : Nat × S // p.1 <= n /\ EvN step p.1 p.2 r /\ D.id p.2 = j} (fun p => ((D.inv p.1.2).1, (D.inv p.1.2).2.1)) (fun p => p.1.1) ⟨⟨(n, s), Nat.le_refl _, hn, hj⟩, hsub⟩ ?_)
     rintro ⟨⟨p, s'⟩, hp, he, hj'⟩
     obtain ⟨m, hpm, hk⟩ := key p s' hp he
     simp only at hj' hp hpm
     unfold rdS rdT at hk
     rw [hj', hb] at hk
     simp only [tw] at hk
     refine gq (ed _ _) (fun a ha => ?_) _ hk
     obtain ⟨x, e', h'⟩ := a
     cases x with
     | normal =>
       obtain ⟨s2, g1, g2, g3, g4⟩ := ha
       rw [g1] at g3
       exact ⟨⟨(m, s2), by omega, g4, g1⟩, g3, by simp only; omega⟩
     | exit i => exact gq (ed _ _) (oB (by omega)) _ ha
     | ret => exact gq (ed _ _) (oB (by omega)) _ ha
   | .i body rd =>
     refine F9 (un := un) hd 0 0 {p : Nat × S // p.1 <= n /\ EvN step p.1 p.2 r /\ D.id p.2 = j} (fun p => D.inv p.1.2) (fun p => p.1.1) ⟨⟨(n, s), Nat.le_refl _, hn, hj⟩, rfl, hsub⟩ ?_
     rintro ⟨⟨p, s'⟩, hp, he, hj'⟩
     obtain ⟨m, hpm, hk⟩ := key p s' hp he
     simp only at hj' hp hpm
     unfold rdS rdT at hk
     rw [hj', hb] at hk
     simp only [tw] at hk
     refine gq (ed _ _) (fun a ha => ?_) _ hk
     obtain ⟨x, e', h', g'⟩ := a
     cases x with
     | normal =>
       obtain ⟨s2, g1, g2, g3, g4⟩ := ha
       rw [g1] at g3
       exact ⟨⟨(m, s2), by omega, g4, g1⟩, g2.symm, g3, by simp only; omega⟩
     | exit i => exact gq (ed _ _) (oB (by omega)) _ ha
     | ret => exact gq (ed _ _) (oB (by omega)) _ ha
def bk (J : Type) (ct : bj) (un : Unr) (sf : aT) (ds : List V) : T (ca J) := pr (lU ct LV) (mQ ct) un LV sf ds [] fun v _ => .ret (.res v)
def p8 (r : V) : ca J -> Prop
 | .res v => toA v = toA r
 | .head .. => True
theorem Ff {w0 : World} {D : LD J S} {step : S -> RT S} {r : V} {n : Nat} : ∀ a, QN w0 D step r n a -> p8 r a
 | .res v, h => h
 | .head .., _ => trivial
theorem Hc {ct : bj} {un : Unr} {w0 : World} (hd : ll ct = true) {t : T (ca J)} (D : LD J S) (step : S -> RT S) (m : RT S) {r : V} (h1 : cU D t m = toF D m) (h2 : bf t m = t)
 (hs : ∀ s, cU D (rdS ct un D s) (step s) = toF D (step s)) (hq : ∀ s, bf (rdS ct un D s) (step s) = rdS ct un D s) (hr : evR (Ev step) m r) : sat (bU w0 (SV ct)) t (p8 r) :=
 tt (w0 := w0) (Nx := Ev step) (fun v hv => hv) (fun _ _ _ _ _ => trivial) (fun s e h ⟨n, hn⟩ hsub => ed _ _ _ _ _ _ _ _ _ (fun x e h g hk => gq (ed _ _) Ff _ hk) (HG hd hs hq n s e h hn hsub)) _ _ h1 h2 hr
theorem jC {ts : List Ty} (h : ts.all a6 = true) (n : Nat) (f : FnV) : fO n (fun i => okE (aX ts) (elV ts f i)) = true := mA fun i _ => fV h _
def lpT : T (ca J) -> Lp J
 | .loop fr b _ _ _ k => ⟨fr, b, k⟩
 | _ => ⟨(0, 0), .s .skip, fun _ _ _ _ => .fail 0⟩
def noD : LD J Empty := ⟨fun s => (Empty.elim s), fun _ => ⟨(0, 0), .s .skip, fun _ _ _ _ => .fail 0⟩, fun s => (Empty.elim s)⟩
def noE : Empty -> V -> Prop := fun s => Empty.elim s
theorem C1 {ct : bj} {w0 : World} (hd : ll ct = true) {t : T (ca J)} (m : RT Empty) {r : V} (h1 : cU noD t m = toF noD m) (h2 : bf t m = t) (hr : evR noE m r) : sat (bU w0 (SV ct)) t (p8 r) :=
 tt (w0 := w0) (Nx := noE) (fun v hv => hv) (fun s => (Empty.elim s)) (fun s => (Empty.elim s)) _ _ h1 h2 hr
def Fit (D : LD J S) (t : T (ca J)) (m : RT S) : Prop := cU D t m = toF D m /\ bf t m = t
def jF (ct : bj) (un : Unr) (D : LD J S) (t : T (ca J)) (m : RT S) (st : S -> RT S) : Prop := Fit D t m /\ ∀ s, Fit D (rdS ct un D s) (st s)
def Run (ct : bj) (t : T (ca J)) (r : V) : Prop := ll ct = true -> ∀ w0, sat (bU w0 (SV ct)) t (p8 r)
theorem rf0 {ct : bj} {t : T (ca J)} {m : RT Empty} {r : V} (h : Fit noD t m) (hr : evR noE m r) : Run ct t r := fun hd _ => C1 hd m h.1 h.2 hr
theorem rfs {ct : bj} {un : Unr} {D : LD J S} {t : T (ca J)} {m : RT S} {st : S -> RT S} {r : V} (h : jF ct un D t m st) (hr : evR (Ev st) m r) : Run ct t r := fun hd _ => Hc hd D st m h.1.1 h.1.2 (fun s => (h.2 s).1) (fun s => (h.2 s).2) hr
inductive Cx where
 | i (n : Int)
 | n (n : Nat)
 | b (b : Bool)
 | s (s : ByteArray)
 | f (f : FnV)
def cxi : List Cx -> Nat -> Int
 | .i n :: _, 0 => n
 | _ :: l, k + 1 => cxi l k
 | _, _ => 0
def cxn : List Cx -> Nat -> Nat
 | .n n :: _, 0 => n
 | _ :: l, k + 1 => cxn l k
 | _, _ => 0
def cxf : List Cx -> Nat -> Nat -> List V
 | .f n :: _, 0 => n
 | _ :: l, k + 1 => cxf l k
 | _, _ => fun _ => []
abbrev JJ := Nat × List Cx
theorem Bk {P : Program} {eqs : List TypeId} {its : List gS} {ct : bj} {f : FuncId} {fn : Func} {sf : aT} {un : Unr} {ts : List Ty} {pre : List V -> Prop} {r : List V -> V} (hT : be P eqs its ct) (hE : ∀ t ∈ eqs, cW P t) (hI : nX P eqs its) (hf : P.funcs[f]? = some fn)
 (hn : (fn.name == "runtime.NumGoroutine") = false) (hc : eZ P eqs its fn = some sf) (hd : eF sf.ntmps sf.body = true) (ho : ff ts = true)
 (h : ∀ w0 ds, pre (ap ts ds) -> sat (bU w0 (SV ct)) (bk J ct un sf (ap ts ds)) (p8 (r (ap ts ds)))) : (vP (mkC ts pre r)).Ok P f :=
 DG (α := ca J) (K0 := fun v => .ret (.res v)) (Q0 := p8) (fun _ _ _ h => h) hT hE hI hf hn hc hd ho h
end
end Go.Dx
namespace Go.Sx
def l7 (P : Program) (t : TypeId) : Bool := match P.underlying t with
 | some (.int _) => true
 | _ => false
def kH (P : Program) : List Field -> Nat -> Bool
 | [], _ => true
 | f :: fs, i => decide (f.name ≠ "_") && Nat.beq f.offset i && l7 P f.type && kH P fs (i + 1)
section
variable {P : Program} {m : aq}
theorem qm {t : TypeId} (h : l7 P t = true) : ∃ k, P.underlying t = some (.int k) := by
 unfold l7 at h
 split at h
 ·rename_i k hk; exact ⟨k, hk⟩
 ·cases h
theorem fK {t : TypeId} {k : IntKind} (ht : P.underlying t = some (.int k)) {us : Array Value} {i : Nat} {v : Value} (hv : us[i]? = some v) (w : World) : (part t us i).run P w = .ok v w := by
 unfold part
 have hi : (isAgg t).run P w = .ok false w := by
  unfold isAgg
  rw [aa (am ht w)]; rfl
 rw [aa hi]
 simp only [Bool.false_eq_true, if_false, hv]
 rfl
theorem kV {d : Nat} : ∀ (fs : List Field) (i : Nat) (xs ys : List ab) (us vs : Array Value) (b : Bool) (w : World), kH P fs i = true -> fs.length = xs.length -> ah m xs (us.toList.drop i) -> ah m ys (vs.toList.drop i) -> bQ xs ys = some b ->
 (Op.eqFields (d + 1) us vs fs).run P w = .ok b w
 | [], i, xs, ys, us, vs, b, w, _, hl, _, _, hb => by
   cases xs with
   | cons _ _ => simp at hl
   | nil => cases ys with
     | nil => simp [bQ] at hb; subst hb; rfl
     | cons _ _ => simp [bQ] at hb
 | f :: fs, i, xs, ys, us, vs, b, w, hf, hl, hx, hy, hb => by
   simp only [kH, Bool.and_eq_true, decide_eq_true_eq] at hf
   obtain ⟨⟨⟨h1, h2⟩, h3⟩, h4⟩ := hf
   obtain ⟨k, hk⟩ := qm h3
   have ho := Nat.eq_of_beq_eq_true h2
   cases xs with
   | nil => simp at hl
   | cons x xs => cases ys with
     | nil => cases x <;> simp [bQ] at hb
     | cons y ys =>
       cases x <;> try (simp [bQ] at hb; done)
       rename_i ka a
       cases y <;> try (simp [bQ] at hb; done)
       rename_i kb c
       simp only [bQ] at hb
       split at hb
       ·rename_i hkk
        subst hkk
        simp only [Option.map_eq_some_iff] at hb
        obtain ⟨b', hb', rfl⟩ := hb
        simp only [ah] at hx hy
        obtain ⟨u, us', hu, hur, hus⟩ := hx
        obtain ⟨v, vs', hv, hvr, hvs⟩ := hy
        simp only [vrel] at hur hvr
        subst hur; subst hvr
        have gu : us[i]? = some (.int ka a) := by
         have := congrArg (·[0]?) hu
         simpa using this
        have gv : vs[i]? = some (.int ka c) := by
         have := congrArg (·[0]?) hv
         simpa using this
        have du : us.toList.drop (i + 1) = us' := by rw [← List.drop_drop, hu]; rfl
        have dv : vs.toList.drop (i + 1) = vs' := by rw [← List.drop_drop, hv]; rfl
        simp only [Op.eqFields]
        rw [if_pos h1, ho, aa (fK hk gu w), aa (fK hk gv w), aa (run_equalIn_int w d f.type ka k a c hk)]
        cases hac : (a == c) with
        | false => simp only [Bool.not_false, if_true, Bool.false_and]; rfl
        | true =>
          simp only [Bool.not_true, Bool.false_eq_true, if_false, Bool.true_and]
          exact kV fs (i + 1) xs ys us vs b' w h4 (by simpa using hl) (by rw [du]; exact hus) (by rw [dv]; exact hvs) hb'
       ·cases hb
theorem eY {t : TypeId} (ht : P.underlying t = some (.struct (P.fieldsOf t))) (hp : P.stoodInHeld t = false) (hg : P.eqGuardType P.depth t = false) (hn : (P.info? t).map (·.size) = some (P.fieldsOf t).toList.length) (hf : kH P (P.fieldsOf t).toList 0 = true) : cW P t := by
 refine ⟨hg, fun n hn' xs ys us vs m b w hl hx hy hb => ?_⟩
 rw [hn] at hn'; cases hn'
 unfold Op.equal
 rw [show Op.maxDepth = 9998 + 1 + 1 from rfl, run_equalIn_struct w _ t us vs ht hp]
 exact kV (d := 9998) _ 0 xs ys us vs b w hf hl.symm (by simpa using hx) (by simpa using hy) hb
theorem mq {d : Nat} {e : TypeId} (he : l7 P e = true) (h1 : P.cellsOf e = 1) : ∀ (n i : Nat) (xs ys : List ab) (us vs : Array Value) (b : Bool) (w : World), n = xs.length -> ah m xs (us.toList.drop i) -> ah m ys (vs.toList.drop i) -> bQ xs ys = some b ->
 (Op.eqItems (d + 1) e (P.cellsOf e) us vs (List.range' i n)).run P w = .ok b w
 | 0, i, xs, ys, us, vs, b, w, hl, _, _, hb => by
   cases xs with
   | cons _ _ => simp at hl
   | nil => cases ys with
     | nil => simp [bQ] at hb; subst hb; rfl
     | cons _ _ => simp [bQ] at hb
 | n + 1, i, xs, ys, us, vs, b, w, hl, hx, hy, hb => by
   obtain ⟨k, hk⟩ := qm he
   cases xs with
   | nil => simp at hl
   | cons x xs => cases ys with
     | nil => cases x <;> simp [bQ] at hb
     | cons y ys =>
       cases x <;> try (simp [bQ] at hb; done)
       rename_i ka a
       cases y <;> try (simp [bQ] at hb; done)
       rename_i kb c
       simp only [bQ] at hb
       split at hb
       ·rename_i hkk
        subst hkk
        simp only [Option.map_eq_some_iff] at hb
        obtain ⟨b', hb', rfl⟩ := hb
        simp only [ah] at hx hy
        obtain ⟨u, us', hu, hur, hus⟩ := hx
        obtain ⟨v, vs', hv, hvr, hvs⟩ := hy
        simp only [vrel] at hur hvr
        subst hur; subst hvr
        have gu : us[i]? = some (.int ka a) := by
         have := congrArg (·[0]?) hu
         simpa using this
        have gv : vs[i]? = some (.int ka c) := by
         have := congrArg (·[0]?) hv
         simpa using this
        have du : us.toList.drop (i + 1) = us' := by rw [← List.drop_drop, hu]; rfl
        have dv : vs.toList.drop (i + 1) = vs' := by rw [← List.drop_drop, hv]; rfl
        rw [List.range'_succ]
        simp only [Op.eqItems, h1, Nat.mul_one]
        rw [aa (fK hk gu w), aa (fK hk gv w), aa (run_equalIn_int w d e ka k a c hk)]
        cases hac : (a == c) with
        | false => simp only [Bool.not_false, if_true, Bool.false_and]; rfl
        | true =>
          simp only [Bool.not_true, Bool.false_eq_true, if_false, Bool.true_and]
          have := mq (d := d) he h1 n (i + 1) xs ys us vs b' w (by simpa using hl) (by rw [du]; exact hus) (by rw [dv]; exact hvs) hb'
          rw [h1] at this; exact this
       ·cases hb
theorem tq {t : TypeId} (e : TypeId) (n : Nat) (ht : P.underlying t = some (.array n e)) (hi : (P.info? e).isSome = true) (hg : P.eqGuardType P.depth t = false) (hn : (P.info? t).map (·.size) = some n) (h1 : P.cellsOf e = 1) (hf : l7 P e = true) : cW P t := by
 obtain ⟨ie, hi⟩ := Option.isSome_iff_exists.1 hi
 refine ⟨hg, fun n' hn' xs ys us vs m b w hl hx hy hb => ?_⟩
 rw [hn] at hn'; cases hn'
 unfold Op.equal
 rw [show Op.maxDepth = 9998 + 1 + 1 from rfl, run_equalIn_array w _ us vs ht hi, List.range_eq_range']
 exact mq (d := 9998) hf h1 n 0 xs ys us vs b w hl.symm (by simpa using hx) (by simpa using hy) hb
end
end Go.Sx
namespace Go.Dx
open Go.Sx
def sa (d a : Nat) : SOp := ⟨some d, .mov (.t a), none⟩
def ea (d a : Nat) : DOp := ⟨⟨some d, .mov (.t a), none⟩, none, [], []⟩
def sb (d a : Nat) : SOp := ⟨some d, .ld (.t a), none⟩
def eb (d a : Nat) : DOp := ⟨⟨some d, .ld (.t a), none⟩, none, [], []⟩
def sc (d n a : Nat) : SOp := ⟨some d, .lds n (.t a), none⟩
def ec (d n a : Nat) : DOp := ⟨⟨some d, .lds n (.t a), none⟩, none, [], []⟩
def se (d n a : Nat) : SOp := ⟨some d, .fa n (.t a), none⟩
def ee (d n a : Nat) : DOp := ⟨⟨some d, .fa n (.t a), none⟩, none, [], []⟩
def ki (n : Int) : Arg := .k (.int .i64 n)
def gt (d : Nat) (p : IOp) (g : Nat) : DOp := ⟨⟨some d, p, some (g, true)⟩, none, [], []⟩
def gf (d : Nat) (p : IOp) (g : Nat) : DOp := ⟨⟨some d, p, some (g, false)⟩, none, [], []⟩
def b1 (d : Nat) (o : BinOp) (a b : Nat) : SOp := ⟨some d, .bin o (.t a) (.t b), none⟩
def d1 (d : Nat) (o : BinOp) (a b : Nat) : DOp := ⟨⟨some d, .bin o (.t a) (.t b), none⟩, none, [], []⟩
def b2 (d : Nat) (o : BinOp) (a : Nat) (n : Int) : SOp := ⟨some d, .bin o (.t a) (.k (.int .i64 n)), none⟩
def d2 (d : Nat) (o : BinOp) (a : Nat) (n : Int) : DOp := ⟨⟨some d, .bin o (.t a) (.k (.int .i64 n)), none⟩, none, [], []⟩
def b3 (d f : Nat) (l : List Nat) : SOp := ⟨some d, .call f (l.map .t), none⟩
def d3 (d f : Nat) (l : List Nat) : DOp := ⟨⟨some d, .call f (l.map .t), none⟩, none, [], []⟩
def b4 (d a : Nat) : SOp := ⟨some d, .len (.t a), none⟩
def d4 (d a : Nat) : DOp := ⟨⟨some d, .len (.t a), none⟩, none, [], []⟩
def b5 (d a : Nat) : SOp := ⟨some d, .un .not (.t a), none⟩
def b6 (d : Nat) (n : Int) : SOp := ⟨some d, .mov (.k (.int .i64 n)), none⟩
def b7 (d n a b : Nat) : SOp := ⟨some d, .iaS n (.t a) (.t b), none⟩
def d7 (d n a b : Nat) : DOp := ⟨⟨some d, .iaS n (.t a) (.t b), none⟩, none, [], []⟩
def zs (n : Nat) : List ab := List.replicate n (.int .i64 0)
def b8 (n a b : Nat) : SOp := ⟨none, .st n (.t a) (.t b), none⟩
def rg (l : List SOp) (c : dp) : dp := .seq (.reg l) c
def so (d : Nat) (p : IOp) : SOp := ⟨some d, p, none⟩
def eo (d : Nat) (p : IOp) : DOp := ⟨⟨some d, p, none⟩, none, [], []⟩
def dz (o : SOp) : DOp := ⟨o, none, [], []⟩
def its : List gS := [⟨128, 46, (.seq (.reg [.op ⟨(some 6), .fa 2 (.t 1), none⟩, .op ⟨(some 7), .ld (.t 6), none⟩, .op ⟨(some 8), .len (.t 7), none⟩, .op ⟨(some 9), .bin .sub (.t 8) (ki 1), none⟩, .op ⟨(some 10), .mov (ki 0), none⟩]) (.block 0 (.loop (.seq (.reg [.op ⟨(some 11), .bin .lss (.t 10) (.t 9), none⟩]) (.seq (.cond (.t 11) .skip (.exit 0)) (.seq (.block 1 (.seq (.reg [.op ⟨(some 12), .mov (.t 10), none⟩, .op ⟨(some 3), .mov (.t 12), none⟩]) (.seq (.draw [⟨⟨(some 13), .fa 2 (.t 1), none⟩, none, [11, 12], []⟩, ⟨⟨(some 14), .ld (.t 13), none⟩, none, [11, 12], []⟩, ⟨⟨(some 15), .mov (.t 3), none⟩, none, [11, 12], []⟩, ⟨⟨(some 16), .iaS 2 (.t 14) (.t 15), none⟩, none, [11, 12], []⟩, ⟨⟨(some 17), .lds 2 (.t 16), none⟩, none, [11, 12], []⟩, ⟨⟨(some 18), .fa 2 (.t 1), none⟩, none, [11, 12, 13], []⟩, ⟨⟨(some 19), .ld (.t 18), none⟩, none, [11, 12, 13], []⟩, ⟨⟨(some 20), .mov (.t 3), none⟩, none, [11, 12, 13], []⟩, ⟨⟨(some 21), .bin .add (.t 20) (ki 1), none⟩, none, [11, 12, 13], []⟩, ⟨⟨(some 22), .iaS 2 (.t 19) (.t 21), none⟩, none, [11, 12, 13], []⟩, ⟨⟨(some 23), .lds 2 (.t 22), none⟩, none, [11, 12, 13], []⟩, ⟨⟨(some 4), .new 72 (zs 2), none⟩, (some 0), [12], [.fresh 0]⟩, ⟨⟨(some 5), .new 72 (zs 2), none⟩, (some 1), [11], [.fresh 1]⟩, ⟨(b8 2 4 17), none, [], [.fresh 0]⟩, ⟨(b8 2 5 23), none, [], [.fresh 1]⟩]) (.seq (.reg [.op ⟨(some 24), .mov (.t 0), none⟩, .op ⟨(some 25), .iaA 2 1 (.t 4) (ki 0), none⟩, .op ⟨(some 26), .ld (.t 25), none⟩, .op ⟨(some 27), .bin .mul (ki 2) (.t 26), none⟩, .op ⟨(some 28), .iaA 2 1 (.t 4) (ki 1), none⟩, .op ⟨(some 29), .ld (.t 28), none⟩, .op ⟨(some 30), .bin .mul (ki 2) (.t 29), none⟩, .op ⟨(some 31), .agg (zs 2) [(0, 1, (.t 27)), (1, 1, (.t 30))], none⟩, .op ⟨(some 32), .iaA 2 1 (.t 5) (ki 0), none⟩, .op ⟨(some 33), .ld (.t 32), none⟩, .op ⟨(some 34), .bin .mul (ki 2) (.t 33), none⟩, .op ⟨(some 35), .iaA 2 1 (.t 5) (ki 1), none⟩, .op ⟨(some 36), .ld (.t 35), none⟩, .op ⟨(some 37), .bin .mul (ki 2) (.t 36), none⟩, .op ⟨(some 38), .agg (zs 2) [(0, 1, (.t 34)), (1, 1, (.t 37))], none⟩, .op ⟨(some 39), .agg (zs 4) [(0, 2, (.t 31)), (2, 2, (.t 38))], none⟩, .op ⟨(some 40), .fa 3 (.t 1), none⟩, .op ⟨(some 41), .ld (.t 40), none⟩, .op ⟨(some 42), .agg (zs 5) [(0, 4, (.t 39)), (4, 1, (.t 41))], none⟩, .yld 24 (some 43) [(.t 42)], .op ⟨(some 44), .un .not (.t 43), none⟩]) (.cond (.t 44) .ret .skip))))) (.reg [.op ⟨(some 45), .bin .add (.t 10) (ki 1), none⟩, .op ⟨(some 10), .mov (.t 45), none⟩])))))))⟩]
def s7 : aT := ⟨328,[.tmp 6],(rg [(so 3 (.box 27 (.t 0))),(so 4 (.box 31 (.t 1))),(so 5 (.box 51 (.t 2))),(so 6 (.mov (.k (.bool false))))] (rg [(sc 38 4 3),(so 7 (.new 27 [(.slice none 0 0),(.slice none 0 0),(.slice none 0 0),(.slice none 0 0)])),(b8 4 7 38)] (.seq (.draw [⟨(so 39 (.bsl 54 0 [] [])),(some 0),[4],[.fresh 0]⟩,⟨(se 40 0 3),none,[0,4],[]⟩,⟨(sb 41 40),none,[0,4],[]⟩,⟨(so 42 (.app 54 4 56 [(.str ⟨#[]⟩),(.int .i64 0),(.slice none 0 0),(.int .i64 0)] (.t 39) (.t 41))),(some 1),[4],[.fresh 0,.fresh 1]⟩,⟨(so 43 (.bsl 57 0 [] [])),(some 2),[0,3],[.fresh 2]⟩,⟨(se 44 1 3),none,[0,3,4],[]⟩,⟨(sb 45 44),none,[0,3,4],[]⟩,⟨(so 46 (.app 57 5 40 (zs 5) (.t 43) (.t 45))),(some 3),[],[.fresh 2,.fresh 3]⟩,⟨(se 47 0 7),none,[4,7],[]⟩,⟨(b8 1 47 42),none,[],[.slot 7]⟩,(ee 48 1 7),⟨(b8 1 48 46),none,[],[.slot 7]⟩]) (.seq (rg [(b6 8 0)] (.block 0 (.loop (.seq (rg [(sa 49 8),(se 50 0 7),(sb 51 50),(b4 52 51),(b1 53 .lss 49 52)] (.cond (.t 53) .skip (.exit 0))) (.seq (.block 1 (.draw [(ee 56 0 7),(eb 57 56),(ea 58 8),(ee 59 0 7),(eb 60 59),(ea 61 8),(d7 62 4 60 61),(ee 63 3 62),(eb 64 63),(eo 65 (.mm false (.t 64) [(ki 30000)])),(ee 66 3 5),(eb 67 66),(eo 68 (.conv .i64 (.t 67))),(d1 69 .add 65 68),(d7 70 4 57 58),(ee 71 3 70),⟨(b8 1 71 69),none,[],[.load 7 0]⟩])) (.reg [(sa 54 8),(b2 55 .add 54 1),(sa 8 55)])))))) (.seq (rg [(se 72 1 7),(sb 73 72),(b4 74 73),(b2 75 .gtr 74 0)] (.cond (.t 75) (.seq (.draw [(ee 76 1 7),(eb 77 76),(ee 78 4 5),(eb 79 78),(eo 80 (.conv .i64 (.t 79))),(ee 81 1 7),(eb 82 81),(d4 83 82),(d1 84 .rem 80 83),(d7 85 5 77 84),(ea 9 85)]) (.draw [(ea 86 9),⟨(sa 87 9),none,[33],[]⟩,⟨(sa 88 9),none,[33,36],[]⟩,(ea 89 9),(eo 90 (.nz (.t 89))),(ee 91 2 90),(eb 92 91),(eo 93 (.mm false (.t 92) [(ki 20000)])),(ee 94 0 5),(eb 95 94),(eo 96 (.conv .i64 (.t 95))),(d1 97 .add 93 96),(ea 98 9),(eo 99 (.nz (.t 98))),(ee 100 4 99),(eb 101 100),⟨(so 102 (.mm false (.t 101) [(ki 1000)])),none,[33],[]⟩,⟨(se 103 1 5),none,[33],[]⟩,⟨(sb 104 103),none,[33],[]⟩,⟨(so 105 (.conv .i64 (.t 104))),none,[33],[]⟩,⟨(b1 106 .add 102 105),none,[33],[]⟩,(ea 107 9),(eo 108 (.nz (.t 107))),(ee 109 3 108),(eb 110 109),⟨(so 111 (.mm false (.t 110) [(ki 1000)])),none,[33,36],[]⟩,⟨(se 112 2 5),none,[33,36],[]⟩,⟨(sb 113 112),none,[33,36],[]⟩,⟨(so 114 (.conv .i64 (.t 113))),none,[33,36],[]⟩,⟨(b1 115 .sub 111 114),none,[33,36],[]⟩,⟨(so 116 (.mm true (ki 0) [(.t 115)])),none,[33,36],[]⟩,(eo 117 (.nz (.t 86))),(ee 118 2 117),⟨(b8 1 118 97),none,[],[.slot 9]⟩,(eo 119 (.nz (.t 87))),(ee 120 4 119),⟨(b8 1 120 106),none,[],[.slot 9]⟩,(eo 121 (.nz (.t 88))),(ee 122 3 121),⟨(b8 1 122 116),none,[],[.slot 9]⟩])) .skip)) (rg [(sc 123 4 3),(so 10 (.new 27 [(.slice none 0 0),(.slice none 0 0),(.slice none 0 0),(.slice none 0 0)])),(b8 4 10 123)] (.seq (.draw [⟨(so 124 (.bsl 57 0 [] [])),(some 0),[17],[.fresh 0]⟩,⟨(se 125 1 3),none,[0,17],[]⟩,⟨(sb 126 125),none,[0,17],[]⟩,⟨(so 127 (.app 57 5 40 (zs 5) (.t 124) (.t 126))),(some 1),[17],[.fresh 0,.fresh 1]⟩,⟨(se 128 1 4),none,[0,3],[]⟩,⟨(sb 129 128),none,[0,3],[]⟩,⟨(se 130 2 4),none,[0,3],[]⟩,⟨(sb 131 130),none,[0,3],[]⟩,⟨(se 132 0 5),none,[0,3],[]⟩,⟨(sb 133 132),none,[0,3],[]⟩,⟨(so 134 (.conv .i64 (.t 133))),none,[0,3],[]⟩,⟨(so 135 (.bin .add (ki 1) (.t 134))),none,[0,3],[]⟩,⟨(se 136 1 5),none,[0,3],[]⟩,⟨(sb 137 136),none,[0,3],[]⟩,⟨(so 138 (.conv .i64 (.t 137))),none,[0,3],[]⟩,⟨(so 139 (.bin .add (ki 1) (.t 138))),none,[0,3],[]⟩,⟨(so 140 (.agg (zs 5) [(0,1,(.t 129)),(1,1,(.t 131)),(2,1,(.t 135)),(3,1,(ki 0)),(4,1,(.t 139))])),none,[0,3],[]⟩,⟨(so 141 (.bsl 57 1 (zs 5) [(0,5,(.t 140))])),(some 2),[0,3],[.fresh 2]⟩,⟨(so 142 (.app 57 5 40 (zs 5) (.t 127) (.t 141))),(some 3),[],[.fresh 0,.fresh 1,.fresh 3]⟩,(ee 143 1 10),⟨(b8 1 143 142),none,[],[.slot 10]⟩]) (rg [(sc 145 4 3),(b3 146 23 [145]),(sa 144 146),(so 147 (.ext (.t 144) 0)),(so 148 (.ext (.t 144) 1)),(so 149 (.ext (.t 144) 2)),(sa 11 147),(sa 12 148),(sa 13 149)] (rg [(sc 151 4 7),(b3 152 23 [151]),(sa 150 152),(so 153 (.ext (.t 150) 0)),(so 154 (.ext (.t 150) 1)),(so 155 (.ext (.t 150) 2)),(sa 14 153),(sa 15 154),(sa 16 155)] (rg [(sc 157 4 10),(b3 158 23 [157]),(sa 156 158),(so 159 (.ext (.t 156) 0)),(so 160 (.ext (.t 156) 1)),(so 161 (.ext (.t 156) 2)),(sa 17 159),(sa 18 160),(sa 19 161)] (.seq (rg [(sa 162 13),(b2 163 .neq 162 0)] (.cond (.t 163) (rg [(so 164 (.call 19 [])),(sa 6 164)] .ret) .skip)) (rg [(sc 166 4 3),(se 167 0 4),(sb 168 167),(se 169 1 4),(sb 170 169),(se 171 2 4),(sb 172 171),(b3 173 15 [166,168,170,172]),(sa 165 173),(so 174 (.ext (.t 165) 0)),(so 175 (.ext (.t 165) 1)),(sa 20 174),(sa 13 175)] (rg [(sc 177 4 3),(se 178 0 4),(sb 179 178),(se 180 3 4),(sc 181 4 180),(b3 182 17 [177,179,181]),(sa 176 182),(so 183 (.ext (.t 176) 0)),(so 184 (.ext (.t 176) 1)),(sa 21 183),(sa 22 184)] (rg [(sc 186 4 3),(se 187 0 4),(sb 188 187),(se 189 1 4),(sb 190 189),(se 191 2 4),(sb 192 191),(b3 193 25 [186,188,190,192]),(sa 185 193),(so 194 (.ext (.t 185) 0)),(so 195 (.ext (.t 185) 1)),(sa 23 194),(sa 24 195)] (rg [(sc 197 4 3),(se 198 0 4),(sb 199 198),(se 200 3 4),(sc 201 4 200),(b3 202 22 [197,199,201]),(sa 196 202),(so 203 (.ext (.t 196) 0)),(so 204 (.ext (.t 196) 1)),(sa 25 203),(sa 26 204)] (.seq (rg [(sa 205 16),(b2 206 .eql 205 0)] (.cond (.t 206) (rg [(sc 208 4 7),(se 209 0 4),(sb 210 209),(se 211 1 4),(sb 212 211),(se 213 2 4),(sb 214 213),(b3 215 15 [208,210,212,214]),(sa 207 215),(so 216 (.ext (.t 207) 0)),(so 217 (.ext (.t 207) 1)),(sa 27 216),(sa 28 217)] (rg [(sc 219 4 7),(se 220 0 4),(sb 221 220),(se 222 3 4),(sc 223 4 222),(b3 224 17 [219,221,223]),(sa 218 224),(so 225 (.ext (.t 218) 0)),(so 226 (.ext (.t 218) 1)),(sa 29 225),(sa 30 226)] (.seq (rg [(sa 227 13),(sa 228 28),(b1 229 .neq 227 228),(sa 230 229),⟨(some 231),.mov (.t 20),(some (230,false))⟩,⟨(some 232),.bin .geq (.t 231) (ki 0),(some (230,false))⟩,⟨(some 233),.mov (.t 232),(some (230,false))⟩,⟨(some 234),.mov (.t 27),(some (233,true))⟩,⟨(some 235),.bin .lss (.t 234) (ki 0),(some (233,true))⟩,⟨(some 236),.mov (.t 235),(some (233,true))⟩,⟨(some 237),.mov (.t 27),(some (236,false))⟩,⟨(some 238),.mov (.t 20),(some (236,false))⟩,⟨(some 239),.bin .gtr (.t 237) (.t 238),(some (236,false))⟩,⟨(some 240),.pick (.t 236) (.k (.bool true)) (.t 239),(some (233,true))⟩,⟨(some 241),.pick (.t 233) (.t 240) (.k (.bool false)),(some (230,false))⟩,(so 242 (.pick (.t 230) (.k (.bool true)) (.t 241))),(sa 243 242),⟨(some 244),.mov (.t 29),(some (243,false))⟩,⟨(some 245),.mov (.t 21),(some (243,false))⟩,⟨(some 246),.bin .lss (.t 244) (.t 245),(some (243,false))⟩,(so 247 (.pick (.t 243) (.k (.bool true)) (.t 246)))] (.cond (.t 247) (rg [(so 6 (.mov (.k (.bool false))))] .ret) .skip)) (rg [(sc 249 4 7),(se 250 0 4),(sb 251 250),(se 252 1 4),(sb 253 252),(se 254 2 4),(sb 255 254),(b3 256 25 [249,251,253,255]),(sa 248 256),(so 257 (.ext (.t 248) 0)),(so 258 (.ext (.t 248) 1)),(sa 31 257),(sa 28 258)] (rg [(sc 260 4 7),(se 261 0 4),(sb 262 261),(se 263 3 4),(sc 264 4 263),(b3 265 22 [260,262,264]),(sa 259 265),(so 266 (.ext (.t 259) 0)),(so 267 (.ext (.t 259) 1)),(sa 32 266),(sa 33 267)] (rg [(sa 268 28),(sa 269 24),(b1 270 .neq 268 269),(sa 271 270),⟨(some 272),.mov (.t 33),(some (271,false))⟩,⟨(some 273),.mov (.t 26),(some (271,false))⟩,⟨(some 274),.bin .neq (.t 272) (.t 273),(some (271,false))⟩,(so 275 (.pick (.t 271) (.k (.bool true)) (.t 274))),(sa 276 275),⟨(some 277),.mov (.t 23),(some (276,false))⟩,⟨(some 278),.mov (.t 277),(some (276,false))⟩,⟨(some 279),.mov (.t 31),(some (278,true))⟩,⟨(some 280),.un .not (.t 279),(some (278,true))⟩,⟨(some 281),.pick (.t 278) (.t 280) (.k (.bool false)),(some (276,false))⟩,(so 282 (.pick (.t 276) (.k (.bool true)) (.t 281))),(sa 283 282),⟨(some 284),.mov (.t 32),(some (283,false))⟩,⟨(some 285),.mov (.t 25),(some (283,false))⟩,⟨(some 286),.bin .lss (.t 284) (.t 285),(some (283,false))⟩,(so 287 (.pick (.t 283) (.k (.bool true)) (.t 286)))] (.cond (.t 287) (rg [(so 6 (.mov (.k (.bool false))))] .ret) .skip))))))) .skip)) (.seq (rg [(sa 288 19),(b2 289 .eql 288 0)] (.cond (.t 289) (rg [(sc 291 4 10),(se 292 0 4),(sb 293 292),(se 294 1 4),(sb 295 294),(se 296 2 4),(sb 297 296),(b3 298 15 [291,293,295,297]),(sa 290 298),(so 299 (.ext (.t 290) 0)),(so 300 (.ext (.t 290) 1)),(sa 34 299),(sa 35 300)] (rg [(sc 302 4 10),(se 303 0 4),(sb 304 303),(se 305 3 4),(sc 306 4 305),(b3 307 17 [302,304,306]),(sa 301 307),(so 308 (.ext (.t 301) 0)),(so 309 (.ext (.t 301) 1)),(sa 36 308),(sa 37 309)] (rg [(sa 310 13),(sa 311 35),(b1 312 .neq 310 311),(sa 313 312),⟨(some 314),.mov (.t 20),(some (313,false))⟩,⟨(some 315),.bin .geq (.t 314) (ki 0),(some (313,false))⟩,⟨(some 316),.mov (.t 315),(some (313,false))⟩,⟨(some 317),.mov (.t 34),(some (316,true))⟩,⟨(some 318),.mov (.t 20),(some (316,true))⟩,⟨(some 319),.bin .neq (.t 317) (.t 318),(some (316,true))⟩,⟨(some 320),.pick (.t 316) (.t 319) (.k (.bool false)),(some (313,false))⟩,(so 321 (.pick (.t 313) (.k (.bool true)) (.t 320))),(sa 322 321),⟨(some 323),.mov (.t 36),(some (322,false))⟩,⟨(some 324),.mov (.t 21),(some (322,false))⟩,⟨(some 325),.bin .lss (.t 323) (.t 324),(some (322,false))⟩,(so 326 (.pick (.t 322) (.k (.bool true)) (.t 325)))] (.cond (.t 326) (rg [(so 6 (.mov (.k (.bool false))))] .ret) .skip)))) .skip)) (rg [(so 327 (.call 19 [])),(sa 6 327)] .ret))))))))))))))))))⟩
def s15 : aT := ⟨30,[.tmp 8,.tmp 9],(rg [(so 4 (.box 27 (.t 0))),(so 5 (.box 3 (.t 1))),(so 6 (.box 3 (.t 2))),(so 7 (.box 3 (.t 3))),(b6 8 0),(b6 9 0)] (rg [(sc 10 4 4),(sb 11 5),(se 12 3 4),(sb 13 12),(b4 14 13),(so 15 (.bsl 3 2 (zs 2) [(0,1,(.t 11)),(1,1,(.t 14))])),(b3 16 44 [10,15]),(sa 9 16)] (.seq (.block 0 (rg [(sa 18 9),(b2 19 .neq 18 0),(sa 17 19)] (.cond (.t 17) (rg [(sa 20 9),(b6 8 0),(sa 9 20)] .ret) (rg [(sb 22 6),(sb 23 7),(so 24 (.bsl 3 2 (zs 2) [(0,1,(.t 22)),(1,1,(.t 23))])),(b3 25 45 [24]),(sa 21 25)] (.cond (.t 21) (rg [(b6 8 0),(b6 9 7)] .ret) .skip))))) (rg [(se 26 1 4),(sb 27 26),(so 28 (.mkf (.func 47) [] [(.t 4),(.t 5),(.t 6),(.t 7)])),(b3 29 46 [27,28]),(sa 8 29),(b6 9 0)] .ret))))⟩
def s17 : aT := ⟨57,[.tmp 6,.tmp 7],(rg [(so 3 (.box 27 (.t 0))),(so 5 (.box 29 (.t 2))),(b6 6 0),(b6 7 0)] (rg [(sc 14 4 3),(sa 15 1),(se 16 3 3),(sb 17 16),(b4 18 17),(so 19 (.bsl 3 2 (zs 2) [(0,1,(.t 15)),(1,1,(.t 18))])),(b3 20 44 [14,19]),(sa 8 20)] (.seq (.block 0 (rg [(sa 22 8),(b2 23 .neq 22 0),(sa 21 23)] (.cond (.t 21) (rg [(sa 24 8),(b6 6 0),(sa 7 24)] .ret) (rg [(sc 26 4 5),(b3 27 53 [26]),(sa 25 27)] (.cond (.t 25) (rg [(b6 6 0),(b6 7 7)] .ret) .skip))))) (rg [(b6 9 0)] (.seq (rg [(se 28 1 3),(sb 29 28),(b4 30 29),(b6 31 0)] (.block 1 (.loop (rg [(b1 32 .lss 31 30)] (.seq (.cond (.t 32) .skip (.exit 1)) (.seq (.block 2 (rg [(b7 33 5 29 31),(sc 34 5 33),(so 11 (.new 57 (zs 5))),(b8 5 11 34)] (.seq (.draw [⟨(se 35 3 3),none,[7],[]⟩,⟨(sb 36 35),none,[7],[]⟩,⟨(sa 37 1),none,[7],[]⟩,⟨(b7 38 6 36 37),none,[7],[]⟩,⟨(sc 39 6 38),none,[7],[]⟩,⟨(sc 40 5 11),none,[7],[]⟩,⟨(b3 41 48 [39,40]),none,[7],[]⟩,⟨(so 12 (.new 97 [(.int .i64 0),(.int .i64 0),(.int .i64 0),(.int .i64 0),(.int .i64 0),(.int .i64 0),(.int .i64 0),(.int .i64 0),(.bool false)])),(some 0),[],[.fresh 0]⟩,⟨(b8 9 12 41),none,[],[.fresh 0]⟩]) (rg [(sc 42 4 5),(b3 43 54 [42]),(so 13 (.new 108 (zs 8))),(b8 8 13 43)] (.block 3 (rg [(so 45 (.slA 4 2 (.t 13) none none none)),(so 46 (.mkf (.func 56) [] [(.t 12)])),(b3 47 55 [45,46]),(b5 48 47),(sa 44 48)] (.cond (.t 44) (.reg [(b6 9 2)]) (rg [(sc 50 9 12),(sc 51 4 5),(b3 52 57 [50,51]),(sa 49 52)] (.cond (.t 49) (.reg [(sa 53 9),(so 54 (.mm true (.t 53) [(ki 1)])),(sa 9 54)]) .skip))))))))) (.reg [(b2 55 .add 31 1),(sa 31 55)]))))))) (rg [(sa 56 9),(sa 6 56),(b6 7 0)] .ret))))))⟩
def s19 : aT := ⟨62,[.tmp 0],(rg [(so 0 (.mov (.k (.bool false))))] (rg [(so 11 (.call 43 [])),(so 1 (.new 27 [(.slice none 0 0),(.slice none 0 0),(.slice none 0 0),(.slice none 0 0)])),(b8 4 1 11)] (rg [(sc 13 4 1),(so 14 (.agg (zs 4) [(0,1,(ki 8500)),(1,1,(ki (-1500))),(2,1,(ki 11500)),(3,1,(ki 1500))])),(so 15 (.call 22 [(.t 13),(ki 0),(.t 14)])),(sa 12 15),(so 16 (.ext (.t 12) 0)),(so 17 (.ext (.t 12) 1)),(sa 2 16),(sa 3 17)] (rg [(sc 19 4 1),(so 20 (.agg (zs 4) [(0,1,(ki 3900)),(1,1,(ki 3900)),(2,1,(ki 4100)),(3,1,(ki 4100))])),(so 21 (.call 17 [(.t 19),(ki 0),(.t 20)])),(sa 18 21),(so 22 (.ext (.t 18) 0)),(so 23 (.ext (.t 18) 1)),(sa 4 22),(sa 5 23)] (rg [(sc 25 4 1),(so 26 (.call 15 [(.t 25),(ki 0),(ki 4000),(ki 5000)])),(sa 24 26),(so 27 (.ext (.t 24) 0)),(so 28 (.ext (.t 24) 1)),(sa 6 27),(sa 7 28)] (rg [(so 30 (.mks 57 1 (zs 5))),(so 31 (.agg [(.slice none 0 0),(.slice none 0 0),(.slice none 0 0),(.slice none 0 0)] [(1,1,(.t 30))])),(b3 32 23 [31]),(sa 29 32),(so 33 (.ext (.t 29) 0)),(so 34 (.ext (.t 29) 1)),(so 35 (.ext (.t 29) 2)),(sa 8 33),(sa 9 34),(sa 10 35)] (rg [(sa 36 3),(b2 37 .eql 36 0),(sa 38 37),⟨(some 39),.mov (.t 5),(some (38,true))⟩,⟨(some 40),.bin .eql (.t 39) (ki 0),(some (38,true))⟩,(so 41 (.pick (.t 38) (.t 40) (.k (.bool false)))),(sa 42 41),⟨(some 43),.mov (.t 7),(some (42,true))⟩,⟨(some 44),.bin .eql (.t 43) (ki 0),(some (42,true))⟩,(so 45 (.pick (.t 42) (.t 44) (.k (.bool false)))),(sa 46 45),⟨(some 47),.mov (.t 10),(some (46,true))⟩,⟨(some 48),.bin .eql (.t 47) (ki 7),(some (46,true))⟩,(so 49 (.pick (.t 46) (.t 48) (.k (.bool false)))),(sa 50 49),⟨(some 51),.mov (.t 2),(some (50,true))⟩,⟨(some 52),.bin .eql (.t 51) (ki 1),(some (50,true))⟩,(so 53 (.pick (.t 50) (.t 52) (.k (.bool false)))),(sa 54 53),⟨(some 55),.mov (.t 4),(some (54,true))⟩,⟨(some 56),.bin .eql (.t 55) (ki 1),(some (54,true))⟩,(so 57 (.pick (.t 54) (.t 56) (.k (.bool false)))),(sa 58 57),⟨(some 59),.mov (.t 6),(some (58,true))⟩,⟨(some 60),.bin .eql (.t 59) (ki (-1)),(some (58,true))⟩,(so 61 (.pick (.t 58) (.t 60) (.k (.bool false)))),(sa 0 61)] .ret)))))))⟩
def s22 : aT := ⟨30,[.tmp 6,.tmp 7],(rg [(so 3 (.box 27 (.t 0))),(so 5 (.box 29 (.t 2))),(b6 6 0),(b6 7 0)] (rg [(sc 9 4 3),(sa 10 1),(se 11 0 3),(sb 12 11),(b4 13 12),(so 14 (.bsl 3 2 (zs 2) [(0,1,(.t 10)),(1,1,(.t 13))])),(b3 15 44 [9,14]),(sa 8 15)] (.seq (.block 0 (rg [(sa 17 8),(b2 18 .neq 17 0),(sa 16 18)] (.cond (.t 16) (rg [(sa 19 8),(b6 6 0),(sa 7 19)] .ret) (rg [(sc 21 4 5),(b3 22 53 [21]),(sa 20 22)] (.cond (.t 20) (rg [(b6 6 0),(b6 7 7)] .ret) .skip))))) (.seq (.draw [(ee 23 0 3),(eb 24 23),(ea 25 1),(d7 26 4 24 25),(ec 27 4 26),(ec 28 4 5),(d3 29 61 [27,28]),(ea 6 29),(eo 7 (.mov (ki 0)))]) .ret))))⟩
def s23 : aT := ⟨75,[.tmp 2,.tmp 3,.tmp 4],(rg [(so 1 (.box 27 (.t 0))),(b6 2 0),(b6 3 0),(b6 4 0)] (.seq (rg [(se 13 0 1),(sb 14 13),(b4 15 14),(b2 16 .gtr 15 8),(sa 17 16),⟨(some 18),.fa 1 (.t 1),(some (17,false))⟩,⟨(some 19),.ld (.t 18),(some (17,false))⟩,⟨(some 20),.len (.t 19),(some (17,false))⟩,⟨(some 21),.bin .gtr (.t 20) (ki 12),(some (17,false))⟩,(so 22 (.pick (.t 17) (.k (.bool true)) (.t 21))),(sa 23 22),⟨(some 24),.fa 2 (.t 1),(some (23,false))⟩,⟨(some 25),.ld (.t 24),(some (23,false))⟩,⟨(some 26),.len (.t 25),(some (23,false))⟩,⟨(some 27),.bin .gtr (.t 26) (ki 8),(some (23,false))⟩,(so 28 (.pick (.t 23) (.k (.bool true)) (.t 27))),(sa 29 28),⟨(some 30),.fa 3 (.t 1),(some (29,false))⟩,⟨(some 31),.ld (.t 30),(some (29,false))⟩,⟨(some 32),.len (.t 31),(some (29,false))⟩,⟨(some 33),.bin .gtr (.t 32) (ki 24),(some (29,false))⟩,(so 34 (.pick (.t 29) (.k (.bool true)) (.t 33)))] (.cond (.t 34) (rg [(b6 2 0),(b6 3 0),(b6 4 3)] .ret) .skip)) (.seq (rg [(se 36 0 1),(sb 37 36),(so 38 (.call 62 [(.t 37),(.k (.fn (.func 63) [] []))])),(sa 35 38),(so 39 (.ext (.t 35) 0)),(so 40 (.ext (.t 35) 1)),(sa 5 39),(sa 6 40)] (rg [(sa 41 6),(b2 42 .neq 41 0)] (.cond (.t 42) (rg [(sa 43 5),(sa 44 6),(b6 2 1),(sa 3 43),(sa 4 44)] .ret) .skip))) (.seq (rg [(se 46 1 1),(sb 47 46),(so 48 (.call 64 [(.t 47),(.k (.fn (.func 65) [] []))])),(sa 45 48),(so 49 (.ext (.t 45) 0)),(so 50 (.ext (.t 45) 1)),(sa 7 49),(sa 8 50)] (rg [(sa 51 8),(b2 52 .neq 51 0)] (.cond (.t 52) (rg [(sa 53 7),(sa 54 8),(b6 2 2),(sa 3 53),(sa 4 54)] .ret) .skip))) (.seq (rg [(se 56 2 1),(sb 57 56),(so 58 (.call 66 [(.t 57),(.k (.fn (.func 67) [] []))])),(sa 55 58),(so 59 (.ext (.t 55) 0)),(so 60 (.ext (.t 55) 1)),(sa 9 59),(sa 10 60)] (rg [(sa 61 10),(b2 62 .neq 61 0)] (.cond (.t 62) (rg [(sa 63 9),(sa 64 10),(b6 2 3),(sa 3 63),(sa 4 64)] .ret) .skip))) (.seq (rg [(se 66 3 1),(sb 67 66),(so 68 (.call 68 [(.t 67),(.k (.fn (.func 69) [] []))])),(sa 65 68),(so 69 (.ext (.t 65) 0)),(so 70 (.ext (.t 65) 1)),(sa 11 69),(sa 12 70)] (rg [(sa 71 12),(b2 72 .neq 71 0)] (.cond (.t 72) (rg [(sa 73 11),(sa 74 12),(b6 2 4),(sa 3 73),(sa 4 74)] .ret) .skip))) (rg [(b6 2 0),(b6 3 0),(b6 4 0)] .ret)))))))⟩
def s25 : aT := ⟨35,[.tmp 8,.tmp 9],(rg [(so 4 (.box 27 (.t 0))),(so 8 (.mov (.k (.bool false)))),(b6 9 0)] (rg [(sc 11 4 4),(sa 12 1),(se 13 0 4),(sb 14 13),(b4 15 14),(so 16 (.bsl 3 2 (zs 2) [(0,1,(.t 12)),(1,1,(.t 15))])),(b3 17 44 [11,16]),(sa 10 17)] (.seq (.block 0 (rg [(sa 19 10),(b2 20 .neq 19 0),(sa 18 20)] (.cond (.t 18) (rg [(sa 21 10),(so 8 (.mov (.k (.bool false)))),(sa 9 21)] .ret) (rg [(sa 23 2),(sa 24 3),(so 25 (.bsl 3 2 (zs 2) [(0,1,(.t 23)),(1,1,(.t 24))])),(b3 26 45 [25]),(sa 22 26)] (.cond (.t 22) (rg [(so 8 (.mov (.k (.bool false)))),(b6 9 7)] .ret) .skip))))) (rg [(se 27 0 4),(sb 28 27),(sa 29 1),(b7 30 4 28 29),(sc 31 4 30),(sa 32 2),(sa 33 3),(b3 34 74 [31,32,33]),(sa 8 34),(b6 9 0)] .ret))))⟩
def s43 : aT := ⟨22,[.cell 0 (some 4)],(rg [(so 0 (.new 27 [(.slice none 0 0),(.slice none 0 0),(.slice none 0 0),(.slice none 0 0)]))] (rg [(so 1 (.agg (zs 2) [(0,1,(ki 0)),(1,1,(ki 0))])),(so 2 (.agg (zs 2) [(0,1,(ki 10000)),(1,1,(ki 0))])),(so 3 (.agg (zs 2) [(0,1,(ki 10000)),(1,1,(ki 10000))])),(so 4 (.bsl 72 3 (zs 6) [(0,2,(.t 1)),(2,2,(.t 2)),(4,2,(.t 3))])),(so 5 (.agg [(.str ⟨#[]⟩),(.int .i64 0),(.slice none 0 0),(.int .i64 0)] [(0,1,(.k (.str ⟨#[104,105,103,104]⟩))),(2,1,(.t 4)),(3,1,(ki 4000))])),(so 6 (.agg (zs 2) [(0,1,(ki 5000)),(1,1,(ki (-2000)))])),(so 7 (.agg (zs 2) [(0,1,(ki 5000)),(1,1,(ki 2000))])),(so 8 (.bsl 72 2 (zs 4) [(0,2,(.t 6)),(2,2,(.t 7))])),(so 9 (.agg [(.str ⟨#[]⟩),(.int .i64 0),(.slice none 0 0),(.int .i64 0)] [(0,1,(.k (.str ⟨#[122,101,98,114,97]⟩))),(1,1,(ki 3)),(2,1,(.t 8)),(3,1,(ki 3000))])),(so 10 (.bsl 54 2 [(.str ⟨#[]⟩),(.int .i64 0),(.slice none 0 0),(.int .i64 0),(.str ⟨#[]⟩),(.int .i64 0),(.slice none 0 0),(.int .i64 0)] [(0,4,(.t 5)),(4,4,(.t 9))])),(so 11 (.agg (zs 5) [(0,1,(ki 4000)),(1,1,(ki 3000)),(2,1,(ki 1000)),(3,1,(ki 20)),(4,1,(ki 40))])),(so 12 (.bsl 57 1 (zs 5) [(0,5,(.t 11))])),(so 13 (.agg (zs 2) [(0,1,(ki 10000)),(1,1,(ki 5000))])),(so 14 (.agg (zs 2) [(0,1,(ki 0)),(1,1,(ki 5000))])),(so 15 (.agg (zs 4) [(0,1,(ki 250)),(1,1,(ki 750)),(2,1,(ki 10)),(3,1,(ki 30))])),(so 16 (.bsl 137 1 (zs 4) [(0,4,(.t 15))])),(so 17 (.agg [(.int .i64 0),(.int .i64 0),(.int .i64 0),(.int .i64 0),(.slice none 0 0)] [(0,2,(.t 13)),(2,2,(.t 14)),(4,1,(.t 16))])),(so 18 (.bsl 123 1 [(.int .i64 0),(.int .i64 0),(.int .i64 0),(.int .i64 0),(.slice none 0 0)] [(0,5,(.t 17))])),(so 19 (.agg [(.str ⟨#[]⟩),(.int .i64 0),(.int .i64 0),(.int .i64 0),(.int .i64 0),(.int .i64 0)] [(0,1,(.k (.str ⟨#[99,49]⟩))),(1,1,(ki 4000)),(2,1,(ki 4000)),(3,1,(ki 60)),(5,1,(ki (-1)))])),(so 20 (.bsl 100 1 [(.str ⟨#[]⟩),(.int .i64 0),(.int .i64 0),(.int .i64 0),(.int .i64 0),(.int .i64 0)] [(0,6,(.t 19))])),(so 21 (.agg [(.slice none 0 0),(.slice none 0 0),(.slice none 0 0),(.slice none 0 0)] [(0,1,(.t 10)),(1,1,(.t 12)),(2,1,(.t 18)),(3,1,(.t 20))])),(b8 4 0 21)] .ret))⟩
def s44 : aT := ⟨37,[.tmp 4],(rg [(so 2 (.box 27 (.t 0))),(b6 4 0)] (rg [(sc 10 4 2),(b3 11 23 [10]),(sa 9 11),(so 12 (.ext (.t 9) 0)),(so 13 (.ext (.t 9) 1)),(so 14 (.ext (.t 9) 2)),(sa 5 12),(sa 6 13),(sa 7 14)] (.seq (rg [(b6 8 0)] (.block 0 (.loop (.seq (rg [(sa 15 8),(sa 16 1),(b4 17 16),(b1 18 .lss 15 17),(sa 19 18),⟨(some 20),.mov (.t 7),(some (19,true))⟩,⟨(some 21),.bin .eql (.t 20) (ki 0),(some (19,true))⟩,(so 22 (.pick (.t 19) (.t 21) (.k (.bool false))))] (.cond (.t 22) .skip (.exit 0))) (.seq (.block 1 (.seq (.draw [(ea 25 1),(ea 26 8),(d7 27 1 25 26),(eb 28 27),(ea 29 1),(ea 30 8),(d2 31 .add 30 1),(d7 32 1 29 31),(eb 33 32),(d2 34 .sub 33 1),(eo 35 (.call 86 [(.t 28),(ki 0),(.t 34)]))]) (.cond (.t 35) (.reg [(b6 7 4)]) .skip))) (.reg [(sa 23 8),(b2 24 .add 23 2),(sa 8 24)])))))) (rg [(sa 36 7),(sa 4 36)] .ret))))⟩
def s45 : aT := ⟨5,[.tmp 2],(rg [(so 2 (.mov (.k (.bool false))))] (rg [(sa 3 0),(so 4 (.call 99 [(.t 3),(.k (.fn (.func 100) [] []))])),(sa 2 4)] .ret))⟩
def s46 : aT := ⟨19,[.tmp 4],(rg [(b6 4 0)] (.seq (rg [(sa 6 0),(b4 7 6),(b6 8 0)] (.block 0 (.loop (rg [(b1 9 .lss 8 7)] (.seq (.cond (.t 9) .skip (.exit 0)) (.seq (.block 1 (rg [(sa 10 8),(sa 5 10)] (rg [(sa 11 1),(sa 12 0),(sa 13 5),(b7 14 5 12 13),(sc 15 5 14),(so 16 (.callv (.t 11) [(.t 15)]))] (.cond (.t 16) (rg [(sa 17 5),(sa 4 17)] .ret) .skip)))) (.reg [(b2 18 .add 8 1),(sa 8 18)]))))))) (rg [(b6 4 (-1))] .ret)))⟩
def s47 : aT := ⟨18,[.tmp 6],(rg [(so 5 (.box 57 (.t 0))),(so 6 (.mov (.k (.bool false))))] (.seq (.draw [(ee 7 3 1),(eb 8 7),(eb 9 2),(d7 10 6 8 9),(ec 11 6 10),(ec 12 5 5),(d3 13 48 [11,12]),(eb 14 3),(eb 15 4),(eo 16 (.agg (zs 2) [(0,1,(.t 14)),(1,1,(.t 15))])),(d3 17 49 [13,16]),(ea 6 17)]) .ret))⟩
def s48 : aT := ⟨42,[.cell 4 (some 9)],(rg [(so 2 (.box 100 (.t 0))),(so 3 (.box 57 (.t 1))),(so 4 (.new 97 [(.int .i64 0),(.int .i64 0),(.int .i64 0),(.int .i64 0),(.int .i64 0),(.int .i64 0),(.int .i64 0),(.int .i64 0),(.bool false)]))] (.seq (.draw [(ee 5 1 2),(eb 6 5),(ee 7 2 2),(eb 8 7),(eo 9 (.agg (zs 2) [(0,1,(.t 6)),(1,1,(.t 8))])),(ee 10 3 2),(eb 11 10),(ee 12 3 2),(eb 13 12),(ee 14 4 3),(eb 15 14),(d1 16 .sub 13 15),(eo 17 (.mm true (ki 0) [(.t 16)])),(ee 18 3 2),(eb 19 18),(ee 20 3 3),(eb 21 20),(d1 22 .sub 19 21),(ee 23 0 3),(eb 24 23),(ee 25 1 3),(eb 26 25),(eo 27 (.agg (zs 2) [(0,1,(.t 24)),(1,1,(.t 26))])),(ee 28 3 2),(eb 29 28),(d3 30 101 [27,29]),(ee 31 2 3),(eb 32 31),(ee 33 3 2),(eb 34 33),(d1 35 .mul 32 34),(ee 36 3 3),(eb 37 36),(ee 38 3 2),(eb 39 38),(d1 40 .gtr 37 39),(eo 41 (.agg [(.int .i64 0),(.int .i64 0),(.int .i64 0),(.int .i64 0),(.int .i64 0),(.int .i64 0),(.int .i64 0),(.int .i64 0),(.bool false)] [(0,2,(.t 9)),(2,1,(.t 11)),(3,1,(.t 17)),(4,1,(.t 22)),(5,2,(.t 30)),(7,1,(.t 35)),(8,1,(.t 40))])),⟨(b8 9 4 41),none,[],[.slot 4]⟩]) .ret))⟩
def s49 : aT := ⟨26,[.tmp 4],(rg [(so 2 (.box 97 (.t 0))),(so 3 (.box 95 (.t 1))),(so 4 (.mov (.k (.bool false))))] (.seq (.draw [(ee 5 8 2),(eb 6 5),(eo 7 (.un .not (.t 6))),(ea 8 7),(dz ⟨(some 9),.lds 9 (.t 2),(some (8,true))⟩),(dz ⟨(some 10),.lds 2 (.t 3),(some (8,true))⟩),(dz ⟨(some 11),.fa 3 (.t 2),(some (8,true))⟩),(dz ⟨(some 12),.ld (.t 11),(some (8,true))⟩),(dz ⟨(some 13),.call 102 [(.t 9),(.t 10),(.t 12)],(some (8,true))⟩),(dz ⟨(some 14),.lds 9 (.t 2),(some (8,true))⟩),(dz ⟨(some 15),.lds 2 (.t 3),(some (8,true))⟩),(dz ⟨(some 16),.fa 4 (.t 2),(some (8,true))⟩),(dz ⟨(some 17),.ld (.t 16),(some (8,true))⟩),(dz ⟨(some 18),.call 102 [(.t 14),(.t 15),(.t 17)],(some (8,true))⟩),(dz ⟨(some 19),.agg (zs 4) [(0,2,(.t 13)),(2,2,(.t 18))],(some (8,true))⟩),(dz ⟨(some 20),.fa 5 (.t 2),(some (8,true))⟩),(dz ⟨(some 21),.lds 2 (.t 20),(some (8,true))⟩),(dz ⟨(some 22),.fa 7 (.t 2),(some (8,true))⟩),(dz ⟨(some 23),.ld (.t 22),(some (8,true))⟩),(dz ⟨(some 24),.call 103 [(.t 19),(.t 21),(.t 23)],(some (8,true))⟩),(eo 25 (.pick (.t 8) (.t 24) (.k (.bool false)))),(ea 4 25)]) .ret))⟩
def s53 : aT := ⟨27,[.tmp 2],(rg [(so 1 (.box 29 (.t 0))),(so 2 (.mov (.k (.bool false))))] (rg [(se 3 0 1),(sb 4 3),(se 5 1 1),(sb 6 5),(se 7 2 1),(sb 8 7),(se 9 3 1),(sb 10 9),(so 11 (.bsl 3 4 (zs 4) [(0,1,(.t 4)),(1,1,(.t 6)),(2,1,(.t 8)),(3,1,(.t 10))])),(b3 12 45 [11]),(sa 13 12),⟨(some 14),.fa 0 (.t 1),(some (13,false))⟩,⟨(some 15),.ld (.t 14),(some (13,false))⟩,⟨(some 16),.fa 2 (.t 1),(some (13,false))⟩,⟨(some 17),.ld (.t 16),(some (13,false))⟩,⟨(some 18),.bin .gtr (.t 15) (.t 17),(some (13,false))⟩,(so 19 (.pick (.t 13) (.k (.bool true)) (.t 18))),(sa 20 19),⟨(some 21),.fa 1 (.t 1),(some (20,false))⟩,⟨(some 22),.ld (.t 21),(some (20,false))⟩,⟨(some 23),.fa 3 (.t 1),(some (20,false))⟩,⟨(some 24),.ld (.t 23),(some (20,false))⟩,⟨(some 25),.bin .gtr (.t 22) (.t 24),(some (20,false))⟩,(so 26 (.pick (.t 20) (.k (.bool true)) (.t 25))),(sa 2 26)] .ret))⟩
def s54 : aT := ⟨24,[.cell 2 (some 8)],(rg [(so 1 (.box 29 (.t 0))),(so 2 (.new 108 (zs 8)))] (rg [(se 3 0 1),(sb 4 3),(se 5 1 1),(sb 6 5),(so 7 (.agg (zs 2) [(0,1,(.t 4)),(1,1,(.t 6))])),(se 8 2 1),(sb 9 8),(se 10 1 1),(sb 11 10),(so 12 (.agg (zs 2) [(0,1,(.t 9)),(1,1,(.t 11))])),(se 13 2 1),(sb 14 13),(se 15 3 1),(sb 16 15),(so 17 (.agg (zs 2) [(0,1,(.t 14)),(1,1,(.t 16))])),(se 18 0 1),(sb 19 18),(se 20 3 1),(sb 21 20),(so 22 (.agg (zs 2) [(0,1,(.t 19)),(1,1,(.t 21))])),(so 23 (.agg (zs 8) [(0,2,(.t 7)),(2,2,(.t 12)),(4,2,(.t 17)),(6,2,(.t 22))])),(b8 8 2 23)] .ret))⟩
def s55 : aT := ⟨9,[.tmp 4],(rg [(so 4 (.mov (.k (.bool false))))] (rg [(sa 5 0),(sa 6 1),(b3 7 108 [5,6]),(b2 8 .geq 7 0),(sa 4 8)] .ret))⟩
def s56 : aT := ⟨8,[.tmp 3],(rg [(so 2 (.box 95 (.t 0))),(so 3 (.mov (.k (.bool false))))] (rg [(sc 4 9 1),(sc 5 2 2),(b3 6 49 [4,5]),(b5 7 6),(sa 3 7)] .ret))⟩
def s57 : aT := ⟨71,[.tmp 4],(rg [(so 2 (.box 97 (.t 0))),(so 3 (.box 29 (.t 1))),(so 4 (.mov (.k (.bool false))))] (.seq (rg [(se 12 8 2),(sb 13 12)] (.cond (.t 13) (rg [(so 4 (.mov (.k (.bool false))))] .ret) .skip)) (rg [(so 5 (.mov (.k (.slice none 0 0))))] (.seq (rg [(sc 14 4 3),(b3 15 54 [14]),(b6 16 0)] (.block 0 (.loop (rg [(b2 17 .lss 16 4)] (.seq (.cond (.t 17) .skip (.exit 0)) (.seq (.block 1 (rg [(so 18 (.ixA 4 2 (some 2) (.t 15) (.t 16))),(so 7 (.new 95 (zs 2))),(b8 2 7 18)] (.draw [⟨(sa 19 5),none,[11],[]⟩,(ec 20 9 2),(ec 21 2 7),(ee 22 3 2),(eb 23 22),(d3 24 102 [20,21,23]),(ec 25 9 2),(ec 26 2 7),(ee 27 4 2),(eb 28 27),(d3 29 102 [25,26,28]),⟨(so 30 (.bsl 95 2 (zs 4) [(0,2,(.t 24)),(2,2,(.t 29))])),(some 0),[],[.fresh 0]⟩,⟨(so 31 (.app 95 2 16 (zs 2) (.t 19) (.t 30))),(some 1),[],[.slot 5,.fresh 1]⟩,(ea 5 31)]))) (.reg [(b2 32 .add 16 1),(sa 16 32)]))))))) (rg [(sa 33 5),(b3 34 109 [33]),(sa 5 34)] (rg [(sa 35 5),(b4 36 35),(b2 37 .gtr 36 2),(sa 8 37)] (.seq (rg [(sa 38 5),(b4 39 38),(b6 40 0)] (.block 2 (.loop (rg [(b1 41 .lss 40 39)] (.seq (.cond (.t 41) .skip (.exit 2)) (.seq (.block 3 (rg [(sa 42 40),(b7 43 2 38 40),(sc 44 2 43),(so 10 (.new 95 (zs 2))),(sa 9 42),(b8 2 10 44)] (.seq (.draw [⟨(sc 45 2 10),none,[10],[]⟩,⟨(sa 46 5),none,[10],[]⟩,⟨(sa 47 9),none,[10],[]⟩,⟨(b2 48 .add 47 1),none,[10],[]⟩,⟨(sa 49 5),none,[10],[]⟩,⟨(b4 50 49),none,[10],[]⟩,⟨(b1 51 .rem 48 50),none,[10],[]⟩,⟨(b7 52 2 46 51),none,[10],[]⟩,⟨(sc 53 2 52),none,[10],[]⟩,⟨(so 54 (.agg (zs 4) [(0,2,(.t 45)),(2,2,(.t 53))])),none,[10],[]⟩,⟨(so 11 (.new 133 (zs 4))),(some 0),[],[.fresh 0]⟩,⟨(b8 4 11 54),none,[],[.fresh 0]⟩]) (.seq (rg [(sc 55 4 11),(se 56 5 2),(sc 57 2 56),(se 58 7 2),(sb 59 58),(b3 60 103 [55,57,59])] (.cond (.t 60) (rg [(so 4 (.mov (.k (.bool true))))] .ret) .skip)) (.reg [(sa 61 8),(sa 62 61),⟨(some 63),.lds 4 (.t 11),(some (62,true))⟩,⟨(some 64),.fa 5 (.t 2),(some (62,true))⟩,⟨(some 65),.lds 2 (.t 64),(some (62,true))⟩,⟨(some 66),.call 78 [(.t 63),(.t 65)],(some (62,true))⟩,⟨(some 67),.bin .gtr (.t 66) (ki 0),(some (62,true))⟩,(so 68 (.pick (.t 62) (.t 67) (.k (.bool false)))),(sa 8 68)]))))) (.reg [(b2 69 .add 40 1),(sa 40 69)]))))))) (rg [(sa 70 8),(sa 4 70)] .ret))))))))⟩
def s61 : aT := ⟨16,[.tmp 4],(rg [(so 2 (.box 54 (.t 0))),(so 3 (.box 29 (.t 1))),(b6 4 0)] (rg [(so 5 (.new 3 [(.int .i64 0)])),⟨none,.st 1 (.t 5) (ki 0),none⟩] (.seq (rg [(sc 7 4 2),(b3 8 83 [7])] (.block 0 (.range (.t 8) [9] (.reg [(so 6 (.new 145 (zs 5))),(b8 5 6 9)]) (.block 1 (.draw [(eb 10 5),(ec 11 5 6),(ec 12 4 3),(d3 13 111 [11,12]),(eo 14 (.mm true (.t 10) [(.t 13)])),⟨(b8 1 5 14),none,[],[.slot 5]⟩])) its))) (rg [(sb 15 5),(sa 4 15)] .ret))))⟩
def s62 : aT := ⟨27,[.tmp 4,.tmp 5],(rg [(b6 4 0),(b6 5 0)] (.seq (rg [(sa 9 0),(b4 10 9),(b6 11 0)] (.block 0 (.loop (rg [(b1 12 .lss 11 10)] (.seq (.cond (.t 12) .skip (.exit 0)) (.seq (.block 1 (rg [(sa 13 11),(b7 14 4 9 11),(sc 15 4 14),(so 7 (.new 54 [(.str ⟨#[]⟩),(.int .i64 0),(.slice none 0 0),(.int .i64 0)])),(sa 6 13),(b8 4 7 15)] (.seq (.draw [(ea 16 1),(ea 17 0),(ea 18 6),(eo 19 (.slS 4 (.t 17) none (some (.t 18)) none)),(ec 20 4 7),(eo 21 (.callv (.t 16) [(.t 19),(.t 20)])),(ea 8 21)]) (rg [(sa 22 8),(b2 23 .neq 22 0)] (.cond (.t 23) (rg [(sa 24 6),(sa 25 8),(sa 4 24),(sa 5 25)] .ret) .skip))))) (.reg [(b2 26 .add 11 1),(sa 11 26)]))))))) (rg [(b6 4 0),(b6 5 0)] .ret)))⟩
def s63 : aT := ⟨61,[.tmp 4],(rg [(so 3 (.box 54 (.t 1))),(b6 4 0)] (rg [(so 7 (.mkf (.func 112) [] [(.t 3)])),(sa 5 7)] (rg [(so 6 (.mov (.k (.fn (.func 113) [] []))))] (.seq (.block 0 (rg [(se 9 0 3),(sb 10 9),(b3 11 114 [10]),(b5 12 11),(sa 8 12)] (.cond (.t 8) (rg [(b6 4 6)] .ret) (rg [(sa 14 0),(sa 15 5),(b3 16 90 [14,15]),(sa 13 16)] (.cond (.t 13) (rg [(b6 4 5)] .ret) (rg [(se 18 1 3),(sb 19 18),(so 20 (.call 86 [(.t 19),(ki 0),(ki 3)])),(sa 17 20)] (.cond (.t 17) (rg [(b6 4 2)] .ret) (rg [(se 22 2 3),(sb 23 22),(b4 24 23),(b2 25 .lss 24 2),(sa 21 25)] (.cond (.t 21) (rg [(b6 4 4)] .ret) (rg [(se 27 2 3),(sb 28 27),(b4 29 28),(b2 30 .gtr 29 8),(sa 26 30)] (.cond (.t 26) (rg [(b6 4 3)] .ret) (rg [(se 32 2 3),(sb 33 32),(sa 34 6),(b3 35 115 [33,34]),(sa 36 35),⟨(some 37),.fa 3 (.t 3),(some (36,false))⟩,⟨(some 38),.ld (.t 37),(some (36,false))⟩,⟨(some 39),.call 86 [(.t 38),(ki 100),(ki 30000)],(some (36,false))⟩,(so 40 (.pick (.t 36) (.k (.bool true)) (.t 39))),(sa 31 40)] (.cond (.t 31) (rg [(b6 4 7)] .ret) (.seq (.allo (.op (se 42 2 3) (.op (se 47 2 3) (.alt (.op (sb 43 42) (.alt (.op (b3 44 117 [43]) (.alt (.op (b3 45 116 [44]) (.op (b4 46 45) (.op (sb 48 47) (.op (b4 49 48) (.op (b1 50 .lss 46 49) (.op (sa 41 50) .done)))))) (.op (sb 48 47) (.op (b4 49 48) (.op (b3 45 116 [44]) (.op (b4 46 45) (.op (b1 50 .lss 46 49) (.op (sa 41 50) .done)))))))) (.op (sb 48 47) (.op (b4 49 48) (.op (b3 44 117 [43]) (.op (b3 45 116 [44]) (.op (b4 46 45) (.op (b1 50 .lss 46 49) (.op (sa 41 50) .done))))))))) (.op (sb 48 47) (.op (b4 49 48) (.op (sb 43 42) (.op (b3 44 117 [43]) (.op (b3 45 116 [44]) (.op (b4 46 45) (.op (b1 50 .lss 46 49) (.op (sa 41 50) .done)))))))))))) (.cond (.t 41) (rg [(b6 4 2)] .ret) (rg [(se 52 1 3),(sb 53 52),(b2 54 .eql 53 3),(sa 55 54),⟨(some 56),.fa 2 (.t 3),(some (55,true))⟩,⟨(some 57),.ld (.t 56),(some (55,true))⟩,⟨(some 58),.len (.t 57),(some (55,true))⟩,⟨(some 59),.bin .gtr (.t 58) (ki 2),(some (55,true))⟩,(so 60 (.pick (.t 55) (.t 59) (.k (.bool false)))),(sa 51 60)] (.cond (.t 51) (rg [(b6 4 2)] .ret) .skip))))))))))))))))) (rg [(b6 4 0)] .ret)))))⟩
def s64 : aT := ⟨27,[.tmp 4,.tmp 5],(rg [(b6 4 0),(b6 5 0)] (.seq (rg [(sa 9 0),(b4 10 9),(b6 11 0)] (.block 0 (.loop (rg [(b1 12 .lss 11 10)] (.seq (.cond (.t 12) .skip (.exit 0)) (.seq (.block 1 (rg [(sa 13 11),(b7 14 5 9 11),(sc 15 5 14),(so 7 (.new 57 (zs 5))),(sa 6 13),(b8 5 7 15)] (.seq (.draw [(ea 16 1),(ea 17 0),(ea 18 6),(eo 19 (.slS 5 (.t 17) none (some (.t 18)) none)),(ec 20 5 7),(eo 21 (.callv (.t 16) [(.t 19),(.t 20)])),(ea 8 21)]) (rg [(sa 22 8),(b2 23 .neq 22 0)] (.cond (.t 23) (rg [(sa 24 6),(sa 25 8),(sa 4 24),(sa 5 25)] .ret) .skip))))) (.reg [(b2 26 .add 11 1),(sa 11 26)]))))))) (rg [(b6 4 0),(b6 5 0)] .ret)))⟩
def s65 : aT := ⟨29,[.tmp 4],(rg [(so 3 (.box 57 (.t 1))),(b6 4 0)] (.seq (rg [(se 5 0 3),(sb 6 5),(se 7 1 3),(sb 8 7),(so 9 (.bsl 3 2 (zs 2) [(0,1,(.t 6)),(1,1,(.t 8))])),(b3 10 45 [9]),(sa 11 10),⟨(some 12),.fa 2 (.t 3),(some (11,false))⟩,⟨(some 13),.ld (.t 12),(some (11,false))⟩,⟨(some 14),.call 86 [(.t 13),(ki 1),(ki 20000)],(some (11,false))⟩,(so 15 (.pick (.t 11) (.k (.bool true)) (.t 14))),(sa 16 15),⟨(some 17),.fa 3 (.t 3),(some (16,false))⟩,⟨(some 18),.ld (.t 17),(some (16,false))⟩,⟨(some 19),.fa 4 (.t 3),(some (16,false))⟩,⟨(some 20),.ld (.t 19),(some (16,false))⟩,⟨(some 21),.bin .sub (.t 20) (ki 1),(some (16,false))⟩,⟨(some 22),.call 86 [(.t 18),(ki 0),(.t 21)],(some (16,false))⟩,(so 23 (.pick (.t 16) (.k (.bool true)) (.t 22))),(sa 24 23),⟨(some 25),.fa 4 (.t 3),(some (24,false))⟩,⟨(some 26),.ld (.t 25),(some (24,false))⟩,⟨(some 27),.call 86 [(.t 26),(ki 1),(ki 1000)],(some (24,false))⟩,(so 28 (.pick (.t 24) (.k (.bool true)) (.t 27)))] (.cond (.t 28) (rg [(b6 4 7)] .ret) .skip)) (rg [(b6 4 0)] .ret)))⟩
def s66 : aT := ⟨27,[.tmp 4,.tmp 5],(rg [(b6 4 0),(b6 5 0)] (.seq (rg [(sa 9 0),(b4 10 9),(b6 11 0)] (.block 0 (.loop (rg [(b1 12 .lss 11 10)] (.seq (.cond (.t 12) .skip (.exit 0)) (.seq (.block 1 (rg [(sa 13 11),(b7 14 5 9 11),(sc 15 5 14),(so 7 (.new 123 [(.int .i64 0),(.int .i64 0),(.int .i64 0),(.int .i64 0),(.slice none 0 0)])),(sa 6 13),(b8 5 7 15)] (.seq (.draw [(ea 16 1),(ea 17 0),(ea 18 6),(eo 19 (.slS 5 (.t 17) none (some (.t 18)) none)),(ec 20 5 7),(eo 21 (.callv (.t 16) [(.t 19),(.t 20)])),(ea 8 21)]) (rg [(sa 22 8),(b2 23 .neq 22 0)] (.cond (.t 23) (rg [(sa 24 6),(sa 25 8),(sa 4 24),(sa 5 25)] .ret) .skip))))) (.reg [(b2 26 .add 11 1),(sa 11 26)]))))))) (rg [(b6 4 0),(b6 5 0)] .ret)))⟩
def s67 : aT := ⟨37,[.tmp 4],(rg [(so 3 (.box 123 (.t 1))),(b6 4 0)] (rg [(so 5 (.mov (.k (.fn (.func 118) [] []))))] (.seq (.block 0 (rg [(se 7 0 3),(so 8 (.iaA 2 1 (.t 7) (ki 0))),(sb 9 8),(se 10 0 3),(so 11 (.iaA 2 1 (.t 10) (ki 1))),(sb 12 11),(se 13 2 3),(so 14 (.iaA 2 1 (.t 13) (ki 0))),(sb 15 14),(se 16 2 3),(so 17 (.iaA 2 1 (.t 16) (ki 1))),(sb 18 17),(so 19 (.bsl 3 4 (zs 4) [(0,1,(.t 9)),(1,1,(.t 12)),(2,1,(.t 15)),(3,1,(.t 18))])),(b3 20 45 [19]),(sa 6 20)] (.cond (.t 6) (rg [(b6 4 7)] .ret) (rg [(se 22 0 3),(sc 23 2 22),(se 24 2 3),(sc 25 2 24),(so 26 (.eqa false 2 (.t 23) (.t 25))),(sa 21 26)] (.cond (.t 21) (rg [(b6 4 2)] .ret) (rg [(se 28 4 3),(sb 29 28),(b4 30 29),(b2 31 .gtr 30 6),(sa 27 31)] (.cond (.t 27) (rg [(b6 4 3)] .ret) (rg [(se 33 4 3),(sb 34 33),(sa 35 5),(b3 36 119 [34,35]),(sa 32 36)] (.cond (.t 32) (rg [(b6 4 7)] .ret) .skip))))))))) (rg [(b6 4 0)] .ret))))⟩
def s68 : aT := ⟨27,[.tmp 4,.tmp 5],(rg [(b6 4 0),(b6 5 0)] (.seq (rg [(sa 9 0),(b4 10 9),(b6 11 0)] (.block 0 (.loop (rg [(b1 12 .lss 11 10)] (.seq (.cond (.t 12) .skip (.exit 0)) (.seq (.block 1 (rg [(sa 13 11),(b7 14 6 9 11),(sc 15 6 14),(so 7 (.new 100 [(.str ⟨#[]⟩),(.int .i64 0),(.int .i64 0),(.int .i64 0),(.int .i64 0),(.int .i64 0)])),(sa 6 13),(b8 6 7 15)] (.seq (.draw [(ea 16 1),(ea 17 0),(ea 18 6),(eo 19 (.slS 6 (.t 17) none (some (.t 18)) none)),(ec 20 6 7),(eo 21 (.callv (.t 16) [(.t 19),(.t 20)])),(ea 8 21)]) (rg [(sa 22 8),(b2 23 .neq 22 0)] (.cond (.t 23) (rg [(sa 24 6),(sa 25 8),(sa 4 24),(sa 5 25)] .ret) .skip))))) (.reg [(b2 26 .add 11 1),(sa 11 26)]))))))) (rg [(b6 4 0),(b6 5 0)] .ret)))⟩
def s69 : aT := ⟨47,[.tmp 4],(rg [(so 3 (.box 100 (.t 1))),(b6 4 0)] (rg [(so 6 (.mkf (.func 120) [] [(.t 3)])),(sa 5 6)] (.seq (.block 0 (rg [(se 8 0 3),(sb 9 8),(b3 10 114 [9]),(b5 11 10),(sa 7 11)] (.cond (.t 7) (rg [(b6 4 6)] .ret) (rg [(sa 13 0),(sa 14 5),(b3 15 121 [13,14]),(sa 12 15)] (.cond (.t 12) (rg [(b6 4 5)] .ret) (rg [(se 17 1 3),(sb 18 17),(se 19 2 3),(sb 20 19),(so 21 (.bsl 3 2 (zs 2) [(0,1,(.t 18)),(1,1,(.t 20))])),(b3 22 45 [21]),(sa 23 22),⟨(some 24),.fa 3 (.t 3),(some (23,false))⟩,⟨(some 25),.ld (.t 24),(some (23,false))⟩,⟨(some 26),.call 86 [(.t 25),(ki 1),(ki 200)],(some (23,false))⟩,(so 27 (.pick (.t 23) (.k (.bool true)) (.t 26))),(sa 28 27),⟨(some 29),.fa 4 (.t 3),(some (28,false))⟩,⟨(some 30),.ld (.t 29),(some (28,false))⟩,⟨(some 31),.call 86 [(.t 30),(ki (-1000)),(ki 1000)],(some (28,false))⟩,(so 32 (.pick (.t 28) (.k (.bool true)) (.t 31))),(sa 33 32),⟨(some 34),.fa 5 (.t 3),(some (33,false))⟩,⟨(some 35),.ld (.t 34),(some (33,false))⟩,⟨(some 36),.call 86 [(.t 35),(ki (-1000)),(ki 1000)],(some (33,false))⟩,(so 37 (.pick (.t 33) (.k (.bool true)) (.t 36))),(sa 16 37)] (.cond (.t 16) (rg [(b6 4 7)] .ret) (rg [(se 39 4 3),(sb 40 39),(b2 41 .eql 40 0),(sa 42 41),⟨(some 43),.fa 5 (.t 3),(some (42,true))⟩,⟨(some 44),.ld (.t 43),(some (42,true))⟩,⟨(some 45),.bin .eql (.t 44) (ki 0),(some (42,true))⟩,(so 46 (.pick (.t 42) (.t 45) (.k (.bool false)))),(sa 38 46)] (.cond (.t 38) (rg [(b6 4 2)] .ret) .skip))))))))) (rg [(b6 4 0)] .ret))))⟩
def s74 : aT := ⟨15,[.cell 6 none],(rg [(so 3 (.box 54 (.t 0))),(so 4 (.box 3 (.t 1))),(so 5 (.box 3 (.t 2))),(so 6 (.new 4 [(.bool false)]))] (.seq (rg [(sc 8 4 3),(b3 9 83 [8])] (.block 0 (.range (.t 9) [10] (.reg [(so 7 (.new 145 (zs 5))),(b8 5 7 10)]) (.block 1 (rg [(sc 11 5 7),(sb 12 4),(sb 13 5),(b3 14 123 [11,12,13])] (.cond (.t 14) (rg [⟨none,.st 1 (.t 6) (.k (.bool true)),none⟩] .ret) .skip))) its))) (rg [⟨none,.st 1 (.t 6) (.k (.bool false)),none⟩] .ret)))⟩
def s78 : aT := ⟨15,[.tmp 4],(rg [(so 2 (.box 133 (.t 0))),(so 3 (.box 95 (.t 1))),(b6 4 0)] (.seq (.draw [(ee 5 2 2),(ec 6 2 5),(ee 7 0 2),(ec 8 2 7),(d3 9 84 [6,8]),(ec 10 2 3),(ee 11 0 2),(ec 12 2 11),(d3 13 84 [10,12]),(d3 14 127 [9,13]),(ea 4 14)]) .ret))⟩
def s83 : aT := ⟨4,[.tmp 2],(rg [(so 1 (.box 54 (.t 0))),(so 2 (.mov (.k (.raw .nilFunc))))] (rg [(so 3 (.mkf (.func 128) [] [(.t 1)])),(sa 2 3)] .ret))⟩
def s84 : aT := ⟨16,[.cell 4 (some 2)],(rg [(so 2 (.box 95 (.t 0))),(so 3 (.box 95 (.t 1))),(so 4 (.new 95 (zs 2)))] (rg [(se 5 0 2),(sb 6 5),(se 7 0 3),(sb 8 7),(b1 9 .sub 6 8),(se 10 1 2),(sb 11 10),(se 12 1 3),(sb 13 12),(b1 14 .sub 11 13),(so 15 (.agg (zs 2) [(0,1,(.t 9)),(1,1,(.t 14))])),(b8 2 4 15)] .ret))⟩
def s85 : aT := ⟨16,[.tmp 4],(rg [(so 2 (.box 95 (.t 0))),(so 3 (.box 95 (.t 1))),(b6 4 0)] (rg [(se 5 0 2),(sb 6 5),(se 7 0 3),(sb 8 7),(b1 9 .mul 6 8),(se 10 1 2),(sb 11 10),(se 12 1 3),(sb 13 12),(b1 14 .mul 11 13),(b1 15 .add 9 14),(sa 4 15)] .ret))⟩
def s86 : aT := ⟨15,[.tmp 6],(rg [(so 6 (.mov (.k (.bool false))))] (rg [(sa 7 0),(sa 8 1),(b1 9 .lss 7 8),(sa 10 9),⟨(some 11),.mov (.t 0),(some (10,false))⟩,⟨(some 12),.mov (.t 2),(some (10,false))⟩,⟨(some 13),.bin .gtr (.t 11) (.t 12),(some (10,false))⟩,(so 14 (.pick (.t 10) (.k (.bool true)) (.t 13))),(sa 6 14)] .ret))⟩
def s90 : aT := ⟨9,[.tmp 4],(rg [(so 4 (.mov (.k (.bool false))))] (rg [(sa 5 0),(sa 6 1),(b3 7 129 [5,6]),(b2 8 .geq 7 0),(sa 4 8)] .ret))⟩
def s99 : aT := ⟨9,[.tmp 4],(rg [(so 4 (.mov (.k (.bool false))))] (rg [(sa 5 0),(sa 6 1),(b3 7 133 [5,6]),(b2 8 .geq 7 0),(sa 4 8)] .ret))⟩
def Ki : aT := ⟨5,[.tmp 2],(rg [(so 2 (.mov (.k (.bool false))))] (rg [(sa 3 0),(so 4 (.call 86 [(.t 3),(ki (-100000)),(ki 100000)])),(sa 2 4)] .ret))⟩
def Ls : aT := ⟨14,[.cell 4 (some 2)],(rg [(so 2 (.box 95 (.t 0))),(so 4 (.new 95 (zs 2)))] (rg [(sa 5 1),(se 6 0 2),(sb 7 6),(b1 8 .mul 5 7),(sa 9 1),(se 10 1 2),(sb 11 10),(b1 12 .mul 9 11),(so 13 (.agg (zs 2) [(0,1,(.t 8)),(1,1,(.t 12))])),(b8 2 4 13)] .ret))⟩
def LU : aT := ⟨35,[.cell 6 (some 2)],(rg [(so 3 (.box 97 (.t 0))),(so 4 (.box 95 (.t 1))),(so 6 (.new 95 (zs 2)))] (rg [(sc 8 2 4),(se 9 0 3),(sc 10 2 9),(b3 11 84 [8,10]),(so 7 (.new 95 (zs 2))),(b8 2 7 11)] (rg [(se 12 2 3),(sb 13 12),(se 14 0 3),(se 15 0 14),(sb 16 15),(b1 17 .mul 13 16),(sa 18 2),(se 19 0 7),(sb 20 19),(b1 21 .mul 18 20),(b1 22 .add 17 21),(se 23 2 3),(sb 24 23),(se 25 0 3),(se 26 1 25),(sb 27 26),(b1 28 .mul 24 27),(sa 29 2),(se 30 1 7),(sb 31 30),(b1 32 .mul 29 31),(b1 33 .add 28 32),(so 34 (.agg (zs 2) [(0,1,(.t 22)),(1,1,(.t 33))])),(b8 2 6 34)] .ret)))⟩
def LS : aT := ⟨69,[.tmp 6],(rg [(so 3 (.box 133 (.t 0))),(so 4 (.box 95 (.t 1))),(so 6 (.mov (.k (.bool false))))] (.seq (.draw [⟨(se 13 2 3),none,[9,10],[]⟩,⟨(sc 14 2 13),none,[9,10],[]⟩,⟨(se 15 0 3),none,[9,10],[]⟩,⟨(sc 16 2 15),none,[9,10],[]⟩,⟨(b3 17 84 [14,16]),none,[9,10],[]⟩,⟨(sc 18 2 4),none,[9,10],[]⟩,⟨(se 19 0 3),none,[9,10],[]⟩,⟨(sc 20 2 19),none,[9,10],[]⟩,⟨(b3 21 84 [18,20]),none,[9,10],[]⟩,⟨(so 7 (.new 95 (zs 2))),(some 0),[10],[.fresh 0]⟩,⟨(so 8 (.new 95 (zs 2))),(some 1),[9],[.fresh 1]⟩,⟨(b8 2 7 17),none,[],[.fresh 0]⟩,⟨(b8 2 8 21),none,[],[.fresh 1]⟩]) (.seq (.draw [(ec 22 2 8),(ec 23 2 7),(d3 24 85 [22,23]),(ec 25 2 7),(ec 26 2 7),(d3 27 85 [25,26]),(ea 9 24),(ea 10 27)]) (.block 0 (rg [(sa 45 9),(b2 46 .leq 45 0),(sa 44 46)] (.cond (.t 44) (rg [(sc 47 2 8),(sc 48 2 8),(b3 49 85 [47,48]),(sa 50 2),(sa 51 2),(b1 52 .mul 50 51),(b1 53 .leq 49 52),(sa 6 53)] .ret) (rg [(sa 55 9),(sa 56 10),(b1 57 .geq 55 56),(sa 54 57)] (.cond (.t 54) (rg [(sc 58 2 4),(se 59 2 3),(sc 60 2 59),(b3 61 84 [58,60]),(so 11 (.new 95 (zs 2))),(b8 2 11 61)] (rg [(sc 62 2 11),(sc 63 2 11),(b3 64 85 [62,63]),(sa 65 2),(sa 66 2),(b1 67 .mul 65 66),(b1 68 .leq 64 67),(sa 6 68)] .ret)) (rg [(sc 28 2 7),(sc 29 2 8),(b3 30 127 [28,29]),(sa 12 30)] (rg [(sa 31 12),(sa 32 12),(so 33 (.un .neg (.t 32))),(so 34 (.mm true (.t 31) [(.t 33)])),(sa 12 34)] (rg [(sa 35 12),(sa 36 12),(b3 37 134 [35,36]),(sa 38 2),(sa 39 2),(b1 40 .mul 38 39),(sa 41 10),(b3 42 134 [40,41]),(b3 43 135 [37,42]),(sa 6 43)] .ret)))))))))))⟩
def Lc : aT := ⟨19,[.tmp 4],(rg [(b6 4 0)] (.seq (rg [(sa 6 0),(b4 7 6),(b6 8 0)] (.block 0 (.loop (rg [(b1 9 .lss 8 7)] (.seq (.cond (.t 9) .skip (.exit 0)) (.seq (.block 1 (rg [(sa 10 8),(sa 5 10)] (rg [(sa 11 1),(sa 12 0),(sa 13 5),(b7 14 2 12 13),(sc 15 2 14),(so 16 (.callv (.t 11) [(.t 15)]))] (.cond (.t 16) (rg [(sa 17 5),(sa 4 17)] .ret) .skip)))) (.reg [(b2 18 .add 8 1),(sa 8 18)]))))))) (rg [(b6 4 (-1))] .ret)))⟩
def I9 : aT := ⟨23,[.tmp 2],(rg [(so 2 (.mov (.k (.slice none 0 0))))] (rg [(sa 5 0),(so 6 (.call 139 [(.t 5),(.k (.fn (.func 140) [] []))]))] (rg [(sa 7 0),(b3 8 141 [7]),(sa 0 8)] (.seq (rg [(sa 9 0),(b4 10 9),(b2 11 .lss 10 3)] (.cond (.t 11) (rg [(sa 12 0),(sa 2 12)] .ret) .skip)) (rg [(so 3 (.new 111 [(.slice none 0 0)]))] (rg [(so 13 (.mkf (.func 142) [] [(.t 3)])),(sa 4 13)] (rg [(sa 14 4),(sa 15 0),(so 16 (.callv (.t 14) [(.t 15)]))] (rg [(sa 17 0),(b3 18 143 [17])] (rg [(sa 19 4),(sa 20 0),(so 21 (.callv (.t 19) [(.t 20)]))] (rg [(sb 22 3),(sa 2 22)] .ret))))))))))⟩
def K8 : aT := ⟨81,[.tmp 4],(rg [(so 2 (.box 145 (.t 0))),(so 3 (.box 29 (.t 1))),(b6 4 0)] (rg [(b6 5 0)] (.seq (rg [(sc 11 4 3),(b3 12 54 [11]),(b6 13 0)] (.block 0 (.loop (rg [(b2 14 .lss 13 4)] (.seq (.cond (.t 14) .skip (.exit 0)) (.seq (.block 1 (rg [(so 15 (.ixA 4 2 (some 2) (.t 12) (.t 13))),(so 7 (.new 95 (zs 2))),(b8 2 7 15)] (rg [(sc 16 5 2),(se 17 0 7),(sb 18 17),(se 19 1 7),(sb 20 19),(b3 21 123 [16,18,20])] (.cond (.t 21) (.reg [(sa 22 5),(b2 23 .add 22 1),(sa 5 23)]) .skip)))) (.reg [(b2 24 .add 13 1),(sa 13 24)]))))))) (.seq (.block 2 (rg [(sa 26 5),(b2 27 .eql 26 4),(sa 25 27)] (.cond (.t 25) (rg [(b6 4 2)] .ret) (rg [(sa 29 5),(b2 30 .gtr 29 0),(sa 28 30)] (.cond (.t 28) (rg [(b6 4 1)] .ret) .skip))))) (.seq (rg [(se 31 0 2),(se 32 0 31),(sc 33 2 32),(se 34 0 2),(se 35 2 34),(sc 36 2 35),(so 37 (.agg (zs 4) [(0,2,(.t 33)),(2,2,(.t 36))])),(b6 38 0)] (.block 3 (.loop (rg [(b2 39 .lss 38 2)] (.seq (.cond (.t 39) .skip (.exit 3)) (.seq (.block 4 (rg [(so 40 (.ixA 2 2 (some 2) (.t 37) (.t 38))),(so 9 (.new 95 (zs 2))),(b8 2 9 40)] (rg [(se 41 0 3),(sb 42 41),(so 43 (.bin .mul (ki 2) (.t 42))),(se 44 0 9),(sb 45 44),(b1 46 .sub 43 45),(se 47 0 9),(sb 48 47),(se 49 2 3),(sb 50 49),(so 51 (.bin .mul (ki 2) (.t 50))),(b1 52 .sub 48 51),(so 53 (.mm true (.t 46) [(ki 0),(.t 52)])),(se 54 1 3),(sb 55 54),(so 56 (.bin .mul (ki 2) (.t 55))),(se 57 1 9),(sb 58 57),(b1 59 .sub 56 58),(se 60 1 9),(sb 61 60),(se 62 3 3),(sb 63 62),(so 64 (.bin .mul (ki 2) (.t 63))),(b1 65 .sub 61 64),(so 66 (.mm true (.t 59) [(ki 0),(.t 65)])),(so 67 (.agg (zs 2) [(0,1,(.t 53)),(1,1,(.t 66))])),(so 10 (.new 95 (zs 2))),(b8 2 10 67)] (.seq (.draw [(ec 68 2 10),(ec 69 2 10),(d3 70 85 [68,69]),(ee 71 4 2),(eb 72 71),(ee 73 4 2),(eb 74 73),(d1 75 .mul 72 74),(d1 76 .leq 70 75)]) (.cond (.t 76) (rg [(b6 4 1)] .ret) .skip))))) (.reg [(b2 77 .add 38 1),(sa 38 77)]))))))) (.seq (rg [(sc 78 5 2),(sc 79 4 3),(b3 80 145 [78,79])] (.cond (.t 80) (rg [(b6 4 1)] .ret) .skip)) (rg [(b6 4 0)] .ret)))))))⟩
def Lw : aT := ⟨9,[.tmp 3],(rg [(so 2 (.box 54 (.t 0))),(so 3 (.mov (.k (.bool false))))] (rg [(se 4 0 2),(sb 5 4),(se 6 0 1),(sb 7 6),(b1 8 .eql 5 7),(sa 3 8)] .ret))⟩
def Lx : aT := ⟨9,[.tmp 2],(rg [(so 1 (.box 72 (.t 0))),(so 2 (.mov (.k (.bool false))))] (rg [(so 3 (.iaA 2 1 (.t 1) (ki 0))),(sb 4 3),(so 5 (.iaA 2 1 (.t 1) (ki 1))),(sb 6 5),(so 7 (.bsl 3 2 (zs 2) [(0,1,(.t 4)),(1,1,(.t 6))])),(b3 8 45 [7]),(sa 2 8)] .ret))⟩
def Kt : aT := ⟨27,[.tmp 2],(rg [(so 2 (.mov (.k (.bool false))))] (rg [(sa 4 0),(so 5 (.call 146 [(.t 4),(.k (.str ⟨#[97,98,99,100,101,102,103,104,105,106,107,108,109,110,111,112,113,114,115,116,117,118,119,120,121,122,48,49,50,51,52,53,54,55,56,57,45]⟩))])),(sa 3 5)] (rg [(sa 6 0),(so 7 (.bin .neq (.t 6) (.k (.str ⟨#[]⟩)))),(sa 8 7),⟨(some 9),.mov (.t 0),(some (8,true))⟩,⟨(some 10),.lenT (.t 9),(some (8,true))⟩,⟨(some 11),.bin .leq (.t 10) (ki 24),(some (8,true))⟩,(so 12 (.pick (.t 8) (.t 11) (.k (.bool false)))),(sa 13 12),⟨(some 14),.mov (.t 3),(some (13,true))⟩,⟨(some 15),.bin .eql (.t 14) (.k (.str ⟨#[]⟩)),(some (13,true))⟩,(so 16 (.pick (.t 13) (.t 15) (.k (.bool false)))),(sa 17 16),⟨(some 18),.mov (.t 0),(some (17,true))⟩,⟨(some 19),.ixS (.t 18) (ki 0),(some (17,true))⟩,⟨(some 20),.bin .geq (.t 19) (.k (.int .u8 97)),(some (17,true))⟩,(so 21 (.pick (.t 17) (.t 20) (.k (.bool false)))),(sa 22 21),⟨(some 23),.mov (.t 0),(some (22,true))⟩,⟨(some 24),.ixS (.t 23) (ki 0),(some (22,true))⟩,⟨(some 25),.bin .leq (.t 24) (.k (.int .u8 122)),(some (22,true))⟩,(so 26 (.pick (.t 22) (.t 25) (.k (.bool false)))),(sa 2 26)] .ret)))⟩
def KY : aT := ⟨9,[.tmp 4],(rg [(so 4 (.mov (.k (.bool false))))] (rg [(sa 5 0),(sa 6 1),(b3 7 147 [5,6]),(b2 8 .geq 7 0),(sa 4 8)] .ret))⟩
def BY : aT := ⟨61,[.tmp 2],(rg [(so 2 (.mov (.k (.slice none 0 0))))] (.seq (rg [(sa 6 0),(b4 7 6),(b2 8 .lss 7 2)] (.cond (.t 8) (rg [(sa 9 0),(sa 2 9)] .ret) .skip)) (.seq (rg [(b6 3 1)] (.block 0 (.loop (.seq (rg [(sa 10 3),(sa 11 0),(b4 12 11),(b1 13 .lss 10 12)] (.cond (.t 13) .skip (.exit 0))) (.seq (.block 1 (.seq (.draw [(ea 16 0),(ea 17 3),(d7 18 2 16 17),(ec 19 2 18),(ea 20 0),(ea 21 3),(d2 22 .sub 21 1),(d7 23 2 20 22),(ec 24 2 23),(eo 25 (.eqa false 2 (.t 19) (.t 24)))]) (.cond (.t 25) (rg [(sa 26 0),(sa 27 3),(so 28 (.slS 2 (.t 26) (some (.t 27)) none none)),(sa 4 28)] (.seq (rg [(b6 5 1)] (.block 2 (.loop (.seq (rg [(sa 29 5),(sa 30 4),(b4 31 30),(b1 32 .lss 29 31)] (.cond (.t 32) .skip (.exit 2))) (.seq (.block 3 (.seq (.draw [(ea 35 4),(ea 36 5),(d7 37 2 35 36),(ec 38 2 37),(ea 39 4),(ea 40 5),(d2 41 .sub 40 1),(d7 42 2 39 41),(ec 43 2 42),(eo 44 (.eqa true 2 (.t 38) (.t 43)))]) (.cond (.t 44) (rg [(sa 45 0),(sa 46 3),(sa 47 4),(sa 48 5),(b7 49 2 47 48),(sc 50 2 49),(b7 51 2 45 46),(b8 2 51 50)] (.reg [(sa 52 3),(b2 53 .add 52 1),(sa 3 53)])) .skip))) (.reg [(sa 33 5),(b2 34 .add 33 1),(sa 5 34)])))))) (rg [(sa 54 0),(sa 55 3),(so 56 (.slS 2 (.t 54) (some (.t 55)) none none)),⟨none,.clr 2 (zs 2) (.t 56),none⟩] (rg [(sa 57 0),(sa 58 3),(so 59 (.slS 2 (.t 57) none (some (.t 58)) none)),(sa 2 59)] .ret)))) .skip))) (.reg [(sa 14 3),(b2 15 .add 14 1),(sa 3 15)])))))) (rg [(sa 60 0),(sa 2 60)] .ret))))⟩
def Bw : aT := ⟨8,[.tmp 2],(rg [(so 2 (.mov (.k (.slice none 0 0))))] (.seq (rg [(sa 3 0),(so 4 (.isn false (.t 3)))] (.cond (.t 4) (rg [(so 2 (.mov (.k (.slice none 0 0))))] .ret) .skip)) (rg [(so 5 (.bsl 72 0 [] [])),(sa 6 0),(so 7 (.app 72 2 16 (zs 2) (.t 5) (.t 6))),(sa 2 7)] .ret)))⟩
def Ks : aT := ⟨27,[.tmp 2],(rg [(so 1 (.box 137 (.t 0))),(so 2 (.mov (.k (.bool false))))] (rg [(se 3 1 1),(sb 4 3),(so 5 (.call 86 [(.t 4),(ki 1),(ki 1000)])),(sa 6 5),⟨(some 7),.fa 0 (.t 1),(some (6,false))⟩,⟨(some 8),.ld (.t 7),(some (6,false))⟩,⟨(some 9),.fa 1 (.t 1),(some (6,false))⟩,⟨(some 10),.ld (.t 9),(some (6,false))⟩,⟨(some 11),.bin .sub (.t 10) (ki 1),(some (6,false))⟩,⟨(some 12),.call 86 [(.t 8),(ki 0),(.t 11)],(some (6,false))⟩,(so 13 (.pick (.t 6) (.k (.bool true)) (.t 12))),(sa 14 13),⟨(some 15),.fa 3 (.t 1),(some (14,false))⟩,⟨(some 16),.ld (.t 15),(some (14,false))⟩,⟨(some 17),.call 86 [(.t 16),(ki 1),(ki 1000)],(some (14,false))⟩,(so 18 (.pick (.t 14) (.k (.bool true)) (.t 17))),(sa 19 18),⟨(some 20),.fa 2 (.t 1),(some (19,false))⟩,⟨(some 21),.ld (.t 20),(some (19,false))⟩,⟨(some 22),.fa 3 (.t 1),(some (19,false))⟩,⟨(some 23),.ld (.t 22),(some (19,false))⟩,⟨(some 24),.bin .sub (.t 23) (ki 1),(some (19,false))⟩,⟨(some 25),.call 86 [(.t 21),(ki 0),(.t 24)],(some (19,false))⟩,(so 26 (.pick (.t 19) (.k (.bool true)) (.t 25))),(sa 2 26)] .ret))⟩
def Mg : aT := ⟨9,[.tmp 4],(rg [(so 4 (.mov (.k (.bool false))))] (rg [(sa 5 0),(sa 6 1),(b3 7 148 [5,6]),(b2 8 .geq 7 0),(sa 4 8)] .ret))⟩
def LT : aT := ⟨9,[.tmp 3],(rg [(so 2 (.box 100 (.t 0))),(so 3 (.mov (.k (.bool false))))] (rg [(se 4 0 2),(sb 5 4),(se 6 0 1),(sb 7 6),(b1 8 .eql 5 7),(sa 3 8)] .ret))⟩
def Lr : aT := ⟨9,[.tmp 4],(rg [(so 4 (.mov (.k (.bool false))))] (rg [(sa 5 0),(sa 6 1),(b3 7 149 [5,6]),(b2 8 .geq 7 0),(sa 4 8)] .ret))⟩
def LB : aT := ⟨17,[.tmp 6],(rg [(so 3 (.box 145 (.t 0))),(so 6 (.mov (.k (.bool false))))] (rg [(se 7 0 3),(sc 8 4 7),(sa 9 1),(so 10 (.bin .mul (ki 2) (.t 9))),(sa 11 2),(so 12 (.bin .mul (ki 2) (.t 11))),(so 13 (.agg (zs 2) [(0,1,(.t 10)),(1,1,(.t 12))])),(se 14 4 3),(sb 15 14),(b3 16 103 [8,13,15]),(sa 6 16)] .ret))⟩
def K9 : aT := ⟨16,[.tmp 4],(rg [(so 2 (.box 95 (.t 0))),(so 3 (.box 95 (.t 1))),(b6 4 0)] (rg [(se 5 0 2),(sb 6 5),(se 7 1 3),(sb 8 7),(b1 9 .mul 6 8),(se 10 1 2),(sb 11 10),(se 12 0 3),(sb 13 12),(b1 14 .mul 11 13),(b1 15 .sub 9 14),(sa 4 15)] .ret))⟩
def Lg : aT := ⟨19,[.tmp 4],(rg [(b6 4 0)] (.seq (rg [(sa 6 0),(b4 7 6),(b6 8 0)] (.block 0 (.loop (rg [(b1 9 .lss 8 7)] (.seq (.cond (.t 9) .skip (.exit 0)) (.seq (.block 1 (rg [(sa 10 8),(sa 5 10)] (rg [(sa 11 1),(sa 12 0),(sa 13 5),(b7 14 4 12 13),(sc 15 4 14),(so 16 (.callv (.t 11) [(.t 15)]))] (.cond (.t 16) (rg [(sa 17 5),(sa 4 17)] .ret) .skip)))) (.reg [(b2 18 .add 8 1),(sa 8 18)]))))))) (rg [(b6 4 (-1))] .ret)))⟩
def Gl : aT := ⟨8,[.tmp 2],(rg [(b6 2 0)] (.seq (.cond (.k (.bool false)) (rg [(sa 3 0),(so 4 (.conv .u32 (.t 3))),(b3 5 160 [4]),(sa 2 5)] .ret) .skip) (rg [(sa 6 0),(b3 7 161 [6]),(sa 2 7)] .ret)))⟩
def KJ : aT := ⟨19,[.tmp 4],(rg [(b6 4 0)] (.seq (rg [(sa 6 0),(b4 7 6),(b6 8 0)] (.block 0 (.loop (rg [(b1 9 .lss 8 7)] (.seq (.cond (.t 9) .skip (.exit 0)) (.seq (.block 1 (rg [(sa 10 8),(sa 5 10)] (rg [(sa 11 1),(sa 12 0),(sa 13 5),(b7 14 1 12 13),(sb 15 14),(so 16 (.callv (.t 11) [(.t 15)]))] (.cond (.t 16) (rg [(sa 17 5),(sa 4 17)] .ret) .skip)))) (.reg [(b2 18 .add 8 1),(sa 8 18)]))))))) (rg [(b6 4 (-1))] .ret)))⟩
def Mm : aT := ⟨18,[.cell 4 (some 2)],(rg [(so 4 (.new 192 [(.int .u64 0),(.int .u64 0)]))] (rg [(sa 8 0),(so 9 (.conv .u64 (.t 8))),(sa 10 1),(so 11 (.conv .u64 (.t 10))),(b3 12 162 [9,11]),(sa 7 12),(so 13 (.ext (.t 7) 0)),(so 14 (.ext (.t 7) 1)),(sa 5 13),(sa 6 14)] (rg [(sa 15 5),(sa 16 6),(so 17 (.agg [(.int .u64 0),(.int .u64 0)] [(0,1,(.t 15)),(1,1,(.t 16))])),(b8 2 4 17)] .ret)))⟩
def Kj : aT := ⟨29,[.tmp 4],(rg [(so 2 (.box 192 (.t 0))),(so 3 (.box 192 (.t 1))),(so 4 (.mov (.k (.bool false))))] (rg [(sc 5 2 2),(sc 6 2 3),(so 7 (.eqa false 2 (.t 5) (.t 6))),(sa 8 7),⟨(some 9),.fa 0 (.t 2),(some (8,false))⟩,⟨(some 10),.ld (.t 9),(some (8,false))⟩,⟨(some 11),.fa 0 (.t 3),(some (8,false))⟩,⟨(some 12),.ld (.t 11),(some (8,false))⟩,⟨(some 13),.bin .lss (.t 10) (.t 12),(some (8,false))⟩,(so 14 (.pick (.t 8) (.k (.bool true)) (.t 13))),(sa 15 14),⟨(some 16),.fa 0 (.t 2),(some (15,false))⟩,⟨(some 17),.ld (.t 16),(some (15,false))⟩,⟨(some 18),.fa 0 (.t 3),(some (15,false))⟩,⟨(some 19),.ld (.t 18),(some (15,false))⟩,⟨(some 20),.bin .eql (.t 17) (.t 19),(some (15,false))⟩,⟨(some 21),.mov (.t 20),(some (15,false))⟩,⟨(some 22),.fa 1 (.t 2),(some (21,true))⟩,⟨(some 23),.ld (.t 22),(some (21,true))⟩,⟨(some 24),.fa 1 (.t 3),(some (21,true))⟩,⟨(some 25),.ld (.t 24),(some (21,true))⟩,⟨(some 26),.bin .lss (.t 23) (.t 25),(some (21,true))⟩,⟨(some 27),.pick (.t 21) (.t 26) (.k (.bool false)),(some (15,false))⟩,(so 28 (.pick (.t 15) (.k (.bool true)) (.t 27))),(sa 4 28)] .ret))⟩
def Hs : aT := ⟨14,[],(rg [(sa 5 0),(b4 6 5),(sa 4 6)] (.reg [(sa 7 0),(sa 8 4),(sa 9 4),(so 10 (.conv .u64 (.t 9))),(b3 11 131 [10]),(sa 12 1),(so 13 (.call 163 [(.t 7),(ki 0),(.t 8),(.t 11),(.t 12)]))]))⟩
def Mc : aT := ⟨20,[.tmp 4],(rg [(so 2 (.box 95 (.t 0))),(so 3 (.box 95 (.t 1))),(b6 4 0)] (.seq (rg [(se 5 0 2),(sb 6 5),(se 7 0 3),(sb 8 7),(b1 9 .neq 6 8)] (.cond (.t 9) (rg [(se 10 0 2),(sb 11 10),(se 12 0 3),(sb 13 12),(b1 14 .sub 11 13),(sa 4 14)] .ret) .skip)) (rg [(se 15 1 2),(sb 16 15),(se 17 1 3),(sb 18 17),(b1 19 .sub 16 18),(sa 4 19)] .ret)))⟩
def IU : aT := ⟨61,[.tmp 2],(rg [(so 2 (.mov (.k (.slice none 0 0))))] (.seq (rg [(sa 6 0),(b4 7 6),(b2 8 .lss 7 2)] (.cond (.t 8) (rg [(sa 9 0),(sa 2 9)] .ret) .skip)) (.seq (rg [(b6 3 1)] (.block 0 (.loop (.seq (rg [(sa 10 3),(sa 11 0),(b4 12 11),(b1 13 .lss 10 12)] (.cond (.t 13) .skip (.exit 0))) (.seq (.block 1 (.seq (.draw [(ea 16 0),(ea 17 3),(d7 18 2 16 17),(ec 19 2 18),(ea 20 0),(ea 21 3),(d2 22 .sub 21 1),(d7 23 2 20 22),(ec 24 2 23),(eo 25 (.eqa false 2 (.t 19) (.t 24)))]) (.cond (.t 25) (rg [(sa 26 0),(sa 27 3),(so 28 (.slS 2 (.t 26) (some (.t 27)) none none)),(sa 4 28)] (.seq (rg [(b6 5 1)] (.block 2 (.loop (.seq (rg [(sa 29 5),(sa 30 4),(b4 31 30),(b1 32 .lss 29 31)] (.cond (.t 32) .skip (.exit 2))) (.seq (.block 3 (.seq (.draw [(ea 35 4),(ea 36 5),(d7 37 2 35 36),(ec 38 2 37),(ea 39 4),(ea 40 5),(d2 41 .sub 40 1),(d7 42 2 39 41),(ec 43 2 42),(eo 44 (.eqa true 2 (.t 38) (.t 43)))]) (.cond (.t 44) (rg [(sa 45 0),(sa 46 3),(sa 47 4),(sa 48 5),(b7 49 2 47 48),(sc 50 2 49),(b7 51 2 45 46),(b8 2 51 50)] (.reg [(sa 52 3),(b2 53 .add 52 1),(sa 3 53)])) .skip))) (.reg [(sa 33 5),(b2 34 .add 33 1),(sa 5 34)])))))) (rg [(sa 54 0),(sa 55 3),(so 56 (.slS 2 (.t 54) (some (.t 55)) none none)),⟨none,.clr 2 (zs 2) (.t 56),none⟩] (rg [(sa 57 0),(sa 58 3),(so 59 (.slS 2 (.t 57) none (some (.t 58)) none)),(sa 2 59)] .ret)))) .skip))) (.reg [(sa 14 3),(b2 15 .add 14 1),(sa 3 15)])))))) (rg [(sa 60 0),(sa 2 60)] .ret))))⟩
def Jy : aT := ⟨52,[],(rg [(sb 6 1),(b4 7 6),(sa 3 7)] (.seq (rg [(sa 8 0),(b4 9 8),(b6 10 0)] (.block 0 (.loop (rg [(b1 11 .lss 10 9)] (.seq (.cond (.t 11) .skip (.exit 0)) (.seq (.block 1 (rg [(b7 12 2 8 10),(sc 13 2 12),(so 5 (.new 95 (zs 2))),(b8 2 5 13)] (.seq (.block 2 (.loop (.seq (.seq (.draw [(eb 14 1),(d4 15 14),(ea 16 3),(d2 17 .add 16 1),(d1 18 .gtr 15 17),(ea 19 18),(dz ⟨(some 20),.ld (.t 1),(some (19,true))⟩),(dz ⟨(some 21),.ld (.t 1),(some (19,true))⟩),(dz ⟨(some 22),.len (.t 21),(some (19,true))⟩),(dz ⟨(some 23),.bin .sub (.t 22) (ki 2),(some (19,true))⟩),(dz ⟨(some 24),.iaS 2 (.t 20) (.t 23),(some (19,true))⟩),(dz ⟨(some 25),.lds 2 (.t 24),(some (19,true))⟩),(dz ⟨(some 26),.ld (.t 1),(some (19,true))⟩),(dz ⟨(some 27),.ld (.t 1),(some (19,true))⟩),(dz ⟨(some 28),.len (.t 27),(some (19,true))⟩),(dz ⟨(some 29),.bin .sub (.t 28) (ki 1),(some (19,true))⟩),(dz ⟨(some 30),.iaS 2 (.t 26) (.t 29),(some (19,true))⟩),(dz ⟨(some 31),.lds 2 (.t 30),(some (19,true))⟩),(dz ⟨(some 32),.agg (zs 4) [(0,2,(.t 25)),(2,2,(.t 31))],(some (19,true))⟩),(dz ⟨(some 33),.lds 2 (.t 5),(some (19,true))⟩),(dz ⟨(some 34),.call 78 [(.t 32),(.t 33)],(some (19,true))⟩),(dz ⟨(some 35),.bin .leq (.t 34) (ki 0),(some (19,true))⟩),(eo 36 (.pick (.t 19) (.t 35) (.k (.bool false))))]) (.cond (.t 36) .skip (.exit 2))) (.block 3 (.reg [(sb 37 1),(sb 38 1),(b4 39 38),(b2 40 .sub 39 1),(so 41 (.slS 2 (.t 37) none (some (.t 40)) none)),(b8 1 1 41)]))))) (.reg [(sb 42 1),(sc 43 2 5),(so 44 (.bsl 95 1 (zs 2) [(0,2,(.t 43))])),(so 45 (.app 95 2 16 (zs 2) (.t 42) (.t 44))),(b8 1 1 45)])))) (.reg [(b2 46 .add 10 1),(sa 10 46)]))))))) (.reg [(sb 47 1),(sb 48 1),(b4 49 48),(b2 50 .sub 49 1),(so 51 (.slS 2 (.t 47) none (some (.t 50)) none)),(b8 1 1 51)])))⟩
def JF : aT := ⟨28,[],(rg [(sa 4 0),(b4 5 4),(b2 6 .sub 5 1),(b6 2 0),(sa 3 6)] (.block 0 (.loop (.seq (rg [(sa 7 2),(sa 8 3),(b1 9 .lss 7 8)] (.cond (.t 9) .skip (.exit 0))) (.seq (.block 1 (.draw [(ea 14 0),(ea 15 2),⟨(sa 16 0),none,[13],[]⟩,⟨(sa 17 3),none,[13],[]⟩,(ea 18 0),(ea 19 3),(d7 20 2 18 19),(ec 21 2 20),(ea 22 0),(ea 23 2),(d7 24 2 22 23),(ec 25 2 24),(d7 26 2 14 15),⟨(b8 2 26 21),none,[],[.slot 0]⟩,(d7 27 2 16 17),⟨(b8 2 27 25),none,[],[.slot 0]⟩])) (.reg [(sa 10 2),(b2 11 .add 10 1),(sa 12 3),(b2 13 .sub 12 1),(sa 2 11),(sa 3 13)]))))))⟩
def Lh : aT := ⟨93,[.tmp 4],(rg [(so 2 (.box 145 (.t 0))),(so 3 (.box 29 (.t 1))),(so 4 (.mov (.k (.bool false))))] (.seq (rg [(se 10 0 2),(se 11 0 10),(se 12 0 11),(sb 13 12),(se 14 0 2),(se 15 2 14),(se 16 0 15),(sb 17 16),(so 18 (.mm true (.t 13) [(.t 17)])),(se 19 0 3),(sb 20 19),(so 21 (.bin .mul (ki 2) (.t 20))),(b1 22 .lss 18 21),(sa 23 22),⟨(some 24),.fa 0 (.t 2),(some (23,false))⟩,⟨(some 25),.fa 0 (.t 24),(some (23,false))⟩,⟨(some 26),.fa 0 (.t 25),(some (23,false))⟩,⟨(some 27),.ld (.t 26),(some (23,false))⟩,⟨(some 28),.fa 0 (.t 2),(some (23,false))⟩,⟨(some 29),.fa 2 (.t 28),(some (23,false))⟩,⟨(some 30),.fa 0 (.t 29),(some (23,false))⟩,⟨(some 31),.ld (.t 30),(some (23,false))⟩,⟨(some 32),.mm false (.t 27) [(.t 31)],(some (23,false))⟩,⟨(some 33),.fa 2 (.t 3),(some (23,false))⟩,⟨(some 34),.ld (.t 33),(some (23,false))⟩,⟨(some 35),.bin .mul (ki 2) (.t 34),(some (23,false))⟩,⟨(some 36),.bin .gtr (.t 32) (.t 35),(some (23,false))⟩,(so 37 (.pick (.t 23) (.k (.bool true)) (.t 36))),(sa 38 37),⟨(some 39),.fa 0 (.t 2),(some (38,false))⟩,⟨(some 40),.fa 0 (.t 39),(some (38,false))⟩,⟨(some 41),.fa 1 (.t 40),(some (38,false))⟩,⟨(some 42),.ld (.t 41),(some (38,false))⟩,⟨(some 43),.fa 0 (.t 2),(some (38,false))⟩,⟨(some 44),.fa 2 (.t 43),(some (38,false))⟩,⟨(some 45),.fa 1 (.t 44),(some (38,false))⟩,⟨(some 46),.ld (.t 45),(some (38,false))⟩,⟨(some 47),.mm true (.t 42) [(.t 46)],(some (38,false))⟩,⟨(some 48),.fa 1 (.t 3),(some (38,false))⟩,⟨(some 49),.ld (.t 48),(some (38,false))⟩,⟨(some 50),.bin .mul (ki 2) (.t 49),(some (38,false))⟩,⟨(some 51),.bin .lss (.t 47) (.t 50),(some (38,false))⟩,(so 52 (.pick (.t 38) (.k (.bool true)) (.t 51))),(sa 53 52),⟨(some 54),.fa 0 (.t 2),(some (53,false))⟩,⟨(some 55),.fa 0 (.t 54),(some (53,false))⟩,⟨(some 56),.fa 1 (.t 55),(some (53,false))⟩,⟨(some 57),.ld (.t 56),(some (53,false))⟩,⟨(some 58),.fa 0 (.t 2),(some (53,false))⟩,⟨(some 59),.fa 2 (.t 58),(some (53,false))⟩,⟨(some 60),.fa 1 (.t 59),(some (53,false))⟩,⟨(some 61),.ld (.t 60),(some (53,false))⟩,⟨(some 62),.mm false (.t 57) [(.t 61)],(some (53,false))⟩,⟨(some 63),.fa 3 (.t 3),(some (53,false))⟩,⟨(some 64),.ld (.t 63),(some (53,false))⟩,⟨(some 65),.bin .mul (ki 2) (.t 64),(some (53,false))⟩,⟨(some 66),.bin .gtr (.t 62) (.t 65),(some (53,false))⟩,(so 67 (.pick (.t 53) (.k (.bool true)) (.t 66)))] (.cond (.t 67) (rg [(so 4 (.mov (.k (.bool false))))] .ret) .skip)) (rg [(so 5 (.mov (.k (.bool false)))),(so 6 (.mov (.k (.bool false))))] (.seq (rg [(sc 68 4 3),(b3 69 54 [68]),(b6 70 0)] (.block 0 (.loop (rg [(b2 71 .lss 70 4)] (.seq (.cond (.t 71) .skip (.exit 0)) (.seq (.block 1 (rg [(so 72 (.ixA 4 2 (some 2) (.t 69) (.t 70))),(so 8 (.new 95 (zs 2))),(b8 2 8 72)] (.seq (.draw [(ee 73 0 2),(ec 74 4 73),(ec 75 2 8),(eo 76 (.call 101 [(.t 75),(ki 2)])),(d3 77 78 [74,76]),(ea 9 77)]) (.reg [(sa 78 5),(sa 79 78),⟨(some 80),.mov (.t 9),(some (79,false))⟩,⟨(some 81),.bin .geq (.t 80) (ki 0),(some (79,false))⟩,(so 82 (.pick (.t 79) (.k (.bool true)) (.t 81))),(sa 83 6),(sa 84 83),⟨(some 85),.mov (.t 9),(some (84,false))⟩,⟨(some 86),.bin .leq (.t 85) (ki 0),(some (84,false))⟩,(so 87 (.pick (.t 84) (.k (.bool true)) (.t 86))),(sa 5 82),(sa 6 87)])))) (.reg [(b2 88 .add 70 1),(sa 70 88)]))))))) (rg [(sa 89 5),(sa 90 89),⟨(some 91),.mov (.t 6),(some (90,true))⟩,(so 92 (.pick (.t 90) (.t 91) (.k (.bool false)))),(sa 4 92)] .ret)))))⟩
def KF : aT := ⟨19,[.tmp 4],(rg [(b6 4 0)] (.seq (rg [(sa 6 0),(b4 7 6),(b6 8 0)] (.block 0 (.loop (rg [(b1 9 .lss 8 7)] (.seq (.cond (.t 9) .skip (.exit 0)) (.seq (.block 1 (rg [(sa 10 8),(sa 5 10)] (rg [(sa 11 1),(sa 12 0),(sa 13 5),(b7 14 2 12 13),(sc 15 2 14),(so 16 (.callv (.t 11) [(.t 15)]))] (.cond (.t 16) (rg [(sa 17 5),(sa 4 17)] .ret) .skip)))) (.reg [(b2 18 .add 8 1),(sa 8 18)]))))))) (rg [(b6 4 (-1))] .ret)))⟩
def LI : aT := ⟨19,[.tmp 4],(rg [(b6 4 0)] (.seq (rg [(sa 6 0),(b4 7 6),(b6 8 0)] (.block 0 (.loop (rg [(b1 9 .lss 8 7)] (.seq (.cond (.t 9) .skip (.exit 0)) (.seq (.block 1 (rg [(sa 10 8),(sa 5 10)] (rg [(sa 11 1),(sa 12 0),(sa 13 5),(b7 14 4 12 13),(sc 15 4 14),(so 16 (.callv (.t 11) [(.t 15)]))] (.cond (.t 16) (rg [(sa 17 5),(sa 4 17)] .ret) .skip)))) (.reg [(b2 18 .add 8 1),(sa 8 18)]))))))) (rg [(b6 4 (-1))] .ret)))⟩
def Lo : aT := ⟨19,[.tmp 4],(rg [(b6 4 0)] (.seq (rg [(sa 6 0),(b4 7 6),(b6 8 0)] (.block 0 (.loop (rg [(b1 9 .lss 8 7)] (.seq (.cond (.t 9) .skip (.exit 0)) (.seq (.block 1 (rg [(sa 10 8),(sa 5 10)] (rg [(sa 11 1),(sa 12 0),(sa 13 5),(b7 14 6 12 13),(sc 15 6 14),(so 16 (.callv (.t 11) [(.t 15)]))] (.cond (.t 16) (rg [(sa 17 5),(sa 4 17)] .ret) .skip)))) (.reg [(b2 18 .add 8 1),(sa 8 18)]))))))) (rg [(b6 4 (-1))] .ret)))⟩
def I8 : aT := ⟨25,[.tmp 2],(rg [(b6 2 0)] (.seq (rg [(sa 3 0),(so 4 (.bin .geq (.t 3) (.k (.int .u64 4294967296))))] (.cond (.t 4) (rg [(sa 5 0),(so 6 (.bin .shr (.t 5) (.k (.int .u64 32)))),(sa 0 6)] (.reg [(b6 2 32)])) .skip)) (.seq (rg [(sa 7 0),(so 8 (.bin .geq (.t 7) (.k (.int .u64 65536))))] (.cond (.t 8) (rg [(sa 9 0),(so 10 (.bin .shr (.t 9) (.k (.int .u64 16)))),(sa 0 10)] (.reg [(sa 11 2),(b2 12 .add 11 16),(sa 2 12)])) .skip)) (.seq (rg [(sa 13 0),(so 14 (.bin .geq (.t 13) (.k (.int .u64 256))))] (.cond (.t 14) (rg [(sa 15 0),(so 16 (.bin .shr (.t 15) (.k (.int .u64 8)))),(sa 0 16)] (.reg [(sa 17 2),(b2 18 .add 17 8),(sa 2 18)])) .skip)) (rg [(sa 19 2),(sa 20 0),(so 21 (.conv .u8 (.t 20))),(so 22 (.ixS (.k (.str ⟨#[0,1,2,2,3,3,3,3,4,4,4,4,4,4,4,4,5,5,5,5,5,5,5,5,5,5,5,5,5,5,5,5,6,6,6,6,6,6,6,6,6,6,6,6,6,6,6,6,6,6,6,6,6,6,6,6,6,6,6,6,6,6,6,6,7,7,7,7,7,7,7,7,7,7,7,7,7,7,7,7,7,7,7,7,7,7,7,7,7,7,7,7,7,7,7,7,7,7,7,7,7,7,7,7,7,7,7,7,7,7,7,7,7,7,7,7,7,7,7,7,7,7,7,7,7,7,7,7,8,8,8,8,8,8,8,8,8,8,8,8,8,8,8,8,8,8,8,8,8,8,8,8,8,8,8,8,8,8,8,8,8,8,8,8,8,8,8,8,8,8,8,8,8,8,8,8,8,8,8,8,8,8,8,8,8,8,8,8,8,8,8,8,8,8,8,8,8,8,8,8,8,8,8,8,8,8,8,8,8,8,8,8,8,8,8,8,8,8,8,8,8,8,8,8,8,8,8,8,8,8,8,8,8,8,8,8,8,8,8,8,8,8,8,8,8,8,8,8,8,8,8,8,8,8,8,8]⟩)) (.t 21))),(so 23 (.conv .i64 (.t 22))),(b1 24 .add 19 23),(sa 2 24)] .ret)))))⟩
def KS : aT := ⟨51,[.tmp 4,.tmp 5],(rg [(so 4 (.mov (.k (.int .u64 0)))),(so 5 (.mov (.k (.int .u64 0))))] (rg [(sa 14 0),(so 15 (.bin .and (.t 14) (.k (.int .u64 4294967295)))),(sa 6 15)] (rg [(sa 16 0),(so 17 (.bin .shr (.t 16) (.k (.int .u64 32)))),(sa 7 17)] (rg [(sa 18 1),(so 19 (.bin .and (.t 18) (.k (.int .u64 4294967295)))),(sa 8 19)] (rg [(sa 20 1),(so 21 (.bin .shr (.t 20) (.k (.int .u64 32)))),(sa 9 21)] (rg [(sa 22 6),(sa 23 8),(b1 24 .mul 22 23),(sa 10 24)] (rg [(sa 25 7),(sa 26 8),(b1 27 .mul 25 26),(sa 28 10),(so 29 (.bin .shr (.t 28) (.k (.int .u64 32)))),(b1 30 .add 27 29),(sa 11 30)] (rg [(sa 31 11),(so 32 (.bin .and (.t 31) (.k (.int .u64 4294967295)))),(sa 12 32)] (rg [(sa 33 11),(so 34 (.bin .shr (.t 33) (.k (.int .u64 32)))),(sa 13 34)] (rg [(sa 35 12),(sa 36 6),(sa 37 9),(b1 38 .mul 36 37),(b1 39 .add 35 38),(sa 12 39)] (rg [(sa 40 7),(sa 41 9),(b1 42 .mul 40 41),(sa 43 13),(b1 44 .add 42 43),(sa 45 12),(so 46 (.bin .shr (.t 45) (.k (.int .u64 32)))),(b1 47 .add 44 46),(sa 4 47)] (rg [(sa 48 0),(sa 49 1),(b1 50 .mul 48 49),(sa 5 50)] .ret))))))))))))⟩
def H8 : aT := ⟨148,[],(rg [(so 10 (.mov (.k (.bool true))))] (rg [(so 11 (.mov (.k (.bool true))))] (.block 0 (.loop (.block 1 (rg [(sa 21 2),(sa 22 1),(b1 23 .sub 21 22),(sa 12 23)] (.seq (rg [(sa 24 12),(b2 25 .leq 24 12)] (.cond (.t 25) (rg [(sa 26 0),(sa 27 1),(sa 28 2),(sa 29 4),(b3 30 177 [26,27,28,29])] .ret) .skip)) (.seq (rg [(sa 31 3),(b2 32 .eql 31 0)] (.cond (.t 32) (rg [(sa 33 0),(sa 34 1),(sa 35 2),(sa 36 4),(b3 37 178 [33,34,35,36])] .ret) .skip)) (.seq (rg [(sa 38 10),(b5 39 38)] (.cond (.t 39) (rg [(sa 40 0),(sa 41 1),(sa 42 2),(sa 43 4),(b3 44 179 [40,41,42,43])] (.reg [(sa 45 3),(b2 46 .sub 45 1),(sa 3 46)])) .skip)) (rg [(sa 48 0),(sa 49 1),(sa 50 2),(sa 51 4),(b3 52 180 [48,49,50,51]),(sa 47 52),(so 53 (.ext (.t 47) 0)),(so 54 (.ext (.t 47) 1)),(sa 13 53),(sa 14 54)] (.seq (rg [(sa 55 14),(b2 56 .eql 55 2)] (.cond (.t 56) (rg [(sa 57 0),(sa 58 1),(sa 59 2),(sa 60 4),(b3 61 181 [57,58,59,60])] (rg [(sa 62 2),(b2 63 .sub 62 1),(sa 64 13),(sa 65 1),(b1 66 .sub 64 65),(b1 67 .sub 63 66),(sa 13 67)] (.reg [(b6 14 1)]))) .skip)) (.seq (rg [(sa 68 10),(sa 69 68),⟨(some 70),.mov (.t 11),(some (69,true))⟩,(so 71 (.pick (.t 69) (.t 70) (.k (.bool false)))),(sa 72 71),⟨(some 73),.mov (.t 14),(some (72,true))⟩,⟨(some 74),.bin .eql (.t 73) (ki 1),(some (72,true))⟩,(so 75 (.pick (.t 72) (.t 74) (.k (.bool false))))] (.cond (.t 75) (rg [(sa 76 0),(sa 77 1),(sa 78 2),(sa 79 4),(b3 80 182 [76,77,78,79])] (.cond (.t 80) .ret .skip)) .skip)) (.seq (.seq (.draw [(ea 81 1),(d2 82 .gtr 81 0),(ea 83 82),(dz ⟨(some 84),.mov (.t 4),(some (83,true))⟩),(dz ⟨(some 85),.mov (.t 0),(some (83,true))⟩),(dz ⟨(some 86),.mov (.t 1),(some (83,true))⟩),(dz ⟨(some 87),.bin .sub (.t 86) (ki 1),(some (83,true))⟩),(dz ⟨(some 88),.iaS 2 (.t 85) (.t 87),(some (83,true))⟩),(dz ⟨(some 89),.lds 2 (.t 88),(some (83,true))⟩),(dz ⟨(some 90),.mov (.t 0),(some (83,true))⟩),(dz ⟨(some 91),.mov (.t 13),(some (83,true))⟩),(dz ⟨(some 92),.iaS 2 (.t 90) (.t 91),(some (83,true))⟩),(dz ⟨(some 93),.lds 2 (.t 92),(some (83,true))⟩),(dz ⟨(some 94),.callv (.t 84) [(.t 89),(.t 93)],(some (83,true))⟩),(dz ⟨(some 95),.bin .lss (.t 94) (ki 0),(some (83,true))⟩),(dz ⟨(some 96),.un .not (.t 95),(some (83,true))⟩),(eo 97 (.pick (.t 83) (.t 96) (.k (.bool false))))]) (.cond (.t 97) (rg [(sa 98 0),(sa 99 1),(sa 100 2),(sa 101 13),(sa 102 4),(b3 103 183 [98,99,100,101,102]),(sa 15 103)] (rg [(sa 104 15),(sa 1 104)] (.exit 1))) .skip)) (rg [(sa 106 0),(sa 107 1),(sa 108 2),(sa 109 13),(sa 110 4),(b3 111 184 [106,107,108,109,110]),(sa 105 111),(so 112 (.ext (.t 105) 0)),(so 113 (.ext (.t 105) 1)),(sa 16 112),(sa 17 113)] (rg [(sa 114 17),(sa 11 114)] (rg [(sa 115 16),(sa 116 1),(b1 117 .sub 115 116),(sa 118 2),(sa 119 16),(b1 120 .sub 118 119),(sa 18 117),(sa 19 120)] (rg [(sa 121 12),(b2 122 .quo 121 8),(sa 20 122)] (rg [(sa 123 18),(sa 124 19),(b1 125 .lss 123 124)] (.cond (.t 125) (rg [(sa 126 18),(sa 127 20),(b1 128 .geq 126 127),(sa 10 128)] (rg [(sa 129 0),(sa 130 1),(sa 131 16),(sa 132 3),(sa 133 4),(b3 134 163 [129,130,131,132,133])] (.reg [(sa 135 16),(b2 136 .add 135 1),(sa 1 136)]))) (rg [(sa 137 19),(sa 138 20),(b1 139 .geq 137 138),(sa 10 139)] (rg [(sa 140 0),(sa 141 16),(b2 142 .add 141 1),(sa 143 2),(sa 144 3),(sa 145 4),(b3 146 163 [140,142,143,144,145])] (.reg [(sa 147 16),(sa 2 147)]))))))))))))))))))))))⟩
def JY : aT := ⟨53,[],(rg [(sa 10 1),(b2 11 .add 10 1),(sa 8 11)] (.block 0 (.loop (.seq (rg [(sa 12 8),(sa 13 2),(b1 14 .lss 12 13)] (.cond (.t 14) .skip (.exit 0))) (.seq (.block 1 (rg [(sa 17 8),(sa 9 17)] (.block 2 (.loop (.seq (.seq (.draw [(ea 18 9),(ea 19 1),(d1 20 .gtr 18 19),(ea 21 20),(dz ⟨(some 22),.mov (.t 3),(some (21,true))⟩),(dz ⟨(some 23),.mov (.t 0),(some (21,true))⟩),(dz ⟨(some 24),.mov (.t 9),(some (21,true))⟩),(dz ⟨(some 25),.iaS 2 (.t 23) (.t 24),(some (21,true))⟩),(dz ⟨(some 26),.lds 2 (.t 25),(some (21,true))⟩),(dz ⟨(some 27),.mov (.t 0),(some (21,true))⟩),(dz ⟨(some 28),.mov (.t 9),(some (21,true))⟩),(dz ⟨(some 29),.bin .sub (.t 28) (ki 1),(some (21,true))⟩),(dz ⟨(some 30),.iaS 2 (.t 27) (.t 29),(some (21,true))⟩),(dz ⟨(some 31),.lds 2 (.t 30),(some (21,true))⟩),(dz ⟨(some 32),.callv (.t 22) [(.t 26),(.t 31)],(some (21,true))⟩),(dz ⟨(some 33),.bin .lss (.t 32) (ki 0),(some (21,true))⟩),(eo 34 (.pick (.t 21) (.t 33) (.k (.bool false))))]) (.cond (.t 34) .skip (.exit 2))) (.seq (.block 3 (.draw [(ea 37 0),(ea 38 9),⟨(sa 39 0),none,[15],[]⟩,⟨(sa 40 9),none,[15],[]⟩,⟨(b2 41 .sub 40 1),none,[15],[]⟩,(ea 42 0),(ea 43 9),(d2 44 .sub 43 1),(d7 45 2 42 44),(ec 46 2 45),(ea 47 0),(ea 48 9),(d7 49 2 47 48),(ec 50 2 49),(d7 51 2 37 38),⟨(b8 2 51 46),none,[],[.slot 0]⟩,(d7 52 2 39 41),⟨(b8 2 52 50),none,[],[.slot 0]⟩])) (.reg [(sa 35 9),(b2 36 .sub 35 1),(sa 9 36)]))))))) (.reg [(sa 15 8),(b2 16 .add 15 1),(sa 8 16)]))))))⟩
end Go.Dx
namespace Go.Dx
abbrev jv0 (l : List V) : Int := iv (hdV l)
abbrev jv1 (l : List V) : Int := iv (hdV (tlV l))
abbrev jv2 (l : List V) : Int := iv (hdV (tlV (tlV l)))
abbrev jv3 (l : List V) : Int := iv (hdV (tlV (tlV (tlV l))))
abbrev jv4 (l : List V) : Int := iv (hdV (tlV (tlV (tlV (tlV l)))))
abbrev jv5 (l : List V) : Int := iv (hdV (tlV (tlV (tlV (tlV (tlV l))))))
theorem dqt {p : Prop} [inst : Decidable p] (h : p) : decide p = true := decide_eq_true h
theorem dqf {p : Prop} [inst : Decidable p] (h : ¬p) : decide p = false := decide_eq_false h
theorem imn {a b : Int} (h : 0 <= a) (g : 0 <= b) : 0 <= a * b := Int.mul_nonneg h g
theorem iml {a b c : Int} (h : a <= b) (g : 0 <= c) : c * a <= c * b := Int.mul_le_mul_of_nonneg_left h g
def iR : Nat -> Nat -> Rho -> Rho
 | _, 0, l => l
 | k, n + 1, l => some (some k) :: iR (k + 1) n l
def rdP (ct : bj) (un : Unr) (j : JJ) (l : Lp JJ) (s : Env × List O × Option Sx.Ex) : T (ca JJ) := rdT ct un j l s.1 s.2.1 s.2.2
abbrev vi (n : Int) : V := .int .i64 n
abbrev tp2 : List Ty := [Ty.int IntKind.i64, Ty.int IntKind.i64]
abbrev tp4 : List Ty := [Ty.int IntKind.i64, Ty.int IntKind.i64, Ty.int IntKind.i64, Ty.int IntKind.i64]
abbrev tp1 : List Ty := [Ty.int IntKind.i64]
abbrev tyR : List Ty := [Ty.str, Ty.int IntKind.i64, Ty.sl [Ty.int IntKind.i64, Ty.int IntKind.i64], Ty.int IntKind.i64]
abbrev tyF : List Ty := [Ty.int IntKind.i64, Ty.int IntKind.i64, Ty.int IntKind.i64, Ty.int IntKind.i64, Ty.sl [Ty.int IntKind.i64, Ty.int IntKind.i64, Ty.int IntKind.i64, Ty.int IntKind.i64]]
abbrev tyC : List Ty := [Ty.str, Ty.int IntKind.i64, Ty.int IntKind.i64, Ty.int IntKind.i64, Ty.int IntKind.i64, Ty.int IntKind.i64]
abbrev tyT : List Ty := [Ty.int IntKind.i64, Ty.int IntKind.i64, Ty.int IntKind.i64, Ty.int IntKind.i64, Ty.int IntKind.i64]
abbrev scV (n0 : Nat) (f0 : FnV) (n2 : Nat) (f2 : FnV) (n4 : Nat) (f4 : FnV) (n6 : Nat) (f6 : FnV) : V := .agg [.sl n0 (elV tyR f0), .sl n2 (elV tyT f2), .sl n4 (elV tyF f4), .sl n6 (elV tyC f6)]
end Go.Dx
namespace Go.Dx
open Go.IntKind (i64 u64 u8)
open Go.Sx Go.Proofs
def eqs : List TypeId := [68, 29, 72, 192, 95]
theorem hE : ∀ t ∈ eqs, cW Tryz.prog t := by
 intro t ht
 simp only [eqs, List.mem_cons, List.not_mem_nil, or_false] at ht
 rcases ht with rfl | rfl | rfl | rfl | rfl
 ·exact eY (by kernel_rfl) (by kernel_rfl) (by kernel_rfl) (by kernel_rfl) (by kernel_rfl)
 ·exact eY (by kernel_rfl) (by kernel_rfl) (by kernel_rfl) (by kernel_rfl) (by kernel_rfl)
 ·exact tq 3 2 (by kernel_rfl) (by kernel_rfl) (by kernel_rfl) (by kernel_rfl) (by kernel_rfl) (by kernel_rfl)
 ·exact eY (by kernel_rfl) (by kernel_rfl) (by kernel_rfl) (by kernel_rfl) (by kernel_rfl)
 ·exact eY (by kernel_rfl) (by kernel_rfl) (by kernel_rfl) (by kernel_rfl) (by kernel_rfl)
theorem hI : nX Tryz.prog eqs its := by
 intro it ht
 simp only [its, List.mem_cons, List.not_mem_nil, or_false] at ht
 subst ht
 exact ⟨_, Tryz.func128, by kernel_rfl, by kernel_rfl⟩
def u0 : Unr := fun _ => 0
noncomputable def fnQ (fn : Func) (sf : aT) (ts : List Ty) : Bool × Option aT × Bool × Bool := (fn.name == "runtime.NumGoroutine", eZ Tryz.prog eqs its fn, eF sf.ntmps sf.body, ff ts)
theorem oD {fn : Func} {sf : aT} {ts : List Ty} (h : fnQ fn sf ts = (false, some sf, true, true)) : (fn.name == "runtime.NumGoroutine") = false /\ eZ Tryz.prog eqs its fn = some sf /\ eF sf.ntmps sf.body = true /\ ff ts = true := by
 have h1 := congrArg Prod.fst h
 have h2 := congrArg (fun x => x.2.1) h
 have h3 := congrArg (fun x => x.2.2.1) h
 have h4 := congrArg (fun x => x.2.2.2) h
 exact ⟨h1, h2, h3, h4⟩
section
variable {ct : bj} {f : FuncId} {fn : Func} {sf : aT} {un : Unr} {ts : List Ty} {pre : List V -> Prop} {r : List V -> V}
theorem mkE (hT : be Tryz.prog eqs its ct) (hf : Tryz.prog.funcs[f]? = some fn) (hk : fnQ fn sf ts = (false, some sf, true, true)) (h : ∀ ds, pre (ap ts ds) -> Run ct (bk JJ ct un sf (ap ts ds)) (r (ap ts ds))) : (vP (mkC ts pre r)).Ok Tryz.prog f :=
 Bk (J := JJ) (un := un) hT hE hI hf (oD hk).1 (oD hk).2.1 (oD hk).2.2.1 (oD hk).2.2.2 fun w0 ds hp => h ds hp hT.dst w0
end
end Go.Dx
