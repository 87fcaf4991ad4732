/- the source of choices, of whose choices only the bounds are told -/
import Derived.Test.YtjgjnedenapemaaGreatDoorSrc
set_option linter.unusedVariables false
set_option linter.unusedSimpArgs false
namespace Go.Proofs.YtjgjnedenapemaaGreatDoor
open Go.AG

attribute [go_sem] srO List.replicate_zero
/-! short lists, written out -/
@[go_sem] theorem wrI_rep (n : Nat) (z x : Int) : wr (List.replicate (n + 1) z) 0 [x] = x :: List.replicate n z := by simp [wr, List.replicate_succ]
@[go_sem] theorem wrI_succ (x : Int) (xs : List Int) (i : Nat) (ys : List Int) : wr (x :: xs) (i + 1) ys = x :: wr xs i ys := by simp [wr, Nat.add_right_comm]
/-- a source over a code: where it may stand -/
structure SrOk (code : List Int) : Prop where
  b : bOk code
  l : code.length ≤ 10000000
theorem pick_e {code : List Int} (g : SrOk code) (n : Int) (σ : Sr) (hp : σ.pos ≤ 100000000000) : ACalls Tryz.prog 46 [.ptr 0 0, I n] [srO code σ]
    (fun r o => ∃ v σ', r = I v ∧ o = [srO code σ'] ∧ 0 ≤ v ∧ (v < n ∨ v = 0) ∧ σ'.pos ≤ σ.pos + 2) :=
  (pick_ok code n σ g.b g.l hp).mono fun _ _ ⟨h1, h2⟩ => ⟨_, _, h1, h2, (pkV_bd g.b n σ).1, (pkV_bd g.b n σ).2, pkS_pos code n σ⟩
theorem one_e {code : List Int} (g : SrOk code) (n : Int) (σ : Sr) (hp : σ.pos ≤ 100000000000) : ACalls Tryz.prog 76 [.ptr 0 0, I n] [srO code σ]
    (fun r o => ∃ b σ', r = B b ∧ o = [srO code σ'] ∧ σ'.pos ≤ σ.pos + 2) :=
  (one_ok code n σ g.b g.l hp).mono fun _ _ ⟨h1, h2⟩ => ⟨_, _, h1, h2, pkS_pos code n σ⟩
theorem next_e {code : List Int} (g : SrOk code) (σ : Sr) (hp : σ.pos ≤ 100000000000) : ACalls Tryz.prog 93 [.ptr 0 0] [srO code σ]
    (fun r o => ∃ v σ', r = I v ∧ o = [srO code σ'] ∧ 0 ≤ v ∧ v ≤ 255 ∧ σ'.pos ≤ σ.pos + 1) :=
  (next_ok' code σ g.b g.l (by omega)).mono fun _ _ ⟨h1, h2⟩ => ⟨_, _, h1, h2, (nx_bd g.b σ).1, (nx_bd g.b σ).2, Nat.le_refl _⟩
theorem from_e {code : List Int} (g : SrOk code) : ACalls Tryz.prog 45 [bS code] [] (fun r o => r = .ptr 0 0 ∧ o = [srO code ⟨0, 0⟩]) := from_ok code g.l
theorem among_e {code : List Int} (g : SrOk code) (xs : List Int) (σ : Sr) (hp : σ.pos ≤ 100000000000) (hx : 0 < xs.length ∧ xs.length ≤ 10000000) : ACalls Tryz.prog 77 [.ptr 0 0, .ref 1 0 xs.length] [srO code σ, oI xs]
    (fun r o => ∃ v σ', r = I v ∧ o = [srO code σ', oI xs] ∧ v ∈ xs ∧ σ'.pos ≤ σ.pos + 2) := by
  refine ACalls.of_vc Tryz.func77 rfl (by decide) 12 rfl [.tmp 4] rfl (by simp) ?_
  have hc := pick_e g xs.length σ hp
  (repeat (first | simp (maxSteps := 2000000) (disch := omega) only [go_sem, ↓reduceIte] | with_reducible refine vIf_t ?_ | with_reducible refine vIf_f ?_))
  (refine vCallX_io [0] ?_; (repeat (first | simp (maxSteps := 2000000) (disch := omega) only [go_sem, ↓reduceIte] | with_reducible refine vIf_t ?_ | with_reducible refine vIf_f ?_)); refine vCallIO_ex (hc) (by simp (disch := omega) only [go_sem]) (by simp (disch := omega) only [go_sem]) (by first | rfl | (simp (disch := omega) only [go_sem])) (by first | rfl | (simp (disch := omega) only [go_sem])) (by first | rfl | (simp (disch := omega) only [go_sem])) ?_); rintro _ _ ⟨v, σ', rfl, rfl, h1, h2, h3⟩; (refine ⟨by first | (simp (disch := omega) only [go_sem]) | trivial, ?_⟩; (repeat (first | simp (maxSteps := 2000000) (disch := omega) only [go_sem, ↓reduceIte] | with_reducible refine vIf_t ?_ | with_reducible refine vIf_f ?_)))
  have hlt : v.toNat < xs.length := by omega
  (try (repeat (first | simp (maxSteps := 2000000) (disch := omega) only [go_sem, ↓reduceIte] | with_reducible refine vIf_t ?_ | with_reducible refine vIf_f ?_)))
  (refine retK_of ?_; (repeat (first | simp (maxSteps := 2000000) (disch := omega) only [go_sem, ↓reduceIte] | with_reducible refine vIf_t ?_ | with_reducible refine vIf_f ?_)))
  exact ⟨_, σ', rfl, rfl, gi_mem xs _ hlt, h3⟩
theorem among_l {code : List Int} (g : SrOk code) (xs : List Int) (σ : Sr) (hp : σ.pos ≤ 100000000000) (hx : 0 < xs.length ∧ xs.length ≤ 10000000) (n : Nat) (hn : n = xs.length) (cs : List V) (hc : cs = ints xs) :
    ACalls Tryz.prog 77 [.ptr 0 0, .ref 1 0 n] [srO code σ, some ⟨1, cs⟩]
    (fun r o => ∃ v σ', r = I v ∧ o = [srO code σ', some ⟨1, cs⟩] ∧ v ∈ xs ∧ σ'.pos ≤ σ.pos + 2) := by
  subst hn hc; exact among_e g xs σ hp hx
theorem vCallX_fz {P : Program} {s : AState} {fo : Operand} {args : List Operand} {d : Option Nat} {K : AState → Prop} (l : Nat) (o : Ob) (ho : Live s.ob l o) (hi : V.immL o.cells = true) (h : vCallX P { s with sl := trS (V.frz (oneF l o)) s.sl, ob := (trO (V.frz (oneF l o)) s.ob).set l none } fo args d K) : vCallX P s fo args d K := by
  obtain ⟨s2, h1, h2⟩ := h
  exact ⟨s2, .step l o ho hi h1, h2⟩
theorem vsCallX_fz {P : Program} {s : AState} {fo : Operand} {args : List Operand} {d : Option Nat} {R : List Nat} {K : AState → Prop} (l : Nat) (o : Ob) (ho : Live s.ob l o) (hi : V.immL o.cells = true) (h : vsCallX P { s with sl := trS (V.frz (oneF l o)) s.sl, ob := (trO (V.frz (oneF l o)) s.ob).set l none } fo args d R K) : vsCallX P s fo args d R K := by
  obtain ⟨s2, h1, h2⟩ := h
  exact ⟨s2, .step l o ho hi h1, h2⟩
end Go.Proofs.YtjgjnedenapemaaGreatDoor
