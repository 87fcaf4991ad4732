/-
  AG, part L: a function's contract out of the verification condition of its body. Conditions: none.
-/
import Derived.Test.YtkgfpephkinocaaAgK
set_option linter.unusedSimpArgs false
set_option linter.unusedVariables false
namespace Go.AG
open Go.RowKit

/-- the results of a function -/
def vRes (P : Program) (s : AState) : List ResultVar → (List V → Prop) → Prop
  | [], K => K []
  | .tmp t :: r, K => vRes P s r fun xs => K (s.get t :: xs)
  | .cell c t :: r, K => vLoad (ti P t) (s.get c) s.ob fun x => vRes P s r fun xs => K (x :: xs)

def oneOrTup : List V → V
  | [x] => x
  | xs => .tup xs

def retK (P : Program) (rs : List ResultVar) (Q : V → Objs → Prop) (s : AState) : Prop := ∃ s1, Frz s s1 ∧ vRes P s1 rs fun xs => vRet s1.k s1.ob (oneOrTup xs) Q

def retQ (P : Program) (rs : List ResultVar) (Q : V → Objs → Prop) : Exit → AState → Prop
  | .ret => retK P rs Q
  | .normal => retK P rs Q
  | _ => fun _ => False

def argSl (i : Nat) : List V → List (Nat × V)
  | [] => []
  | x :: r => (i, x) :: argSl (i + 1) r

theorem lk_argSl (xs : List V) (i t : Nat) : lk t (argSl i xs) = if i ≤ t then xs.getD (t - i) .junk else .junk := by
  induction xs generalizing i with
  | nil => simp [argSl, lk]
  | cons x r ih =>
    simp only [argSl, lk]
    by_cases h : i = t
    · subst h; simp
    · have : Nat.beq i t = false := by
        cases hb : Nat.beq i t with
        | false => rfl
        | true => exact absurd (Nat.eq_of_beq_eq_true hb) h
      rw [this, cond_false, ih]
      by_cases h2 : i + 1 ≤ t
      · rw [if_pos h2, if_pos (by omega), show t - i = (t - (i + 1)) + 1 from by omega, List.getD_cons_succ]
      · rw [if_neg h2, if_neg (by omega)]

section
variable {P : Program} {F : Fr} {s : AState} {ρ : Nat → Pl} {a : Act} {w : World}

theorem sound_vRes (h : Sat F s ρ a w) : ∀ (rs : List ResultVar) (K : List V → Prop), vRes P s rs K → ∃ xs vs, K xs ∧ vs.length = xs.length ∧ (∀ i (hi : i < xs.length), RepC w (F.Y ρ s.ob) ρ s.ob (vs.getD i undef) xs[i]) ∧
    ∀ f : ResultVar → Sem Value, (∀ t, f (.tmp t) = pure (a.tmps.getD t undef)) → (∀ c t, f (.cell c t) = do loadVar t (← asAddr (a.tmps.getD c undef))) → (rs.mapM f).run P w = .ok vs w
  | [], K, hv => ⟨[], [], hv, rfl, fun i hi => absurd hi (by simp), fun f _ _ => by simp⟩
  | .tmp t :: rs, K, hv => by
    obtain ⟨xs, vs, h1, h2, h3, h4⟩ := sound_vRes h rs _ hv
    refine ⟨_, a.tmps.getD t undef :: vs, h1, by simp [h2], fun i hi => ?_, fun f f1 f2 => ?_⟩
    · cases i with
      | zero => exact h.slot t
      | succ i => exact h3 i (by simpa using hi)
    · rw [List.mapM_cons, f1]
      simp only [Sem.run_bind, Sem.run_pure, Result.andThen_ok, h4 f f1 f2]
  | .cell c t :: rs, K, hv => by
    obtain ⟨x, v, hk, hr, hrun⟩ := sound_load (P := P) (Z := fun _ => True) h t (.tmp c) _ hv (fun _ _ => trivial) (fun _ _ _ _ _ => trivial)
    obtain ⟨xs, vs, h1, h2, h3, h4⟩ := sound_vRes h rs _ hk
    refine ⟨_, v :: vs, h1, by simp [h2], fun i hi => ?_, fun f f1 f2 => ?_⟩
    · cases i with
      | zero => exact hr
      | succ i => exact h3 i (by simpa using hi)
    · rw [List.mapM_cons, f2]
      have h5 := hrun w (fun _ _ _ h => h)
      have h6 : a.eval (.tmp c) = a.tmps.getD c undef := rfl
      rw [h6] at h5
      have h7 : (do loadVar t (← asAddr (a.tmps.getD c undef)) : Sem Value).run P w = .ok v w := by
        generalize a.tmps.getD c undef = q at h5 ⊢
        cases q with
        | pointer p => cases p with
          | some p => simpa [Instr.loadAt, Instr.sureAddr, asAddr] using h5
          | none => simp [Instr.loadAt, Instr.sureAddr] at h5
        | _ => simp [Instr.loadAt, Instr.sureAddr] at h5
      rw [Sem.run_bind, h7]
      simp only [Sem.run_bind, Sem.run_pure, Result.andThen_ok, h4 f f1 f2]

/-- A FUNCTION's CONTRACT -/
theorem ACalls.of_vc {f : FuncId} {fn : Func} {c : Code} {args : List V} {ob : Objs} {Q : V → Objs → Prop} (hf : P.funcs[f]? = some fn) (hb : fn.body = some c)
    (hn : (fn.name == "runtime.NumGoroutine") = false) (nt : Nat) (hnt : fn.ntmps = nt) (rs : List ResultVar) (hrs : fn.results.toList = rs) (hl : args.length ≤ nt)
    (h : vc P c (retQ P rs Q) ⟨nt, ob.length, argSl 0 args, ob⟩) : ACalls P f args ob Q := by
  subst hnt hrs
  refine ⟨⟨fn, hf, hn, by rw [hb]; rfl⟩, fun w X ρ vs hvs hh har => calls_of_wp hf hb ?_⟩
  have hsat : Sat ⟨w, X, ownB ρ ob, ob.length, ρ⟩ ⟨fn.ntmps, ob.length, argSl 0 args, ob⟩ ρ { tmps := vs ++ Array.replicate (fn.ntmps - vs.size) undef, defers := [] } w := by
    refine ⟨hh, rfl, by simp [hvs]; omega, rfl, Nat.le_refl _, fun t => ?_⟩
    show RepC w _ ρ ob _ (lk t (argSl 0 args))
    rw [lk_argSl, if_pos (Nat.zero_le _), Nat.sub_zero]
    by_cases ht : t < args.length
    · have h1 : args.getD t .junk = args[t] := by simp [List.getD, ht]
      have h2 : (vs ++ Array.replicate (fn.ntmps - vs.size) undef).getD t undef = vs.getD t undef := by
        rw [Array.getD_eq_getD_getElem?, Array.getElem?_append_left (by omega), ← Array.getD_eq_getD_getElem?]
      rw [h1, h2]
      exact har t ht
    · have h1 : args.getD t .junk = .junk := by simp [List.getD, Nat.le_of_not_lt ht]
      rw [h1]
      exact .junk
  refine wp_mono (sound_vc c _ _ ρ _ w h hsat) fun e a' w' hl => ?_
  obtain ⟨s', ρ', h1, h2⟩ := hl
  have key : retK P fn.results.toList Q s' → a'.defers = [] ∧ ∃ v, (results fn a'.tmps).run P w' = .ok v w' ∧
      ∃ v' r ob' ρ', (Ending.returned v) = .returned v' ∧ Q r ob' ∧ immO ob' = true ∧ HOk ⟨w, X, ownB ρ ob, ob.length, ρ⟩ w' ρ' ob' ∧ RepC w' (Fr.Y ⟨w, X, ownB ρ ob, ob.length, ρ⟩ ρ' ob') ρ' ob' v' r := by
    rintro ⟨s1, hfz, hk⟩
    have h3 := h2.frz hfz
    obtain ⟨xs, us, h4, h5, h6, h7⟩ := sound_vRes h3 _ _ hk
    have hres : ∃ v, (results fn a'.tmps).run P w' = .ok v w' ∧ RepC w' (Fr.Y ⟨w, X, ownB ρ ob, ob.length, ρ⟩ ρ' s1.ob) ρ' s1.ob v (oneOrTup xs) := by
      have hrun : (results fn a'.tmps).run P w' = .ok (if h : us.toArray.size = 1 then us.toArray[0] else .tuple us.toArray) w' := by
        unfold results
        rw [Array.mapM_eq_mapM_toList]
        simp only [Sem.run_bind, Sem.run_map]
        rw [h7 _ (fun _ => rfl) (fun _ _ => rfl)]
        rfl
      refine ⟨_, hrun, ?_⟩
      by_cases h1' : us.length = 1
      · obtain ⟨x, rfl⟩ : ∃ x, xs = [x] := List.length_eq_one_iff.1 (by omega)
        obtain ⟨u, rfl⟩ : ∃ u, us = [u] := List.length_eq_one_iff.1 h1'
        simpa [oneOrTup] using h6 0 (by simp)
      · rw [dif_neg (by simpa using h1')]
        have : oneOrTup xs = .tup xs := by
          cases xs with
          | nil => rfl
          | cons x r => cases r with
            | nil => simp at h5; omega
            | cons y r => rfl
        rw [this]
        refine .tup (by simpa using h5) (fun i hi => ?_)
        have := h6 i hi
        have hi2 : i < us.length := by omega
        simpa [Array.getD, List.getD, hi2] using this
    obtain ⟨v, hrun, hrep⟩ := hres
    obtain ⟨r', ob', ρ2, h8, h9, h10, h11⟩ := h3.ret hrep h4
    exact ⟨h2.dfs, v, hrun, v, r', ob', ρ2, rfl, h8, h9, h10, h11⟩
  cases e with
  | normal => exact key h1
  | ret => exact key h1
  | _ => exact h1.elim

end
end Go.AG
