/- results that are a row of numbers and a code -/
import Derived.Test.YtjgjnedenapemaaGreatDoorFzC
set_option linter.unusedVariables false
set_option linter.unusedSimpArgs false
namespace Go.AG

/-- a row of one's own, or nil where it has no elements -/
def RowR (xs : List Int) (c : Int) (r : V) (o : Objs) : Prop := (r = .tup [.ref 0 0 xs.length, I c] ∧ o = [oI xs]) ∨ (xs = [] ∧ r = .tup [.sc (.slice none 0 0), I c] ∧ o = [])
def RowF (xs : List Int) (c : Int) (r : V) (o : Objs) : Prop := r = .tup [.sl xs.length (ints xs), I c] ∧ o = []
theorem RowR.fz {P : Program} {f : FuncId} {args : List V} {xs : List Int} {c : Int} (h : ACalls P f args [] (RowR xs c)) : ACalls P f args [] (fun r o => r = .tup [.sl xs.length (ints xs), I c] ∧ o = []) := by
  have h1 : ACalls P f args [] (fun r o => (r = .tup [.sl xs.length (ints xs), I c] ∧ o = []) ∨ (xs = [] ∧ r = .tup [.sc (.slice none 0 0), I c] ∧ o = [])) := by
    refine h.fz ?_
    rintro r o (⟨rfl, rfl⟩ | ⟨h1, rfl, rfl⟩)
    · refine ⟨.tup [.sl xs.length (ints xs), I c], .step 0 ⟨1, ints xs⟩ rfl (by (repeat (first | simp (maxSteps := 2000000) (disch := omega) only [go_sem, ↓reduceIte] | with_reducible refine vIf_t ?_ | with_reducible refine vIf_f ?_))) ?_, .inl ⟨rfl, rfl⟩⟩
      (repeat (first | simp (maxSteps := 2000000) (disch := omega) only [go_sem, ↓reduceIte] | with_reducible refine vIf_t ?_ | with_reducible refine vIf_f ?_))
      exact .done rfl
    · exact ⟨_, .done rfl, .inr ⟨h1, rfl, rfl⟩⟩
  refine h1.leD ?_
  rintro r o (⟨rfl, rfl⟩ | ⟨h1, rfl, rfl⟩)
  · exact ⟨_, .le (V.le_refl _), rfl, rfl⟩
  · subst h1
    exact ⟨_, LeD.tup' (leD_nilS (leD_same _ leD_nil)), rfl, rfl⟩
/-- a row of one's own -/
theorem ACalls.fzI {P : Program} {f : FuncId} {args : List V} {xs : List Int} (h : ACalls P f args [] (fun r o => r = .ref 0 0 xs.length ∧ o = [oI xs])) : ACalls P f args [] (fun r o => r = .sl xs.length (ints xs) ∧ o = []) := by
  refine h.fz ?_
  rintro r o ⟨rfl, rfl⟩
  refine ⟨.sl xs.length (ints xs), .step 0 ⟨1, ints xs⟩ rfl (by (repeat (first | simp (maxSteps := 2000000) (disch := omega) only [go_sem, ↓reduceIte] | with_reducible refine vIf_t ?_ | with_reducible refine vIf_f ?_))) ?_, rfl, rfl⟩
  (repeat (first | simp (maxSteps := 2000000) (disch := omega) only [go_sem, ↓reduceIte] | with_reducible refine vIf_t ?_ | with_reducible refine vIf_f ?_))
  exact .done rfl
theorem leF_fzz {s t : AState} (l : Nat) (o : Ob) (ho : Live s.ob l o) (hi : V.immL o.cells = true) (h : leF { s with sl := trS (V.frz (oneF l o)) s.sl, ob := (trO (V.frz (oneF l o)) s.ob).set l none } t) : leF s t := by
  obtain ⟨s2, h1, h2⟩ := h
  exact ⟨s2, .step l o ho hi h1, h2⟩
/-! numbers as keys of a map -/
def mpB (L : List Int) : List (Int × Value) := L.map fun x => (x, .bool true)
@[go_sem] theorem mget_mpB (L : List Int) (k : Int) : (mget (mpB L) k).getD (.bool false) = .bool (decide (k ∈ L)) := by
  induction L with
  | nil => simp [mpB, mget]
  | cons x L ih =>
    simp only [mpB, List.map_cons, mget]
    by_cases h : k = x
    · simp [h]
    · rw [if_neg h]
      have : decide (k ∈ x :: L) = decide (k ∈ L) := by simp [h]
      rw [this]; exact ih
@[go_sem] theorem length_mpB (L : List Int) : (mpB L).length = L.length := by simp [mpB]
@[go_sem] theorem mput_mpB (L : List Int) (k : Int) : mput (mpB L) k (.bool true) = mpB (if k ∈ L then L else L ++ [k]) := by
  induction L with
  | nil => simp [mpB, mput]
  | cons x L ih =>
    simp only [mpB, List.map_cons, mput]
    by_cases h : k = x
    · subst h; simp
    · rw [if_neg h]
      have e : mput (List.map (fun x => (x, Value.bool true)) L) k (.bool true) = mpB (if k ∈ L then L else L ++ [k]) := ih
      rw [e]
      by_cases h2 : k ∈ L
      · rw [if_pos h2, if_pos (List.mem_cons_of_mem _ h2)]; rfl
      · rw [if_neg h2, if_neg (by simp [h, h2])]; rfl
@[go_sem] theorem mdel_mpB (L : List Int) (k : Int) : mdel (mpB L) k = mpB (L.erase k) := by
  induction L with
  | nil => simp [mpB, mdel]
  | cons x L ih =>
    simp only [mpB, List.map_cons, mdel]
    by_cases h : k = x
    · subst h; simp
    · rw [if_neg h, List.erase_cons_tail (by simpa using fun e => h e.symm)]
      have e : mdel (List.map (fun x => (x, Value.bool true)) L) k = mpB (L.erase k) := ih
      rw [e]; rfl
@[go_sem] theorem mpB_nil : ([] : List (Int × Value)) = mpB [] := rfl
end Go.AG
