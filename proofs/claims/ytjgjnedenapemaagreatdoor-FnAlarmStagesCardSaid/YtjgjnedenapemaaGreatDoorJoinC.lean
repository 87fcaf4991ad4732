/- strings.Join and joined numbers -/
import Derived.Test.YtjgjnedenapemaaGreatDoorT4
import Derived.Lib.Join
set_option linter.unusedVariables false
set_option linter.unusedSimpArgs false
namespace Go.Proofs.YtjgjnedenapemaaGreatDoor
open Go.AG Go.Lib Go.RowKit

theorem join_snoc (ls : List (List UInt8)) (x sep : List UInt8) : Lib.join (ls ++ [x]) sep = if ls = [] then x else Lib.join ls sep ++ (sep ++ x) := by
  cases ls with
  | nil => simp [Lib.join_one]
  | cons a r =>
    rw [if_neg (by simp), List.cons_append, Lib.join_cons, Lib.join_cons]
    simp [Lib.joinTail]
theorem join_ok (ls : List (List UInt8)) (sep : List UInt8) (hl : ls.length ≤ 10000000) (ht : (Lib.join ls sep).length ≤ 10000000) :
    ACalls Tryz.prog 55 [.sl ls.length (strs (ls.map tx)), St (tx sep)] [] (fun r o => r = St (tx (Lib.join ls sep)) ∧ o = []) := by
  refine ⟨⟨_, Tryz.func55, by kernel_rfl, rfl⟩, fun w X ρ vs hL hs hH hr => ?_⟩
  have hsz : vs.size = 2 := hs
  have h0 := hr 0 (by simp)
  have h1 := hr 1 (by simp)
  simp only [List.getElem_cons_zero, List.getElem_cons_succ] at h0 h1
  have e1 : vs.getD 1 undef = .string (tx sep) := sc_of h1
  have hvs : vs = #[vs.getD 0 undef, .string (tx sep)] := by
    apply Array.ext
    · simp [hsz]
    · intro i h2 h3
      have : i = 0 ∨ i = 1 := by simp at h3; omega
      rcases this with rfl | rfl
      · simp [Array.getD, h2]
      · have := e1
        simp only [Array.getD, show (1 : Nat) < vs.size by omega, dif_pos] at this
        simpa using this
  have hemp : ls = [] → tx (Lib.join ls sep) = ⟨#[]⟩ := fun h => by subst h; rfl
  have hmt : (ls.map tx).map (fun s => s.data.toList) = ls := by
    rw [List.map_map]
    have : ((fun s : ByteArray => s.data.toList) ∘ tx) = id := by funext l; simp [tx]
    rw [this, List.map_id]
  have hsep : (tx sep).data.toList = sep := by simp [tx]
  have fin : ∀ (e : Ending) (w' : World), e = .returned (.string (tx (Lib.join ls sep))) ∧ Below w.heap.size w w' → ∃ v r ob' ρ', e = .returned v ∧ (r = St (tx (Lib.join ls sep)) ∧ ob' = []) ∧ HOk ⟨w, X, ownB ρ [], 0, ρ⟩ w' ρ' ob' ∧ RepC w' (Fr.Y ⟨w, X, ownB ρ [], 0, ρ⟩ ρ' ob') ρ' ob' v r := by
    rintro e w' ⟨rfl, hb⟩
    exact ⟨_, _, [], ρ, rfl, ⟨rfl, rfl⟩, hH.grow hb, .d (.sc _)⟩
  have hnone : ∀ (a : Option Addr) (c : Nat), ls = [] → Calls Tryz.prog 55 #[.slice a 0 c, .string (tx sep)] w fun e w' => e = .returned (.string (tx (Lib.join ls sep))) ∧ Below w.heap.size w w' := by
    intro a c h
    rw [hemp h]
    exact (Any.strings_Join_none Tryz.lays156 Tryz.Builder_Extra_156 a c (tx sep) w).mono fun e w' ⟨he, hw⟩ => ⟨he, hw ▸ Below.refl _ _⟩
  have main : Calls Tryz.prog 55 #[vs.getD 0 undef, .string (tx sep)] w fun e w' => e = .returned (.string (tx (Lib.join ls sep))) ∧ Below w.heap.size w w' := by
    generalize vs.getD 0 undef = v0 at h0
    generalize hxs : strs (ls.map tx) = xs at h0
    generalize hn : ls.length = n at h0
    cases h0 with
    | d h0 =>
      cases h0 with
      | nil => exact hnone _ _ (List.length_eq_zero_iff.1 hn)
      | sl0 a => exact hnone _ _ (List.length_eq_zero_iff.1 hn)
      | @sl b o len cap xs cs hc hr2 hx hcl =>
        subst hn
        cases hls : ls with
        | nil =>
          have := hnone (some ⟨b, o, none⟩) cap hls
          rw [hls] at this
          simpa using this
        | cons x r =>
          rw [← hls]
          have hxl : xs.length = ls.length := by rw [← hxs]; simp [strs]
          have hpos : 0 < ls.length := by rw [hls]; simp
          have hcell : ∀ (j : Nat) (y : ByteArray), (ls.map tx)[j]? = some y → w.cell? ⟨b, o + j, none⟩ = some (.string y) := by
            intro j y hy
            have hj : j < (ls.map tx).length := by
              rcases Nat.lt_or_ge j (ls.map tx).length with h | h
              · exact h
              · rw [List.getElem?_eq_none h] at hy; cases hy
            have hjx : j < xs.length := by rw [hxl]; simpa using hj
            have e2 : xs[j] = .sc (.string y) := by
              have : xs[j]? = some (.sc (.string y)) := by rw [← hxs]; simp only [strs, List.getElem?_map, hy, Option.map_some]
              rw [List.getElem?_eq_getElem hjx] at this
              exact Option.some.inj this
            have h4 := hr2 j hjx
            rw [e2] at h4
            have e3 : cs j = .string y := sc_of (ob := []) (ρ := ρ) (.d h4)
            rw [hc j hjx, e3]
          have hb : b < w.heap.size := World.block_lt_of_cell? w _ (hc 0 (by omega))
          have := Tryz.strings_Join b o cap (ls.map tx) (tx sep) w hcell hb (by simp; omega) (by simpa using hcl) (by rw [hmt, hsep]; omega)
          rw [hmt, hsep, List.length_map] at this
          exact this
  rw [hvs]
  exact main.mono fin
/-- joined numbers -/
def joT (xs : List Int) (sep : List UInt8) : List UInt8 := Lib.join (xs.map itoa) sep
theorem joT_nil (sep : List UInt8) : joT [] sep = [] := rfl
theorem joT_snoc (xs : List Int) (x : Int) (sep : List UInt8) : joT (xs ++ [x]) sep = if xs = [] then itoa x else joT xs sep ++ (sep ++ itoa x) := by
  unfold joT
  rw [List.map_append, List.map_singleton, join_snoc]
  simp
theorem joT_len (sep : List UInt8) (hs : sep.length ≤ 10) (xs : List Int) (hx : ∀ x ∈ xs, nOk x) : (joT xs sep).length ≤ 40 * xs.length := by
  cases xs with
  | nil => simp [joT_nil]
  | cons a r =>
    have ha := itoa_len a (hx a (by simp))
    have ht : ∀ r : List Int, (∀ x ∈ r, nOk x) → (Lib.joinTail sep (r.map itoa)).length ≤ 40 * r.length := by
      intro r
      induction r with
      | nil => intro _; simp [Lib.joinTail]
      | cons b r ih =>
        intro h
        have hb := itoa_len b (h b (by simp))
        have := ih (fun x hx => h x (by simp [hx]))
        simp only [Lib.joinTail, List.map_cons, List.flatten_cons, List.length_append, List.length_cons] at this ⊢
        omega
    have := ht r (fun x h => hx x (by simp [h]))
    unfold joT
    rw [List.map_cons, Lib.join_cons, List.length_append, List.length_cons]
    omega
end Go.Proofs.YtjgjnedenapemaaGreatDoor
