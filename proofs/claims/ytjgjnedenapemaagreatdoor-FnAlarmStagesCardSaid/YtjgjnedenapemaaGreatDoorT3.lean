/- slices of texts; the numbers in a text -/
import Derived.Test.YtjgjnedenapemaaGreatDoorT2
set_option linter.unusedVariables false
set_option linter.unusedSimpArgs false
namespace Go.Proofs.YtjgjnedenapemaaGreatDoor
open Go.AG Go.Lib

/-- a number that a text may hold -/
def nOk (n : Int) : Prop := -999999999999999999 ≤ n ∧ n ≤ 999999999999999999
/-- a text is a list of letters and numbers -/
def txN (ps : List (List UInt8 × Int)) (e : List UInt8) : List UInt8 := ps.flatMap (fun p => p.1 ++ itoa p.2) ++ e
/-- letters between two numbers -/
def sepL (l : List UInt8) : Bool := l.all fun c => pn c.toNat
theorem flG_txN : ∀ (ps : List (List UInt8 × Int)) (e : List UInt8), (ps.all fun p => sepL p.1) = true → ((ps.drop 1).all fun p => !p.1.isEmpty) = true → sepL e = true → flG pn (txN ps e) none = (ps.map (·.2)).map itoa
  | [], e, _, _, h => by
    have := flG_sep pn e [] (by simpa [sepL] using h)
    simpa [txN, flG] using this
  | p :: r, e, h1, h2, h3 => by
    simp only [List.all_cons, Bool.and_eq_true] at h1
    simp only [List.drop_succ_cons, List.drop_zero] at h2
    have hr : ((r.drop 1).all fun p => !p.1.isEmpty) = true := by
      rw [List.all_eq_true] at h2 ⊢
      exact fun x hx => h2 x (List.mem_of_mem_drop hx)
    have e1 : txN (p :: r) e = p.1 ++ (itoa p.2 ++ txN r e) := by simp [txN]
    have hs : txN r e = [] ∨ ∃ y t, txN r e = y :: t ∧ pn y.toNat = true := by
      cases r with
      | nil =>
        cases e with
        | nil => exact .inl rfl
        | cons y t => exact .inr ⟨y, t, rfl, by simp [sepL] at h3; exact h3.1⟩
      | cons q r =>
        simp only [List.all_cons, Bool.and_eq_true] at h2
        right
        cases hq : q.1 with
        | nil => simp [hq] at h2
        | cons y t =>
          refine ⟨y, t ++ (itoa q.2 ++ txN r e), by simp [txN, hq], ?_⟩
          have := h1.2
          simp only [List.all_cons, Bool.and_eq_true, hq, sepL] at this
          exact this.1.1
    rw [e1, flG_sep pn _ _ (by simpa [sepL] using h1.1), flG_fld pn _ _ (itoa_pn p.2) (itoa_ne p.2) hs, flG_txN r e h1.2 hr h3]
    rfl
theorem asc_txN (ps : List (List UInt8 × Int)) (e : List UInt8) (h1 : (ps.all fun p => p.1.all fun c => decide (c.toNat < 128)) = true) (h2 : (e.all fun c => decide (c.toNat < 128)) = true) : ∀ c ∈ txN ps e, c.toNat < 128 := by
  intro c hc
  unfold txN at hc
  rw [List.mem_append, List.mem_flatMap] at hc
  rcases hc with ⟨p, hp, hc⟩ | hc
  · rw [List.mem_append] at hc
    rcases hc with hc | hc
    · exact of_decide_eq_true (List.all_eq_true.1 (List.all_eq_true.1 h1 p hp) c hc)
    · exact itoa_asc _ c hc
  · exact of_decide_eq_true (List.all_eq_true.1 h2 c hc)
theorem itoa_len (n : Int) (h : nOk n) : (itoa n).length ≤ 21 := itoa_length_le n (by unfold nOk at h; omega) (by unfold nOk at h; omega)
theorem len_txN (ps : List (List UInt8 × Int)) (e : List UInt8) (m : Nat) (h : ∀ p ∈ ps, nOk p.2 ∧ p.1.length ≤ m) : (txN ps e).length ≤ ps.length * (m + 21) + e.length := by
  unfold txN
  rw [List.length_append]
  have : (ps.flatMap (fun p => p.1 ++ itoa p.2)).length ≤ ps.length * (m + 21) := by
    induction ps with
    | nil => simp
    | cons p r ih =>
      have h1 := h p (by simp)
      have h2 := itoa_len p.2 h1.1
      have h3 := ih fun q hq => h q (by simp [hq])
      rw [List.flatMap_cons, List.length_append, List.length_append, List.length_cons, Nat.add_mul]
      omega
  omega
end Go.Proofs.YtjgjnedenapemaaGreatDoor
