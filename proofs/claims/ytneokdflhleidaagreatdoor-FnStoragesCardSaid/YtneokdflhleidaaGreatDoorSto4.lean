/- storage curves: joined curves -/
import Derived.Test.YtneokdflhleidaaGreatDoorSto3
set_option linter.unusedVariables false
set_option linter.unusedSimpArgs false
namespace Go.Proofs.YtneokdflhleidaaGreatDoor
-- few steps
open Go.AG Go.Lib

attribute [local go_sem] beq_self_eq_true bne_self_eq_false Bool.not_true Bool.not_false
/-! rising lists -/
theorem srt_ext : ∀ {xs ys : List Int}, xs.Pairwise (· < ·) → ys.Pairwise (· < ·) → (∀ z, z ∈ xs ↔ z ∈ ys) → xs = ys
  | [], [], _, _, _ => rfl
  | [], y :: ys, _, _, h => absurd ((h y).2 (by simp)) (by simp)
  | x :: xs, [], _, _, h => absurd ((h x).1 (by simp)) (by simp)
  | x :: xs, y :: ys, hx, hy, h => by
    rw [List.pairwise_cons] at hx hy
    have e : x = y := by
      rcases List.mem_cons.1 ((h x).1 (by simp)) with h1 | h1
      · exact h1
      · rcases List.mem_cons.1 ((h y).2 (by simp)) with h2 | h2
        · exact h2.symm
        · have := hy.1 x h1
          have := hx.1 y h2
          omega
    subst e
    rw [srt_ext hx.2 hy.2 fun z => ?_]
    constructor
    · intro hz
      rcases List.mem_cons.1 ((h z).1 (List.mem_cons_of_mem _ hz)) with h1 | h1
      · subst h1
        have := hx.1 z hz
        omega
      · exact h1
    · intro hz
      rcases List.mem_cons.1 ((h z).2 (List.mem_cons_of_mem _ hz)) with h1 | h1
      · subst h1
        have := hy.1 z hz
        omega
      · exact h1
def putI (n : Int) : List Int → List Int
  | [] => [n]
  | x :: r => if x < n then x :: putI n r else if n < x then n :: x :: r else x :: r
theorem putI_mem (n : Int) : ∀ (xs : List Int) (z : Int), z ∈ putI n xs ↔ z = n ∨ z ∈ xs
  | [], z => by simp [putI]
  | x :: r, z => by
    have ih := putI_mem n r z
    simp only [putI]
    split
    · simp only [List.mem_cons, ih]
      constructor
      · rintro (h | h | h) <;> simp [h]
      · rintro (h | h | h) <;> simp [h]
    · split
      · simp only [List.mem_cons]
      · have e : x = n := by omega
        subst e
        simp only [List.mem_cons]
        constructor
        · rintro (h | h) <;> simp [h]
        · rintro (h | h | h) <;> simp [h]
theorem putI_srt (n : Int) : ∀ (xs : List Int), xs.Pairwise (· < ·) → (putI n xs).Pairwise (· < ·)
  | [], _ => by simp [putI]
  | x :: r, h => by
    have h' := List.pairwise_cons.1 h
    simp only [putI]
    split
    · rename_i hx
      rw [List.pairwise_cons]
      refine ⟨fun z hz => ?_, putI_srt n r h'.2⟩
      rcases (putI_mem n r z).1 hz with rfl | hz
      · exact hx
      · exact h'.1 z hz
    · split
      · rename_i h1 h2
        rw [List.pairwise_cons]
        refine ⟨fun z hz => ?_, h⟩
        rcases List.mem_cons.1 hz with rfl | hz
        · exact h2
        · have := h'.1 z hz
          omega
      · exact h
theorem putI_len (n : Int) : ∀ (xs : List Int), (putI n xs).length ≤ xs.length + 1
  | [] => by simp [putI]
  | x :: r => by
    have := putI_len n r
    simp only [putI]
    split
    · simp; omega
    · split <;> simp
theorem put_ok (xs : List Int) (n : Int) (hl : xs.length ≤ 10000000) : ACalls Tryz.prog 142 [.sl xs.length (ints xs), I n] [] (fun r o => r = .ref 0 0 (putI n xs).length ∧ o = [oI (putI n xs)]) := by
  refine ACalls.of_vc Tryz.func142 rfl (by decide) 49 rfl [.tmp 4] rfl (by simp) ?_
  (repeat (first | simp (disch := omega) only [go_sem, ↓reduceIte, Nat.reduceEqDiff, Nat.reduceAdd, Nat.reduceMul, Nat.reduceSub, Int.reduceToNat, Int.reduceAdd, Int.reduceSub, Int.reduceMul, Int.reduceNeg] | with_reducible refine vIf_t ?_ | with_reducible refine vIf_f ?_))
  refine vcLoop_invF (fun x : Nat × Bool × List Int => x.1 ≤ xs.length ∧ x.2.2.length ≤ x.1 + 1 ∧ (match x.2.1 with | false => x.2.2 = xs.take x.1 ∧ putI n xs = x.2.2 ++ putI n (xs.drop x.1) | true => putI n xs = x.2.2 ++ xs.drop x.1)) (fun x => ⟨49, 0, [(7, I x.1), (0, .sl xs.length (ints xs)), (1, I n), (5, .ref 0 0 x.2.2.length), (6, B x.2.1)], [oI x.2.2]⟩) (fun x => xs.length - x.1) (0, false, []) ⟨by simp, by simp, by simp⟩ (by (first | (refine leF_s ?_; ((repeat (first | simp (disch := omega) only [go_sem, ↓reduceIte, Nat.reduceEqDiff, Nat.reduceAdd, Nat.reduceMul, Nat.reduceSub, Int.reduceToNat, Int.reduceAdd, Int.reduceSub, Int.reduceMul, Int.reduceNeg] | with_reducible refine vIf_t ?_ | with_reducible refine vIf_f ?_)); all_goals (try simp); all_goals (try omega)); done) | (refine leF_p ?_; ((repeat (first | simp (disch := omega) only [go_sem, ↓reduceIte, Nat.reduceEqDiff, Nat.reduceAdd, Nat.reduceMul, Nat.reduceSub, Int.reduceToNat, Int.reduceAdd, Int.reduceSub, Int.reduceMul, Int.reduceNeg] | with_reducible refine vIf_t ?_ | with_reducible refine vIf_f ?_)); all_goals (try simp); all_goals (try omega)); done))) ?_
  rintro ⟨k, d, out⟩ ⟨hk, hl2, hp⟩
  simp only at hk hl2 hp
  (repeat (first | simp (disch := omega) only [go_sem, ↓reduceIte, Nat.reduceEqDiff, Nat.reduceAdd, Nat.reduceMul, Nat.reduceSub, Int.reduceToNat, Int.reduceAdd, Int.reduceSub, Int.reduceMul, Int.reduceNeg] | with_reducible refine vIf_t ?_ | with_reducible refine vIf_f ?_))
  refine vIf_dec (fun h => ?_) (fun h => ?_)
  · have hkl : k < xs.length := by omega
    have ed : xs.drop k = gi xs k :: xs.drop (k + 1) := by rw [gi_lt xs k hkl]; exact List.drop_eq_getElem_cons hkl
    have et := take_succ_gi xs k hkl
    rw [ed] at hp
    cases d with
    | true =>
      simp only at hp
      (repeat (first | simp (disch := omega) only [go_sem, ↓reduceIte, Nat.reduceEqDiff, Nat.reduceAdd, Nat.reduceMul, Nat.reduceSub, Int.reduceToNat, Int.reduceAdd, Int.reduceSub, Int.reduceMul, Int.reduceNeg] | with_reducible refine vIf_t ?_ | with_reducible refine vIf_f ?_))
      refine againF (k + 1, true, out ++ [gi xs k]) ⟨by simp only; omega, by simp; omega, by simp only; rw [hp]; simp⟩ (by simp only; omega) (by (first | (refine leF_s ?_; ((repeat (first | simp (disch := omega) only [go_sem, ↓reduceIte, Nat.reduceEqDiff, Nat.reduceAdd, Nat.reduceMul, Nat.reduceSub, Int.reduceToNat, Int.reduceAdd, Int.reduceSub, Int.reduceMul, Int.reduceNeg] | with_reducible refine vIf_t ?_ | with_reducible refine vIf_f ?_)); all_goals (try simp); all_goals (try omega)); done) | (refine leF_p ?_; ((repeat (first | simp (disch := omega) only [go_sem, ↓reduceIte, Nat.reduceEqDiff, Nat.reduceAdd, Nat.reduceMul, Nat.reduceSub, Int.reduceToNat, Int.reduceAdd, Int.reduceSub, Int.reduceMul, Int.reduceNeg] | with_reducible refine vIf_t ?_ | with_reducible refine vIf_f ?_)); all_goals (try simp); all_goals (try omega)); done)))
    | false =>
      simp only at hp
      obtain ⟨hp1, hp2⟩ := hp
      simp only [putI] at hp2
      (repeat (first | simp (disch := omega) only [go_sem, ↓reduceIte, Nat.reduceEqDiff, Nat.reduceAdd, Nat.reduceMul, Nat.reduceSub, Int.reduceToNat, Int.reduceAdd, Int.reduceSub, Int.reduceMul, Int.reduceNeg] | with_reducible refine vIf_t ?_ | with_reducible refine vIf_f ?_))
      by_cases c1 : n ≤ gi xs k
      · have d1 : decide (n ≤ gi xs k) = true := decide_eq_true c1
        rw [if_neg (by omega)] at hp2
        (try (repeat (first | simp (disch := omega) only [go_sem, ↓reduceIte, Nat.reduceEqDiff, Nat.reduceAdd, Nat.reduceMul, Nat.reduceSub, Int.reduceToNat, Int.reduceAdd, Int.reduceSub, Int.reduceMul, Int.reduceNeg, d1] | with_reducible refine vIf_t ?_ | with_reducible refine vIf_f ?_)))
        by_cases c2 : n < gi xs k
        · have d2 : decide (n < gi xs k) = true := decide_eq_true c2
          rw [if_pos c2] at hp2
          have e9 : (out ++ [n]).take (out.length + 1) = out ++ [n] := List.take_of_length_le (by simp)
          (try (repeat (first | simp (disch := omega) only [go_sem, ↓reduceIte, Nat.reduceEqDiff, Nat.reduceAdd, Nat.reduceMul, Nat.reduceSub, Int.reduceToNat, Int.reduceAdd, Int.reduceSub, Int.reduceMul, Int.reduceNeg, d2, e9] | with_reducible refine vIf_t ?_ | with_reducible refine vIf_f ?_)))
          refine againF (k + 1, true, out ++ [n] ++ [gi xs k]) ⟨by simp only; omega, by rw [hp1]; simp; omega, by simp only; rw [hp2]; simp⟩ (by simp only; omega) (by (first | (refine leF_s ?_; ((repeat (first | simp (disch := omega) only [go_sem, ↓reduceIte, Nat.reduceEqDiff, Nat.reduceAdd, Nat.reduceMul, Nat.reduceSub, Int.reduceToNat, Int.reduceAdd, Int.reduceSub, Int.reduceMul, Int.reduceNeg] | with_reducible refine vIf_t ?_ | with_reducible refine vIf_f ?_)); all_goals (try simp); all_goals (try omega)); done) | (refine leF_p ?_; ((repeat (first | simp (disch := omega) only [go_sem, ↓reduceIte, Nat.reduceEqDiff, Nat.reduceAdd, Nat.reduceMul, Nat.reduceSub, Int.reduceToNat, Int.reduceAdd, Int.reduceSub, Int.reduceMul, Int.reduceNeg] | with_reducible refine vIf_t ?_ | with_reducible refine vIf_f ?_)); all_goals (try simp); all_goals (try omega)); done)))
        · have d2 : decide (n < gi xs k) = false := decide_eq_false c2
          rw [if_neg c2] at hp2
          (try (repeat (first | simp (disch := omega) only [go_sem, ↓reduceIte, Nat.reduceEqDiff, Nat.reduceAdd, Nat.reduceMul, Nat.reduceSub, Int.reduceToNat, Int.reduceAdd, Int.reduceSub, Int.reduceMul, Int.reduceNeg, d2] | with_reducible refine vIf_t ?_ | with_reducible refine vIf_f ?_)))
          refine againF (k + 1, true, out ++ [gi xs k]) ⟨by simp only; omega, by simp; omega, by simp only; rw [hp2]; simp⟩ (by simp only; omega) (by (first | (refine leF_s ?_; ((repeat (first | simp (disch := omega) only [go_sem, ↓reduceIte, Nat.reduceEqDiff, Nat.reduceAdd, Nat.reduceMul, Nat.reduceSub, Int.reduceToNat, Int.reduceAdd, Int.reduceSub, Int.reduceMul, Int.reduceNeg] | with_reducible refine vIf_t ?_ | with_reducible refine vIf_f ?_)); all_goals (try simp); all_goals (try omega)); done) | (refine leF_p ?_; ((repeat (first | simp (disch := omega) only [go_sem, ↓reduceIte, Nat.reduceEqDiff, Nat.reduceAdd, Nat.reduceMul, Nat.reduceSub, Int.reduceToNat, Int.reduceAdd, Int.reduceSub, Int.reduceMul, Int.reduceNeg] | with_reducible refine vIf_t ?_ | with_reducible refine vIf_f ?_)); all_goals (try simp); all_goals (try omega)); done)))
      · have d1 : decide (n ≤ gi xs k) = false := decide_eq_false c1
        rw [if_pos (by omega)] at hp2
        (try (repeat (first | simp (disch := omega) only [go_sem, ↓reduceIte, Nat.reduceEqDiff, Nat.reduceAdd, Nat.reduceMul, Nat.reduceSub, Int.reduceToNat, Int.reduceAdd, Int.reduceSub, Int.reduceMul, Int.reduceNeg, d1] | with_reducible refine vIf_t ?_ | with_reducible refine vIf_f ?_)))
        refine againF (k + 1, false, out ++ [gi xs k]) ⟨by simp only; omega, by simp; omega, ?_⟩ (by simp only; omega) (by (first | (refine leF_s ?_; ((repeat (first | simp (disch := omega) only [go_sem, ↓reduceIte, Nat.reduceEqDiff, Nat.reduceAdd, Nat.reduceMul, Nat.reduceSub, Int.reduceToNat, Int.reduceAdd, Int.reduceSub, Int.reduceMul, Int.reduceNeg] | with_reducible refine vIf_t ?_ | with_reducible refine vIf_f ?_)); all_goals (try simp); all_goals (try omega)); done) | (refine leF_p ?_; ((repeat (first | simp (disch := omega) only [go_sem, ↓reduceIte, Nat.reduceEqDiff, Nat.reduceAdd, Nat.reduceMul, Nat.reduceSub, Int.reduceToNat, Int.reduceAdd, Int.reduceSub, Int.reduceMul, Int.reduceNeg] | with_reducible refine vIf_t ?_ | with_reducible refine vIf_f ?_)); all_goals (try simp); all_goals (try omega)); done)))
        simp only
        exact ⟨by rw [et, hp1], by rw [hp2]; simp⟩
  · have ek : k = xs.length := by omega
    subst ek
    rw [List.drop_length] at hp
    cases d with
    | true =>
      simp only [List.append_nil] at hp
      rw [hp]
      (repeat (first | simp (disch := omega) only [go_sem, ↓reduceIte, Nat.reduceEqDiff, Nat.reduceAdd, Nat.reduceMul, Nat.reduceSub, Int.reduceToNat, Int.reduceAdd, Int.reduceSub, Int.reduceMul, Int.reduceNeg] | with_reducible refine vIf_t ?_ | with_reducible refine vIf_f ?_))
      (refine retK_of ?_; (repeat (first | simp (disch := omega) only [go_sem, ↓reduceIte, Nat.reduceEqDiff, Nat.reduceAdd, Nat.reduceMul, Nat.reduceSub, Int.reduceToNat, Int.reduceAdd, Int.reduceSub, Int.reduceMul, Int.reduceNeg] | with_reducible refine vIf_t ?_ | with_reducible refine vIf_f ?_)))
    | false =>
      simp only [putI] at hp
      rw [hp.2]
      (repeat (first | simp (disch := omega) only [go_sem, ↓reduceIte, Nat.reduceEqDiff, Nat.reduceAdd, Nat.reduceMul, Nat.reduceSub, Int.reduceToNat, Int.reduceAdd, Int.reduceSub, Int.reduceMul, Int.reduceNeg] | with_reducible refine vIf_t ?_ | with_reducible refine vIf_f ?_))
      (refine retK_of ?_; (repeat (first | simp (disch := omega) only [go_sem, ↓reduceIte, Nat.reduceEqDiff, Nat.reduceAdd, Nat.reduceMul, Nat.reduceSub, Int.reduceToNat, Int.reduceAdd, Int.reduceSub, Int.reduceMul, Int.reduceNeg] | with_reducible refine vIf_t ?_ | with_reducible refine vIf_f ?_)))
/-! the levels of both curves -/
def jLo (a b : Cv) : Int := if gi a.lv 0 < gi b.lv 0 then gi b.lv 0 else gi a.lv 0
def jHi (a b : Cv) : Int := if gi a.lv (a.lv.length - 1) < gi b.lv (b.lv.length - 1) then gi a.lv (a.lv.length - 1) else gi b.lv (b.lv.length - 1)
theorem jLo_in {a b : Cv} {x : Int} (h1 : jLo a b ≤ x) (h2 : x ≤ jHi a b) : inC a x ∧ inC b x := by
  unfold jLo at h1
  unfold jHi at h2
  unfold inC lo' hi'
  split at h1 <;> split at h2 <;> omega
def jP (a b : Cv) (x : Int) : Bool := decide (x = jLo a b) || decide (x = jHi a b) || decide (x ∈ a.lv) || decide (x ∈ b.lv)
def jK (a b : Cv) : Nat → List Int
  | 0 => []
  | k + 1 => if jP a b (jLo a b + k) = true then jK a b k ++ [jLo a b + k] else jK a b k
theorem jK_mem (a b : Cv) (k : Nat) (z : Int) : z ∈ jK a b k ↔ (jLo a b ≤ z ∧ z < jLo a b + k) ∧ jP a b z = true := by
  induction k with
  | zero => simp [jK]; omega
  | succ k ih =>
    simp only [jK]
    split
    · rename_i h
      rw [List.mem_append, ih, List.mem_singleton]
      push_cast
      constructor
      · rintro (h1 | h1)
        · exact ⟨by omega, h1.2⟩
        · subst h1; exact ⟨by omega, h⟩
      · rintro ⟨h1, h2⟩
        by_cases e : z = jLo a b + k
        · exact .inr e
        · exact .inl ⟨by omega, h2⟩
    · rename_i h
      rw [ih]
      push_cast
      constructor
      · rintro ⟨h1, h2⟩; exact ⟨by omega, h2⟩
      · rintro ⟨h1, h2⟩
        refine ⟨⟨h1.1, ?_⟩, h2⟩
        by_cases e : z = jLo a b + k
        · subst e; exact absurd h2 h
        · omega
theorem jK_srt (a b : Cv) (k : Nat) : (jK a b k).Pairwise (· < ·) := by
  induction k with
  | zero => simp [jK]
  | succ k ih =>
    simp only [jK]
    split
    · rw [List.pairwise_append]
      refine ⟨ih, by simp, fun x hx y hy => ?_⟩
      have := ((jK_mem a b k x).1 hx).1
      rw [List.mem_singleton] at hy
      omega
    · exact ih
theorem jK_len (a b : Cv) (k : Nat) : (jK a b k).length ≤ k := by
  induction k with
  | zero => simp [jK]
  | succ k ih =>
    simp only [jK]
    split
    · simp only [List.length_append, List.length_cons, List.length_nil]; omega
    · omega
theorem jK_pos (a b : Cv) (k : Nat) : 1 ≤ (jK a b (k + 1)).length := by
  have : jLo a b ∈ jK a b (k + 1) := (jK_mem a b (k + 1) _).2 ⟨by push_cast; omega, by simp [jP]⟩
  exact List.length_pos_of_mem this
def pK (lo hi : Int) (xs acc : List Int) : Nat → List Int
  | 0 => acc
  | k + 1 => if lo ≤ gi xs k ∧ gi xs k ≤ hi then putI (gi xs k) (pK lo hi xs acc k) else pK lo hi xs acc k
theorem pK_mem (lo hi : Int) (xs acc : List Int) (k : Nat) (z : Int) : z ∈ pK lo hi xs acc k ↔ z ∈ acc ∨ ((lo ≤ z ∧ z ≤ hi) ∧ ∃ j, j < k ∧ z = gi xs j) := by
  induction k with
  | zero => simp [pK]
  | succ k ih =>
    simp only [pK]
    split
    · rename_i h
      rw [putI_mem, ih]
      constructor
      · rintro (rfl | h1 | ⟨h1, j, h2, h3⟩)
        · exact .inr ⟨h, k, by omega, rfl⟩
        · exact .inl h1
        · exact .inr ⟨h1, j, by omega, h3⟩
      · rintro (h1 | ⟨h1, j, h2, h3⟩)
        · exact .inr (.inl h1)
        · by_cases e : j = k
          · subst e; exact .inl h3
          · exact .inr (.inr ⟨h1, j, by omega, h3⟩)
    · rename_i h
      rw [ih]
      constructor
      · rintro (h1 | ⟨h1, j, h2, h3⟩)
        · exact .inl h1
        · exact .inr ⟨h1, j, by omega, h3⟩
      · rintro (h1 | ⟨h1, j, h2, h3⟩)
        · exact .inl h1
        · by_cases e : j = k
          · subst e; rw [← h3] at h; exact absurd h1 h
          · exact .inr ⟨h1, j, by omega, h3⟩
theorem pK_srt {lo hi : Int} {xs acc : List Int} (h : acc.Pairwise (· < ·)) (k : Nat) : (pK lo hi xs acc k).Pairwise (· < ·) := by
  induction k with
  | zero => exact h
  | succ k ih => simp only [pK]; split; exact putI_srt _ _ ih; exact ih
theorem pK_len (lo hi : Int) (xs acc : List Int) (k : Nat) : (pK lo hi xs acc k).length ≤ acc.length + k := by
  induction k with
  | zero => simp [pK]
  | succ k ih =>
    have := putI_len (gi xs k) (pK lo hi xs acc k)
    simp only [pK]; split <;> omega
def jA (a b : Cv) : List Int := pK (jLo a b) (jHi a b) a.lv [jLo a b, jHi a b] a.lv.length
def jL (a b : Cv) : List Int := pK (jLo a b) (jHi a b) b.lv (jA a b) b.lv.length
theorem gi_ex (xs : List Int) (z : Int) : (∃ j, j < xs.length ∧ z = gi xs j) ↔ z ∈ xs := by
  constructor
  · rintro ⟨j, hj, rfl⟩; exact gi_mem xs j hj
  · intro h
    obtain ⟨i, hi, e⟩ := List.mem_iff_getElem.1 h
    exact ⟨i, hi, by rw [gi_lt xs i hi, e]⟩
theorem jL_eq {a b : Cv} (h : jLo a b < jHi a b) (n : Nat) (hn : jLo a b + n = jHi a b + 1) : jK a b n = jL a b := by
  refine srt_ext (jK_srt a b n) (pK_srt (pK_srt (by simp [h]) _) _) fun z => ?_
  rw [jK_mem, jL, pK_mem, jA, pK_mem, gi_ex, gi_ex]
  simp only [jP, Bool.or_eq_true, decide_eq_true_eq, List.mem_cons, List.not_mem_nil, or_false]
  constructor
  · rintro ⟨h1, ((h2 | h2) | h2) | h2⟩
    · exact .inl (.inl (.inl h2))
    · exact .inl (.inl (.inr h2))
    · exact .inl (.inr ⟨by omega, h2⟩)
    · exact .inr ⟨by omega, h2⟩
  · rintro (((h2 | h2) | ⟨h1, h2⟩) | ⟨h1, h2⟩)
    · exact ⟨by omega, .inl (.inl (.inl h2))⟩
    · exact ⟨by omega, .inl (.inl (.inr h2))⟩
    · exact ⟨by omega, .inl (.inr h2)⟩
    · exact ⟨by omega, .inr h2⟩
def jV (a b : Cv) (x : Int) : Int := vlm a x + vlm b x - (vlm a (jLo a b) + vlm b (jLo a b))
def jC (a b : Cv) : Cv := ⟨jL a b, (jL a b).map (jV a b)⟩
def jcC (a b : Cv) : Int := if okC a = true ∧ okC b = true then if jLo a b < jHi a b then if okC (jC a b) = true then 0 else 5 else 9 else 1
def jcV (a b : Cv) : Cv := if jcC a b = 0 then jC a b else ⟨[], []⟩
def jcQ (a b : Cv) (r : V) (o : List (Option Ob)) : Prop := (jcC a b = 0 ∧ r = .tup [.agg (jC a b).cells, I 0] ∧ o = []) ∨ (jcC a b ≠ 0 ∧ r = .tup [.agg [nilS, nilS], I (jcC a b)] ∧ o = [])
theorem jcQ_D {a b : Cv} {r : V} {o : List (Option Ob)} (h : jcQ a b r o) : ∃ r', LeD r r' ∧ (r' = .tup [.agg (jcV a b).cells, I (jcC a b)] ∧ o = []) := by
  rcases h with ⟨h1, rfl, rfl⟩ | ⟨h1, rfl, rfl⟩
  · rw [jcV, if_pos h1, h1]; exact ⟨_, .le (V.le_refl _), rfl, rfl⟩
  · rw [jcV, if_neg h1]; exact ⟨_, .tup' (leD_cons (.agg' (leD_nilS (leD_nilS leD_nil))) (leD_same _ leD_nil)), rfl, rfl⟩
theorem jcQ_n {a b : Cv} {k : Int} (h : jcC a b = k) (hk : k ≠ 0) : jcQ a b (.tup [.agg [nilS, nilS], I k]) [] := .inr ⟨by omega, by rw [h], rfl⟩
theorem jcC_1 {a b : Cv} (h : ¬ (okC a = true ∧ okC b = true)) : jcC a b = 1 := by unfold jcC; rw [if_neg h]
theorem jcC_9 {a b : Cv} (h : okC a = true ∧ okC b = true) (h2 : ¬ jLo a b < jHi a b) : jcC a b = 9 := by unfold jcC; rw [if_pos h, if_neg h2]
theorem jcC_5 {a b : Cv} (h : okC a = true ∧ okC b = true) (h2 : jLo a b < jHi a b) (h3 : okC (jC a b) = false) : jcC a b = 5 := by unfold jcC; rw [if_pos h, if_pos h2, if_neg (by simp [h3])]
theorem jcC_0 {a b : Cv} (h : okC a = true ∧ okC b = true) (h2 : jLo a b < jHi a b) (h3 : okC (jC a b) = true) : jcC a b = 0 := by unfold jcC; rw [if_pos h, if_pos h2, if_pos h3]
def jS (a b : Cv) : Nat → AState
  | 0 => ⟨97, 0, [(2, .ptr 0 0), (3, .ptr 1 0), (4, .ptr 2 0), (8, .ptr 3 0), (9, I (jLo a b)), (6, I (jLo a b)), (7, I (jHi a b))], [some ⟨2, [.sl a.lv.length (ints a.lv), .sl a.vl.length (ints a.vl)]⟩, some ⟨2, [.sl b.lv.length (ints b.lv), .sl b.vl.length (ints b.vl)]⟩, some ⟨2, [nilS, nilS]⟩, some ⟨2, [nilS, nilS]⟩]⟩
  | k + 1 => ⟨97, 0, [(2, .ptr 0 0), (3, .ptr 1 0), (4, .ptr 2 0), (8, .ptr 3 0), (9, I (jLo a b + (k + 1 : Nat))), (6, I (jLo a b)), (7, I (jHi a b))], [some ⟨2, [.sl a.lv.length (ints a.lv), .sl a.vl.length (ints a.vl)]⟩, some ⟨2, [.sl b.lv.length (ints b.lv), .sl b.vl.length (ints b.vl)]⟩, some ⟨2, [nilS, nilS]⟩, some ⟨2, [.ref 4 0 (jK a b (k + 1)).length, .ref 5 0 (jK a b (k + 1)).length]⟩, oI (jK a b (k + 1)), oI ((jK a b (k + 1)).map (jV a b))]⟩
theorem jS_0 (a b : Cv) : jS a b 0 = ⟨97, 0, [(2, .ptr 0 0), (3, .ptr 1 0), (4, .ptr 2 0), (8, .ptr 3 0), (9, I (jLo a b)), (6, I (jLo a b)), (7, I (jHi a b))], [some ⟨2, [.sl a.lv.length (ints a.lv), .sl a.vl.length (ints a.vl)]⟩, some ⟨2, [.sl b.lv.length (ints b.lv), .sl b.vl.length (ints b.vl)]⟩, some ⟨2, [nilS, nilS]⟩, some ⟨2, [nilS, nilS]⟩]⟩ := rfl
theorem jS_s (a b : Cv) (k : Nat) : jS a b (k + 1) = ⟨97, 0, [(2, .ptr 0 0), (3, .ptr 1 0), (4, .ptr 2 0), (8, .ptr 3 0), (9, I (jLo a b + (k + 1 : Nat))), (6, I (jLo a b)), (7, I (jHi a b))], [some ⟨2, [.sl a.lv.length (ints a.lv), .sl a.vl.length (ints a.vl)]⟩, some ⟨2, [.sl b.lv.length (ints b.lv), .sl b.vl.length (ints b.vl)]⟩, some ⟨2, [nilS, nilS]⟩, some ⟨2, [.ref 4 0 (jK a b (k + 1)).length, .ref 5 0 (jK a b (k + 1)).length]⟩, oI (jK a b (k + 1)), oI ((jK a b (k + 1)).map (jV a b))]⟩ := rfl
theorem jV_bd {a b : Cv} (fa : CvF a) (fb : CvF b) {x : Int} (h : jLo a b ≤ x ∧ x ≤ jHi a b) (h0 : jLo a b < jHi a b) : (0 ≤ vlm a x ∧ vlm a x ≤ 1000000000) ∧ (0 ≤ vlm b x ∧ vlm b x ≤ 1000000000) ∧ (0 ≤ vlm a (jLo a b) ∧ vlm a (jLo a b) ≤ 1000000000) ∧ (0 ≤ vlm b (jLo a b) ∧ vlm b (jLo a b) ≤ 1000000000) := by
  have h1 := jLo_in (a := a) (b := b) h.1 h.2
  have h2 := jLo_in (a := a) (b := b) (Int.le_refl _) (Int.le_of_lt h0)
  exact ⟨vlm_b fa h1.1, vlm_b fb h1.2, vlm_b fa h2.1, vlm_b fb h2.2⟩
theorem hasJ_ok (xs : List Int) (n : Int) (hl : xs.length ≤ 10000000) : ACalls Tryz.prog 139 [.sl xs.length (ints xs), I n] [] (fun r o => r = B (decide (n ∈ xs)) ∧ o = []) := by
  refine ACalls.of_vc Tryz.func139 rfl (by decide) 17 rfl [.tmp 4] rfl (by simp) ?_
  (repeat (first | simp (disch := omega) only [go_sem, ↓reduceIte, Nat.reduceEqDiff, Nat.reduceAdd, Nat.reduceMul, Nat.reduceSub, Int.reduceToNat, Int.reduceAdd, Int.reduceSub, Int.reduceMul, Int.reduceNeg] | with_reducible refine vIf_t ?_ | with_reducible refine vIf_f ?_))
  refine vcLoop_invF (fun k : Nat => k ≤ xs.length ∧ ∀ j, j < k → gi xs j ≠ n) (fun k => ⟨17, 0, [(9, I k), (1, I n), (7, .sl xs.length (ints xs)), (8, I xs.length)], []⟩) (fun k => xs.length - k) 0 (by simp) (by (first | (refine leF_s ?_; ((repeat (first | simp (disch := omega) only [go_sem, ↓reduceIte, Nat.reduceEqDiff, Nat.reduceAdd, Nat.reduceMul, Nat.reduceSub, Int.reduceToNat, Int.reduceAdd, Int.reduceSub, Int.reduceMul, Int.reduceNeg] | with_reducible refine vIf_t ?_ | with_reducible refine vIf_f ?_)); all_goals (try simp); all_goals (try omega)); done) | (refine leF_p ?_; ((repeat (first | simp (disch := omega) only [go_sem, ↓reduceIte, Nat.reduceEqDiff, Nat.reduceAdd, Nat.reduceMul, Nat.reduceSub, Int.reduceToNat, Int.reduceAdd, Int.reduceSub, Int.reduceMul, Int.reduceNeg] | with_reducible refine vIf_t ?_ | with_reducible refine vIf_f ?_)); all_goals (try simp); all_goals (try omega)); done))) ?_
  intro k ⟨hk, he⟩
  (repeat (first | simp (disch := omega) only [go_sem, ↓reduceIte, Nat.reduceEqDiff, Nat.reduceAdd, Nat.reduceMul, Nat.reduceSub, Int.reduceToNat, Int.reduceAdd, Int.reduceSub, Int.reduceMul, Int.reduceNeg] | with_reducible refine vIf_t ?_ | with_reducible refine vIf_f ?_))
  refine vIf_dec (fun hc => ?_) (fun hc => ?_)
  · have hkl : k < xs.length := by omega
    (repeat (first | simp (disch := omega) only [go_sem, ↓reduceIte, Nat.reduceEqDiff, Nat.reduceAdd, Nat.reduceMul, Nat.reduceSub, Int.reduceToNat, Int.reduceAdd, Int.reduceSub, Int.reduceMul, Int.reduceNeg] | with_reducible refine vIf_t ?_ | with_reducible refine vIf_f ?_))
    refine vIf_beq (fun h => ?_) (fun h => ?_)
    · (repeat (first | simp (disch := omega) only [go_sem, ↓reduceIte, Nat.reduceEqDiff, Nat.reduceAdd, Nat.reduceMul, Nat.reduceSub, Int.reduceToNat, Int.reduceAdd, Int.reduceSub, Int.reduceMul, Int.reduceNeg] | with_reducible refine vIf_t ?_ | with_reducible refine vIf_f ?_))
      (refine retK_of ?_; (repeat (first | simp (disch := omega) only [go_sem, ↓reduceIte, Nat.reduceEqDiff, Nat.reduceAdd, Nat.reduceMul, Nat.reduceSub, Int.reduceToNat, Int.reduceAdd, Int.reduceSub, Int.reduceMul, Int.reduceNeg] | with_reducible refine vIf_t ?_ | with_reducible refine vIf_f ?_)))
      rw [decide_eq_true (h ▸ gi_mem xs k (by omega))]
    · (repeat (first | simp (disch := omega) only [go_sem, ↓reduceIte, Nat.reduceEqDiff, Nat.reduceAdd, Nat.reduceMul, Nat.reduceSub, Int.reduceToNat, Int.reduceAdd, Int.reduceSub, Int.reduceMul, Int.reduceNeg] | with_reducible refine vIf_t ?_ | with_reducible refine vIf_f ?_))
      refine againF (k + 1) ⟨by omega, fun j hj => ?_⟩ (by omega) (by (first | (refine leF_s ?_; ((repeat (first | simp (disch := omega) only [go_sem, ↓reduceIte, Nat.reduceEqDiff, Nat.reduceAdd, Nat.reduceMul, Nat.reduceSub, Int.reduceToNat, Int.reduceAdd, Int.reduceSub, Int.reduceMul, Int.reduceNeg] | with_reducible refine vIf_t ?_ | with_reducible refine vIf_f ?_)); all_goals (try simp); all_goals (try omega)); done) | (refine leF_p ?_; ((repeat (first | simp (disch := omega) only [go_sem, ↓reduceIte, Nat.reduceEqDiff, Nat.reduceAdd, Nat.reduceMul, Nat.reduceSub, Int.reduceToNat, Int.reduceAdd, Int.reduceSub, Int.reduceMul, Int.reduceNeg] | with_reducible refine vIf_t ?_ | with_reducible refine vIf_f ?_)); all_goals (try simp); all_goals (try omega)); done)))
      by_cases e : j = k
      · subst e; exact h
      · exact he j (by omega)
  · (repeat (first | simp (disch := omega) only [go_sem, ↓reduceIte, Nat.reduceEqDiff, Nat.reduceAdd, Nat.reduceMul, Nat.reduceSub, Int.reduceToNat, Int.reduceAdd, Int.reduceSub, Int.reduceMul, Int.reduceNeg] | with_reducible refine vIf_t ?_ | with_reducible refine vIf_f ?_))
    (refine retK_of ?_; (repeat (first | simp (disch := omega) only [go_sem, ↓reduceIte, Nat.reduceEqDiff, Nat.reduceAdd, Nat.reduceMul, Nat.reduceSub, Int.reduceToNat, Int.reduceAdd, Int.reduceSub, Int.reduceMul, Int.reduceNeg] | with_reducible refine vIf_t ?_ | with_reducible refine vIf_f ?_)))
    rw [decide_eq_false (fun hm => by
      obtain ⟨i, hi, e⟩ := List.mem_iff_getElem.1 hm
      exact he i (by omega) (by rw [gi_lt _ _ hi]; exact e))]
end Go.Proofs.YtneokdflhleidaaGreatDoor
