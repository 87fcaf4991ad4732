/- lands: texts, plain; lands: heights of cells, the same land, lowest cells: walks; lands: a height that is set, lowest cells, the level for a volume: walks -/
import Derived.Test.YtfhckmlmfigfjaaGreatDoorT8
import Derived.Test.YtfhckmlmfigfjaaGreatDoorLand
import Derived.Test.YtfhckmlmfigfjaaGreatDoorLndV
import Derived.Test.YtfhckmlmfigfjaaGreatDoorLand2
import Derived.Test.YtfhckmlmfigfjaaGreatDoorRowR
import Derived.Test.YtfhckmlmfigfjaaGreatDoorSameI
import Derived.Test.YtfhckmlmfigfjaaGreatDoorIxs
set_option linter.unusedVariables false
set_option linter.unusedSimpArgs false
namespace Go.Proofs.YtfhckmlmfigfjaaGreatDoor
open Go.AG Go.Lib

/-- a row's text -/
def lnB (r : List Int) : List UInt8 := joB 32 (r.map itoa)
/-- a row of heights -/
def rwL (c : Nat) (hs : List Int) (i : Nat) : List Int := (hs.drop (i * c)).take c
def lnsL (n c : Nat) (hs : List Int) : List (List UInt8) := (List.range n).map fun i => lnB (rwL c hs i)
/-- lines, each with its end -/
def lnE (xs : List (List UInt8)) : List UInt8 := xs.flatMap fun x => x ++ [10]
def ldT (l : Ld) : List UInt8 := lnE (lnsL l.rows.toNat l.cols.toNat l.hs)
theorem lnE_snoc (xs : List (List UInt8)) (x : List UInt8) : lnE (xs ++ [x]) = lnE xs ++ (x ++ [10]) := by simp [lnE]
theorem lnE_cons (xs : List (List UInt8)) (x : List UInt8) : lnE (x :: xs) = x ++ 10 :: lnE xs := by simp [lnE]
theorem lnE_joB : ∀ (xs : List (List UInt8)), joB 10 (xs ++ [[]]) = lnE xs
  | [] => rfl
  | [x] => by simp [joB, lnE]
  | x :: y :: r => by
    have ih := lnE_joB (y :: r)
    rw [lnE_cons, ← ih]
    simp [joB]
theorem lnsL_snoc (n c : Nat) (hs : List Int) : lnsL (n + 1) c hs = lnsL n c hs ++ [lnB (rwL c hs n)] := by
  simp [lnsL, List.range_succ]
theorem lnsL_len (n c : Nat) (hs : List Int) : (lnsL n c hs).length = n := by simp [lnsL]
theorem joB_mem (b : UInt8) : ∀ (xs : List (List UInt8)) (x : UInt8), x ∈ joB b xs → x = b ∨ ∃ y ∈ xs, x ∈ y
  | [], x, h => by simp [joB] at h
  | [y], x, h => .inr ⟨y, by simp, by simpa [joB] using h⟩
  | y :: z :: r, x, h => by
    rw [joB, List.mem_append, List.mem_cons] at h
    rcases h with h | h | h
    · exact .inr ⟨y, by simp, h⟩
    · exact .inl h
    · rcases joB_mem b (z :: r) x h with h | ⟨w, hw, h⟩
      · exact .inl h
      · exact .inr ⟨w, by simp at hw ⊢; exact .inr hw, h⟩
theorem lnB_free (r : List Int) : (10 : UInt8) ∉ lnB r := fun h => by
  rcases joB_mem 32 _ _ h with h | ⟨y, hy, h⟩
  · cases h
  · rw [List.mem_map] at hy
    obtain ⟨n, _, rfl⟩ := hy
    exact itoa_free n 10 rfl h
theorem lnB_asc (r : List Int) : Asc (lnB r) := fun c h => by
  rcases joB_mem 32 _ _ h with rfl | ⟨y, hy, h⟩
  · decide
  · rw [List.mem_map] at hy
    obtain ⟨n, _, rfl⟩ := hy
    exact itoa_asc n c h
theorem lnE_asc (xs : List (List UInt8)) (h : ∀ x ∈ xs, Asc x) : Asc (lnE xs) := fun c hc => by
  unfold lnE at hc
  rw [List.mem_flatMap] at hc
  obtain ⟨x, hx, hc⟩ := hc
  rcases List.mem_append.1 hc with hc | hc
  · exact h x hx c hc
  · rw [List.mem_singleton.1 hc]; decide
theorem ldT_asc (l : Ld) : Asc (ldT l) := lnE_asc _ fun x hx => by
  unfold lnsL at hx
  rw [List.mem_map] at hx
  obtain ⟨i, _, rfl⟩ := hx
  exact lnB_asc _
theorem lnE_split (xs : List (List UInt8)) (h : ∀ x ∈ xs, (10 : UInt8) ∉ x) : splB 10 (lnE xs) [] = xs ++ [[]] := by
  rw [← lnE_joB]
  refine splB_joB 10 _ (by simp) fun x hx => ?_
  rcases List.mem_append.1 hx with hx | hx
  · exact h x hx
  · rw [List.mem_singleton.1 hx]; simp
theorem ldT_split (l : Ld) : splB 10 (ldT l) [] = lnsL l.rows.toNat l.cols.toNat l.hs ++ [[]] := lnE_split _ fun x hx => by
  unfold lnsL at hx
  rw [List.mem_map] at hx
  obtain ⟨i, _, rfl⟩ := hx
  exact lnB_free _
theorem lnB_split (r : List Int) (hr : r ≠ []) : splB 32 (lnB r) [] = r.map itoa :=
  splB_joB 32 _ (by simpa using hr) fun x hx => by
    rw [List.mem_map] at hx
    obtain ⟨n, _, rfl⟩ := hx
    exact itoa_free n 32 rfl
/-! the numbers -/
theorem flG_row (b : UInt8) (hb : pn b.toNat = true) (rest : List UInt8) : ∀ (r : List Int), flG pn (lnB r ++ b :: rest) none = r.map itoa ++ flG pn (b :: rest) none
  | [] => rfl
  | [n] => by
    rw [show lnB [n] = itoa n from rfl, flG_fld pn (itoa n) (b :: rest) (itoa_pn n) (itoa_ne n) (.inr ⟨b, rest, rfl, hb⟩)]
    rfl
  | n :: m :: r => by
    have ih := flG_row b hb rest (m :: r)
    have hs := flG_sep pn [32] (lnB (m :: r) ++ b :: rest) (by simp [pn])
    rw [show lnB (n :: m :: r) = itoa n ++ 32 :: lnB (m :: r) from rfl, List.append_assoc, List.cons_append, flG_fld pn (itoa n) _ (itoa_pn n) (itoa_ne n) (.inr ⟨32, _, rfl, rfl⟩),
      show (32 : UInt8) :: (lnB (m :: r) ++ b :: rest) = [32] ++ (lnB (m :: r) ++ b :: rest) from rfl, hs, ih]
    rfl
theorem flG_lines (c : Nat) (hs : List Int) : ∀ (xs : List (List Int)), flG pn (lnE (xs.map lnB)) none = (xs.flatMap _root_.id).map itoa
  | [] => rfl
  | r :: xs => by
    have ih := flG_lines c hs xs
    rw [List.map_cons, lnE_cons, flG_row 10 rfl, show (10 : UInt8) :: lnE (xs.map lnB) = [10] ++ lnE (xs.map lnB) from rfl, flG_sep pn [10] _ (by simp [pn]), ih]
    simp
theorem rwL_flat (c : Nat) (hs : List Int) (n : Nat) : ((List.range n).map (rwL c hs)).flatMap _root_.id = hs.take (n * c) := by
  induction n with
  | zero => simp
  | succ n ih =>
    rw [List.range_succ, List.map_append, List.flatMap_append, ih]
    simp only [List.map_cons, List.map_nil, List.flatMap_cons, List.flatMap_nil, List.append_nil, _root_.id]
    rw [Nat.succ_mul, List.take_add]
    rfl
structure LdQ (l : Ld) : Prop where
  r : 1 ≤ l.rows ∧ l.rows ≤ 12
  c : 1 ≤ l.cols ∧ l.cols ≤ 12
  n : l.hs.length = l.rows.toNat * l.cols.toNat
  h : ∀ x ∈ l.hs, -2000 ≤ x ∧ x ≤ 2000
theorem okL_iff (l : Ld) : okL l = true ↔ LdQ l := by
  simp only [okL, Bool.and_eq_true, decide_eq_true_eq, List.all_eq_true]
  constructor
  · rintro ⟨⟨⟨h1, h2⟩, h3⟩, h4⟩
    refine ⟨h1, h2, ?_, h4⟩
    have e : ((l.rows.toNat * l.cols.toNat : Nat) : Int) = l.rows * l.cols := by
      rw [Int.natCast_mul, Int.toNat_of_nonneg (by omega), Int.toNat_of_nonneg (by omega)]
    omega
  · rintro ⟨h1, h2, h3, h4⟩
    refine ⟨⟨⟨h1, h2⟩, ?_⟩, h4⟩
    rw [h3, Int.natCast_mul, Int.toNat_of_nonneg (by omega), Int.toNat_of_nonneg (by omega)]
theorem LdQ.nok {l : Ld} (h : LdQ l) : ∀ x ∈ l.hs, nOk x := fun x hx => by
  have := h.h x hx
  unfold nOk; omega
theorem ldT_flG {l : Ld} (h : LdQ l) : flG pn (ldT l) none = l.hs.map itoa := by
  have e : lnsL l.rows.toNat l.cols.toNat l.hs = ((List.range l.rows.toNat).map (rwL l.cols.toNat l.hs)).map lnB := by simp [lnsL]
  unfold ldT
  rw [e, flG_lines l.cols.toNat l.hs, rwL_flat, ← h.n, List.take_length]
theorem ldT_nums {l : Ld} (h : LdQ l) : nums (ldT l) = l.hs := nums_of (ldT_flG h) h.nok
theorem cnt_free (c : UInt8) (a : List UInt8) (h : c ∉ a) : a.count c = 0 := List.count_eq_zero.2 h
theorem lnE_count : ∀ (xs : List (List UInt8)), (∀ x ∈ xs, (10 : UInt8) ∉ x) → (lnE xs).count 10 = xs.length
  | [], _ => rfl
  | x :: xs, h => by
    have ih := lnE_count xs fun y hy => h y (by simp [hy])
    rw [lnE_cons, List.count_append, List.count_cons, cnt_free 10 x (h x (by simp)), ih]
    simp
theorem ldT_count (l : Ld) : (ldT l).count 10 = l.rows.toNat := by
  unfold ldT
  rw [lnE_count, lnsL_len]
  intro x hx
  unfold lnsL at hx
  rw [List.mem_map] at hx
  obtain ⟨i, _, rfl⟩ := hx
  exact lnB_free _
theorem ldT_inj {a b : Ld} (ha : LdQ a) (hb : LdQ b) (e : ldT a = ldT b) : a = b := by
  have e1 := ldT_nums ha
  have e2 := ldT_count a
  rw [e, ldT_nums hb] at e1
  rw [e, ldT_count b] at e2
  have hr : a.rows = b.rows := by have := ha.r; have := hb.r; omega
  have hc : a.cols.toNat = b.cols.toNat := by
    have n1 := ha.n
    have n2 := hb.n
    rw [e1, e2] at n2
    rw [n1] at n2
    exact Nat.eq_of_mul_eq_mul_left (by have := ha.r; omega) n2
  have hc2 : a.cols = b.cols := by have := ha.c; have := hb.c; omega
  cases a; cases b
  simp only at hr hc2 e1
  rw [hr, hc2, e1]
/-- the land that a text is -/
noncomputable def rlO (t : List UInt8) : Option Ld := by
  classical exact if h : ∃ l, okL l = true ∧ ldT l = t then some h.choose else none
theorem rlO_iff (t : List UInt8) (l : Ld) : rlO t = some l ↔ okL l = true ∧ ldT l = t := by
  unfold rlO
  by_cases h : ∃ l, okL l = true ∧ ldT l = t
  · rw [dif_pos h, Option.some.injEq]
    have hc := h.choose_spec
    constructor
    · intro e; rw [← e]; exact hc
    · intro hg; exact ldT_inj ((okL_iff _).1 hc.1) ((okL_iff _).1 hg.1) (hc.2.trans hg.2.symm)
  · rw [dif_neg h]
    constructor
    · intro e; cases e
    · intro hg; exact (h ⟨l, hg⟩).elim
theorem rlO_none {t : List UInt8} (h : ∀ l, LdQ l → ldT l = t → False) : rlO t = none := by
  cases hr : rlO t with
  | none => rfl
  | some g => obtain ⟨a, b⟩ := (rlO_iff t g).1 hr; exact (h g ((okL_iff _).1 a) b).elim
def rlL (o : Option Ld) : Ld := o.getD ⟨0, 0, []⟩
theorem itoa_short (x : Int) (h : -2000 ≤ x ∧ x ≤ 2000) : (itoa x).length ≤ 21 := itoa_len x (by unfold nOk; omega)
theorem joB_len (b : UInt8) (m : Nat) : ∀ (xs : List (List UInt8)), (∀ x ∈ xs, x.length ≤ m) → (joB b xs).length ≤ xs.length * (m + 1)
  | [], _ => by simp [joB]
  | [x], h => by have := h x (by simp); simp [joB]; omega
  | x :: y :: r, h => by
    have ih := joB_len b m (y :: r) fun z hz => h z (by simp at hz ⊢; exact .inr hz)
    have := h x (by simp)
    rw [joB, List.length_append, List.length_cons]
    simp only [List.length_cons] at ih ⊢
    have e : (r.length + 1 + 1) * (m + 1) = (r.length + 1) * (m + 1) + (m + 1) := by rw [Nat.add_mul]; simp
    omega
theorem lnE_len (m : Nat) : ∀ (xs : List (List UInt8)), (∀ x ∈ xs, x.length ≤ m) → (lnE xs).length ≤ xs.length * (m + 1)
  | [], _ => by simp [lnE]
  | x :: r, h => by
    have ih := lnE_len m r fun z hz => h z (by simp [hz])
    have := h x (by simp)
    rw [lnE_cons, List.length_append, List.length_cons, List.length_cons, Nat.add_mul]
    omega
theorem lnB_len {l : List Int} (h : ∀ x ∈ l, nOk x) (hl : l.length ≤ 12) : (lnB l).length ≤ 300 := by
  have := joB_len 32 21 (l.map itoa) fun x hx => by
    rw [List.mem_map] at hx
    obtain ⟨n, hn, rfl⟩ := hx
    exact itoa_len n (h n hn)
  unfold lnB
  rw [List.length_map] at this
  omega
theorem rwL_mem {c : Nat} {hs : List Int} {i : Nat} {x : Int} (h : x ∈ rwL c hs i) : x ∈ hs := List.mem_of_mem_drop (List.mem_of_mem_take h)
theorem rwL_len (c : Nat) (hs : List Int) (i : Nat) : (rwL c hs i).length ≤ c := by unfold rwL; rw [List.length_take]; omega
theorem ldT_len {n c : Nat} {hs : List Int} (h : ∀ x ∈ hs, nOk x) (hn : n ≤ 12) (hc : c ≤ 12) : (lnE (lnsL n c hs)).length ≤ 4000 := by
  have := lnE_len 300 (lnsL n c hs) fun x hx => by
    unfold lnsL at hx
    rw [List.mem_map] at hx
    obtain ⟨i, _, rfl⟩ := hx
    exact lnB_len (fun x hx => h x (rwL_mem hx)) (by have := rwL_len c hs i; omega)
  rw [lnsL_len] at this
  omega
end Go.Proofs.YtfhckmlmfigfjaaGreatDoor
namespace Go.Proofs.YtfhckmlmfigfjaaGreatDoor
open Go.AG

attribute [local go_sem] beq_self_eq_true bne_self_eq_false Bool.not_true Bool.not_false
instance : DecidableEq Ld := fun a b => decidable_of_iff (a.rows = b.rows ∧ a.cols = b.cols ∧ a.hs = b.hs) (by cases a; cases b; simp)
theorem ld_eq (a b : Ld) : decide (a = b) = (a.rows == b.rows && (a.cols == b.cols && decide (a.hs = b.hs))) := by
  rw [Bool.eq_iff_iff]
  cases a; cases b
  simp
set_option maxHeartbeats 1000000 in
theorem sameLdI_ok (a b : Ld) (ha : a.hs.length ≤ 10000000) (hb : b.hs.length ≤ 10000000) : ACalls Tryz.prog 52 [.agg (lC a), .agg (lC b)] [] (fun r o => r = B (decide (a = b)) ∧ o = []) := by
  refine ACalls.of_vc Tryz.func52 rfl (by decide) 24 rfl [.tmp 4] rfl (by simp) ?_
  have h1 := sameJ_ok a.hs b.hs ha hb
  rw [ld_eq]
  unfold lC
  cases e1 : (a.rows == b.rows) with
  | false =>
    (repeat (first | simp (maxSteps := 2000000) (disch := omega) only [go_sem, ↓reduceIte, e1] | with_reducible refine vIf_t ?_ | with_reducible refine vIf_f ?_))
    (try (repeat (first | simp (maxSteps := 2000000) (disch := omega) only [go_sem, ↓reduceIte, e1] | with_reducible refine vIf_t ?_ | with_reducible refine vIf_f ?_)))
    (refine retK_of ?_; (repeat (first | simp (maxSteps := 2000000) (disch := omega) only [go_sem, ↓reduceIte] | with_reducible refine vIf_t ?_ | with_reducible refine vIf_f ?_)))
    try rfl
  | true =>
    cases e2 : (a.cols == b.cols) with
    | false =>
      (repeat (first | simp (maxSteps := 2000000) (disch := omega) only [go_sem, ↓reduceIte, e1, e2] | with_reducible refine vIf_t ?_ | with_reducible refine vIf_f ?_))
      (try (repeat (first | simp (maxSteps := 2000000) (disch := omega) only [go_sem, ↓reduceIte, e1, e2] | with_reducible refine vIf_t ?_ | with_reducible refine vIf_f ?_)))
      (refine retK_of ?_; (repeat (first | simp (maxSteps := 2000000) (disch := omega) only [go_sem, ↓reduceIte] | with_reducible refine vIf_t ?_ | with_reducible refine vIf_f ?_)))
      try rfl
    | true =>
      (repeat (first | simp (maxSteps := 2000000) (disch := omega) only [go_sem, ↓reduceIte, e1, e2] | with_reducible refine vIf_t ?_ | with_reducible refine vIf_f ?_))
      (try (repeat (first | simp (maxSteps := 2000000) (disch := omega) only [go_sem, ↓reduceIte, e1, e2] | with_reducible refine vIf_t ?_ | with_reducible refine vIf_f ?_)))
      (refine vCallX_of ?_; (repeat (first | simp (maxSteps := 2000000) (disch := omega) only [go_sem, ↓reduceIte] | with_reducible refine vIf_t ?_ | with_reducible refine vIf_f ?_)); refine vCall_eq (h1) (by simp (disch := omega) only [go_sem]) rfl (by first | exact Or.inl rfl | exact Or.inr ⟨rfl, rfl⟩ | (apply Or.inr; simp only [go_sem])) ?_; (repeat (first | simp (maxSteps := 2000000) (disch := omega) only [go_sem, ↓reduceIte] | with_reducible refine vIf_t ?_ | with_reducible refine vIf_f ?_)))
      (refine retK_of ?_; (repeat (first | simp (maxSteps := 2000000) (disch := omega) only [go_sem, ↓reduceIte] | with_reducible refine vIf_t ?_ | with_reducible refine vIf_f ?_)))
      try rfl
set_option maxHeartbeats 1000000 in
theorem sameLdS_ok (a b : Ld) (ha : a.hs.length ≤ 10000000) (hb : b.hs.length ≤ 10000000) : ACalls Tryz.prog 50 [.agg (lC a), .agg (lC b)] [] (fun r o => r = B (decide (a = b)) ∧ o = []) := by
  refine ACalls.of_vc Tryz.func50 rfl (by decide) 24 rfl [.tmp 4] rfl (by simp) ?_
  have h1 := sameJS_ok a.hs b.hs ha hb
  rw [ld_eq]
  unfold lC
  cases e1 : (a.rows == b.rows) with
  | false =>
    (repeat (first | simp (maxSteps := 2000000) (disch := omega) only [go_sem, ↓reduceIte, e1] | with_reducible refine vIf_t ?_ | with_reducible refine vIf_f ?_))
    (try (repeat (first | simp (maxSteps := 2000000) (disch := omega) only [go_sem, ↓reduceIte, e1] | with_reducible refine vIf_t ?_ | with_reducible refine vIf_f ?_)))
    (refine retK_of ?_; (repeat (first | simp (maxSteps := 2000000) (disch := omega) only [go_sem, ↓reduceIte] | with_reducible refine vIf_t ?_ | with_reducible refine vIf_f ?_)))
    try rfl
  | true =>
    cases e2 : (a.cols == b.cols) with
    | false =>
      (repeat (first | simp (maxSteps := 2000000) (disch := omega) only [go_sem, ↓reduceIte, e1, e2] | with_reducible refine vIf_t ?_ | with_reducible refine vIf_f ?_))
      (try (repeat (first | simp (maxSteps := 2000000) (disch := omega) only [go_sem, ↓reduceIte, e1, e2] | with_reducible refine vIf_t ?_ | with_reducible refine vIf_f ?_)))
      (refine retK_of ?_; (repeat (first | simp (maxSteps := 2000000) (disch := omega) only [go_sem, ↓reduceIte] | with_reducible refine vIf_t ?_ | with_reducible refine vIf_f ?_)))
      try rfl
    | true =>
      (repeat (first | simp (maxSteps := 2000000) (disch := omega) only [go_sem, ↓reduceIte, e1, e2] | with_reducible refine vIf_t ?_ | with_reducible refine vIf_f ?_))
      (try (repeat (first | simp (maxSteps := 2000000) (disch := omega) only [go_sem, ↓reduceIte, e1, e2] | with_reducible refine vIf_t ?_ | with_reducible refine vIf_f ?_)))
      (refine vCallX_of ?_; (repeat (first | simp (maxSteps := 2000000) (disch := omega) only [go_sem, ↓reduceIte] | with_reducible refine vIf_t ?_ | with_reducible refine vIf_f ?_)); refine vCall_eq (h1) (by simp (disch := omega) only [go_sem]) rfl (by first | exact Or.inl rfl | exact Or.inr ⟨rfl, rfl⟩ | (apply Or.inr; simp only [go_sem])) ?_; (repeat (first | simp (maxSteps := 2000000) (disch := omega) only [go_sem, ↓reduceIte] | with_reducible refine vIf_t ?_ | with_reducible refine vIf_f ?_)))
      (refine retK_of ?_; (repeat (first | simp (maxSteps := 2000000) (disch := omega) only [go_sem, ↓reduceIte] | with_reducible refine vIf_t ?_ | with_reducible refine vIf_f ?_)))
      try rfl
/-! a cell -/
def inL (l : Ld) (r q : Int) : Prop := (0 ≤ r ∧ r ≤ l.rows - 1) ∧ (0 ≤ q ∧ q ≤ l.cols - 1)
instance (l : Ld) (r q : Int) : Decidable (inL l r q) := inferInstanceAs (Decidable (_ ∧ _))
def hcC (l : Ld) (r q : Int) : Int := if okL l = true then if inL l r q then 0 else 2 else 1
theorem hcC_0 {l : Ld} {r q : Int} (h : hcC l r q = 0) : okL l = true ∧ inL l r q := by
  unfold hcC at h
  split at h
  · split at h
    · exact ⟨‹_›, ‹_›⟩
    · omega
  · omega
theorem hcC_cases (l : Ld) (r q : Int) : (okL l = false ∧ hcC l r q = 1) ∨ (okL l = true ∧ ¬ inL l r q ∧ hcC l r q = 2) ∨ (okL l = true ∧ inL l r q ∧ hcC l r q = 0) := by
  unfold hcC
  cases h1 : okL l <;> by_cases h2 : inL l r q <;> simp [h2]
theorem inL_bd {l : Ld} {r q : Int} (hl : okL l = true) (h : inL l r q) : (0 ≤ r * l.cols + q ∧ r * l.cols + q < l.hs.length) ∧ (0 ≤ r * l.cols ∧ r * l.cols ≤ 144) ∧ (r * l.cols + q).toNat < l.hs.length := by
  have Q := (okL_iff l).1 hl
  obtain ⟨⟨h1, h2⟩, h3, h4⟩ := h
  have hr := Q.r
  have hc := Q.c
  have m0 : 0 ≤ r * l.cols := Int.mul_nonneg h1 (by omega)
  have m1 : r * l.cols ≤ (l.rows - 1) * l.cols := Int.mul_le_mul_of_nonneg_right h2 (by omega)
  rw [Int.sub_mul, Int.one_mul] at m1
  have m2 := mul12 hr hc
  have e : (l.hs.length : Int) = l.rows * l.cols := by
    rw [Q.n, Int.natCast_mul, Int.toNat_of_nonneg (by omega), Int.toNat_of_nonneg (by omega)]
  refine ⟨⟨by omega, by omega⟩, ⟨m0, by omega⟩, by omega⟩
/-- cell, at a valid land -/
theorem cellV_ok (l : Ld) (r q : Int) (hl : okL l = true) : ACalls Tryz.prog 127 [.agg (lC l), I r, I q] []
    (fun x o => x = .tup [I (IntKind.wrap .i64 (IntKind.wrap .i64 (r * l.cols) + q)), B (decide (inL l r q))] ∧ o = []) := by
  have Q := (okL_iff l).1 hl
  have h := cell_ok l r q
  rw [wrap_i64_id (l.rows - 1) (by have := Q.r; omega), wrap_i64_id (l.cols - 1) (by have := Q.c; omega)] at h
  have e : (decide (0 ≤ r ∧ r ≤ l.rows - 1) && decide (0 ≤ q ∧ q ≤ l.cols - 1)) = decide (inL l r q) := by
    rw [Bool.eq_iff_iff]
    simp [inL, and_assoc]
  rw [e] at h
  exact h
def haN (l : Ld) (r q : Int) : Int := if hcC l r q = 0 then gi l.hs (r * l.cols + q).toNat else 0
theorem l03Cell_ok (l : Ld) (r q : Int) (hl : l.hs.length ≤ 10000000) : ACalls Tryz.prog 129 [.ip (lC l) 0, I r, I q] [] (fun x o => x = I (hcC l r q) ∧ o = []) := by
  refine ACalls.of_vc Tryz.func129 rfl (by decide) 28 rfl [.tmp 6] rfl (by simp) ?_
  have h1 := l03Ok_ok l hl
  cases hk : okL l with
  | false =>
    rw [hk] at h1
    have e : hcC l r q = 1 := by unfold hcC; rw [hk]; rfl
    rw [e]
    unfold lC at h1 ⊢
    (repeat (first | simp (maxSteps := 2000000) (disch := omega) only [go_sem, ↓reduceIte] | with_reducible refine vIf_t ?_ | with_reducible refine vIf_f ?_))
    (refine vCallX_of ?_; (repeat (first | simp (maxSteps := 2000000) (disch := omega) only [go_sem, ↓reduceIte] | with_reducible refine vIf_t ?_ | with_reducible refine vIf_f ?_)); refine vCall_eq (h1) (by simp (disch := omega) only [go_sem]) rfl (by first | exact Or.inl rfl | exact Or.inr ⟨rfl, rfl⟩ | (apply Or.inr; simp only [go_sem])) ?_; (repeat (first | simp (maxSteps := 2000000) (disch := omega) only [go_sem, ↓reduceIte] | with_reducible refine vIf_t ?_ | with_reducible refine vIf_f ?_)))
    (refine retK_of ?_; (repeat (first | simp (maxSteps := 2000000) (disch := omega) only [go_sem, ↓reduceIte] | with_reducible refine vIf_t ?_ | with_reducible refine vIf_f ?_)))
    try rfl
  | true =>
    rw [hk] at h1
    have Q := (okL_iff l).1 hk
    have hr := Q.r
    have hc := Q.c
    have h2 := inS_ok r 0 (l.rows - 1)
    have h3 := inS_ok q 0 (l.cols - 1)
    by_cases c1 : 0 ≤ r ∧ r ≤ l.rows - 1
    case neg =>
      have e : hcC l r q = 2 := by unfold hcC; rw [hk, if_pos rfl, if_neg (fun h => c1 h.1)]
      rw [e]
      rw [decide_eq_false c1] at h2
      unfold lC at h1 ⊢
      (repeat (first | simp (maxSteps := 2000000) (disch := omega) only [go_sem, ↓reduceIte] | with_reducible refine vIf_t ?_ | with_reducible refine vIf_f ?_))
      (refine vCallX_of ?_; (repeat (first | simp (maxSteps := 2000000) (disch := omega) only [go_sem, ↓reduceIte] | with_reducible refine vIf_t ?_ | with_reducible refine vIf_f ?_)); refine vCall_eq (h1) (by simp (disch := omega) only [go_sem]) rfl (by first | exact Or.inl rfl | exact Or.inr ⟨rfl, rfl⟩ | (apply Or.inr; simp only [go_sem])) ?_; (repeat (first | simp (maxSteps := 2000000) (disch := omega) only [go_sem, ↓reduceIte] | with_reducible refine vIf_t ?_ | with_reducible refine vIf_f ?_)))
      (refine vCallX_of ?_; (repeat (first | simp (maxSteps := 2000000) (disch := omega) only [go_sem, ↓reduceIte] | with_reducible refine vIf_t ?_ | with_reducible refine vIf_f ?_)); refine vCall_eq (h2) (by simp (disch := omega) only [go_sem]) rfl (by first | exact Or.inl rfl | exact Or.inr ⟨rfl, rfl⟩ | (apply Or.inr; simp only [go_sem])) ?_; (repeat (first | simp (maxSteps := 2000000) (disch := omega) only [go_sem, ↓reduceIte] | with_reducible refine vIf_t ?_ | with_reducible refine vIf_f ?_)))
      (try (repeat (first | simp (maxSteps := 2000000) (disch := omega) only [go_sem, ↓reduceIte] | with_reducible refine vIf_t ?_ | with_reducible refine vIf_f ?_)))
      (refine retK_of ?_; (repeat (first | simp (maxSteps := 2000000) (disch := omega) only [go_sem, ↓reduceIte] | with_reducible refine vIf_t ?_ | with_reducible refine vIf_f ?_)))
      try rfl
    rw [decide_eq_true c1] at h2
    by_cases c2 : 0 ≤ q ∧ q ≤ l.cols - 1
    · have e : hcC l r q = 0 := by unfold hcC; rw [hk, if_pos rfl, if_pos ⟨c1, c2⟩]
      rw [e]
      rw [decide_eq_true c2] at h3
      unfold lC at h1 ⊢
      (repeat (first | simp (maxSteps := 2000000) (disch := omega) only [go_sem, ↓reduceIte] | with_reducible refine vIf_t ?_ | with_reducible refine vIf_f ?_))
      (refine vCallX_of ?_; (repeat (first | simp (maxSteps := 2000000) (disch := omega) only [go_sem, ↓reduceIte] | with_reducible refine vIf_t ?_ | with_reducible refine vIf_f ?_)); refine vCall_eq (h1) (by simp (disch := omega) only [go_sem]) rfl (by first | exact Or.inl rfl | exact Or.inr ⟨rfl, rfl⟩ | (apply Or.inr; simp only [go_sem])) ?_; (repeat (first | simp (maxSteps := 2000000) (disch := omega) only [go_sem, ↓reduceIte] | with_reducible refine vIf_t ?_ | with_reducible refine vIf_f ?_)))
      (refine vCallX_of ?_; (repeat (first | simp (maxSteps := 2000000) (disch := omega) only [go_sem, ↓reduceIte] | with_reducible refine vIf_t ?_ | with_reducible refine vIf_f ?_)); refine vCall_eq (h2) (by simp (disch := omega) only [go_sem]) rfl (by first | exact Or.inl rfl | exact Or.inr ⟨rfl, rfl⟩ | (apply Or.inr; simp only [go_sem])) ?_; (repeat (first | simp (maxSteps := 2000000) (disch := omega) only [go_sem, ↓reduceIte] | with_reducible refine vIf_t ?_ | with_reducible refine vIf_f ?_)))
      (try (repeat (first | simp (maxSteps := 2000000) (disch := omega) only [go_sem, ↓reduceIte] | with_reducible refine vIf_t ?_ | with_reducible refine vIf_f ?_)))
      (refine vCallX_of ?_; (repeat (first | simp (maxSteps := 2000000) (disch := omega) only [go_sem, ↓reduceIte] | with_reducible refine vIf_t ?_ | with_reducible refine vIf_f ?_)); refine vCall_eq (h3) (by simp (disch := omega) only [go_sem]) rfl (by first | exact Or.inl rfl | exact Or.inr ⟨rfl, rfl⟩ | (apply Or.inr; simp only [go_sem])) ?_; (repeat (first | simp (maxSteps := 2000000) (disch := omega) only [go_sem, ↓reduceIte] | with_reducible refine vIf_t ?_ | with_reducible refine vIf_f ?_)))
      (try (repeat (first | simp (maxSteps := 2000000) (disch := omega) only [go_sem, ↓reduceIte] | with_reducible refine vIf_t ?_ | with_reducible refine vIf_f ?_)))
      (refine retK_of ?_; (repeat (first | simp (maxSteps := 2000000) (disch := omega) only [go_sem, ↓reduceIte] | with_reducible refine vIf_t ?_ | with_reducible refine vIf_f ?_)))
      try rfl
    · have e : hcC l r q = 2 := by unfold hcC; rw [hk, if_pos rfl, if_neg (fun h => c2 h.2)]
      rw [e]
      rw [decide_eq_false c2] at h3
      unfold lC at h1 ⊢
      (repeat (first | simp (maxSteps := 2000000) (disch := omega) only [go_sem, ↓reduceIte] | with_reducible refine vIf_t ?_ | with_reducible refine vIf_f ?_))
      (refine vCallX_of ?_; (repeat (first | simp (maxSteps := 2000000) (disch := omega) only [go_sem, ↓reduceIte] | with_reducible refine vIf_t ?_ | with_reducible refine vIf_f ?_)); refine vCall_eq (h1) (by simp (disch := omega) only [go_sem]) rfl (by first | exact Or.inl rfl | exact Or.inr ⟨rfl, rfl⟩ | (apply Or.inr; simp only [go_sem])) ?_; (repeat (first | simp (maxSteps := 2000000) (disch := omega) only [go_sem, ↓reduceIte] | with_reducible refine vIf_t ?_ | with_reducible refine vIf_f ?_)))
      (refine vCallX_of ?_; (repeat (first | simp (maxSteps := 2000000) (disch := omega) only [go_sem, ↓reduceIte] | with_reducible refine vIf_t ?_ | with_reducible refine vIf_f ?_)); refine vCall_eq (h2) (by simp (disch := omega) only [go_sem]) rfl (by first | exact Or.inl rfl | exact Or.inr ⟨rfl, rfl⟩ | (apply Or.inr; simp only [go_sem])) ?_; (repeat (first | simp (maxSteps := 2000000) (disch := omega) only [go_sem, ↓reduceIte] | with_reducible refine vIf_t ?_ | with_reducible refine vIf_f ?_)))
      (try (repeat (first | simp (maxSteps := 2000000) (disch := omega) only [go_sem, ↓reduceIte] | with_reducible refine vIf_t ?_ | with_reducible refine vIf_f ?_)))
      (refine vCallX_of ?_; (repeat (first | simp (maxSteps := 2000000) (disch := omega) only [go_sem, ↓reduceIte] | with_reducible refine vIf_t ?_ | with_reducible refine vIf_f ?_)); refine vCall_eq (h3) (by simp (disch := omega) only [go_sem]) rfl (by first | exact Or.inl rfl | exact Or.inr ⟨rfl, rfl⟩ | (apply Or.inr; simp only [go_sem])) ?_; (repeat (first | simp (maxSteps := 2000000) (disch := omega) only [go_sem, ↓reduceIte] | with_reducible refine vIf_t ?_ | with_reducible refine vIf_f ?_)))
      (try (repeat (first | simp (maxSteps := 2000000) (disch := omega) only [go_sem, ↓reduceIte] | with_reducible refine vIf_t ?_ | with_reducible refine vIf_f ?_)))
      (refine retK_of ?_; (repeat (first | simp (maxSteps := 2000000) (disch := omega) only [go_sem, ↓reduceIte] | with_reducible refine vIf_t ?_ | with_reducible refine vIf_f ?_)))
      try rfl
theorem heightAt_ok (l : Ld) (r q : Int) (hl : l.hs.length ≤ 10000000) : ACalls Tryz.prog 36 [.agg (lC l), I r, I q] [] (fun x o => x = .tup [I (haN l r q), I (hcC l r q)] ∧ o = []) := by
  refine ACalls.of_vc Tryz.func36 rfl (by decide) 27 rfl [.tmp 6, .tmp 7] rfl (by simp) ?_
  have h1 := validL_ok l hl
  unfold haN
  rcases hcC_cases l r q with ⟨e1, e⟩ | ⟨e1, e2, e⟩ | ⟨e1, e2, e⟩
  · rw [e1] at h1
    rw [e]
    unfold lC at h1 ⊢
    (repeat (first | simp (maxSteps := 2000000) (disch := omega) only [go_sem, ↓reduceIte] | with_reducible refine vIf_t ?_ | with_reducible refine vIf_f ?_))
    (refine vCallX_of ?_; (repeat (first | simp (maxSteps := 2000000) (disch := omega) only [go_sem, ↓reduceIte] | with_reducible refine vIf_t ?_ | with_reducible refine vIf_f ?_)); refine vCall_eq (h1) (by simp (disch := omega) only [go_sem]) rfl (by first | exact Or.inl rfl | exact Or.inr ⟨rfl, rfl⟩ | (apply Or.inr; simp only [go_sem])) ?_; (repeat (first | simp (maxSteps := 2000000) (disch := omega) only [go_sem, ↓reduceIte] | with_reducible refine vIf_t ?_ | with_reducible refine vIf_f ?_)))
    (refine retK_of ?_; (repeat (first | simp (maxSteps := 2000000) (disch := omega) only [go_sem, ↓reduceIte] | with_reducible refine vIf_t ?_ | with_reducible refine vIf_f ?_)))
    try rfl
  · have h2 := cellV_ok l r q e1
    rw [decide_eq_false e2] at h2
    rw [e1] at h1
    rw [e]
    unfold lC at h1 h2 ⊢
    (repeat (first | simp (maxSteps := 2000000) (disch := omega) only [go_sem, ↓reduceIte] | with_reducible refine vIf_t ?_ | with_reducible refine vIf_f ?_))
    (refine vCallX_of ?_; (repeat (first | simp (maxSteps := 2000000) (disch := omega) only [go_sem, ↓reduceIte] | with_reducible refine vIf_t ?_ | with_reducible refine vIf_f ?_)); refine vCall_eq (h1) (by simp (disch := omega) only [go_sem]) rfl (by first | exact Or.inl rfl | exact Or.inr ⟨rfl, rfl⟩ | (apply Or.inr; simp only [go_sem])) ?_; (repeat (first | simp (maxSteps := 2000000) (disch := omega) only [go_sem, ↓reduceIte] | with_reducible refine vIf_t ?_ | with_reducible refine vIf_f ?_)))
    (refine vCallX_of ?_; (repeat (first | simp (maxSteps := 2000000) (disch := omega) only [go_sem, ↓reduceIte] | with_reducible refine vIf_t ?_ | with_reducible refine vIf_f ?_)); refine vCall_eq (h2) (by simp (disch := omega) only [go_sem]) rfl (by first | exact Or.inl rfl | exact Or.inr ⟨rfl, rfl⟩ | (apply Or.inr; simp only [go_sem])) ?_; (repeat (first | simp (maxSteps := 2000000) (disch := omega) only [go_sem, ↓reduceIte] | with_reducible refine vIf_t ?_ | with_reducible refine vIf_f ?_)))
    (try (repeat (first | simp (maxSteps := 2000000) (disch := omega) only [go_sem, ↓reduceIte] | with_reducible refine vIf_t ?_ | with_reducible refine vIf_f ?_)))
    (refine retK_of ?_; (repeat (first | simp (maxSteps := 2000000) (disch := omega) only [go_sem, ↓reduceIte] | with_reducible refine vIf_t ?_ | with_reducible refine vIf_f ?_)))
    try rfl
  · have h2 := cellV_ok l r q e1
    obtain ⟨b1, b2, b3⟩ := inL_bd e1 e2
    have hn := (okL_F e1).n
    have hin := e2
    unfold inL at hin
    rw [decide_eq_true e2, wrap_i64_id (r * l.cols) (by omega), wrap_i64_id (r * l.cols + q) (by omega)] at h2
    rw [e1] at h1
    rw [e, if_pos rfl]
    generalize r * l.cols + q = c at *
    unfold lC at h1 h2 ⊢
    (repeat (first | simp (maxSteps := 2000000) (disch := omega) only [go_sem, ↓reduceIte] | with_reducible refine vIf_t ?_ | with_reducible refine vIf_f ?_))
    (refine vCallX_of ?_; (repeat (first | simp (maxSteps := 2000000) (disch := omega) only [go_sem, ↓reduceIte] | with_reducible refine vIf_t ?_ | with_reducible refine vIf_f ?_)); refine vCall_eq (h1) (by simp (disch := omega) only [go_sem]) rfl (by first | exact Or.inl rfl | exact Or.inr ⟨rfl, rfl⟩ | (apply Or.inr; simp only [go_sem])) ?_; (repeat (first | simp (maxSteps := 2000000) (disch := omega) only [go_sem, ↓reduceIte] | with_reducible refine vIf_t ?_ | with_reducible refine vIf_f ?_)))
    (refine vCallX_of ?_; (repeat (first | simp (maxSteps := 2000000) (disch := omega) only [go_sem, ↓reduceIte] | with_reducible refine vIf_t ?_ | with_reducible refine vIf_f ?_)); refine vCall_eq (h2) (by simp (disch := omega) only [go_sem]) rfl (by first | exact Or.inl rfl | exact Or.inr ⟨rfl, rfl⟩ | (apply Or.inr; simp only [go_sem])) ?_; (repeat (first | simp (maxSteps := 2000000) (disch := omega) only [go_sem, ↓reduceIte] | with_reducible refine vIf_t ?_ | with_reducible refine vIf_f ?_)))
    (try (repeat (first | simp (maxSteps := 2000000) (disch := omega) only [go_sem, ↓reduceIte] | with_reducible refine vIf_t ?_ | with_reducible refine vIf_f ?_)))
    (refine retK_of ?_; (repeat (first | simp (maxSteps := 2000000) (disch := omega) only [go_sem, ↓reduceIte] | with_reducible refine vIf_t ?_ | with_reducible refine vIf_f ?_)))
    try rfl
theorem heightAtS_ok (l : Ld) (r q : Int) (hl : l.hs.length ≤ 10000000) : ACalls Tryz.prog 37 [.agg (lC l), I r, I q] [] (fun x o => x = .tup [I (haN l r q), I (hcC l r q)] ∧ o = []) := by
  refine ACalls.of_vc Tryz.func37 rfl (by decide) 25 rfl [.tmp 6, .tmp 7] rfl (by simp) ?_
  have h1 := l03Cell_ok l r q hl
  unfold haN
  by_cases h0 : hcC l r q = 0
  · obtain ⟨e1, e2⟩ := hcC_0 h0
    obtain ⟨b1, b2, b3⟩ := inL_bd e1 e2
    have hn := (okL_F e1).n
    rw [h0] at h1
    rw [h0, if_pos rfl]
    obtain ⟨c, hc⟩ : ∃ c, c = r * l.cols := ⟨_, rfl⟩
    rw [← hc] at b1 b2 b3 ⊢
    have hq := e2.2
    have hlc := ((okL_iff l).1 e1).c
    unfold lC at h1 ⊢
    (repeat (first | simp (maxSteps := 2000000) (disch := omega) only [go_sem, ↓reduceIte] | with_reducible refine vIf_t ?_ | with_reducible refine vIf_f ?_))
    (refine vCallX_of ?_; (repeat (first | simp (maxSteps := 2000000) (disch := omega) only [go_sem, ↓reduceIte] | with_reducible refine vIf_t ?_ | with_reducible refine vIf_f ?_)); refine vCall_eq (h1) (by simp (disch := omega) only [go_sem]) rfl (by first | exact Or.inl rfl | exact Or.inr ⟨rfl, rfl⟩ | (apply Or.inr; simp only [go_sem])) ?_; (repeat (first | simp (maxSteps := 2000000) (disch := omega) only [go_sem, ↓reduceIte] | with_reducible refine vIf_t ?_ | with_reducible refine vIf_f ?_)))
    (try (repeat (first | simp (maxSteps := 2000000) (disch := omega) only [go_sem, ↓reduceIte, ← hc] | with_reducible refine vIf_t ?_ | with_reducible refine vIf_f ?_)))
    (refine retK_of ?_; (repeat (first | simp (maxSteps := 2000000) (disch := omega) only [go_sem, ↓reduceIte] | with_reducible refine vIf_t ?_ | with_reducible refine vIf_f ?_)))
    try rfl
  · have h0b : (hcC l r q != 0) = true := by simpa using h0
    rw [if_neg h0]
    unfold lC at h1 ⊢
    (repeat (first | simp (maxSteps := 2000000) (disch := omega) only [go_sem, ↓reduceIte] | with_reducible refine vIf_t ?_ | with_reducible refine vIf_f ?_))
    (refine vCallX_of ?_; (repeat (first | simp (maxSteps := 2000000) (disch := omega) only [go_sem, ↓reduceIte] | with_reducible refine vIf_t ?_ | with_reducible refine vIf_f ?_)); refine vCall_eq (h1) (by simp (disch := omega) only [go_sem]) rfl (by first | exact Or.inl rfl | exact Or.inr ⟨rfl, rfl⟩ | (apply Or.inr; simp only [go_sem])) ?_; (repeat (first | simp (maxSteps := 2000000) (disch := omega) only [go_sem, ↓reduceIte] | with_reducible refine vIf_t ?_ | with_reducible refine vIf_f ?_)))
    (try (repeat (first | simp (maxSteps := 2000000) (disch := omega) only [go_sem, ↓reduceIte, h0b] | with_reducible refine vIf_t ?_ | with_reducible refine vIf_f ?_)))
    (refine retK_of ?_; (repeat (first | simp (maxSteps := 2000000) (disch := omega) only [go_sem, ↓reduceIte] | with_reducible refine vIf_t ?_ | with_reducible refine vIf_f ?_)))
    try rfl
end Go.Proofs.YtfhckmlmfigfjaaGreatDoor
namespace Go.Proofs.YtfhckmlmfigfjaaGreatDoor
open Go.AG

attribute [local go_sem] beq_self_eq_true bne_self_eq_false Bool.not_true Bool.not_false
theorem ownLn_ok (l : Ld) (hl : l.hs.length ≤ 10000000) : ACalls Tryz.prog 131 [.ip (lC l) 0] [] (fun r o => r = .agg [I l.rows, I l.cols, .ref 0 0 l.hs.length] ∧ o = [oI l.hs]) := by
  refine ACalls.of_vc Tryz.func131 rfl (by decide) 17 rfl [.cell 2 50] rfl (by simp) ?_
  have h1 : ACalls Tryz.prog 196 [.sl l.hs.length (ints l.hs)] [] (fun r o => r = .ref 0 0 l.hs.length ∧ o = [oI l.hs]) := by
    refine ACalls.of_vc Tryz.func196 rfl (by decide) 6 rfl [.tmp 2] rfl (by simp) ?_
    unfold oI
    (repeat (first | simp (maxSteps := 2000000) (disch := omega) only [go_sem, ↓reduceIte] | with_reducible refine vIf_t ?_ | with_reducible refine vIf_f ?_))
    (refine retK_of ?_; (repeat (first | simp (maxSteps := 2000000) (disch := omega) only [go_sem, ↓reduceIte] | with_reducible refine vIf_t ?_ | with_reducible refine vIf_f ?_)))
  unfold lC
  (repeat (first | simp (maxSteps := 2000000) (disch := omega) only [go_sem, ↓reduceIte] | with_reducible refine vIf_t ?_ | with_reducible refine vIf_f ?_))
  (refine vDraw_sch 13 [(0, false), (1, false), (2, false), (4, false), (5, false), (6, false), (8, false), (9, false), (10, false), (3, false), (7, false), (11, true), (12, false)] mixed (by kernel_rfl) ?_; simp only [List.cons_append, List.nil_append, List.map_cons, List.map_nil, nthO_zero, nthO_succ, List.drop_succ_cons, List.drop_zero, List.drop_nil]; (repeat (first | simp (maxSteps := 2000000) (disch := omega) only [go_sem, ↓reduceIte] | with_reducible refine vIf_t ?_ | with_reducible refine vIf_f ?_)))
  (refine vsCallX_io [] (by simp [disj]) ?_; (try (repeat (first | simp (maxSteps := 2000000) (disch := omega) only [go_sem, ↓reduceIte] | with_reducible refine vIf_t ?_ | with_reducible refine vIf_f ?_))); refine vCallIO_eq (h1) (by simp (disch := omega) only [go_sem]) (by simp (disch := omega) only [go_sem]) (by first | rfl | (simp (disch := omega) only [go_sem])) (by first | rfl | (simp (disch := omega) only [go_sem])) (by first | rfl | (simp (disch := omega) only [go_sem])) (by first | (simp (disch := omega) only [go_sem]) | skip) ?_; (try (repeat (first | simp (maxSteps := 2000000) (disch := omega) only [go_sem, ↓reduceIte] | with_reducible refine vIf_t ?_ | with_reducible refine vIf_f ?_))))
  (try (repeat (first | simp (maxSteps := 2000000) (disch := omega) only [go_sem, ↓reduceIte] | with_reducible refine vIf_t ?_ | with_reducible refine vIf_f ?_)))
  (refine retK_of ?_; (repeat (first | simp (maxSteps := 2000000) (disch := omega) only [go_sem, ↓reduceIte] | with_reducible refine vIf_t ?_ | with_reducible refine vIf_f ?_)))
def lvP (h : Int) : Prop := -2000 ≤ h ∧ h ≤ 2000
instance (h : Int) : Decidable (lvP h) := inferInstanceAs (Decidable (_ ∧ _))
def shC (l : Ld) (r q h : Int) : Int := if hcC l r q = 0 then if lvP h then 0 else 2 else hcC l r q
theorem shC_0 {l : Ld} {r q h : Int} (e : shC l r q h = 0) : hcC l r q = 0 ∧ lvP h := by
  unfold shC at e
  split at e
  · split at e
    · exact ⟨‹_›, ‹_›⟩
    · omega
  · exact absurd e ‹_›
def shL (l : Ld) (r q h : Int) : Ld := if shC l r q h = 0 then ⟨l.rows, l.cols, l.hs.set (r * l.cols + q).toNat h⟩ else ⟨0, 0, []⟩
def shQ (l : Ld) (r q h : Int) (x : V) (o : Objs) : Prop := (shC l r q h = 0 ∧ x = .tup [.agg [I l.rows, I l.cols, .ref 0 0 l.hs.length], I 0] ∧ o = [oI (l.hs.set (r * l.cols + q).toNat h)]) ∨ (shC l r q h ≠ 0 ∧ x = .tup [.agg [I 0, I 0, nilS], I (shC l r q h)] ∧ o = [])
theorem shQ_fz {f : FuncId} {args : List V} {l : Ld} {r q h : Int} (hc : ACalls Tryz.prog f args [] (shQ l r q h)) : ACalls Tryz.prog f args [] (fun x o => x = .tup [.agg (lC (shL l r q h)), I (shC l r q h)] ∧ o = []) := by
  by_cases h0 : shC l r q h = 0
  · refine hc.fz ?_
    rintro x o (⟨_, rfl, rfl⟩ | ⟨e, _⟩)
    · refine ⟨_, .step 0 ⟨1, ints (l.hs.set (r * l.cols + q).toNat h)⟩ rfl (by (repeat (first | simp (maxSteps := 2000000) (disch := omega) only [go_sem, ↓reduceIte] | with_reducible refine vIf_t ?_ | with_reducible refine vIf_f ?_))) ?_, rfl, rfl⟩
      have hl : (l.hs.set (r * l.cols + q).toNat h).length = l.hs.length := by simp
      have e1 : shL l r q h = ⟨l.rows, l.cols, l.hs.set (r * l.cols + q).toNat h⟩ := if_pos h0
      have e3 : lC (shL l r q h) = [I l.rows, I l.cols, .sl l.hs.length (ints (l.hs.set (r * l.cols + q).toNat h))] := by rw [e1]; unfold lC; simp only [hl]
      rw [e3, h0]
      generalize l.hs.set (r * l.cols + q).toNat h = hs2 at *
      (repeat (first | simp (maxSteps := 2000000) (disch := omega) only [go_sem, ↓reduceIte, hl] | with_reducible refine vIf_t ?_ | with_reducible refine vIf_f ?_))
      exact .done rfl
    · exact absurd h0 e
  · refine hc.leD ?_
    rintro x o (⟨e, _⟩ | ⟨_, rfl, rfl⟩)
    · exact absurd e h0
    · have e1 : shL l r q h = ⟨0, 0, []⟩ := if_neg h0
      rw [e1]
      exact ⟨_, LeD.tup' (leD_cons (LeD.agg' (leD_same _ (leD_same _ (leD_nilS leD_nil)))) (leD_same _ leD_nil)), rfl, rfl⟩
theorem shQ_no {l : Ld} {r q h k : Int} (e : shC l r q h = k) (hk : k ≠ 0) : shQ l r q h (.tup [.agg [I 0, I 0, nilS], I k]) [] := .inr ⟨by omega, by rw [e], rfl⟩
theorem shQ_yes {l : Ld} {r q h c : Int} (e : shC l r q h = 0) (hc : c = r * l.cols + q) : shQ l r q h (.tup [.agg [I l.rows, I l.cols, .ref 0 0 l.hs.length], I 0]) [oI (l.hs.set c.toNat h)] := .inl ⟨e, rfl, by rw [hc]⟩
theorem shC_cases (l : Ld) (r q h : Int) : (okL l = false ∧ shC l r q h = 1) ∨ (okL l = true ∧ ¬ inL l r q ∧ shC l r q h = 2) ∨ (okL l = true ∧ inL l r q ∧ ¬ lvP h ∧ shC l r q h = 2) ∨ (okL l = true ∧ inL l r q ∧ lvP h ∧ shC l r q h = 0) := by
  unfold shC
  rcases hcC_cases l r q with ⟨e1, e⟩ | ⟨e1, e2, e⟩ | ⟨e1, e2, e⟩ <;> rw [e]
  · exact .inl ⟨e1, by simp⟩
  · exact .inr (.inl ⟨e1, e2, by simp⟩)
  · by_cases c : lvP h
    · exact .inr (.inr (.inr ⟨e1, e2, c, by simp [c]⟩))
    · exact .inr (.inr (.inl ⟨e1, e2, c, by simp [c]⟩))
set_option maxHeartbeats 2000000 in
theorem setH_ok (l : Ld) (r q h : Int) (hl : l.hs.length ≤ 10000000) : ACalls Tryz.prog 33 [.agg (lC l), I r, I q, I h] [] (shQ l r q h) := by
  refine ACalls.of_vc Tryz.func33 rfl (by decide) 45 rfl [.cell 8 50, .tmp 9] rfl (by simp) ?_
  have h1 := validL_ok l hl
  have h4 := lv_ok h
  have e4 : decide (-2000 ≤ h ∧ h ≤ 2000) = decide (lvP h) := rfl
  rw [e4] at h4
  rcases shC_cases l r q h with ⟨e1, e⟩ | ⟨e1, e2, e⟩ | ⟨e1, e2, e3, e⟩ | ⟨e1, e2, e3, e⟩
  · rw [e1] at h1
    unfold lC at h1 ⊢
    (repeat (first | simp (maxSteps := 2000000) (disch := omega) only [go_sem, ↓reduceIte] | with_reducible refine vIf_t ?_ | with_reducible refine vIf_f ?_))
    (refine vCallX_of ?_; (repeat (first | simp (maxSteps := 2000000) (disch := omega) only [go_sem, ↓reduceIte] | with_reducible refine vIf_t ?_ | with_reducible refine vIf_f ?_)); refine vCall_eq (h1) (by simp (disch := omega) only [go_sem]) rfl (by first | exact Or.inl rfl | exact Or.inr ⟨rfl, rfl⟩ | (apply Or.inr; simp only [go_sem])) ?_; (repeat (first | simp (maxSteps := 2000000) (disch := omega) only [go_sem, ↓reduceIte] | with_reducible refine vIf_t ?_ | with_reducible refine vIf_f ?_)))
    (refine retK_of ?_; (repeat (first | simp (maxSteps := 2000000) (disch := omega) only [go_sem, ↓reduceIte] | with_reducible refine vIf_t ?_ | with_reducible refine vIf_f ?_)))
    exact shQ_no e (by omega)
  · have h2 := cellV_ok l r q e1
    rw [decide_eq_false e2] at h2
    rw [e1] at h1
    unfold lC at h1 h2 ⊢
    (repeat (first | simp (maxSteps := 2000000) (disch := omega) only [go_sem, ↓reduceIte] | with_reducible refine vIf_t ?_ | with_reducible refine vIf_f ?_))
    (refine vCallX_of ?_; (repeat (first | simp (maxSteps := 2000000) (disch := omega) only [go_sem, ↓reduceIte] | with_reducible refine vIf_t ?_ | with_reducible refine vIf_f ?_)); refine vCall_eq (h1) (by simp (disch := omega) only [go_sem]) rfl (by first | exact Or.inl rfl | exact Or.inr ⟨rfl, rfl⟩ | (apply Or.inr; simp only [go_sem])) ?_; (repeat (first | simp (maxSteps := 2000000) (disch := omega) only [go_sem, ↓reduceIte] | with_reducible refine vIf_t ?_ | with_reducible refine vIf_f ?_)))
    (refine vCallX_of ?_; (repeat (first | simp (maxSteps := 2000000) (disch := omega) only [go_sem, ↓reduceIte] | with_reducible refine vIf_t ?_ | with_reducible refine vIf_f ?_)); refine vCall_eq (h2) (by simp (disch := omega) only [go_sem]) rfl (by first | exact Or.inl rfl | exact Or.inr ⟨rfl, rfl⟩ | (apply Or.inr; simp only [go_sem])) ?_; (repeat (first | simp (maxSteps := 2000000) (disch := omega) only [go_sem, ↓reduceIte] | with_reducible refine vIf_t ?_ | with_reducible refine vIf_f ?_)))
    (try (repeat (first | simp (maxSteps := 2000000) (disch := omega) only [go_sem, ↓reduceIte] | with_reducible refine vIf_t ?_ | with_reducible refine vIf_f ?_)))
    (refine retK_of ?_; (repeat (first | simp (maxSteps := 2000000) (disch := omega) only [go_sem, ↓reduceIte] | with_reducible refine vIf_t ?_ | with_reducible refine vIf_f ?_)))
    exact shQ_no e (by omega)
  all_goals
    have h2 := cellV_ok l r q e1
    obtain ⟨b1, b2, b3⟩ := inL_bd e1 e2
    have hn := (okL_F e1).n
    have hin := e2
    unfold inL at hin
    rw [decide_eq_true e2, wrap_i64_id (r * l.cols) (by omega), wrap_i64_id (r * l.cols + q) (by omega)] at h2
    rw [e1] at h1
    obtain ⟨c, hc⟩ : ∃ c, c = r * l.cols + q := ⟨_, rfl⟩
    rw [← hc] at b1 b3 h2
  · rw [decide_eq_false e3] at h4
    unfold lC at h1 h2 ⊢
    (repeat (first | simp (maxSteps := 2000000) (disch := omega) only [go_sem, ↓reduceIte] | with_reducible refine vIf_t ?_ | with_reducible refine vIf_f ?_))
    (refine vCallX_of ?_; (repeat (first | simp (maxSteps := 2000000) (disch := omega) only [go_sem, ↓reduceIte] | with_reducible refine vIf_t ?_ | with_reducible refine vIf_f ?_)); refine vCall_eq (h1) (by simp (disch := omega) only [go_sem]) rfl (by first | exact Or.inl rfl | exact Or.inr ⟨rfl, rfl⟩ | (apply Or.inr; simp only [go_sem])) ?_; (repeat (first | simp (maxSteps := 2000000) (disch := omega) only [go_sem, ↓reduceIte] | with_reducible refine vIf_t ?_ | with_reducible refine vIf_f ?_)))
    (refine vCallX_of ?_; (repeat (first | simp (maxSteps := 2000000) (disch := omega) only [go_sem, ↓reduceIte] | with_reducible refine vIf_t ?_ | with_reducible refine vIf_f ?_)); refine vCall_eq (h2) (by simp (disch := omega) only [go_sem]) rfl (by first | exact Or.inl rfl | exact Or.inr ⟨rfl, rfl⟩ | (apply Or.inr; simp only [go_sem])) ?_; (repeat (first | simp (maxSteps := 2000000) (disch := omega) only [go_sem, ↓reduceIte] | with_reducible refine vIf_t ?_ | with_reducible refine vIf_f ?_)))
    (try (repeat (first | simp (maxSteps := 2000000) (disch := omega) only [go_sem, ↓reduceIte] | with_reducible refine vIf_t ?_ | with_reducible refine vIf_f ?_)))
    (refine vCallX_of ?_; (repeat (first | simp (maxSteps := 2000000) (disch := omega) only [go_sem, ↓reduceIte] | with_reducible refine vIf_t ?_ | with_reducible refine vIf_f ?_)); refine vCall_eq (h4) (by simp (disch := omega) only [go_sem]) rfl (by first | exact Or.inl rfl | exact Or.inr ⟨rfl, rfl⟩ | (apply Or.inr; simp only [go_sem])) ?_; (repeat (first | simp (maxSteps := 2000000) (disch := omega) only [go_sem, ↓reduceIte] | with_reducible refine vIf_t ?_ | with_reducible refine vIf_f ?_)))
    (try (repeat (first | simp (maxSteps := 2000000) (disch := omega) only [go_sem, ↓reduceIte] | with_reducible refine vIf_t ?_ | with_reducible refine vIf_f ?_)))
    (refine retK_of ?_; (repeat (first | simp (maxSteps := 2000000) (disch := omega) only [go_sem, ↓reduceIte] | with_reducible refine vIf_t ?_ | with_reducible refine vIf_f ?_)))
    exact shQ_no e (by omega)
  · rw [decide_eq_true e3] at h4
    have h5 := clone_ok l.hs hl
    unfold lC at h1 h2 ⊢
    (repeat (first | simp (maxSteps := 2000000) (disch := omega) only [go_sem, ↓reduceIte] | with_reducible refine vIf_t ?_ | with_reducible refine vIf_f ?_))
    (refine vCallX_of ?_; (repeat (first | simp (maxSteps := 2000000) (disch := omega) only [go_sem, ↓reduceIte] | with_reducible refine vIf_t ?_ | with_reducible refine vIf_f ?_)); refine vCall_eq (h1) (by simp (disch := omega) only [go_sem]) rfl (by first | exact Or.inl rfl | exact Or.inr ⟨rfl, rfl⟩ | (apply Or.inr; simp only [go_sem])) ?_; (repeat (first | simp (maxSteps := 2000000) (disch := omega) only [go_sem, ↓reduceIte] | with_reducible refine vIf_t ?_ | with_reducible refine vIf_f ?_)))
    (refine vCallX_of ?_; (repeat (first | simp (maxSteps := 2000000) (disch := omega) only [go_sem, ↓reduceIte] | with_reducible refine vIf_t ?_ | with_reducible refine vIf_f ?_)); refine vCall_eq (h2) (by simp (disch := omega) only [go_sem]) rfl (by first | exact Or.inl rfl | exact Or.inr ⟨rfl, rfl⟩ | (apply Or.inr; simp only [go_sem])) ?_; (repeat (first | simp (maxSteps := 2000000) (disch := omega) only [go_sem, ↓reduceIte] | with_reducible refine vIf_t ?_ | with_reducible refine vIf_f ?_)))
    (try (repeat (first | simp (maxSteps := 2000000) (disch := omega) only [go_sem, ↓reduceIte] | with_reducible refine vIf_t ?_ | with_reducible refine vIf_f ?_)))
    (refine vCallX_of ?_; (repeat (first | simp (maxSteps := 2000000) (disch := omega) only [go_sem, ↓reduceIte] | with_reducible refine vIf_t ?_ | with_reducible refine vIf_f ?_)); refine vCall_eq (h4) (by simp (disch := omega) only [go_sem]) rfl (by first | exact Or.inl rfl | exact Or.inr ⟨rfl, rfl⟩ | (apply Or.inr; simp only [go_sem])) ?_; (repeat (first | simp (maxSteps := 2000000) (disch := omega) only [go_sem, ↓reduceIte] | with_reducible refine vIf_t ?_ | with_reducible refine vIf_f ?_)))
    (try (repeat (first | simp (maxSteps := 2000000) (disch := omega) only [go_sem, ↓reduceIte] | with_reducible refine vIf_t ?_ | with_reducible refine vIf_f ?_)))
    (refine vCallX_of ?_; (repeat (first | simp (maxSteps := 2000000) (disch := omega) only [go_sem, ↓reduceIte] | with_reducible refine vIf_t ?_ | with_reducible refine vIf_f ?_)); refine vCall_eq (h5) (by simp (disch := omega) only [go_sem]) rfl (by first | exact Or.inl rfl | exact Or.inr ⟨rfl, rfl⟩ | (apply Or.inr; simp only [go_sem])) ?_; (repeat (first | simp (maxSteps := 2000000) (disch := omega) only [go_sem, ↓reduceIte] | with_reducible refine vIf_t ?_ | with_reducible refine vIf_f ?_)))
    (try (repeat (first | simp (maxSteps := 2000000) (disch := omega) only [go_sem, ↓reduceIte] | with_reducible refine vIf_t ?_ | with_reducible refine vIf_f ?_)))
    (refine retK_of ?_; (repeat (first | simp (maxSteps := 2000000) (disch := omega) only [go_sem, ↓reduceIte] | with_reducible refine vIf_t ?_ | with_reducible refine vIf_f ?_)))
    exact shQ_yes e hc
set_option maxHeartbeats 2000000 in
theorem setHS_ok (l : Ld) (r q h : Int) (hl : l.hs.length ≤ 10000000) : ACalls Tryz.prog 34 [.agg (lC l), I r, I q, I h] [] (shQ l r q h) := by
  refine ACalls.of_vc Tryz.func34 rfl (by decide) 38 rfl [.cell 8 50, .tmp 9] rfl (by simp) ?_
  have h1 := l03Cell_ok l r q hl
  have h4 := lvS_ok h
  have e4 : decide (-2000 ≤ h ∧ h ≤ 2000) = decide (lvP h) := rfl
  rw [e4] at h4
  by_cases h0 : hcC l r q = 0
  · obtain ⟨e1, e2⟩ := hcC_0 h0
    obtain ⟨b1, b2, b3⟩ := inL_bd e1 e2
    have hn := (okL_F e1).n
    have hq := e2.2
    have hlc := ((okL_iff l).1 e1).c
    rw [h0] at h1
    by_cases e3 : lvP h
    · have e : shC l r q h = 0 := by unfold shC; rw [if_pos h0, if_pos e3]
      have ho := ownLn_ok l hl
      rw [decide_eq_true e3] at h4
      obtain ⟨c, hc⟩ : ∃ c, c = r * l.cols := ⟨_, rfl⟩
      rw [← hc] at b1 b2 b3
      unfold lC at h1 ho ⊢
      (repeat (first | simp (maxSteps := 2000000) (disch := omega) only [go_sem, ↓reduceIte] | with_reducible refine vIf_t ?_ | with_reducible refine vIf_f ?_))
      (refine vCallX_of ?_; (repeat (first | simp (maxSteps := 2000000) (disch := omega) only [go_sem, ↓reduceIte] | with_reducible refine vIf_t ?_ | with_reducible refine vIf_f ?_)); refine vCall_eq (h1) (by simp (disch := omega) only [go_sem]) rfl (by first | exact Or.inl rfl | exact Or.inr ⟨rfl, rfl⟩ | (apply Or.inr; simp only [go_sem])) ?_; (repeat (first | simp (maxSteps := 2000000) (disch := omega) only [go_sem, ↓reduceIte] | with_reducible refine vIf_t ?_ | with_reducible refine vIf_f ?_)))
      (refine vCallX_of ?_; (repeat (first | simp (maxSteps := 2000000) (disch := omega) only [go_sem, ↓reduceIte] | with_reducible refine vIf_t ?_ | with_reducible refine vIf_f ?_)); refine vCall_eq (h4) (by simp (disch := omega) only [go_sem]) rfl (by first | exact Or.inl rfl | exact Or.inr ⟨rfl, rfl⟩ | (apply Or.inr; simp only [go_sem])) ?_; (repeat (first | simp (maxSteps := 2000000) (disch := omega) only [go_sem, ↓reduceIte] | with_reducible refine vIf_t ?_ | with_reducible refine vIf_f ?_)))
      (try (repeat (first | simp (maxSteps := 2000000) (disch := omega) only [go_sem, ↓reduceIte] | with_reducible refine vIf_t ?_ | with_reducible refine vIf_f ?_)))
      (refine vCallX_of ?_; (repeat (first | simp (maxSteps := 2000000) (disch := omega) only [go_sem, ↓reduceIte] | with_reducible refine vIf_t ?_ | with_reducible refine vIf_f ?_)); refine vCall_eq (ho) (by simp (disch := omega) only [go_sem]) rfl (by first | exact Or.inl rfl | exact Or.inr ⟨rfl, rfl⟩ | (apply Or.inr; simp only [go_sem])) ?_; (repeat (first | simp (maxSteps := 2000000) (disch := omega) only [go_sem, ↓reduceIte] | with_reducible refine vIf_t ?_ | with_reducible refine vIf_f ?_)))
      (try (repeat (first | simp (maxSteps := 2000000) (disch := omega) only [go_sem, ↓reduceIte, ← hc] | with_reducible refine vIf_t ?_ | with_reducible refine vIf_f ?_)))
      (refine retK_of ?_; (repeat (first | simp (maxSteps := 2000000) (disch := omega) only [go_sem, ↓reduceIte] | with_reducible refine vIf_t ?_ | with_reducible refine vIf_f ?_)))
      exact shQ_yes e (by rw [hc])
    · have e : shC l r q h = 2 := by unfold shC; rw [if_pos h0, if_neg e3]
      rw [decide_eq_false e3] at h4
      unfold lC at h1 ⊢
      (repeat (first | simp (maxSteps := 2000000) (disch := omega) only [go_sem, ↓reduceIte] | with_reducible refine vIf_t ?_ | with_reducible refine vIf_f ?_))
      (refine vCallX_of ?_; (repeat (first | simp (maxSteps := 2000000) (disch := omega) only [go_sem, ↓reduceIte] | with_reducible refine vIf_t ?_ | with_reducible refine vIf_f ?_)); refine vCall_eq (h1) (by simp (disch := omega) only [go_sem]) rfl (by first | exact Or.inl rfl | exact Or.inr ⟨rfl, rfl⟩ | (apply Or.inr; simp only [go_sem])) ?_; (repeat (first | simp (maxSteps := 2000000) (disch := omega) only [go_sem, ↓reduceIte] | with_reducible refine vIf_t ?_ | with_reducible refine vIf_f ?_)))
      (refine vCallX_of ?_; (repeat (first | simp (maxSteps := 2000000) (disch := omega) only [go_sem, ↓reduceIte] | with_reducible refine vIf_t ?_ | with_reducible refine vIf_f ?_)); refine vCall_eq (h4) (by simp (disch := omega) only [go_sem]) rfl (by first | exact Or.inl rfl | exact Or.inr ⟨rfl, rfl⟩ | (apply Or.inr; simp only [go_sem])) ?_; (repeat (first | simp (maxSteps := 2000000) (disch := omega) only [go_sem, ↓reduceIte] | with_reducible refine vIf_t ?_ | with_reducible refine vIf_f ?_)))
      (try (repeat (first | simp (maxSteps := 2000000) (disch := omega) only [go_sem, ↓reduceIte] | with_reducible refine vIf_t ?_ | with_reducible refine vIf_f ?_)))
      (refine retK_of ?_; (repeat (first | simp (maxSteps := 2000000) (disch := omega) only [go_sem, ↓reduceIte] | with_reducible refine vIf_t ?_ | with_reducible refine vIf_f ?_)))
      exact shQ_no e (by omega)
  · have h0b : (hcC l r q == 0) = false := by simpa using h0
    have h0c : (hcC l r q != 0) = true := by simpa using h0
    have e : shC l r q h = hcC l r q := by unfold shC; rw [if_neg h0]
    unfold lC at h1 ⊢
    (repeat (first | simp (maxSteps := 2000000) (disch := omega) only [go_sem, ↓reduceIte] | with_reducible refine vIf_t ?_ | with_reducible refine vIf_f ?_))
    (refine vCallX_of ?_; (repeat (first | simp (maxSteps := 2000000) (disch := omega) only [go_sem, ↓reduceIte] | with_reducible refine vIf_t ?_ | with_reducible refine vIf_f ?_)); refine vCall_eq (h1) (by simp (disch := omega) only [go_sem]) rfl (by first | exact Or.inl rfl | exact Or.inr ⟨rfl, rfl⟩ | (apply Or.inr; simp only [go_sem])) ?_; (repeat (first | simp (maxSteps := 2000000) (disch := omega) only [go_sem, ↓reduceIte] | with_reducible refine vIf_t ?_ | with_reducible refine vIf_f ?_)))
    (try (repeat (first | simp (maxSteps := 2000000) (disch := omega) only [go_sem, ↓reduceIte, h0b, h0c] | with_reducible refine vIf_t ?_ | with_reducible refine vIf_f ?_)))
    (refine retK_of ?_; (repeat (first | simp (maxSteps := 2000000) (disch := omega) only [go_sem, ↓reduceIte] | with_reducible refine vIf_t ?_ | with_reducible refine vIf_f ?_)))
    exact shQ_no e h0
/-! lowest cells -/
def lmK (xs : List Int) : Nat → Int
  | 0 => gi xs 0
  | k + 1 => if gi xs k < lmK xs k then gi xs k else lmK xs k
theorem leastL_ok (xs : List Int) (hl : 0 < xs.length ∧ xs.length ≤ 10000000) : ACalls Tryz.prog 138 [iS xs] [] (fun r o => r = I (lmK xs xs.length) ∧ o = []) := by
  refine ACalls.of_vc Tryz.func138 rfl (by decide) 20 rfl [.tmp 2] rfl (by simp) ?_
  unfold iS
  (repeat (first | simp (maxSteps := 2000000) (disch := omega) only [go_sem, ↓reduceIte] | with_reducible refine vIf_t ?_ | with_reducible refine vIf_f ?_))
  refine vcLoop_invF (fun k : Nat => k ≤ xs.length) (fun k => ⟨20, 0, [(11, I k), (10, I xs.length), (9, .sl xs.length (ints xs)), (3, I (lmK xs k))], []⟩) (fun k => xs.length - k) 0 (by omega) (by rw [show lmK xs 0 = gi xs 0 from rfl]; (first | (refine leF_s ?_; ((repeat (first | simp (maxSteps := 2000000) (disch := omega) only [go_sem, ↓reduceIte] | with_reducible refine vIf_t ?_ | with_reducible refine vIf_f ?_)); all_goals (try simp); all_goals (try omega)); done) | (refine leF_p ?_; ((repeat (first | simp (maxSteps := 2000000) (disch := omega) only [go_sem, ↓reduceIte] | with_reducible refine vIf_t ?_ | with_reducible refine vIf_f ?_)); all_goals (try simp); all_goals (try omega)); done))) ?_
  intro k hk
  (repeat (first | simp (maxSteps := 2000000) (disch := omega) only [go_sem, ↓reduceIte] | with_reducible refine vIf_t ?_ | with_reducible refine vIf_f ?_))
  refine vIf_dec (fun h => ?_) (fun h => ?_)
  · (repeat (first | simp (maxSteps := 2000000) (disch := omega) only [go_sem, ↓reduceIte] | with_reducible refine vIf_t ?_ | with_reducible refine vIf_f ?_))
    refine againF (k + 1) (by omega) (by omega) ?_
    have e : lmK xs (k + 1) = if gi xs k < lmK xs k then gi xs k else lmK xs k := rfl
    rw [e]
    generalize lmK xs k = m
    by_cases c : gi xs k < m
    · rw [if_pos c]
      try rw [if_neg (by omega : ¬ m ≤ gi xs k)]
      (first | (refine leF_s ?_; ((repeat (first | simp (maxSteps := 2000000) (disch := omega) only [go_sem, ↓reduceIte] | with_reducible refine vIf_t ?_ | with_reducible refine vIf_f ?_)); all_goals (try simp); all_goals (try omega)); done) | (refine leF_p ?_; ((repeat (first | simp (maxSteps := 2000000) (disch := omega) only [go_sem, ↓reduceIte] | with_reducible refine vIf_t ?_ | with_reducible refine vIf_f ?_)); all_goals (try simp); all_goals (try omega)); done))
    · rw [if_neg c]
      try rw [if_pos (by omega : m ≤ gi xs k)]
      (first | (refine leF_s ?_; ((repeat (first | simp (maxSteps := 2000000) (disch := omega) only [go_sem, ↓reduceIte] | with_reducible refine vIf_t ?_ | with_reducible refine vIf_f ?_)); all_goals (try simp); all_goals (try omega)); done) | (refine leF_p ?_; ((repeat (first | simp (maxSteps := 2000000) (disch := omega) only [go_sem, ↓reduceIte] | with_reducible refine vIf_t ?_ | with_reducible refine vIf_f ?_)); all_goals (try simp); all_goals (try omega)); done))
  · have ek : k = xs.length := by omega
    subst ek
    (repeat (first | simp (maxSteps := 2000000) (disch := omega) only [go_sem, ↓reduceIte] | with_reducible refine vIf_t ?_ | with_reducible refine vIf_f ?_))
    (refine retK_of ?_; (repeat (first | simp (maxSteps := 2000000) (disch := omega) only [go_sem, ↓reduceIte] | with_reducible refine vIf_t ?_ | with_reducible refine vIf_f ?_)))
def lcV (l : Ld) : List Int := if okL l = true then ixs l.hs.length (fun i => gi l.hs i == lmK l.hs l.hs.length) else []
def lcC (l : Ld) : Int := if okL l = true then 0 else 1
theorem lcF_ok (l : Ld) (m : Int) (i : Nat) (hi : i < l.hs.length) (hl : l.hs.length ≤ 10000000) : ACalls Tryz.prog 141 [I i, .ip (lC l) 0, .ip [I m] 0] [] (fun r o => r = B (gi l.hs i == m) ∧ o = []) := by
  refine ACalls.of_vc Tryz.func141 rfl (by decide) 12 rfl [.tmp 4] rfl (by simp) ?_
  unfold lC
  (repeat (first | simp (maxSteps := 2000000) (disch := omega) only [go_sem, ↓reduceIte] | with_reducible refine vIf_t ?_ | with_reducible refine vIf_f ?_))
  (refine vDraw_of mixed (by kernel_rfl) ?_; (repeat (first | simp (maxSteps := 2000000) (disch := omega) only [go_sem, ↓reduceIte] | with_reducible refine vIf_t ?_ | with_reducible refine vIf_f ?_)))
  (try (repeat (first | simp (maxSteps := 2000000) (disch := omega) only [go_sem, ↓reduceIte] | with_reducible refine vIf_t ?_ | with_reducible refine vIf_f ?_)))
  (refine retK_of ?_; (repeat (first | simp (maxSteps := 2000000) (disch := omega) only [go_sem, ↓reduceIte] | with_reducible refine vIf_t ?_ | with_reducible refine vIf_f ?_)))
theorem lowestC_ok (l : Ld) (hl : l.hs.length ≤ 10000000) : ACalls Tryz.prog 42 [.agg (lC l)] [] (RowR (lcV l) (lcC l)) := by
  refine ACalls.of_vc Tryz.func42 rfl (by decide) 17 rfl [.tmp 2, .tmp 3] rfl (by simp) ?_
  have h1 := validL_ok l hl
  unfold RowR lcV lcC
  cases hk : okL l with
  | false =>
    rw [hk] at h1
    unfold lC at h1 ⊢
    (repeat (first | simp (maxSteps := 2000000) (disch := omega) only [go_sem, ↓reduceIte] | with_reducible refine vIf_t ?_ | with_reducible refine vIf_f ?_))
    (refine vCallX_of ?_; (repeat (first | simp (maxSteps := 2000000) (disch := omega) only [go_sem, ↓reduceIte] | with_reducible refine vIf_t ?_ | with_reducible refine vIf_f ?_)); refine vCall_eq (h1) (by simp (disch := omega) only [go_sem]) rfl (by first | exact Or.inl rfl | exact Or.inr ⟨rfl, rfl⟩ | (apply Or.inr; simp only [go_sem])) ?_; (repeat (first | simp (maxSteps := 2000000) (disch := omega) only [go_sem, ↓reduceIte] | with_reducible refine vIf_t ?_ | with_reducible refine vIf_f ?_)))
    (refine retK_of ?_; (repeat (first | simp (maxSteps := 2000000) (disch := omega) only [go_sem, ↓reduceIte] | with_reducible refine vIf_t ?_ | with_reducible refine vIf_f ?_)))
    try simp
  | true =>
    have Q := (okL_iff l).1 hk
    have hp : 0 < l.hs.length := by
      rw [Q.n]
      exact Nat.mul_pos (by have := Q.r; omega) (by have := Q.c; omega)
    have h2 := leastL_ok l.hs ⟨hp, hl⟩
    have h3 := fun m => ixw_ok l.hs.length 141 [.ip (lC l) 0, .ip [I m] 0] (fun i => gi l.hs i == m) (fun i hi => lcF_ok l m i hi hl) (by unfold lC; (repeat (first | simp (maxSteps := 2000000) (disch := omega) only [go_sem, ↓reduceIte] | with_reducible refine vIf_t ?_ | with_reducible refine vIf_f ?_))) hl
    have h3 := h3 (lmK l.hs l.hs.length)
    rw [hk] at h1
    unfold iS at h2
    unfold lC at h1 h3 ⊢
    (repeat (first | simp (maxSteps := 2000000) (disch := omega) only [go_sem, ↓reduceIte] | with_reducible refine vIf_t ?_ | with_reducible refine vIf_f ?_))
    (refine vCallX_of ?_; (repeat (first | simp (maxSteps := 2000000) (disch := omega) only [go_sem, ↓reduceIte] | with_reducible refine vIf_t ?_ | with_reducible refine vIf_f ?_)); refine vCall_eq (h1) (by simp (disch := omega) only [go_sem]) rfl (by first | exact Or.inl rfl | exact Or.inr ⟨rfl, rfl⟩ | (apply Or.inr; simp only [go_sem])) ?_; (repeat (first | simp (maxSteps := 2000000) (disch := omega) only [go_sem, ↓reduceIte] | with_reducible refine vIf_t ?_ | with_reducible refine vIf_f ?_)))
    (refine vCallX_of ?_; (repeat (first | simp (maxSteps := 2000000) (disch := omega) only [go_sem, ↓reduceIte] | with_reducible refine vIf_t ?_ | with_reducible refine vIf_f ?_)); refine vCall_eq (h2) (by simp (disch := omega) only [go_sem]) rfl (by first | exact Or.inl rfl | exact Or.inr ⟨rfl, rfl⟩ | (apply Or.inr; simp only [go_sem])) ?_; (repeat (first | simp (maxSteps := 2000000) (disch := omega) only [go_sem, ↓reduceIte] | with_reducible refine vIf_t ?_ | with_reducible refine vIf_f ?_)))
    (refine vCallX_of ?_; (repeat (first | simp (maxSteps := 2000000) (disch := omega) only [go_sem, ↓reduceIte] | with_reducible refine vIf_t ?_ | with_reducible refine vIf_f ?_)); refine vCall_eq (size_ok (ints l.hs) l.hs.length) (by simp (disch := omega) only [go_sem]) rfl (by first | exact Or.inl rfl | exact Or.inr ⟨rfl, rfl⟩ | (apply Or.inr; simp only [go_sem])) ?_; (repeat (first | simp (maxSteps := 2000000) (disch := omega) only [go_sem, ↓reduceIte] | with_reducible refine vIf_t ?_ | with_reducible refine vIf_f ?_)))
    (refine vCallX_fz 0 _ rfl (by (repeat (first | simp (maxSteps := 2000000) (disch := omega) only [go_sem, ↓reduceIte] | with_reducible refine vIf_t ?_ | with_reducible refine vIf_f ?_))) ?_; (repeat (first | simp (maxSteps := 2000000) (disch := omega) only [go_sem, ↓reduceIte] | with_reducible refine vIf_t ?_ | with_reducible refine vIf_f ?_)); refine vCallX_fz 1 _ rfl (by (repeat (first | simp (maxSteps := 2000000) (disch := omega) only [go_sem, ↓reduceIte] | with_reducible refine vIf_t ?_ | with_reducible refine vIf_f ?_))) ?_; (repeat (first | simp (maxSteps := 2000000) (disch := omega) only [go_sem, ↓reduceIte] | with_reducible refine vIf_t ?_ | with_reducible refine vIf_f ?_)))
    (refine vCallX_of ?_; (repeat (first | simp (maxSteps := 2000000) (disch := omega) only [go_sem, ↓reduceIte] | with_reducible refine vIf_t ?_ | with_reducible refine vIf_f ?_)); refine vCall_eq (h3) (by simp (disch := omega) only [go_sem]) rfl (by first | exact Or.inl rfl | exact Or.inr ⟨rfl, rfl⟩ | (apply Or.inr; simp only [go_sem])) ?_; (repeat (first | simp (maxSteps := 2000000) (disch := omega) only [go_sem, ↓reduceIte] | with_reducible refine vIf_t ?_ | with_reducible refine vIf_f ?_)))
    (refine retK_of ?_; (repeat (first | simp (maxSteps := 2000000) (disch := omega) only [go_sem, ↓reduceIte] | with_reducible refine vIf_t ?_ | with_reducible refine vIf_f ?_)))
    try simp
theorem lmK_one (xs : List Int) : lmK xs 1 = gi xs 0 := by
  show (if gi xs 0 < gi xs 0 then _ else _) = _
  rw [if_neg (by omega)]; rfl
theorem lowestCS_ok (l : Ld) (hl : l.hs.length ≤ 10000000) : ACalls Tryz.prog 43 [.agg (lC l)] [] (RowR (lcV l) (lcC l)) := by
  refine ACalls.of_vc Tryz.func43 rfl (by decide) 48 rfl [.tmp 2, .tmp 3] rfl (by simp) ?_
  have h1 := l03Ok_ok l hl
  unfold RowR lcV lcC
  cases hk : okL l with
  | false =>
    rw [hk] at h1
    unfold lC at h1 ⊢
    (repeat (first | simp (maxSteps := 2000000) (disch := omega) only [go_sem, ↓reduceIte] | with_reducible refine vIf_t ?_ | with_reducible refine vIf_f ?_))
    (refine vCallX_of ?_; (repeat (first | simp (maxSteps := 2000000) (disch := omega) only [go_sem, ↓reduceIte] | with_reducible refine vIf_t ?_ | with_reducible refine vIf_f ?_)); refine vCall_eq (h1) (by simp (disch := omega) only [go_sem]) rfl (by first | exact Or.inl rfl | exact Or.inr ⟨rfl, rfl⟩ | (apply Or.inr; simp only [go_sem])) ?_; (repeat (first | simp (maxSteps := 2000000) (disch := omega) only [go_sem, ↓reduceIte] | with_reducible refine vIf_t ?_ | with_reducible refine vIf_f ?_)))
    (refine retK_of ?_; (repeat (first | simp (maxSteps := 2000000) (disch := omega) only [go_sem, ↓reduceIte] | with_reducible refine vIf_t ?_ | with_reducible refine vIf_f ?_)))
    try simp
  | true =>
    have Q := (okL_iff l).1 hk
    have hp : 0 < l.hs.length := by
      rw [Q.n]
      exact Nat.mul_pos (by have := Q.r; omega) (by have := Q.c; omega)
    rw [hk] at h1
    unfold lC at h1 ⊢
    (repeat (first | simp (maxSteps := 2000000) (disch := omega) only [go_sem, ↓reduceIte] | with_reducible refine vIf_t ?_ | with_reducible refine vIf_f ?_))
    (refine vCallX_of ?_; (repeat (first | simp (maxSteps := 2000000) (disch := omega) only [go_sem, ↓reduceIte] | with_reducible refine vIf_t ?_ | with_reducible refine vIf_f ?_)); refine vCall_eq (h1) (by simp (disch := omega) only [go_sem]) rfl (by first | exact Or.inl rfl | exact Or.inr ⟨rfl, rfl⟩ | (apply Or.inr; simp only [go_sem])) ?_; (repeat (first | simp (maxSteps := 2000000) (disch := omega) only [go_sem, ↓reduceIte] | with_reducible refine vIf_t ?_ | with_reducible refine vIf_f ?_)))
    refine vcLoop_invF (fun k : Nat => 1 ≤ k ∧ k ≤ l.hs.length) (fun k => ⟨48, 0, [(5, I k), (1, .ptr 0 0), (4, I (lmK l.hs k))], [some ⟨3, [I l.rows, I l.cols, .sl l.hs.length (ints l.hs)]⟩]⟩) (fun k => l.hs.length - k) 1 ⟨by omega, by omega⟩ (by rw [lmK_one]; (first | (refine leF_s ?_; ((repeat (first | simp (maxSteps := 2000000) (disch := omega) only [go_sem, ↓reduceIte] | with_reducible refine vIf_t ?_ | with_reducible refine vIf_f ?_)); all_goals (try simp); all_goals (try omega)); done) | (refine leF_p ?_; ((repeat (first | simp (maxSteps := 2000000) (disch := omega) only [go_sem, ↓reduceIte] | with_reducible refine vIf_t ?_ | with_reducible refine vIf_f ?_)); all_goals (try simp); all_goals (try omega)); done))) ?_
    rintro k ⟨hk1, hk2⟩
    (repeat (first | simp (maxSteps := 2000000) (disch := omega) only [go_sem, ↓reduceIte] | with_reducible refine vIf_t ?_ | with_reducible refine vIf_f ?_))
    refine vIf_dec (fun h => ?_) (fun h => ?_)
    · have hm := bMin_ok (lmK l.hs k) (gi l.hs k)
      have e : lmK l.hs (k + 1) = if gi l.hs k < lmK l.hs k then gi l.hs k else lmK l.hs k := rfl
      have e2 : (if lmK l.hs k < gi l.hs k then lmK l.hs k else gi l.hs k) = lmK l.hs (k + 1) := by rw [e]; split <;> split <;> omega
      rw [e2] at hm
      (repeat (first | simp (maxSteps := 2000000) (disch := omega) only [go_sem, ↓reduceIte] | with_reducible refine vIf_t ?_ | with_reducible refine vIf_f ?_))
      (refine vCallX_of ?_; (repeat (first | simp (maxSteps := 2000000) (disch := omega) only [go_sem, ↓reduceIte] | with_reducible refine vIf_t ?_ | with_reducible refine vIf_f ?_)); refine vCall_eq (hm) (by simp (disch := omega) only [go_sem]) rfl (by first | exact Or.inl rfl | exact Or.inr ⟨rfl, rfl⟩ | (apply Or.inr; simp only [go_sem])) ?_; (repeat (first | simp (maxSteps := 2000000) (disch := omega) only [go_sem, ↓reduceIte] | with_reducible refine vIf_t ?_ | with_reducible refine vIf_f ?_)))
      refine againF (k + 1) ⟨by omega, by omega⟩ (by omega) (by (first | (refine leF_s ?_; ((repeat (first | simp (maxSteps := 2000000) (disch := omega) only [go_sem, ↓reduceIte] | with_reducible refine vIf_t ?_ | with_reducible refine vIf_f ?_)); all_goals (try simp); all_goals (try omega)); done) | (refine leF_p ?_; ((repeat (first | simp (maxSteps := 2000000) (disch := omega) only [go_sem, ↓reduceIte] | with_reducible refine vIf_t ?_ | with_reducible refine vIf_f ?_)); all_goals (try simp); all_goals (try omega)); done)))
    · have ek : k = l.hs.length := by omega
      subst ek
      generalize lmK l.hs l.hs.length = m
      (repeat (first | simp (maxSteps := 2000000) (disch := omega) only [go_sem, ↓reduceIte] | with_reducible refine vIf_t ?_ | with_reducible refine vIf_f ?_))
      refine vcLoop_invF (fun k : Nat => k ≤ l.hs.length) (fun k => ⟨48, 0, [(7, I k), (6, .ref 1 0 (ixs k (fun i => gi l.hs i == m)).length), (4, I m), (1, .ptr 0 0)], [some ⟨3, [I l.rows, I l.cols, .sl l.hs.length (ints l.hs)]⟩, oI (ixs k (fun i => gi l.hs i == m))]⟩) (fun k => l.hs.length - k) 0 (by omega) (by rw [ixs_zero]; (first | (refine leF_s ?_; ((repeat (first | simp (maxSteps := 2000000) (disch := omega) only [go_sem, ↓reduceIte] | with_reducible refine vIf_t ?_ | with_reducible refine vIf_f ?_)); all_goals (try simp); all_goals (try omega)); done) | (refine leF_p ?_; ((repeat (first | simp (maxSteps := 2000000) (disch := omega) only [go_sem, ↓reduceIte] | with_reducible refine vIf_t ?_ | with_reducible refine vIf_f ?_)); all_goals (try simp); all_goals (try omega)); done))) ?_
      intro k hk
      have il := ixs_len k (fun i => gi l.hs i == m)
      (repeat (first | simp (maxSteps := 2000000) (disch := omega) only [go_sem, ↓reduceIte] | with_reducible refine vIf_t ?_ | with_reducible refine vIf_f ?_))
      refine vIf_dec (fun h => ?_) (fun h => ?_)
      · (repeat (first | simp (maxSteps := 2000000) (disch := omega) only [go_sem, ↓reduceIte] | with_reducible refine vIf_t ?_ | with_reducible refine vIf_f ?_))
        refine vIf_beq (fun h5 => ?_) (fun h5 => ?_)
        · (repeat (first | simp (maxSteps := 2000000) (disch := omega) only [go_sem, ↓reduceIte] | with_reducible refine vIf_t ?_ | with_reducible refine vIf_f ?_))
          refine againF (k + 1) (by omega) (by omega) ?_
          rw [ixs_yes (q := fun i => gi l.hs i == m) (by simpa using h5)]
          (first | (refine leF_s ?_; ((repeat (first | simp (maxSteps := 2000000) (disch := omega) only [go_sem, ↓reduceIte] | with_reducible refine vIf_t ?_ | with_reducible refine vIf_f ?_)); all_goals (try simp); all_goals (try omega)); done) | (refine leF_p ?_; ((repeat (first | simp (maxSteps := 2000000) (disch := omega) only [go_sem, ↓reduceIte] | with_reducible refine vIf_t ?_ | with_reducible refine vIf_f ?_)); all_goals (try simp); all_goals (try omega)); done))
        · (repeat (first | simp (maxSteps := 2000000) (disch := omega) only [go_sem, ↓reduceIte] | with_reducible refine vIf_t ?_ | with_reducible refine vIf_f ?_))
          refine againF (k + 1) (by omega) (by omega) ?_
          rw [ixs_no (q := fun i => gi l.hs i == m) (by simpa using h5)]
          (first | (refine leF_s ?_; ((repeat (first | simp (maxSteps := 2000000) (disch := omega) only [go_sem, ↓reduceIte] | with_reducible refine vIf_t ?_ | with_reducible refine vIf_f ?_)); all_goals (try simp); all_goals (try omega)); done) | (refine leF_p ?_; ((repeat (first | simp (maxSteps := 2000000) (disch := omega) only [go_sem, ↓reduceIte] | with_reducible refine vIf_t ?_ | with_reducible refine vIf_f ?_)); all_goals (try simp); all_goals (try omega)); done))
      · have ek : k = l.hs.length := by omega
        subst ek
        (repeat (first | simp (maxSteps := 2000000) (disch := omega) only [go_sem, ↓reduceIte] | with_reducible refine vIf_t ?_ | with_reducible refine vIf_f ?_))
        (refine retK_of ?_; (repeat (first | simp (maxSteps := 2000000) (disch := omega) only [go_sem, ↓reduceIte] | with_reducible refine vIf_t ?_ | with_reducible refine vIf_f ?_)))
        try simp
/-! the level for a volume -/
def LfR (l : Ld) (v n c : Int) : Prop :=
  (okL l = false ∧ n = 0 ∧ c = 1) ∨ (okL l = true ∧ ¬ (0 ≤ v ∧ v ≤ 1000000000) ∧ n = 0 ∧ c = 2) ∨
  (okL l = true ∧ (0 ≤ v ∧ v ≤ 1000000000) ∧ llV l 2000 < v ∧ n = 0 ∧ c = 5) ∨
  (okL l = true ∧ (0 ≤ v ∧ v ≤ 1000000000) ∧ (-2000 ≤ n ∧ n ≤ 2000) ∧ v ≤ llV l n ∧ (∀ m, -2000 ≤ m → m < n → llV l m < v) ∧ c = 0)
theorem lvK_mono (hs : List Int) {a b : Int} (h : a ≤ b) (k : Nat) : lvK hs a k ≤ lvK hs b k := by
  induction k with
  | zero => exact Int.le_refl _
  | succ k ih =>
    simp only [lvK]
    split <;> split <;> omega
theorem llV_mono (l : Ld) {a b : Int} (h : a ≤ b) : llV l a ≤ llV l b := lvK_mono l.hs h _
theorem LfR.uniq {l : Ld} {v n c n' c' : Int} (h : LfR l v n c) (k : LfR l v n' c') : n = n' ∧ c = c' := by
  rcases h with ⟨a, rfl, rfl⟩ | ⟨a, b, rfl, rfl⟩ | ⟨a, b, d, rfl, rfl⟩ | ⟨a, b, d, e, f, rfl⟩ <;>
  rcases k with ⟨a', rfl, rfl⟩ | ⟨a', b', rfl, rfl⟩ | ⟨a', b', d', rfl, rfl⟩ | ⟨a', b', d', e', f', rfl⟩ <;>
  first
    | exact ⟨rfl, rfl⟩
    | (exfalso; rw [a] at a'; exact absurd a' (by decide))
    | exact absurd b' b
    | exact absurd b b'
    | (exfalso; have := llV_mono l d'.2; omega)
    | (exfalso; have := llV_mono l d.2; omega)
    | (refine ⟨?_, rfl⟩
       rcases Int.lt_trichotomy n n' with h | h | h
       · have := f' n d.1 h; omega
       · exact h
       · have := f n' d'.1 h; omega)
theorem levelFor_ok (l : Ld) (v : Int) (hl : l.hs.length ≤ 10000000) : ACalls Tryz.prog 39 [.agg (lC l), I v] [] (fun r o => ∃ n c, LfR l v n c ∧ r = .tup [I n, I c] ∧ o = []) := by
  refine ACalls.of_vc Tryz.func39 rfl (by decide) 25 rfl [.tmp 4, .tmp 5] rfl (by simp) ?_
  have h1 := validL_ok l hl
  have h2 := bShared_ok v
  cases hk : okL l with
  | false =>
    rw [hk] at h1
    unfold lC at h1 ⊢
    (repeat (first | simp (maxSteps := 2000000) (disch := omega) only [go_sem, ↓reduceIte] | with_reducible refine vIf_t ?_ | with_reducible refine vIf_f ?_))
    (refine vCallX_of ?_; (repeat (first | simp (maxSteps := 2000000) (disch := omega) only [go_sem, ↓reduceIte] | with_reducible refine vIf_t ?_ | with_reducible refine vIf_f ?_)); refine vCall_eq (h1) (by simp (disch := omega) only [go_sem]) rfl (by first | exact Or.inl rfl | exact Or.inr ⟨rfl, rfl⟩ | (apply Or.inr; simp only [go_sem])) ?_; (repeat (first | simp (maxSteps := 2000000) (disch := omega) only [go_sem, ↓reduceIte] | with_reducible refine vIf_t ?_ | with_reducible refine vIf_f ?_)))
    (refine retK_of ?_; (repeat (first | simp (maxSteps := 2000000) (disch := omega) only [go_sem, ↓reduceIte] | with_reducible refine vIf_t ?_ | with_reducible refine vIf_f ?_)))
    exact ⟨0, 1, .inl ⟨hk, rfl, rfl⟩, rfl⟩
  | true =>
    rw [hk] at h1
    by_cases hv : 0 ≤ v ∧ v ≤ 1000000000
    case neg =>
      rw [decide_eq_false hv] at h2
      unfold lC at h1 ⊢
      (repeat (first | simp (maxSteps := 2000000) (disch := omega) only [go_sem, ↓reduceIte] | with_reducible refine vIf_t ?_ | with_reducible refine vIf_f ?_))
      (refine vCallX_of ?_; (repeat (first | simp (maxSteps := 2000000) (disch := omega) only [go_sem, ↓reduceIte] | with_reducible refine vIf_t ?_ | with_reducible refine vIf_f ?_)); refine vCall_eq (h1) (by simp (disch := omega) only [go_sem]) rfl (by first | exact Or.inl rfl | exact Or.inr ⟨rfl, rfl⟩ | (apply Or.inr; simp only [go_sem])) ?_; (repeat (first | simp (maxSteps := 2000000) (disch := omega) only [go_sem, ↓reduceIte] | with_reducible refine vIf_t ?_ | with_reducible refine vIf_f ?_)))
      (refine vCallX_of ?_; (repeat (first | simp (maxSteps := 2000000) (disch := omega) only [go_sem, ↓reduceIte] | with_reducible refine vIf_t ?_ | with_reducible refine vIf_f ?_)); refine vCall_eq (h2) (by simp (disch := omega) only [go_sem]) rfl (by first | exact Or.inl rfl | exact Or.inr ⟨rfl, rfl⟩ | (apply Or.inr; simp only [go_sem])) ?_; (repeat (first | simp (maxSteps := 2000000) (disch := omega) only [go_sem, ↓reduceIte] | with_reducible refine vIf_t ?_ | with_reducible refine vIf_f ?_)))
      (refine retK_of ?_; (repeat (first | simp (maxSteps := 2000000) (disch := omega) only [go_sem, ↓reduceIte] | with_reducible refine vIf_t ?_ | with_reducible refine vIf_f ?_)))
      exact ⟨0, 2, .inr (.inl ⟨hk, hv, rfl, rfl⟩), rfl⟩
    rw [decide_eq_true hv] at h2
    have F := okL_F hk
    have h3 := fun x hx => lvol_ok l x F hx
    unfold lC at h1 h3 ⊢
    (repeat (first | simp (maxSteps := 2000000) (disch := omega) only [go_sem, ↓reduceIte] | with_reducible refine vIf_t ?_ | with_reducible refine vIf_f ?_))
    (refine vCallX_of ?_; (repeat (first | simp (maxSteps := 2000000) (disch := omega) only [go_sem, ↓reduceIte] | with_reducible refine vIf_t ?_ | with_reducible refine vIf_f ?_)); refine vCall_eq (h1) (by simp (disch := omega) only [go_sem]) rfl (by first | exact Or.inl rfl | exact Or.inr ⟨rfl, rfl⟩ | (apply Or.inr; simp only [go_sem])) ?_; (repeat (first | simp (maxSteps := 2000000) (disch := omega) only [go_sem, ↓reduceIte] | with_reducible refine vIf_t ?_ | with_reducible refine vIf_f ?_)))
    (refine vCallX_of ?_; (repeat (first | simp (maxSteps := 2000000) (disch := omega) only [go_sem, ↓reduceIte] | with_reducible refine vIf_t ?_ | with_reducible refine vIf_f ?_)); refine vCall_eq (h2) (by simp (disch := omega) only [go_sem]) rfl (by first | exact Or.inl rfl | exact Or.inr ⟨rfl, rfl⟩ | (apply Or.inr; simp only [go_sem])) ?_; (repeat (first | simp (maxSteps := 2000000) (disch := omega) only [go_sem, ↓reduceIte] | with_reducible refine vIf_t ?_ | with_reducible refine vIf_f ?_)))
    refine vcLoop_invF (fun x : Int => (-2000 ≤ x ∧ x ≤ 2001) ∧ ∀ m, -2000 ≤ m → m < x → llV l m < v) (fun x => ⟨25, 0, [(6, I x), (1, I v), (2, .ptr 0 0)], [some ⟨3, [I l.rows, I l.cols, .sl l.hs.length (ints l.hs)]⟩]⟩) (fun x => (2001 - x).toNat) (-2000) ⟨by omega, fun m a b => by omega⟩ (by (first | (refine leF_s ?_; ((repeat (first | simp (maxSteps := 2000000) (disch := omega) only [go_sem, ↓reduceIte] | with_reducible refine vIf_t ?_ | with_reducible refine vIf_f ?_)); all_goals (try simp); all_goals (try omega)); done) | (refine leF_p ?_; ((repeat (first | simp (maxSteps := 2000000) (disch := omega) only [go_sem, ↓reduceIte] | with_reducible refine vIf_t ?_ | with_reducible refine vIf_f ?_)); all_goals (try simp); all_goals (try omega)); done))) ?_
    rintro x ⟨hx, hm⟩
    (repeat (first | simp (maxSteps := 2000000) (disch := omega) only [go_sem, ↓reduceIte] | with_reducible refine vIf_t ?_ | with_reducible refine vIf_f ?_))
    refine vIf_dec (fun h => ?_) (fun h => ?_)
    · have h4 := h3 x (by omega)
      (repeat (first | simp (maxSteps := 2000000) (disch := omega) only [go_sem, ↓reduceIte] | with_reducible refine vIf_t ?_ | with_reducible refine vIf_f ?_))
      (refine vCallX_of ?_; (repeat (first | simp (maxSteps := 2000000) (disch := omega) only [go_sem, ↓reduceIte] | with_reducible refine vIf_t ?_ | with_reducible refine vIf_f ?_)); refine vCall_eq (h4) (by simp (disch := omega) only [go_sem]) rfl (by first | exact Or.inl rfl | exact Or.inr ⟨rfl, rfl⟩ | (apply Or.inr; simp only [go_sem])) ?_; (repeat (first | simp (maxSteps := 2000000) (disch := omega) only [go_sem, ↓reduceIte] | with_reducible refine vIf_t ?_ | with_reducible refine vIf_f ?_)))
      refine vIf_dec (fun h5 => ?_) (fun h5 => ?_)
      · (repeat (first | simp (maxSteps := 2000000) (disch := omega) only [go_sem, ↓reduceIte] | with_reducible refine vIf_t ?_ | with_reducible refine vIf_f ?_))
        (refine retK_of ?_; (repeat (first | simp (maxSteps := 2000000) (disch := omega) only [go_sem, ↓reduceIte] | with_reducible refine vIf_t ?_ | with_reducible refine vIf_f ?_)))
        exact ⟨x, 0, .inr (.inr (.inr ⟨hk, hv, by omega, h5, hm, rfl⟩)), rfl⟩
      · (repeat (first | simp (maxSteps := 2000000) (disch := omega) only [go_sem, ↓reduceIte] | with_reducible refine vIf_t ?_ | with_reducible refine vIf_f ?_))
        refine againF (x + 1) ⟨by omega, fun m a b => ?_⟩ (by omega) (by (first | (refine leF_s ?_; ((repeat (first | simp (maxSteps := 2000000) (disch := omega) only [go_sem, ↓reduceIte] | with_reducible refine vIf_t ?_ | with_reducible refine vIf_f ?_)); all_goals (try simp); all_goals (try omega)); done) | (refine leF_p ?_; ((repeat (first | simp (maxSteps := 2000000) (disch := omega) only [go_sem, ↓reduceIte] | with_reducible refine vIf_t ?_ | with_reducible refine vIf_f ?_)); all_goals (try simp); all_goals (try omega)); done)))
        by_cases e : m = x
        · rw [e]; omega
        · exact hm m a (by omega)
    · (repeat (first | simp (maxSteps := 2000000) (disch := omega) only [go_sem, ↓reduceIte] | with_reducible refine vIf_t ?_ | with_reducible refine vIf_f ?_))
      (refine retK_of ?_; (repeat (first | simp (maxSteps := 2000000) (disch := omega) only [go_sem, ↓reduceIte] | with_reducible refine vIf_t ?_ | with_reducible refine vIf_f ?_)))
      exact ⟨0, 5, .inr (.inr (.inl ⟨hk, hv, hm 2000 (by omega) (by omega), rfl, rfl⟩)), rfl⟩
theorem levelForS_ok (l : Ld) (v : Int) (hl : l.hs.length ≤ 10000000) : ACalls Tryz.prog 40 [.agg (lC l), I v] [] (fun r o => ∃ n c, LfR l v n c ∧ r = .tup [I n, I c] ∧ o = []) := by
  refine ACalls.of_vc Tryz.func40 rfl (by decide) 32 rfl [.tmp 4, .tmp 5] rfl (by simp) ?_
  have h1 := l03Ok_ok l hl
  have h2 := inS_ok v 0 1000000000
  cases hk : okL l with
  | false =>
    rw [hk] at h1
    unfold lC at h1 ⊢
    (repeat (first | simp (maxSteps := 2000000) (disch := omega) only [go_sem, ↓reduceIte] | with_reducible refine vIf_t ?_ | with_reducible refine vIf_f ?_))
    (refine vCallX_of ?_; (repeat (first | simp (maxSteps := 2000000) (disch := omega) only [go_sem, ↓reduceIte] | with_reducible refine vIf_t ?_ | with_reducible refine vIf_f ?_)); refine vCall_eq (h1) (by simp (disch := omega) only [go_sem]) rfl (by first | exact Or.inl rfl | exact Or.inr ⟨rfl, rfl⟩ | (apply Or.inr; simp only [go_sem])) ?_; (repeat (first | simp (maxSteps := 2000000) (disch := omega) only [go_sem, ↓reduceIte] | with_reducible refine vIf_t ?_ | with_reducible refine vIf_f ?_)))
    (refine retK_of ?_; (repeat (first | simp (maxSteps := 2000000) (disch := omega) only [go_sem, ↓reduceIte] | with_reducible refine vIf_t ?_ | with_reducible refine vIf_f ?_)))
    exact ⟨0, 1, .inl ⟨hk, rfl, rfl⟩, rfl⟩
  | true =>
    rw [hk] at h1
    by_cases hv : 0 ≤ v ∧ v ≤ 1000000000
    case neg =>
      rw [decide_eq_false hv] at h2
      unfold lC at h1 ⊢
      (repeat (first | simp (maxSteps := 2000000) (disch := omega) only [go_sem, ↓reduceIte] | with_reducible refine vIf_t ?_ | with_reducible refine vIf_f ?_))
      (refine vCallX_of ?_; (repeat (first | simp (maxSteps := 2000000) (disch := omega) only [go_sem, ↓reduceIte] | with_reducible refine vIf_t ?_ | with_reducible refine vIf_f ?_)); refine vCall_eq (h1) (by simp (disch := omega) only [go_sem]) rfl (by first | exact Or.inl rfl | exact Or.inr ⟨rfl, rfl⟩ | (apply Or.inr; simp only [go_sem])) ?_; (repeat (first | simp (maxSteps := 2000000) (disch := omega) only [go_sem, ↓reduceIte] | with_reducible refine vIf_t ?_ | with_reducible refine vIf_f ?_)))
      (refine vCallX_of ?_; (repeat (first | simp (maxSteps := 2000000) (disch := omega) only [go_sem, ↓reduceIte] | with_reducible refine vIf_t ?_ | with_reducible refine vIf_f ?_)); refine vCall_eq (h2) (by simp (disch := omega) only [go_sem]) rfl (by first | exact Or.inl rfl | exact Or.inr ⟨rfl, rfl⟩ | (apply Or.inr; simp only [go_sem])) ?_; (repeat (first | simp (maxSteps := 2000000) (disch := omega) only [go_sem, ↓reduceIte] | with_reducible refine vIf_t ?_ | with_reducible refine vIf_f ?_)))
      (refine retK_of ?_; (repeat (first | simp (maxSteps := 2000000) (disch := omega) only [go_sem, ↓reduceIte] | with_reducible refine vIf_t ?_ | with_reducible refine vIf_f ?_)))
      exact ⟨0, 2, .inr (.inl ⟨hk, hv, rfl, rfl⟩), rfl⟩
    rw [decide_eq_true hv] at h2
    have F := okL_F hk
    have h3 := fun x hx => lvolS_ok l x F hx
    have h4 := h3 2000 (by omega)
    unfold lC at h1 h3 h4 ⊢
    (repeat (first | simp (maxSteps := 2000000) (disch := omega) only [go_sem, ↓reduceIte] | with_reducible refine vIf_t ?_ | with_reducible refine vIf_f ?_))
    (refine vCallX_fz 0 _ rfl (by (repeat (first | simp (maxSteps := 2000000) (disch := omega) only [go_sem, ↓reduceIte] | with_reducible refine vIf_t ?_ | with_reducible refine vIf_f ?_))) ?_; (repeat (first | simp (maxSteps := 2000000) (disch := omega) only [go_sem, ↓reduceIte] | with_reducible refine vIf_t ?_ | with_reducible refine vIf_f ?_)))
    (refine vCallX_of ?_; (repeat (first | simp (maxSteps := 2000000) (disch := omega) only [go_sem, ↓reduceIte] | with_reducible refine vIf_t ?_ | with_reducible refine vIf_f ?_)); refine vCall_eq (h1) (by simp (disch := omega) only [go_sem]) rfl (by first | exact Or.inl rfl | exact Or.inr ⟨rfl, rfl⟩ | (apply Or.inr; simp only [go_sem])) ?_; (repeat (first | simp (maxSteps := 2000000) (disch := omega) only [go_sem, ↓reduceIte] | with_reducible refine vIf_t ?_ | with_reducible refine vIf_f ?_)))
    (refine vCallX_of ?_; (repeat (first | simp (maxSteps := 2000000) (disch := omega) only [go_sem, ↓reduceIte] | with_reducible refine vIf_t ?_ | with_reducible refine vIf_f ?_)); refine vCall_eq (h2) (by simp (disch := omega) only [go_sem]) rfl (by first | exact Or.inl rfl | exact Or.inr ⟨rfl, rfl⟩ | (apply Or.inr; simp only [go_sem])) ?_; (repeat (first | simp (maxSteps := 2000000) (disch := omega) only [go_sem, ↓reduceIte] | with_reducible refine vIf_t ?_ | with_reducible refine vIf_f ?_)))
    (refine vCallX_of ?_; (repeat (first | simp (maxSteps := 2000000) (disch := omega) only [go_sem, ↓reduceIte] | with_reducible refine vIf_t ?_ | with_reducible refine vIf_f ?_)); refine vCall_eq (h4) (by simp (disch := omega) only [go_sem]) rfl (by first | exact Or.inl rfl | exact Or.inr ⟨rfl, rfl⟩ | (apply Or.inr; simp only [go_sem])) ?_; (repeat (first | simp (maxSteps := 2000000) (disch := omega) only [go_sem, ↓reduceIte] | with_reducible refine vIf_t ?_ | with_reducible refine vIf_f ?_)))
    refine vIf_dec (fun h => ?_) (fun h => ?_)
    · (repeat (first | simp (maxSteps := 2000000) (disch := omega) only [go_sem, ↓reduceIte] | with_reducible refine vIf_t ?_ | with_reducible refine vIf_f ?_))
      (refine retK_of ?_; (repeat (first | simp (maxSteps := 2000000) (disch := omega) only [go_sem, ↓reduceIte] | with_reducible refine vIf_t ?_ | with_reducible refine vIf_f ?_)))
      exact ⟨0, 5, .inr (.inr (.inl ⟨hk, hv, h, rfl, rfl⟩)), rfl⟩
    (repeat (first | simp (maxSteps := 2000000) (disch := omega) only [go_sem, ↓reduceIte] | with_reducible refine vIf_t ?_ | with_reducible refine vIf_f ?_))
    refine vcLoop_invF (fun x : Int × Int => (-2001 ≤ x.1 ∧ x.1 < x.2 ∧ x.2 ≤ 2000) ∧ v ≤ llV l x.2 ∧ ∀ m, -2000 ≤ m → m ≤ x.1 → llV l m < v) (fun x => ⟨32, 0, [(1, I v), (2, .ip [I l.rows, I l.cols, .sl l.hs.length (ints l.hs)] 0), (7, I x.2), (6, I x.1)], []⟩) (fun x => (x.2 - x.1).toNat) (-2001, 2000) ⟨by simp, by simp only; omega, fun m a b => by simp only at b; omega⟩ (by (first | (refine leF_s ?_; ((repeat (first | simp (maxSteps := 2000000) (disch := omega) only [go_sem, ↓reduceIte] | with_reducible refine vIf_t ?_ | with_reducible refine vIf_f ?_)); all_goals (try simp); all_goals (try omega)); done) | (refine leF_p ?_; ((repeat (first | simp (maxSteps := 2000000) (disch := omega) only [go_sem, ↓reduceIte] | with_reducible refine vIf_t ?_ | with_reducible refine vIf_f ?_)); all_goals (try simp); all_goals (try omega)); done))) ?_
    rintro ⟨lo, hi⟩ ⟨hx, hq, hm⟩
    simp only at hx hq hm
    (repeat (first | simp (maxSteps := 2000000) (disch := omega) only [go_sem, ↓reduceIte] | with_reducible refine vIf_t ?_ | with_reducible refine vIf_f ?_))
    refine vIf_dec (fun h => ?_) (fun h => ?_)
    · have h5 := bFloorS_ok (lo + hi) 2 (by omega) (by omega)
      have hmid : lo < (lo + hi) / 2 ∧ (lo + hi) / 2 < hi := by omega
      generalize (lo + hi) / 2 = mid at *
      have h6 := h3 mid (by omega)
      (repeat (first | simp (maxSteps := 2000000) (disch := omega) only [go_sem, ↓reduceIte] | with_reducible refine vIf_t ?_ | with_reducible refine vIf_f ?_))
      (refine vCallX_of ?_; (repeat (first | simp (maxSteps := 2000000) (disch := omega) only [go_sem, ↓reduceIte] | with_reducible refine vIf_t ?_ | with_reducible refine vIf_f ?_)); refine vCall_eq (h5) (by simp (disch := omega) only [go_sem]) rfl (by first | exact Or.inl rfl | exact Or.inr ⟨rfl, rfl⟩ | (apply Or.inr; simp only [go_sem])) ?_; (repeat (first | simp (maxSteps := 2000000) (disch := omega) only [go_sem, ↓reduceIte] | with_reducible refine vIf_t ?_ | with_reducible refine vIf_f ?_)))
      (refine vCallX_of ?_; (repeat (first | simp (maxSteps := 2000000) (disch := omega) only [go_sem, ↓reduceIte] | with_reducible refine vIf_t ?_ | with_reducible refine vIf_f ?_)); refine vCall_eq (h6) (by simp (disch := omega) only [go_sem]) rfl (by first | exact Or.inl rfl | exact Or.inr ⟨rfl, rfl⟩ | (apply Or.inr; simp only [go_sem])) ?_; (repeat (first | simp (maxSteps := 2000000) (disch := omega) only [go_sem, ↓reduceIte] | with_reducible refine vIf_t ?_ | with_reducible refine vIf_f ?_)))
      refine vIf_dec (fun h7 => ?_) (fun h7 => ?_)
      · (repeat (first | simp (maxSteps := 2000000) (disch := omega) only [go_sem, ↓reduceIte] | with_reducible refine vIf_t ?_ | with_reducible refine vIf_f ?_))
        refine againF (lo, mid) ⟨by simp only; omega, h7, hm⟩ (by simp only; omega) (by (first | (refine leF_s ?_; ((repeat (first | simp (maxSteps := 2000000) (disch := omega) only [go_sem, ↓reduceIte] | with_reducible refine vIf_t ?_ | with_reducible refine vIf_f ?_)); all_goals (try simp); all_goals (try omega)); done) | (refine leF_p ?_; ((repeat (first | simp (maxSteps := 2000000) (disch := omega) only [go_sem, ↓reduceIte] | with_reducible refine vIf_t ?_ | with_reducible refine vIf_f ?_)); all_goals (try simp); all_goals (try omega)); done)))
      · (repeat (first | simp (maxSteps := 2000000) (disch := omega) only [go_sem, ↓reduceIte] | with_reducible refine vIf_t ?_ | with_reducible refine vIf_f ?_))
        refine againF (mid, hi) ⟨by simp only; omega, hq, fun m a b => ?_⟩ (by simp only; omega) (by (first | (refine leF_s ?_; ((repeat (first | simp (maxSteps := 2000000) (disch := omega) only [go_sem, ↓reduceIte] | with_reducible refine vIf_t ?_ | with_reducible refine vIf_f ?_)); all_goals (try simp); all_goals (try omega)); done) | (refine leF_p ?_; ((repeat (first | simp (maxSteps := 2000000) (disch := omega) only [go_sem, ↓reduceIte] | with_reducible refine vIf_t ?_ | with_reducible refine vIf_f ?_)); all_goals (try simp); all_goals (try omega)); done)))
        have := llV_mono l b
        simp only at this
        omega
    · (repeat (first | simp (maxSteps := 2000000) (disch := omega) only [go_sem, ↓reduceIte] | with_reducible refine vIf_t ?_ | with_reducible refine vIf_f ?_))
      (refine retK_of ?_; (repeat (first | simp (maxSteps := 2000000) (disch := omega) only [go_sem, ↓reduceIte] | with_reducible refine vIf_t ?_ | with_reducible refine vIf_f ?_)))
      exact ⟨hi, 0, .inr (.inr (.inr ⟨hk, hv, by omega, hq, fun m a b => hm m a (by omega), rfl⟩)), rfl⟩
end Go.Proofs.YtfhckmlmfigfjaaGreatDoor
