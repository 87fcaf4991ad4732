/- subsets: every choice is a row, rows never get shorter; sums over rows -/
import Derived.Test.YtkflbpojkccchaaDoorZ2
set_option linter.unusedVariables false
set_option linter.unusedSimpArgs false
namespace Go.Proofs.YtkflbpojkccchaaDoor
open Go.AG

def selN (n : Nat) (f : Nat → Bool) : List Nat := (List.range n).filter f
theorem selN_succ (n : Nat) (f : Nat → Bool) : selN (n + 1) f = if f n = true then selN n f ++ [n] else selN n f := by
  unfold selN
  rw [List.range_succ, List.filter_append]
  cases h : f n <;> simp [h]
theorem mem_selN {n : Nat} {f : Nat → Bool} {i : Nat} : i ∈ selN n f ↔ i < n ∧ f i = true := by simp [selN]
theorem selN_len (n : Nat) (f : Nat → Bool) : (selN n f).length ≤ n := by
  have := List.length_filter_le f (List.range n)
  simpa [selN] using this
theorem selN_congr {n : Nat} {f g : Nat → Bool} (h : ∀ i, i < n → f i = g i) : selN n f = selN n g := List.filter_congr fun i hi => h i (by simpa using hi)
theorem nI_app (a b : List Nat) : nI (a ++ b) = nI a ++ nI b := by simp [nI]
theorem nI_length (t : List Nat) : (nI t).length = t.length := by simp [nI]
theorem mem_nIs {t : List Nat} {y : Int} : y ∈ nI t ↔ ∃ i ∈ t, y = (i : Int) := by
  simp only [nI, List.mem_map]
  constructor
  · rintro ⟨i, h, rfl⟩; exact ⟨i, h, rfl⟩
  · rintro ⟨i, h, rfl⟩; exact ⟨i, h, rfl⟩
theorem mem_nIsel {n : Nat} {f : Nat → Bool} {i : Nat} : (i : Int) ∈ nI (selN n f) ↔ i < n ∧ f i = true := by
  rw [mem_nIs]
  constructor
  · rintro ⟨j, hj, e⟩
    have : i = j := by omega
    subst this; exact mem_selN.1 hj
  · intro h; exact ⟨i, mem_selN.2 h, rfl⟩
theorem bitsN_ex (f : Nat → Bool) : ∀ n : Nat, ∃ m, m < 2 ^ n ∧ ∀ i, i < n → ((m >>> i) % 2 == 1) = f i
  | 0 => ⟨0, by simp, fun i hi => by omega⟩
  | n + 1 => by
    obtain ⟨m, h1, h2⟩ := bitsN_ex f n
    have hp : 2 ^ (n + 1) = 2 ^ n + 2 ^ n := by rw [Nat.pow_succ]; omega
    by_cases hf : f n = true
    · refine ⟨m + 2 ^ n, by omega, fun i hi => ?_⟩
      rw [Nat.shiftRight_eq_div_pow]
      by_cases e : i = n
      · subst e
        rw [Nat.add_div_right _ (Nat.two_pow_pos _), Nat.div_eq_of_lt h1, hf]; rfl
      · have h3 := h2 i (by omega)
        rw [Nat.shiftRight_eq_div_pow] at h3
        have e2 : 2 ^ n = 2 ^ i * (2 * 2 ^ (n - i - 1)) := by
          rw [← Nat.pow_succ', ← Nat.pow_add, show i + (n - i - 1 + 1) = n by omega]
        rw [e2, Nat.add_mul_div_left _ _ (Nat.two_pow_pos _), Nat.add_mul_mod_self_left]
        exact h3
    · refine ⟨m, by omega, fun i hi => ?_⟩
      by_cases e : i = n
      · subst e
        rw [Nat.shiftRight_eq_div_pow, Nat.div_eq_of_lt h1]
        cases hfi : f i with
        | true => exact absurd hfi hf
        | false => rfl
      · exact h2 i (by omega)
theorem selN_mem {n : Nat} (hn : n ≤ 8) (f : Nat → Bool) : selN n f ∈ subs n (2 ^ n) := by
  obtain ⟨m, h1, h2⟩ := bitsN_ex f n
  have hp := (subs_ok n hn).2.2
  refine hp.mem_iff.2 (List.mem_map.2 ⟨m, by simpa using h1, ?_⟩)
  exact List.filter_congr fun i hi => h2 i (by simpa using hi)
theorem rowN_sel {n : Nat} (hn : n ≤ 8) {t : List Nat} (h : t ∈ subs n (2 ^ n)) : ∃ f, t = selN n f := by
  have hp := (subs_ok n hn).2.2
  obtain ⟨m, hm, e⟩ := List.mem_map.1 (hp.mem_iff.1 h)
  exact ⟨_, e.symm⟩
def upL : List (List Nat) → Bool
  | a :: b :: r => Nat.ble a.length b.length && upL (b :: r)
  | _ => true
theorem subs_up_all : ((List.range 9).all fun n => upL (subs n (2 ^ n)) && (match subs n (2 ^ n) with | [] :: _ => true | _ => false)) = true := by kernel_rfl
theorem upL_le : ∀ (L : List (List Nat)), upL L = true → ∀ i j, i ≤ j → j < L.length → (L.getD i []).length ≤ (L.getD j []).length
  | [], _, i, j, _, h => absurd h (by simp)
  | [a], _, i, j, h1, h2 => by
    have : j = 0 := by simpa using h2
    have : i = 0 := by omega
    subst_vars; exact Nat.le_refl _
  | a :: b :: r, h, i, j, h1, h2 => by
    simp only [upL, Bool.and_eq_true, Nat.ble_eq] at h
    have ih := upL_le (b :: r) h.2
    cases i with
    | zero =>
      cases j with
      | zero => exact Nat.le_refl _
      | succ j =>
        have := ih 0 j (by omega) (by simpa using h2)
        simp only [List.getD_cons_zero, List.getD_cons_succ] at this ⊢
        omega
    | succ i =>
      cases j with
      | zero => omega
      | succ j =>
        have := ih i j (by omega) (by simpa using h2)
        simpa using this
/-- the rows, as lists of numbers -/
def rowsN (n : Nat) : List (List Int) := sI (subs n (2 ^ n))
theorem rowsN_len {n : Nat} (hn : n ≤ 8) : (rowsN n).length = 2 ^ n := by simp [rowsN, sI, (subs_ok n hn).2.1]
theorem rowsN_gr {n : Nat} (k : Nat) (h : k < (rowsN n).length) : gr (rowsN n) k = nI ((subs n (2 ^ n)).getD k []) := by
  have h : k < (subs n (2 ^ n)).length := by simpa [rowsN, sI] using h
  simp [gr, rowsN, sI, h]
theorem rowsN_row {n : Nat} (hn : n ≤ 8) (k : Nat) (h : k < (rowsN n).length) : ∃ f, gr (rowsN n) k = nI (selN n f) := by
  rw [rowsN_gr k h]
  have h : k < (subs n (2 ^ n)).length := by simpa [rowsN, sI] using h
  obtain ⟨f, hf⟩ := rowN_sel hn (t := (subs n (2 ^ n)).getD k []) (by simp [h])
  exact ⟨f, by rw [hf]⟩
theorem rowsN_has {n : Nat} (hn : n ≤ 8) (f : Nat → Bool) : ∃ k, k < (rowsN n).length ∧ gr (rowsN n) k = nI (selN n f) := by
  obtain ⟨k, hk, e⟩ := List.mem_iff_getElem.1 (selN_mem hn f)
  have hk2 : k < (rowsN n).length := by simpa [rowsN, sI] using hk
  refine ⟨k, hk2, ?_⟩
  rw [rowsN_gr k hk2, ← e]
  simp [hk]
theorem rowsN_up {n : Nat} (hn : n ≤ 8) (i j : Nat) (h : i ≤ j) (hj : j < (rowsN n).length) : (gr (rowsN n) i).length ≤ (gr (rowsN n) j).length := by
  rw [rowsN_gr i (by omega), rowsN_gr j hj, nI_length, nI_length]
  have h1 := List.all_eq_true.1 subs_up_all n (List.mem_range.2 (by omega))
  rw [Bool.and_eq_true] at h1
  exact upL_le _ h1.1 i j h (by simpa [rowsN, sI] using hj)
theorem rowsN_0 {n : Nat} (hn : n ≤ 8) : gr (rowsN n) 0 = [] := by
  have hp : 0 < 2 ^ n := Nat.two_pow_pos _
  rw [rowsN_gr 0 (by rw [rowsN_len hn]; exact hp)]
  have h1 := List.all_eq_true.1 subs_up_all n (List.mem_range.2 (by omega))
  rw [Bool.and_eq_true] at h1
  revert h1
  cases subs n (2 ^ n) with
  | nil => intro h; simp at h
  | cons a r =>
    cases a with
    | nil => intro _; rfl
    | cons _ _ => intro h; simp at h
/-- a sum over a row -/
def sq (h : Nat → Int) : List Int → Int
  | [] => 0
  | y :: r => h y.toNat + sq h r
theorem sq_app (h : Nat → Int) : ∀ a b : List Int, sq h (a ++ b) = sq h a + sq h b
  | [], b => by simp [sq]
  | y :: r, b => by simp only [List.cons_append, sq, sq_app h r b]; omega
theorem sq_take (h : Nat → Int) (q : List Int) (k : Nat) (hk : k < q.length) : sq h (q.take (k + 1)) = sq h (q.take k) + h (gi q k).toNat := by
  rw [List.take_succ_eq_append_getElem hk, sq_app, gi_lt _ _ hk]
  simp only [sq]; omega
/-- the same sum, place by place -/
def sp (h : Nat → Int) (f : Nat → Bool) : Nat → Int
  | 0 => 0
  | i + 1 => if f i = true then sp h f i + h i else sp h f i
theorem sq_sel (h : Nat → Int) (f : Nat → Bool) : ∀ n, sq h (nI (selN n f)) = sp h f n
  | 0 => by simp [selN, nI, sq, sp]
  | n + 1 => by
    rw [selN_succ, sp]
    split
    · rw [nI_app, sq_app, sq_sel h f n]
      simp only [nI, List.map_cons, List.map_nil, sq, Int.toNat_natCast]
      omega
    · exact sq_sel h f n
theorem sp_bd (h : Nat → Int) (f : Nat → Bool) (M : Int) (h0 : 0 ≤ M) : ∀ n, (∀ i, i < n → 0 ≤ h i ∧ h i ≤ M) → 0 ≤ sp h f n ∧ sp h f n ≤ M * n
  | 0, _ => by simp [sp]
  | n + 1, hh => by
    have ih := sp_bd h f M h0 n (fun i hi => hh i (by omega))
    have := hh n (by omega)
    simp only [sp]
    rw [show ((n + 1 : Nat) : Int) = (n : Int) + 1 by omega, Int.mul_add, Int.mul_one]
    split <;> omega
theorem sq_bd (h : Nat → Int) (M : Int) (h0 : 0 ≤ M) : ∀ q : List Int, (∀ y ∈ q, 0 ≤ h y.toNat ∧ h y.toNat ≤ M) → 0 ≤ sq h q ∧ sq h q ≤ M * q.length
  | [], _ => by simp [sq]
  | y :: r, hh => by
    have ih := sq_bd h M h0 r (fun z hz => hh z (List.mem_cons_of_mem _ hz))
    have := hh y (List.mem_cons_self ..)
    simp only [sq, List.length_cons]
    rw [show ((r.length + 1 : Nat) : Int) = (r.length : Int) + 1 by omega, Int.mul_add, Int.mul_one]
    omega
/-- the first best one of the first k rows: of those that may be taken and cost no more than that -/
def bsK (cl : List Int → Bool) (c w : Nat → Int) (m : Int) (L : List (List Int)) : Nat → List Int × Int
  | 0 => ([], -1)
  | k + 1 => if sq c (gr L k) ≤ m ∧ (bsK cl c w m L k).2 < sq w (gr L k) ∧ cl (gr L k) = true then (gr L k, sq w (gr L k)) else bsK cl c w m L k
theorem bsK_ok (cl : List Int → Bool) (c w : Nat → Int) (m : Int) (L : List (List Int)) (hw : ∀ k, k < L.length → 0 ≤ sq w (gr L k)) : ∀ k, k ≤ L.length →
    (bsK cl c w m L k = ([], -1) ∧ ∀ j, j < k → ¬ (sq c (gr L j) ≤ m ∧ cl (gr L j) = true)) ∨
    (∃ i, i < k ∧ (bsK cl c w m L k).1 = gr L i ∧ (bsK cl c w m L k).2 = sq w (gr L i) ∧ sq c (gr L i) ≤ m ∧ cl (gr L i) = true ∧
      ∀ j, j < k → sq c (gr L j) ≤ m → cl (gr L j) = true → sq w (gr L j) ≤ sq w (gr L i) ∧ (sq w (gr L j) = sq w (gr L i) → i ≤ j))
  | 0, _ => .inl ⟨rfl, fun j hj => by omega⟩
  | k + 1, hk => by
    have ih := bsK_ok cl c w m L hw k (by omega)
    have h0 := hw k (by omega)
    simp only [bsK]
    split
    · rename_i h
      obtain ⟨h1, h2, h3⟩ := h
      refine .inr ⟨k, by omega, rfl, rfl, h1, h3, fun j hj hc hl => ?_⟩
      by_cases e : j = k
      · subst e; exact ⟨Int.le_refl _, fun _ => Nat.le_refl _⟩
      · rcases ih with ⟨g1, g2⟩ | ⟨i, g1, g2, g3, g4, g5, g6⟩
        · exact absurd ⟨hc, hl⟩ (g2 j (by omega))
        · have := (g6 j (by omega) hc hl).1
          exact ⟨by omega, fun e => by omega⟩
    · rename_i h
      rcases ih with ⟨g1, g2⟩ | ⟨i, g1, g2, g3, g4, g5, g6⟩
      · refine .inl ⟨g1, fun j hj hh => ?_⟩
        by_cases e : j = k
        · subst e
          rw [g1] at h
          exact h ⟨hh.1, by simp only; omega, hh.2⟩
        · exact g2 j (by omega) hh
      · refine .inr ⟨i, by omega, g2, g3, g4, g5, fun j hj hc hl => ?_⟩
        by_cases e : j = k
        · subst e
          have : ¬ (bsK cl c w m L j).2 < sq w (gr L j) := fun hlt => h ⟨hc, hlt, hl⟩
          exact ⟨by omega, fun _ => by omega⟩
        · exact g6 j (by omega) hc hl
theorem bsK_nonneg (cl : List Int → Bool) (c w : Nat → Int) (m : Int) (L : List (List Int)) (hw : ∀ k, k < L.length → 0 ≤ sq w (gr L k)) (k : Nat) (hk : k ≤ L.length) : -1 ≤ (bsK cl c w m L k).2 := by
  rcases bsK_ok cl c w m L hw k hk with ⟨h1, _⟩ | ⟨i, h1, h2, h3, _⟩
  · rw [h1]; exact Int.le_refl _
  · have := hw i (by omega); omega
/-- the best choice -/
theorem best_ex {n : Nat} (hn : n ≤ 8) (cl : List Int → Bool) (c w : Nat → Int) (m : Int) (hm : 0 ≤ m) (hcl : cl [] = true) (hw : ∀ i, i < n → 0 ≤ w i) :
    ∃ f, (bsK cl c w m (rowsN n) (2 ^ n)).1 = nI (selN n f) ∧ (bsK cl c w m (rowsN n) (2 ^ n)).2 = sp w f n ∧ sp c f n ≤ m ∧ cl (nI (selN n f)) = true ∧
      ∀ g, sp c g n ≤ m → cl (nI (selN n g)) = true → sp w g n ≤ sp w f n ∧ (sp w g n = sp w f n → (nI (selN n f)).length ≤ (nI (selN n g)).length) := by
  have hl := rowsN_len hn
  have hp : 0 < 2 ^ n := Nat.two_pow_pos _
  have hw2 : ∀ k, k < (rowsN n).length → 0 ≤ sq w (gr (rowsN n) k) := fun k hk => by
    obtain ⟨f, e⟩ := rowsN_row hn k hk
    rw [e, sq_sel]
    clear e hk
    have : ∀ j, j ≤ n → 0 ≤ sp w f j := by
      intro j
      induction j with
      | zero => intro _; simp [sp]
      | succ j ih =>
        intro hj
        have := ih (by omega)
        have := hw j (by omega)
        simp only [sp]; split <;> omega
    exact this n (Nat.le_refl _)
  rcases bsK_ok cl c w m (rowsN n) hw2 (2 ^ n) (by omega) with ⟨h1, h2⟩ | ⟨i, h1, h2, h3, h4, h5, h6⟩
  · exact absurd ⟨by rw [rowsN_0 hn]; simpa [sq] using hm, by rw [rowsN_0 hn]; exact hcl⟩ (h2 0 hp)
  · obtain ⟨f, e⟩ := rowsN_row hn i (by omega)
    have ul := rowsN_up hn i
    rw [e] at h2 h3 h4 h5 h6 ul
    rw [sq_sel] at h3 h4
    refine ⟨f, h2, h3, h4, h5, fun g hc hl => ?_⟩
    obtain ⟨j, hj, ej⟩ := rowsN_has hn g
    have := h6 j (by omega) (by rw [ej, sq_sel]; exact hc) (by rw [ej]; exact hl)
    rw [ej, sq_sel, sq_sel] at this
    refine ⟨this.1, fun e2 => ?_⟩
    have := ul j (this.2 e2) hj
    rwa [ej] at this
end Go.Proofs.YtkflbpojkccchaaDoor
