/- pools of a land: plain law -/
import Derived.Test.YthgjcanhemohfaaFlood4
import Derived.Test.YthgjcanhemohfaaUsd
import Derived.Test.YthgjcanhemohfaaIxs
set_option linter.unusedVariables false
set_option linter.unusedSimpArgs false
namespace Go.Proofs.Ythgjcanhemohfaa
open Go.AG

theorem gb_usd (n : Nat) (L : List Int) (x : Int) (h : 0 ≤ x ∧ x < n) : gb (usd n L) x.toNat = decide (x ∈ L) := by
  rw [usd_get n L x.toNat (by omega), show ((x.toNat : Nat) : Int) = x by omega]
theorem usd_ext (n : Nat) (A B : List Int) (h : ∀ x : Int, 0 ≤ x → x < n → (x ∈ A ↔ x ∈ B)) : usd n A = usd n B := by
  unfold usd
  apply List.map_congr_left
  intro i hi
  rw [List.mem_range] at hi
  have := h i (by omega) (by omega)
  simp only [this]
theorem cF_usd (n : Nat) (A : List Int) (hA : ∀ x ∈ A, 0 ≤ x ∧ x < (n : Int)) (hn : A.Nodup) : cF (usd n A) + A.length = n := by
  have key : ∀ (m : Nat) (A : List Int), A.length = m → (∀ x ∈ A, 0 ≤ x ∧ x < (n : Int)) → A.Nodup → cF (usd n A) + A.length = n := by
    intro m
    induction m with
    | zero =>
      intro A hl _ _
      have e : A = [] := List.eq_nil_of_length_eq_zero hl
      subst e
      rw [usd_nil]
      simp [cF]
    | succ m ih =>
      intro A hl hA hn
      have hne : A ≠ [] := by intro e; subst e; simp at hl
      obtain ⟨B, x, rfl⟩ : ∃ B x, A = B ++ [x] := ⟨A.dropLast, A.getLast hne, (List.dropLast_concat_getLast hne).symm⟩
      have hx := hA x (by simp)
      have hlB : B.length = m := by simpa using hl
      rw [List.nodup_append] at hn
      have h1 := ih B hlB (fun y hy => hA y (by simp [hy])) hn.1
      have hxB : ¬ x ∈ B := fun e => hn.2.2 x e x (by simp) rfl
      have h2 := cF_set (usd n B) x.toNat (by rw [usd_len]; omega) (by rw [gb_usd n B x hx]; exact decide_eq_false hxB)
      rw [usd_set n B x hx] at h2
      simp only [List.length_append, List.length_singleton]
      omega
  exact key _ A rfl hA hn
theorem usd_same (n : Nat) (A B : List Int) (hA : ∀ x ∈ A, 0 ≤ x ∧ x < (n : Int)) (hB : ∀ x ∈ B, 0 ≤ x ∧ x < (n : Int)) (nA : A.Nodup) (nB : B.Nodup) (h : ∀ x : Int, x ∈ A ↔ x ∈ B) : A.length = B.length := by
  have h1 := cF_usd n A hA nA
  have h2 := cF_usd n B hB nB
  rw [usd_ext n A B (fun x _ _ => h x)] at h1
  omega
theorem nodup_snoc {A : List Int} {x : Int} (h : A.Nodup) (hx : ¬ x ∈ A) : (A ++ [x]).Nodup := by
  rw [List.nodup_append]
  refine ⟨h, by simp, fun a ha b hb e => hx ?_⟩
  rw [List.mem_singleton] at hb
  rw [← hb, ← e]; exact ha
theorem ixs_mem (n : Nat) (q : Nat → Bool) (x : Int) : x ∈ ixs n q ↔ ∃ i : Nat, i < n ∧ q i = true ∧ x = i := by
  simp only [ixs, List.mem_map, List.mem_filter, List.mem_range]
  constructor
  · rintro ⟨i, ⟨h1, h2⟩, rfl⟩; exact ⟨i, h1, h2, rfl⟩
  · rintro ⟨i, h1, h2, rfl⟩; exact ⟨i, ⟨h1, h2⟩, rfl⟩
theorem ixs_nodup (n : Nat) (q : Nat → Bool) : (ixs n q).Nodup := by
  induction n with
  | zero => simp [ixs]
  | succ n ih =>
    cases h : q n with
    | true =>
      rw [ixs_yes h]
      refine nodup_snoc ih fun e => ?_
      obtain ⟨i, h1, _, h3⟩ := (ixs_mem n q n).1 e
      omega
    | false => rw [ixs_no h]; exact ih
/-- marks are those of what was seen before and of the list -/
structure BfU (l : Ld) (lv : Int) (A : List Int) (a : Bf) : Prop where
  u : a.1 = usd l.hs.length (A ++ a.2)
  nd : (A ++ a.2).Nodup
  inn : ∀ x ∈ a.2, inC l x ∧ gi l.hs x.toNat < lv
theorem bfS_U {l : Ld} {lv : Int} {A : List Int} {a : Bf} (h : BfU l lv A a) (x : Int) (hx : inC l x) : BfU l lv A (bfS l lv a x) := by
  have hxb : 0 ≤ x ∧ x ≤ (l.hs.length : Int) - 1 := hx
  unfold bfS
  split
  · rename_i g
    have g1 := g.1
    rw [h.u, gb_usd _ _ _ (by omega)] at g1
    have g1 := of_decide_eq_false g1
    refine ⟨?_, ?_, fun y hy => ?_⟩
    · simp only
      rw [h.u, usd_set _ _ _ (by omega), List.append_assoc]
    · simp only
      rw [← List.append_assoc]
      exact nodup_snoc h.nd g1
    · simp only [List.mem_append, List.mem_singleton] at hy
      rcases hy with hy | rfl
      · exact h.inn y hy
      · exact ⟨hx, g.2⟩
  · exact h
theorem bfR_U {l : Ld} {lv : Int} {A : List Int} (xs : List Int) : ∀ {a : Bf}, BfU l lv A a → (∀ x ∈ xs, inC l x) → BfU l lv A (bfR l lv a xs) := by
  induction xs with
  | nil => intro a h _; exact h
  | cons x xs ih => intro a h hx; exact ih (bfS_U h x (hx x (by simp))) (fun y hy => hx y (by simp [hy]))
theorem bfK_U {l : Ld} {lv : Int} {A : List Int} {c : Int} (hok : okL l = true) (hc : inC l c) (hlow : gi l.hs c.toNat < lv) (hn : A.Nodup) (hcA : ¬ c ∈ A) : ∀ i, BfU l lv A (bfK l lv (usd l.hs.length A) c i)
  | 0 => by
    have hcb : 0 ≤ c ∧ c ≤ (l.hs.length : Int) - 1 := hc
    refine ⟨?_, nodup_snoc hn hcA, fun x hx => ?_⟩
    · simp only [bfK]
      rw [usd_set _ _ _ (by omega)]
    · simp only [bfK, List.mem_singleton] at hx
      subst hx; exact ⟨hc, hlow⟩
  | i + 1 => by
    have ih := bfK_U hok hc hlow hn hcA i
    unfold bfK
    split
    · rename_i g
      exact bfR_U _ ih (near_in l hok _ (ih.inn _ (gi_mem _ _ g)).1)
    · exact ih
theorem bfE_U {l : Ld} {lv : Int} {A : List Int} {c : Int} (hok : okL l = true) (hc : inC l c) (hlow : gi l.hs c.toNat < lv) (hn : A.Nodup) (hcA : ¬ c ∈ A) : BfU l lv A (bfE l lv (usd l.hs.length A) c) := bfK_U hok hc hlow hn hcA _
theorem bfK_hd (l : Ld) (lv : Int) (s : List Bool) (c : Int) : ∀ i, c ∈ (bfK l lv s c i).2
  | 0 => by simp [bfK]
  | i + 1 => by
    have ih := bfK_hd l lv s c i
    unfold bfK
    split
    · obtain ⟨t, ht⟩ := bfR_pre l lv (near l (gi (bfK l lv s c i).2 i)) (bfK l lv s c i)
      rw [ht]; exact List.mem_append.2 (.inl ih)
    · exact ih
/-! pools -/
abbrev Pl2 := List Int × List Int
def plS (l : Ld) (lv : Int) (a : Pl2) (x : Int) : Pl2 := if x ∈ a.1 then a else (a.1 ++ (bfE l lv (usd l.hs.length a.1) x).2, a.2 ++ [((bfE l lv (usd l.hs.length a.1) x).2.length : Int)])
def plF (l : Ld) (lv : Int) (xs : List Int) : Pl2 := xs.foldl (plS l lv) ([], [])
theorem plF_snoc (l : Ld) (lv : Int) (xs : List Int) (x : Int) : plF l lv (xs ++ [x]) = plS l lv (plF l lv xs) x := by simp [plF]
theorem plF_succ (l : Ld) (lv : Int) (xs : List Int) (k : Nat) (h : k < xs.length) : plF l lv (xs.take (k + 1)) = plS l lv (plF l lv (xs.take k)) (gi xs k) := by rw [take_succ_gi xs k h, plF_snoc]
structure PlOk (l : Ld) (lv : Int) (a : Pl2) : Prop where
  nd : a.1.Nodup
  inn : ∀ x ∈ a.1, inC l x ∧ gi l.hs x.toNat < lv
  sm : sumI a.2 = a.1.length
  bd : ∀ y ∈ a.2, 0 ≤ y ∧ y ≤ (l.hs.length : Int) + 1
  ln : a.2.length ≤ a.1.length
theorem PlOk.le {l : Ld} {lv : Int} {a : Pl2} (h : PlOk l lv a) : a.1.length ≤ l.hs.length := by
  have := cF_usd l.hs.length a.1 (fun x hx => by have : 0 ≤ x ∧ x ≤ (l.hs.length : Int) - 1 := (h.inn x hx).1; omega) h.nd
  omega
def lowC (l : Ld) (lv : Int) (x : Int) : Prop := inC l x ∧ gi l.hs x.toNat < lv
theorem plS_ok {l : Ld} {lv : Int} {a : Pl2} (hok : okL l = true) (h : PlOk l lv a) (x : Int) (hx : lowC l lv x) : PlOk l lv (plS l lv a x) ∧ x ∈ (plS l lv a x).1 ∧ ∀ y ∈ a.1, y ∈ (plS l lv a x).1 := by
  unfold plS
  split
  · exact ⟨h, by assumption, fun y hy => hy⟩
  · rename_i g
    have U := bfE_U hok hx.1 hx.2 h.nd g
    have hl := (bfK_len (lv := lv) hok hx.1 (usd_len l.hs.length a.1) (l.hs.length + 1)).1
    have hhd : x ∈ (bfE l lv (usd l.hs.length a.1) x).2 := bfK_hd l lv _ x _
    have hpos : 1 ≤ (bfE l lv (usd l.hs.length a.1) x).2.length := List.length_pos_of_mem hhd
    refine ⟨⟨U.nd, fun y hy => ?_, ?_, fun y hy => ?_, ?_⟩, ?_, fun y hy => ?_⟩
    · rcases List.mem_append.1 hy with hy | hy
      · exact h.inn y hy
      · exact U.inn y hy
    · simp only [sumI_append, sumI_cons, sumI_nil, h.sm, List.length_append]
      push_cast; omega
    · rcases List.mem_append.1 hy with hy | hy
      · exact h.bd y hy
      · rw [List.mem_singleton] at hy
        unfold bfE at hy
        omega
    · have := h.ln
      simp only [List.length_append, List.length_singleton]
      omega
    · exact List.mem_append.2 (.inr hhd)
    · exact List.mem_append.2 (.inl hy)
theorem plF_ok {l : Ld} {lv : Int} (hok : okL l = true) (xs : List Int) : (∀ x ∈ xs, lowC l lv x) → PlOk l lv (plF l lv xs) ∧ ∀ x ∈ xs, x ∈ (plF l lv xs).1 := by
  have key : ∀ (xs : List Int) (a : Pl2), PlOk l lv a → (∀ x ∈ xs, lowC l lv x) → PlOk l lv (xs.foldl (plS l lv) a) ∧ (∀ x ∈ xs, x ∈ (xs.foldl (plS l lv) a).1) ∧ ∀ y ∈ a.1, y ∈ (xs.foldl (plS l lv) a).1 := by
    intro xs
    induction xs with
    | nil => intro a h _; exact ⟨h, by simp, fun y hy => hy⟩
    | cons x xs ih =>
      intro a h hx
      obtain ⟨h1, h2, h3⟩ := plS_ok hok h x (hx x (by simp))
      obtain ⟨g1, g2, g3⟩ := ih (plS l lv a x) h1 (fun y hy => hx y (by simp [hy]))
      refine ⟨g1, fun y hy => ?_, fun y hy => g3 y (h3 y hy)⟩
      rcases List.mem_cons.1 hy with rfl | hy
      · exact g3 _ h2
      · exact g2 y hy
  intro hx
  obtain ⟨h1, h2, _⟩ := key xs ([], []) ⟨by simp, by simp, by simp [sumI_nil], by simp, by simp⟩ hx
  exact ⟨h1, h2⟩
/-- the cells below a level -/
def blw (l : Ld) (lv : Int) (n : Nat) : List Int := ixs n fun i => decide (gi l.hs i < lv)
theorem blw_mem (l : Ld) (lv : Int) (n : Nat) (x : Int) : x ∈ blw l lv n ↔ (0 ≤ x ∧ x < n) ∧ gi l.hs x.toNat < lv := by
  unfold blw
  rw [ixs_mem]
  constructor
  · rintro ⟨i, h1, h2, rfl⟩
    refine ⟨by omega, ?_⟩
    rw [Int.toNat_natCast]; exact of_decide_eq_true h2
  · rintro ⟨⟨h1, h2⟩, h3⟩
    exact ⟨x.toNat, by omega, decide_eq_true h3, by omega⟩
theorem blw_low {l : Ld} {lv : Int} {n : Nat} (hn : n ≤ l.hs.length) : ∀ x ∈ blw l lv n, lowC l lv x := by
  intro x hx
  obtain ⟨h1, h2⟩ := (blw_mem l lv n x).1 hx
  exact ⟨by unfold inC; omega, h2⟩
theorem blw_len (l : Ld) (lv : Int) (n : Nat) : (blw l lv n).length ≤ n := ixs_len _ _
theorem blw_yes {l : Ld} {lv : Int} {n : Nat} (h : gi l.hs n < lv) : blw l lv (n + 1) = blw l lv n ++ [(n : Int)] := ixs_yes (q := fun i => decide (gi l.hs i < lv)) (decide_eq_true h)
theorem blw_no {l : Ld} {lv : Int} {n : Nat} (h : ¬ gi l.hs n < lv) : blw l lv (n + 1) = blw l lv n := ixs_no (q := fun i => decide (gi l.hs i < lv)) (decide_eq_false h)
/-- the sizes of all pools have the number of cells below the level as their sum -/
theorem pools_sum {l : Ld} {lv : Int} (hok : okL l = true) : sumI (plF l lv (blw l lv l.hs.length)).2 = (blw l lv l.hs.length).length := by
  obtain ⟨h1, h2⟩ := plF_ok (lv := lv) hok (blw l lv l.hs.length) (blw_low (Nat.le_refl _))
  rw [h1.sm]
  have := usd_same l.hs.length (plF l lv (blw l lv l.hs.length)).1 (blw l lv l.hs.length)
    (fun x hx => by have : 0 ≤ x ∧ x ≤ (l.hs.length : Int) - 1 := (h1.inn x hx).1; omega)
    (fun x hx => ((blw_mem _ _ _ _).1 hx).1) h1.nd (ixs_nodup _ _)
    (fun x => ⟨fun hx => by
      obtain ⟨g1, g2⟩ := h1.inn x hx
      have : 0 ≤ x ∧ x ≤ (l.hs.length : Int) - 1 := g1
      exact (blw_mem _ _ _ _).2 ⟨by omega, g2⟩, h2 x⟩)
  omega
theorem pools_wsum {l : Ld} {lv : Int} (hok : okL l = true) (hl : l.hs.length ≤ 144) : wsum (plF l lv (blw l lv l.hs.length)).2 = (blw l lv l.hs.length).length := by
  obtain ⟨h1, h2⟩ := plF_ok (lv := lv) hok (blw l lv l.hs.length) (blw_low (Nat.le_refl _))
  have g1 := h1.ln
  have g2 := h1.le
  rw [(wsum_eq _ 145 (by omega) (fun x hx => by have := h1.bd x hx; omega) (by omega)).1, pools_sum hok]
end Go.Proofs.Ythgjcanhemohfaa
