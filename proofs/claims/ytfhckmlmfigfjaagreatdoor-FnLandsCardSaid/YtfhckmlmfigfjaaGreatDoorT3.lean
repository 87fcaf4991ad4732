/- slices of texts; the numbers in a text -/
import Derived.Test.YtfhckmlmfigfjaaGreatDoorT2
set_option linter.unusedVariables false
set_option linter.unusedSimpArgs false
namespace Go.Proofs.YtfhckmlmfigfjaaGreatDoor
open Go.AG Go.Lib

/-- a number that a text may hold -/
def nOk (n : Int) : Prop := -999999999999999999 ≤ n ∧ n ≤ 999999999999999999
theorem numbersIn_ok (l : List UInt8) (ns : List Int) (ha : ∀ b ∈ l, b.toNat < 128) (hl : l.length ≤ 1000000) (hf : flG pn l none = ns.map itoa) (hn : ∀ n ∈ ns, nOk n) (hc : ns.length ≤ 1000000) :
    ACalls Tryz.prog 117 [St (tx l)] [] (fun r o => r = .ref 0 0 ns.length ∧ o = [oI ns]) := by
  refine ACalls.of_vc Tryz.func117 rfl (by decide) 30 rfl [.tmp 2] rfl (by simp) ?_
  have hff := fields_ok l ha hl
  rw [hf, List.length_map, List.map_map] at hff
  have hfl : (ns.map ((fun d => St (tx d)) ∘ itoa)) = strs (ns.map decS) := by simp [strs, decS, Function.comp_def]
  rw [hfl] at hff
  have hln : (ns.map decS).length = ns.length := by simp
  (repeat (first | simp (maxSteps := 2000000) (disch := omega) only [go_sem, ↓reduceIte] | with_reducible refine vIf_t ?_ | with_reducible refine vIf_f ?_))
  (refine vCallX_of ?_; (repeat (first | simp (maxSteps := 2000000) (disch := omega) only [go_sem, ↓reduceIte] | with_reducible refine vIf_t ?_ | with_reducible refine vIf_f ?_)); refine vCall_eq (hff) (by simp (disch := omega) only [go_sem]) rfl (by first | exact Or.inl rfl | exact Or.inr ⟨rfl, rfl⟩ | (apply Or.inr; simp only [go_sem])) ?_; (repeat (first | simp (maxSteps := 2000000) (disch := omega) only [go_sem, ↓reduceIte] | with_reducible refine vIf_t ?_ | with_reducible refine vIf_f ?_)))
  refine vcLoop_invF (fun k : Nat => k ≤ ns.length) (fun k => ⟨30, 0, [(12, I k), (3, .ref 0 0 k), (10, .sl ns.length (strs (ns.map decS))), (11, I ns.length)], [oI (ns.take k)]⟩) (fun k => ns.length - k) 0 (by omega) (by simp only [List.take_zero]; (first | (refine leF_s ?_; ((repeat (first | simp (maxSteps := 2000000) (disch := omega) only [go_sem, ↓reduceIte] | with_reducible refine vIf_t ?_ | with_reducible refine vIf_f ?_)); all_goals (try simp); all_goals (try omega)); done) | (refine leF_p ?_; ((repeat (first | simp (maxSteps := 2000000) (disch := omega) only [go_sem, ↓reduceIte] | with_reducible refine vIf_t ?_ | with_reducible refine vIf_f ?_)); all_goals (try simp); all_goals (try omega)); done))) ?_
  intro k hk
  have hlt : (ns.take k).length = k := by simp; omega
  (repeat (first | simp (maxSteps := 2000000) (disch := omega) only [go_sem, ↓reduceIte] | with_reducible refine vIf_t ?_ | with_reducible refine vIf_f ?_))
  refine vIf_dec (fun h => ?_) (fun h => ?_)
  · have hkl : k < ns.length := by omega
    have hg : gs (ns.map decS) k = decS (gi ns k) := by simp [gs, gi, hkl]
    have hm := hn (gi ns k) (gi_mem ns k hkl)
    unfold nOk at hm
    have hr := readDec_ok (gi ns k) (by omega) (dec18 _ hm)
    have et := take_succ_gi ns k hkl
    (repeat (first | simp (maxSteps := 2000000) (disch := omega) only [go_sem, ↓reduceIte, hg] | with_reducible refine vIf_t ?_ | with_reducible refine vIf_f ?_))
    (refine vCallX_of ?_; (repeat (first | simp (maxSteps := 2000000) (disch := omega) only [go_sem, ↓reduceIte] | with_reducible refine vIf_t ?_ | with_reducible refine vIf_f ?_)); refine vCall_eq (hr) (by simp (disch := omega) only [go_sem]) rfl (by first | exact Or.inl rfl | exact Or.inr ⟨rfl, rfl⟩ | (apply Or.inr; simp only [go_sem])) ?_; (repeat (first | simp (maxSteps := 2000000) (disch := omega) only [go_sem, ↓reduceIte] | with_reducible refine vIf_t ?_ | with_reducible refine vIf_f ?_)))
    refine againF (k + 1) (by omega) (by omega) ?_
    rw [et]
    (first | (refine leF_s ?_; ((repeat (first | simp (maxSteps := 2000000) (disch := omega) only [go_sem, ↓reduceIte] | with_reducible refine vIf_t ?_ | with_reducible refine vIf_f ?_)); all_goals (try simp); all_goals (try omega)); done) | (refine leF_p ?_; ((repeat (first | simp (maxSteps := 2000000) (disch := omega) only [go_sem, ↓reduceIte] | with_reducible refine vIf_t ?_ | with_reducible refine vIf_f ?_)); all_goals (try simp); all_goals (try omega)); done))
  · (repeat (first | simp (maxSteps := 2000000) (disch := omega) only [go_sem, ↓reduceIte] | with_reducible refine vIf_t ?_ | with_reducible refine vIf_f ?_))
    (refine retK_of ?_; (repeat (first | simp (maxSteps := 2000000) (disch := omega) only [go_sem, ↓reduceIte] | with_reducible refine vIf_t ?_ | with_reducible refine vIf_f ?_)))
    rw [show k = ns.length by omega, List.take_length]
    exact ⟨rfl, rfl⟩

/-- a text is a list of letters and numbers -/
def txN (ps : List (List UInt8 × Int)) (e : List UInt8) : List UInt8 := ps.flatMap (fun p => p.1 ++ itoa p.2) ++ e
/-- letters between two numbers -/
def sepL (l : List UInt8) : Bool := l.all fun c => pn c.toNat
theorem flG_txN : ∀ (ps : List (List UInt8 × Int)) (e : List UInt8), (ps.all fun p => sepL p.1) = true → ((ps.drop 1).all fun p => !p.1.isEmpty) = true → sepL e = true → flG pn (txN ps e) none = (ps.map (·.2)).map itoa
  | [], e, _, _, h => by
    have := flG_sep pn e [] (by simpa [sepL] using h)
    simpa [txN, flG] using this
  | p :: r, e, h1, h2, h3 => by
    simp only [List.all_cons, Bool.and_eq_true] at h1
    simp only [List.drop_succ_cons, List.drop_zero] at h2
    have hr : ((r.drop 1).all fun p => !p.1.isEmpty) = true := by
      rw [List.all_eq_true] at h2 ⊢
      exact fun x hx => h2 x (List.mem_of_mem_drop hx)
    have e1 : txN (p :: r) e = p.1 ++ (itoa p.2 ++ txN r e) := by simp [txN]
    have hs : txN r e = [] ∨ ∃ y t, txN r e = y :: t ∧ pn y.toNat = true := by
      cases r with
      | nil =>
        cases e with
        | nil => exact .inl rfl
        | cons y t => exact .inr ⟨y, t, rfl, by simp [sepL] at h3; exact h3.1⟩
      | cons q r =>
        simp only [List.all_cons, Bool.and_eq_true] at h2
        right
        cases hq : q.1 with
        | nil => simp [hq] at h2
        | cons y t =>
          refine ⟨y, t ++ (itoa q.2 ++ txN r e), by simp [txN, hq], ?_⟩
          have := h1.2
          simp only [List.all_cons, Bool.and_eq_true, hq, sepL] at this
          exact this.1.1
    rw [e1, flG_sep pn _ _ (by simpa [sepL] using h1.1), flG_fld pn _ _ (itoa_pn p.2) (itoa_ne p.2) hs, flG_txN r e h1.2 hr h3]
    rfl
theorem asc_txN (ps : List (List UInt8 × Int)) (e : List UInt8) (h1 : (ps.all fun p => p.1.all fun c => decide (c.toNat < 128)) = true) (h2 : (e.all fun c => decide (c.toNat < 128)) = true) : ∀ c ∈ txN ps e, c.toNat < 128 := by
  intro c hc
  unfold txN at hc
  rw [List.mem_append, List.mem_flatMap] at hc
  rcases hc with ⟨p, hp, hc⟩ | hc
  · rw [List.mem_append] at hc
    rcases hc with hc | hc
    · exact of_decide_eq_true (List.all_eq_true.1 (List.all_eq_true.1 h1 p hp) c hc)
    · exact itoa_asc _ c hc
  · exact of_decide_eq_true (List.all_eq_true.1 h2 c hc)
theorem itoa_len (n : Int) (h : nOk n) : (itoa n).length ≤ 21 := itoa_length_le n (by unfold nOk at h; omega) (by unfold nOk at h; omega)
theorem len_txN (ps : List (List UInt8 × Int)) (e : List UInt8) (m : Nat) (h : ∀ p ∈ ps, nOk p.2 ∧ p.1.length ≤ m) : (txN ps e).length ≤ ps.length * (m + 21) + e.length := by
  unfold txN
  rw [List.length_append]
  have : (ps.flatMap (fun p => p.1 ++ itoa p.2)).length ≤ ps.length * (m + 21) := by
    induction ps with
    | nil => simp
    | cons p r ih =>
      have h1 := h p (by simp)
      have h2 := itoa_len p.2 h1.1
      have h3 := ih fun q hq => h q (by simp [hq])
      rw [List.flatMap_cons, List.length_append, List.length_append, List.length_cons, Nat.add_mul]
      omega
  omega
end Go.Proofs.YtfhckmlmfigfjaaGreatDoor
