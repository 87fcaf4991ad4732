/- texts of pairs: 'a c b', blanks between them; no program in sight -/
import Derived.Test.YtbbdfifpncjpnaaDoorT8
set_option linter.unusedVariables false
set_option linter.unusedSimpArgs false
namespace Go.Proofs.YtbbdfifpncjpnaaDoor
open Go.AG Go.Lib

theorem joB_cons (b : UInt8) : ∀ (xs : List (List UInt8)) (x : List UInt8), joB b (x :: xs) = x ++ xs.flatMap (fun y => b :: y)
  | [], x => by simp [joB]
  | y :: r, x => by rw [joB, joB_cons b r y]; simp
def prP (c : UInt8) (p : Int × Int) : List UInt8 := itoa p.1 ++ c :: itoa p.2
def prT (c : UInt8) (ps : List (Int × Int)) : List UInt8 := joB 32 (ps.map (prP c))
def prI (ps : List (Int × Int)) : List Int := ps.flatMap fun p => [p.1, p.2]
def prOk (ps : List (Int × Int)) : Prop := ∀ p ∈ ps, nOk p.1 ∧ nOk p.2
def prL (c : UInt8) : List (Int × Int) → List (List UInt8 × Int)
  | [] => []
  | p :: r => ([], p.1) :: ([c], p.2) :: r.flatMap fun q => [([32], q.1), ([c], q.2)]
theorem prT_nil (c : UInt8) : prT c [] = [] := rfl
theorem prT_cons (c : UInt8) (p : Int × Int) (r : List (Int × Int)) : prT c (p :: r) = prP c p ++ r.flatMap (fun q => 32 :: prP c q) := by
  rw [prT, List.map_cons, joB_cons, List.flatMap_map]
theorem prT_snoc (c : UInt8) (ps : List (Int × Int)) (q : Int × Int) : prT c (ps ++ [q]) = prT c ps ++ ((if ps.length = 0 then [] else [32]) ++ prP c q) := by
  cases ps with
  | nil => simp [prT, joB]
  | cons p r => rw [List.cons_append, prT_cons, prT_cons]; simp
theorem prT_L (c : UInt8) (ps : List (Int × Int)) : prT c ps = txN (prL c ps) [] := by
  cases ps with
  | nil => rfl
  | cons p r =>
    rw [prT_cons]
    simp only [prL, txN, List.append_nil, List.flatMap_cons, List.flatMap_assoc, List.flatMap_nil]
    simp [prP]
theorem prL_mem {c : UInt8} {ps : List (Int × Int)} {q : List UInt8 × Int} (h : q ∈ prL c ps) : (q.1 = [] ∨ q.1 = [c] ∨ q.1 = [32]) ∧ ∃ p ∈ ps, q.2 = p.1 ∨ q.2 = p.2 := by
  cases ps with
  | nil => simp [prL] at h
  | cons p r =>
    simp only [prL, List.mem_cons, List.mem_flatMap, List.not_mem_nil, or_false] at h
    rcases h with rfl | rfl | ⟨x, hx, rfl | rfl⟩
    · exact ⟨.inl rfl, p, by simp, .inl rfl⟩
    · exact ⟨.inr (.inl rfl), p, by simp, .inr rfl⟩
    · exact ⟨.inr (.inr rfl), x, by simp [hx], .inl rfl⟩
    · exact ⟨.inr (.inl rfl), x, by simp [hx], .inr rfl⟩
theorem prL_sep {c : UInt8} (hc : pn c.toNat = true) (ps : List (Int × Int)) : ((prL c ps).all fun p => sepL p.1) = true := by
  rw [List.all_eq_true]
  intro q hq
  rcases (prL_mem hq).1 with h | h | h <;> rw [h]
  · rfl
  · simp [sepL, hc]
  · rfl
theorem prL_ne (c : UInt8) (ps : List (Int × Int)) : (((prL c ps).drop 1).all fun p => !p.1.isEmpty) = true := by
  cases ps with
  | nil => rfl
  | cons p r =>
    rw [List.all_eq_true]
    intro q hq
    simp only [prL, List.drop_succ_cons, List.drop_zero, List.mem_cons, List.mem_flatMap, List.not_mem_nil, or_false] at hq
    rcases hq with rfl | ⟨x, hx, rfl | rfl⟩ <;> rfl
theorem prL_num (c : UInt8) (ps : List (Int × Int)) : (prL c ps).map (·.2) = prI ps := by
  cases ps with
  | nil => rfl
  | cons p r => simp [prL, prI, List.map_flatMap]
theorem prI_ok {ps : List (Int × Int)} (h : prOk ps) : ∀ n ∈ prI ps, nOk n := by
  intro n hn
  simp only [prI, List.mem_flatMap, List.mem_cons, List.not_mem_nil, or_false] at hn
  obtain ⟨p, hp, rfl | rfl⟩ := hn
  · exact (h p hp).1
  · exact (h p hp).2
theorem prI_len (ps : List (Int × Int)) : (prI ps).length = 2 * ps.length := by
  induction ps with
  | nil => rfl
  | cons p r ih => simp only [prI, List.flatMap_cons, List.length_append, List.length_cons, List.length_nil] at ih ⊢; omega
theorem prT_nums {c : UInt8} {ps : List (Int × Int)} (hc : pn c.toNat = true) (h : prOk ps) : nums (prT c ps) = prI ps :=
  nums_of (by rw [prT_L, flG_txN _ _ (prL_sep hc ps) (prL_ne c ps) rfl, prL_num]) (prI_ok h)
theorem prT_asc {c : UInt8} (hc : c.toNat < 128) (ps : List (Int × Int)) : Asc (prT c ps) := by
  rw [prT_L]
  refine asc_txN _ _ ?_ rfl
  rw [List.all_eq_true]
  intro q hq
  rcases (prL_mem hq).1 with h | h | h <;> rw [h]
  · rfl
  · simp [hc]
  · rfl
theorem prT_len {c : UInt8} {ps : List (Int × Int)} (h : prOk ps) : (prT c ps).length ≤ 44 * ps.length := by
  have hl := len_txN (prL c ps) [] 1 (fun q hq => by
    obtain ⟨h1, p, hp, h2⟩ := prL_mem hq
    refine ⟨?_, by rcases h1 with h1 | h1 | h1 <;> rw [h1] <;> simp⟩
    rcases h2 with h2 | h2 <;> rw [h2]
    · exact (h p hp).1
    · exact (h p hp).2)
  have e : (prL c ps).length = 2 * ps.length := by rw [← prI_len, ← prL_num c ps, List.length_map]
  rw [prT_L]
  rw [e] at hl
  simp at hl
  omega
theorem prP_len {c : UInt8} {p : Int × Int} (h : nOk p.1 ∧ nOk p.2) : (prP c p).length ≤ 43 := by
  have h1 := itoa_len _ h.1
  have h2 := itoa_len _ h.2
  simp [prP]
  omega
theorem prP_split {c : UInt8} (hc : pn c.toNat = true) (p : Int × Int) : splB c (prP c p) [] = [itoa p.1, itoa p.2] := by
  have := splB_joB c [itoa p.1, itoa p.2] (by simp) (by
    intro x hx
    simp only [List.mem_cons, List.not_mem_nil, or_false] at hx
    rcases hx with rfl | rfl <;> exact itoa_free _ c hc)
  simpa [joB, prP] using this
theorem prT_split {c : UInt8} (hc : c ≠ 32) {ps : List (Int × Int)} (h : ps ≠ []) : splB 32 (prT c ps) [] = ps.map (prP c) := by
  refine splB_joB 32 _ (by simpa using h) ?_
  intro x hx
  obtain ⟨p, _, rfl⟩ := List.mem_map.1 hx
  simp only [prP, List.mem_append, List.mem_cons, not_or]
  exact ⟨itoa_free _ 32 rfl, fun e => hc e.symm, itoa_free _ 32 rfl⟩
/-- the pair that a word is -/
def pr1 (c : UInt8) (w : List UInt8) : Option (Int × Int) := match splB c w [] with
  | [x, y] => match rdD x, rdD y with
    | some a, some b => some (a, b)
    | _, _ => none
  | _ => none
theorem pr1_iff {c : UInt8} (hc : pn c.toNat = true) (w : List UInt8) (p : Int × Int) : pr1 c w = some p ↔ prP c p = w ∧ nOk p.1 ∧ nOk p.2 := by
  unfold pr1
  constructor
  · intro h
    have hj := joB_splB c w []
    split at h
    · rename_i x y hxy
      rw [hxy] at hj
      split at h
      · rename_i a b ha hb
        simp only [Option.some.injEq] at h
        subst h
        have h1 := (rdD_iff _ _).1 ha
        have h2 := (rdD_iff _ _).1 hb
        refine ⟨?_, h1.2, h2.2⟩
        rw [prP, h1.1, h2.1]
        simpa [joB] using hj
      · simp at h
    · simp at h
  · rintro ⟨rfl, h1, h2⟩
    rw [prP_split hc]
    simp [rdD_itoa _ h1, rdD_itoa _ h2]
def prA (c : UInt8) : List (List UInt8) → Option (List (Int × Int))
  | [] => some []
  | w :: r => match pr1 c w, prA c r with
    | some p, some ps => some (p :: ps)
    | _, _ => none
theorem prA_iff {c : UInt8} (hc : pn c.toNat = true) (ws : List (List UInt8)) (ps : List (Int × Int)) : prA c ws = some ps ↔ ps.map (prP c) = ws ∧ prOk ps := by
  induction ws generalizing ps with
  | nil =>
    simp only [prA, Option.some.injEq]
    constructor
    · rintro rfl; exact ⟨rfl, fun p hp => by simp at hp⟩
    · rintro ⟨h, _⟩; exact (List.map_eq_nil_iff.1 h).symm
  | cons w r ih =>
    simp only [prA]
    constructor
    · intro h
      split at h
      · rename_i p qs h1 h2
        simp only [Option.some.injEq] at h
        subst h
        obtain ⟨e1, e2⟩ := (pr1_iff hc w p).1 h1
        obtain ⟨e3, e4⟩ := (ih qs).1 h2
        refine ⟨by rw [List.map_cons, e1, e3], fun x hx => ?_⟩
        rcases List.mem_cons.1 hx with rfl | hx
        · exact e2
        · exact e4 x hx
      · simp at h
    · rintro ⟨h1, h2⟩
      cases ps with
      | nil => simp at h1
      | cons p qs =>
        rw [List.map_cons] at h1
        obtain ⟨e1, e2⟩ := List.cons.inj h1
        rw [(pr1_iff hc w p).2 ⟨e1, h2 p (by simp)⟩, (ih qs).2 ⟨e2, fun x hx => h2 x (by simp [hx])⟩]
theorem prA_snoc {c : UInt8} (ws : List (List UInt8)) (w : List UInt8) (ps : List (Int × Int)) (p : Int × Int) (h1 : prA c ws = some ps) (h2 : pr1 c w = some p) : prA c (ws ++ [w]) = some (ps ++ [p]) := by
  induction ws generalizing ps with
  | nil => simp [prA] at h1; subst h1; simp [prA, h2]
  | cons x r ih =>
    simp only [prA] at h1
    split at h1
    · rename_i m ms e1 e2
      simp only [Option.some.injEq] at h1
      subst h1
      simp [prA, e1, ih ms e2]
    · simp at h1
theorem prA_none {c : UInt8} {ws : List (List UInt8)} {w : List UInt8} (hw : w ∈ ws) (h : pr1 c w = none) : prA c ws = none := by
  induction ws with
  | nil => simp at hw
  | cons x r ih =>
    simp only [prA]
    rcases List.mem_cons.1 hw with rfl | hw
    · simp [h]
    · rw [ih hw]; split <;> simp_all
/-- the pairs that a text is -/
def prR (c : UInt8) (l : List UInt8) : Option (List (Int × Int)) := prA c (splB 32 l [])
theorem prR_iff {c : UInt8} (hc : pn c.toNat = true) (h32 : c ≠ 32) (l : List UInt8) (ps : List (Int × Int)) : prR c l = some ps ↔ ps ≠ [] ∧ prOk ps ∧ prT c ps = l := by
  unfold prR
  rw [prA_iff hc]
  constructor
  · rintro ⟨h1, h2⟩
    have hn := splB_ne 32 l []
    have hj := joB_splB 32 l []
    rw [← h1] at hn hj
    exact ⟨fun e => hn (by rw [e]; rfl), h2, hj⟩
  · rintro ⟨h1, h2, rfl⟩
    exact ⟨(prT_split h32 h1).symm, h2⟩
/-- numbers, two by two -/
def prs : List Int → List (Int × Int)
  | a :: b :: r => (a, b) :: prs r
  | _ => []
theorem prs_prI (ps : List (Int × Int)) : prs (prI ps) = ps := by
  induction ps with
  | nil => rfl
  | cons p r ih =>
    show prs (p.1 :: p.2 :: prI r) = p :: r
    rw [prs, ih]
theorem prs_len : ∀ (ns : List Int), (prs ns).length = ns.length / 2
  | [] => rfl
  | [a] => by simp [prs]
  | a :: b :: r => by
    have := prs_len r
    simp only [prs, List.length_cons]
    omega
theorem prs_get : ∀ (ns : List Int) (k : Nat) (h : k < (prs ns).length), (prs ns)[k] = (gi ns (2 * k), gi ns (2 * k + 1))
  | [], k, h => by simp [prs] at h
  | [a], k, h => by simp [prs] at h
  | a :: b :: r, 0, h => rfl
  | a :: b :: r, k + 1, h => by
    have h' : k < (prs r).length := by simp only [prs, List.length_cons] at h; omega
    have := prs_get r k h'
    simp only [prs, List.getElem_cons_succ]
    rw [this]
    rfl
/-- a part of a list of parts -/
def gw (ws : List (List UInt8)) (i : Nat) : List UInt8 := ws.getD i []
theorem gw_gs (ws : List (List UInt8)) (i : Nat) (h : i < ws.length) : gs (ws.map tx) i = tx (gw ws i) := by simp [gs, gw, h]
theorem gw_lt (ws : List (List UInt8)) (i : Nat) (h : i < ws.length) : gw ws i = ws[i] := by simp [gw, h]
theorem gw_mem (ws : List (List UInt8)) (i : Nat) (h : i < ws.length) : gw ws i ∈ ws := by rw [gw_lt ws i h]; exact List.getElem_mem h
theorem splB_ml (b : UInt8) : ∀ (l cur : List UInt8), ∀ x ∈ splB b l cur, x.length ≤ cur.length + l.length
  | [], cur => by simp [splB]
  | c :: r, cur => by
    simp only [splB]
    have h1 := splB_ml b r []
    have h2 := splB_ml b r (cur ++ [c])
    split
    · intro x hx
      rcases List.mem_cons.1 hx with rfl | hx
      · omega
      · have := h1 x hx; simp at this ⊢; omega
    · intro x hx; have := h2 x hx; simp at this ⊢; omega
end Go.Proofs.YtbbdfifpncjpnaaDoor
