/- handed-over duties: plain -/
import Derived.Test.YtbbdfifpncjpnaaDoorDut2
set_option linter.unusedVariables false
set_option linter.unusedSimpArgs false
namespace Go.Proofs.YtbbdfifpncjpnaaDoor
open Go.AG

/-- a duty joined to those before it -/
def mgS (acc : List Du) (d : Du) : List Du := match acc.getLast? with
  | none => [d]
  | some l => if l.owner = d.owner then acc.dropLast ++ [⟨l.owner, l.fr, d.tw⟩] else acc ++ [d]
def mgL (ds : List Du) : List Du := ds.foldl mgS []
theorem mgS_nil (d : Du) : mgS [] d = [d] := rfl
theorem mgS_snoc (acc : List Du) (l d : Du) : mgS (acc ++ [l]) d = if l.owner = d.owner then acc ++ [⟨l.owner, l.fr, d.tw⟩] else acc ++ [l] ++ [d] := by
  unfold mgS
  rw [List.getLast?_append, List.getLast?_singleton]
  simp
/-- two parts of one owner behind one another are one part -/
theorem mgS_two (acc : List Du) (o f t1 t2 : Int) : mgS (mgS acc ⟨o, f, t1⟩) ⟨o, t1, t2⟩ = mgS acc ⟨o, f, t2⟩ := by
  rcases List.eq_nil_or_concat acc with rfl | ⟨a, l, rfl⟩
  · rw [mgS_nil, mgS_nil]
    have := mgS_snoc [] ⟨o, f, t1⟩ ⟨o, t1, t2⟩
    simpa using this
  · rw [List.concat_eq_append, mgS_snoc, mgS_snoc]
    by_cases h : l.owner = o
    · rw [if_pos h, if_pos h, mgS_snoc, if_pos h]
    · rw [if_neg h, if_neg h, mgS_snoc, if_pos rfl]
/-- parts of one owner from f to t, one behind the other -/
inductive Run (o : Int) : Int → Int → List Du → Prop where
  | one (f t : Int) : Run o f t [⟨o, f, t⟩]
  | snoc {f t u : Int} {ds : List Du} (h : Run o f t ds) : Run o f u (ds ++ [⟨o, t, u⟩])
theorem run_mg {o f t : Int} {ds : List Du} (h : Run o f t ds) (acc : List Du) : ds.foldl mgS acc = mgS acc ⟨o, f, t⟩ := by
  induction h with
  | one => rfl
  | snoc h ih => rw [List.foldl_append, ih]; exact mgS_two _ _ _ _ _
/-! the parts of a duty: before, within, behind -/
def pcA (d : Du) (f : Int) : List Du := if d.fr < min d.tw f then [⟨d.owner, d.fr, min d.tw f⟩] else []
def pcM (d : Du) (f t o : Int) : List Du := if d.fr < t ∧ f < d.tw then [⟨o, max d.fr f, min d.tw t⟩] else []
def pcC (d : Du) (t : Int) : List Du := if max d.fr t < d.tw then [⟨d.owner, max d.fr t, d.tw⟩] else []
def allA (ds : List Du) (f : Int) (k : Nat) : List Du := (ds.take k).flatMap fun d => pcA d f
def allM (ds : List Du) (f t o : Int) (k : Nat) : List Du := (ds.take k).flatMap fun d => pcM d f t o
def allC (ds : List Du) (t : Int) (k : Nat) : List Du := (ds.take k).flatMap fun d => pcC d t
def allS (ds : List Du) (f t o : Int) (k : Nat) : List Du := (ds.take k).flatMap fun d => pcA d f ++ (pcM d f t o ++ pcC d t)
theorem fm_succ (ds : List Du) (g : Du → List Du) (k : Nat) (h : k < ds.length) : (ds.take (k + 1)).flatMap g = (ds.take k).flatMap g ++ g (gDu ds k) := by
  rw [gDu_take_succ ds k h, List.flatMap_append]
  simp
/-- the parts in the order of the duties are those before, within, behind -/
theorem parts_ok {ds : List Du} {L : Int} (V : VD ds L) (f t o : Int) (hft : f < t) : ∀ k, k ≤ ds.length →
    allS ds f t o k = allA ds f k ++ (allM ds f t o k ++ allC ds t k) ∧ (allM ds f t o k ≠ [] → f < atD ds k) ∧ (allC ds t k ≠ [] → t < atD ds k) ∧
    (0 ≤ f → f < atD ds k → Run o f (min (atD ds k) t) (allM ds f t o k)) := by
  intro k
  induction k with
  | zero => intro _; exact ⟨rfl, fun h => absurd rfl h, fun h => absurd rfl h, fun h1 h2 => by rw [atD_zero] at h2; omega⟩
  | succ k ih =>
    intro hk
    have hkl : k < ds.length := by omega
    obtain ⟨h1, h2, h3, h4⟩ := ih (by omega)
    have hb := V.bd k hkl
    have eS : allS ds f t o (k + 1) = allS ds f t o k ++ (pcA (gDu ds k) f ++ (pcM (gDu ds k) f t o ++ pcC (gDu ds k) t)) := fm_succ ds _ k hkl
    have eA : allA ds f (k + 1) = allA ds f k ++ pcA (gDu ds k) f := fm_succ ds _ k hkl
    have eM : allM ds f t o (k + 1) = allM ds f t o k ++ pcM (gDu ds k) f t o := fm_succ ds _ k hkl
    have eC : allC ds t (k + 1) = allC ds t k ++ pcC (gDu ds k) t := fm_succ ds _ k hkl
    have hA : pcA (gDu ds k) f ≠ [] → allM ds f t o k = [] ∧ allC ds t k = [] := fun h => by
      have hc : (gDu ds k).fr < min (gDu ds k).tw f := by
        apply Classical.byContradiction; intro g
        exact h (by rw [pcA, if_neg g])
      constructor
      · apply Classical.byContradiction; intro g
        have := h2 g; omega
      · apply Classical.byContradiction; intro g
        have := h3 g; omega
    have hM : pcM (gDu ds k) f t o ≠ [] → allC ds t k = [] := fun h => by
      have hc : (gDu ds k).fr < t ∧ f < (gDu ds k).tw := by
        apply Classical.byContradiction; intro g
        exact h (by rw [pcM, if_neg g])
      apply Classical.byContradiction; intro g
      have := h3 g; omega
    refine ⟨?_, fun h => ?_, fun h => ?_, fun h5 h6 => ?_⟩
    · rw [eS, eA, eM, eC, h1]
      by_cases a : pcA (gDu ds k) f = []
      · rw [a]
        by_cases m : pcM (gDu ds k) f t o = []
        · rw [m]; simp
        · rw [hM m]; simp
      · obtain ⟨q1, q2⟩ := hA a
        rw [q1, q2]; simp
    · rw [atD_succ]
      rw [eM] at h
      by_cases m : pcM (gDu ds k) f t o = []
      · rw [m, List.append_nil] at h
        have := h2 h; omega
      · have hc : (gDu ds k).fr < t ∧ f < (gDu ds k).tw := by
          apply Classical.byContradiction; intro g
          exact m (by rw [pcM, if_neg g])
        exact hc.2
    · rw [atD_succ]
      rw [eC] at h
      by_cases m : pcC (gDu ds k) t = []
      · rw [m, List.append_nil] at h
        have := h3 h; omega
      · have hc : max (gDu ds k).fr t < (gDu ds k).tw := by
          apply Classical.byContradiction; intro g
          exact m (by rw [pcC, if_neg g])
        omega
    · rw [atD_succ] at h6 ⊢
      rw [eM]
      by_cases c : f < atD ds k
      · have hr := h4 h5 c
        by_cases c2 : (gDu ds k).fr < t
        · have e : pcM (gDu ds k) f t o = [⟨o, min (atD ds k) t, min (gDu ds k).tw t⟩] := by
            rw [pcM, if_pos ⟨c2, h6⟩]
            congr 2 <;> omega
          rw [e]
          exact .snoc hr
        · have e : pcM (gDu ds k) f t o = [] := by rw [pcM, if_neg (fun h => c2 h.1)]
          rw [e, List.append_nil, show min (gDu ds k).tw t = min (atD ds k) t by omega]
          exact hr
      · have e0 : allM ds f t o k = [] := by
          apply Classical.byContradiction; intro g
          exact c (h2 g)
        have e : pcM (gDu ds k) f t o = [⟨o, f, min (gDu ds k).tw t⟩] := by
          rw [pcM, if_pos ⟨by omega, h6⟩]
          congr 2
          omega
        rw [e0, e, List.nil_append]
        exact .one _ _
/-- both ways of handing over lead to the same duties -/
theorem hand_same {ds : List Du} {L : Int} (V : VD ds L) (f t o : Int) (h0 : 0 ≤ f) (hft : f < t) (ht : t ≤ L) :
    mgL (allS ds f t o ds.length) = mgL (allA ds f ds.length ++ ([⟨o, f, t⟩] ++ allC ds t ds.length)) := by
  obtain ⟨h1, _, _, h4⟩ := parts_ok V f t o hft ds.length (Nat.le_refl _)
  have hr := h4 h0 (by rw [V.e]; omega)
  rw [V.e, show min L t = t by omega] at hr
  rw [h1]
  unfold mgL
  rw [List.foldl_append, List.foldl_append, List.foldl_append, List.foldl_append, run_mg hr]
  rfl
/-! chains of duties -/
def Ch : Int → List Du → Int → Prop
  | s, [], e => s = e
  | s, d :: r, e => (0 ≤ d.owner ∧ d.owner ≤ 39) ∧ d.fr = s ∧ d.fr < d.tw ∧ Ch d.tw r e
theorem ch_app {s e : Int} {xs ys : List Du} : Ch s (xs ++ ys) e ↔ ∃ m, Ch s xs m ∧ Ch m ys e := by
  induction xs generalizing s with
  | nil => simp [Ch]
  | cons d r ih =>
    simp only [List.cons_append, Ch, ih]
    constructor
    · rintro ⟨h1, h2, h3, m, h4, h5⟩
      exact ⟨m, ⟨h1, h2, h3, h4⟩, h5⟩
    · rintro ⟨m, ⟨h1, h2, h3, h4⟩, h5⟩
      exact ⟨h1, h2, h3, m, h4, h5⟩
theorem ch_one {s e : Int} {d : Du} : Ch s [d] e ↔ (0 ≤ d.owner ∧ d.owner ≤ 39) ∧ d.fr = s ∧ d.fr < d.tw ∧ d.tw = e := by simp [Ch]
theorem ch_take {ds : List Du} {n : Nat} (hp : ∀ j, j < n → duP ds j) (hn : n ≤ ds.length) : ∀ k, k ≤ n → Ch 0 (ds.take k) (atD ds k) := by
  intro k
  induction k with
  | zero => intro _; rw [atD_zero]; rfl
  | succ k ih =>
    intro hk
    have h := hp k (by omega)
    rw [gDu_take_succ ds k (by omega), ch_app]
    exact ⟨_, ih (by omega), ch_one.2 ⟨h.1, h.2.1, h.2.2, by rw [atD_succ]⟩⟩
theorem ch_vd {ds : List Du} {e : Int} (h : Ch 0 ds e) : ∀ k, k ≤ ds.length → Ch 0 (ds.take k) (atD ds k) ∧ ∀ j, j < k → duP ds j := by
  intro k
  induction k with
  | zero => intro _; exact ⟨by rw [atD_zero]; rfl, fun j hj => by omega⟩
  | succ k ih =>
    intro hk
    obtain ⟨h1, h2⟩ := ih (by omega)
    rw [← List.take_append_drop (k + 1) ds, gDu_take_succ ds k (by omega), List.append_assoc, ch_app] at h
    obtain ⟨m, h3, h4⟩ := h
    have hm : ∀ (xs : List Du) (a b c : Int), Ch a xs b → Ch a xs c → b = c := by
      intro xs
      induction xs with
      | nil => intro a b c h5 h6; exact h5.symm.trans h6
      | cons d r ih => intro a b c h5 h6; exact ih _ _ _ h5.2.2.2 h6.2.2.2
    have e1 := hm _ _ _ _ h1 h3
    subst e1
    obtain ⟨m2, h5, _⟩ := ch_app.1 h4
    have h6 := ch_one.1 h5
    refine ⟨?_, fun j hj => ?_⟩
    · rw [gDu_take_succ ds k (by omega), ch_app]
      exact ⟨_, h1, ch_one.2 ⟨h6.1, h6.2.1, h6.2.2.1, by rw [atD_succ]⟩⟩
    · by_cases e : j = k
      · rw [e]; exact ⟨h6.1, h6.2.1, h6.2.2.1⟩
      · exact h2 j (by omega)
theorem ch_fun : ∀ (xs : List Du) (a b c : Int), Ch a xs b → Ch a xs c → b = c
  | [], _, _, _, h5, h6 => h5.symm.trans h6
  | d :: r, _, _, _, h5, h6 => ch_fun r _ _ _ h5.2.2.2 h6.2.2.2
theorem vd_ch {ds : List Du} {L : Int} : VD ds L ↔ (1 ≤ L ∧ L ≤ 300000) ∧ (1 ≤ ds.length ∧ ds.length ≤ 40) ∧ Ch 0 ds L := by
  constructor
  · intro V
    have := ch_take V.p (Nat.le_refl _) ds.length (Nat.le_refl _)
    rw [List.take_length, V.e] at this
    exact ⟨V.l, V.n, this⟩
  · rintro ⟨h1, h2, h3⟩
    obtain ⟨h4, h5⟩ := ch_vd h3 ds.length (Nat.le_refl _)
    rw [List.take_length] at h4
    exact ⟨h1, h2, ch_fun _ _ _ _ h4 h3, h5⟩
/-! joined duties: a chain, with the same owners, neighbours apart -/
def AtO (ds : List Du) (m o : Int) : Prop := ∃ d ∈ ds, d.fr ≤ m ∧ m < d.tw ∧ d.owner = o
theorem atO_app (xs ys : List Du) (m o : Int) : AtO (xs ++ ys) m o ↔ AtO xs m o ∨ AtO ys m o := by
  simp only [AtO, List.mem_append]
  constructor
  · rintro ⟨d, h | h, h2⟩
    · exact .inl ⟨d, h, h2⟩
    · exact .inr ⟨d, h, h2⟩
  · rintro (⟨d, h, h2⟩ | ⟨d, h, h2⟩)
    · exact ⟨d, .inl h, h2⟩
    · exact ⟨d, .inr h, h2⟩
theorem atO_one (d : Du) (m o : Int) : AtO [d] m o ↔ d.fr ≤ m ∧ m < d.tw ∧ d.owner = o := by simp [AtO]
/-- neighbours have other owners -/
def Apart : List Du → Prop
  | [] => True
  | [_] => True
  | a :: b :: r => a.owner ≠ b.owner ∧ Apart (b :: r)
theorem apart_snoc {xs : List Du} {l d : Du} (h : Apart (xs ++ [l])) (hn : l.owner ≠ d.owner) : Apart (xs ++ [l] ++ [d]) := by
  induction xs with
  | nil => exact ⟨hn, trivial⟩
  | cons x r ih =>
    cases r with
    | nil => exact ⟨h.1, hn, trivial⟩
    | cons y r => exact ⟨h.1, ih h.2⟩
theorem apart_last {xs : List Du} {l l' : Du} (h : Apart (xs ++ [l])) (hn : l'.owner = l.owner) : Apart (xs ++ [l']) := by
  induction xs with
  | nil => trivial
  | cons x r ih =>
    cases r with
    | nil => exact ⟨by rw [hn]; exact h.1, trivial⟩
    | cons y r => exact ⟨h.1, ih h.2⟩
structure MgI (acc : List Du) (s : Int) (n : Nat) (A : Int → Int → Prop) : Prop where
  c : Ch 0 acc s
  a : Apart acc
  n : acc.length ≤ n
  o : ∀ m o, AtO acc m o ↔ A m o
theorem mgS_ok {acc : List Du} {s : Int} {n : Nat} {A : Int → Int → Prop} (h : MgI acc s n A) {d : Du} (ho : 0 ≤ d.owner ∧ d.owner ≤ 39) (hf : d.fr = s) (ht : d.fr < d.tw) :
    MgI (mgS acc d) d.tw (n + 1) (fun m o => A m o ∨ (d.fr ≤ m ∧ m < d.tw ∧ d.owner = o)) := by
  rcases List.eq_nil_or_concat acc with rfl | ⟨a, l, rfl⟩
  · rw [mgS_nil]
    have hs : (0 : Int) = s := h.c
    refine ⟨ch_one.2 ⟨ho, by omega, ht, rfl⟩, trivial, by simp, fun m o => ?_⟩
    rw [atO_one, ← h.o]
    simp [AtO]
  · rw [List.concat_eq_append] at h ⊢
    rw [mgS_snoc]
    obtain ⟨m0, h1, h2⟩ := ch_app.1 h.c
    have h3 := ch_one.1 h2
    have hl := h.n
    simp only [List.length_append, List.length_singleton] at hl
    by_cases e : l.owner = d.owner
    · rw [if_pos e]
      refine ⟨ch_app.2 ⟨m0, h1, ch_one.2 ⟨h3.1, h3.2.1, by simp only; omega, rfl⟩⟩, apart_last h.a rfl, by simp; omega, fun m o => ?_⟩
      rw [← h.o, atO_app, atO_app, atO_one, atO_one]
      simp only
      constructor
      · rintro (g | ⟨g1, g2, g3⟩)
        · exact .inl (.inl g)
        · by_cases c : m < l.tw
          · exact .inl (.inr ⟨g1, c, g3⟩)
          · exact .inr ⟨by omega, g2, by omega⟩
      · rintro ((g | ⟨g1, g2, g3⟩) | ⟨g1, g2, g3⟩)
        · exact .inl g
        · exact .inr ⟨g1, by omega, g3⟩
        · exact .inr ⟨by omega, g2, by omega⟩
    · rw [if_neg e]
      refine ⟨ch_app.2 ⟨s, h.c, ch_one.2 ⟨ho, hf, ht, rfl⟩⟩, apart_snoc h.a e, by simp; omega, fun m o => ?_⟩
      rw [← h.o, atO_app (a ++ [l]), atO_one]
theorem mg_ok {r : List Du} : ∀ {acc : List Du} {s e : Int} {n : Nat} {A : Int → Int → Prop}, MgI acc s n A → Ch s r e → MgI (r.foldl mgS acc) e (n + r.length) (fun m o => A m o ∨ AtO r m o) := by
  induction r with
  | nil =>
    intro acc s e n A h hc
    obtain rfl : s = e := hc
    exact ⟨h.c, h.a, by simpa using h.n, fun m o => by rw [List.foldl_nil, h.o]; simp [AtO]⟩
  | cons d r ih =>
    intro acc s e n A h hc
    have := ih (mgS_ok h hc.1 hc.2.1 hc.2.2.1) hc.2.2.2
    refine ⟨this.c, this.a, by have := this.n; simp only [List.foldl_cons, List.length_cons] at this ⊢; omega, fun m o => ?_⟩
    have h2 := this.o m o
    simp only [List.foldl_cons] at h2 ⊢
    rw [h2]
    simp only [AtO, List.mem_cons]
    constructor
    · rintro ((g | g) | ⟨x, g1, g2⟩)
      · exact .inl g
      · exact .inr ⟨d, .inl rfl, g⟩
      · exact .inr ⟨x, .inr g1, g2⟩
    · rintro (g | ⟨x, rfl | g1, g2⟩)
      · exact .inl (.inl g)
      · exact .inl (.inr g2)
      · exact .inr ⟨x, g1, g2⟩
/-- joined duties: what holds of them -/
theorem mgL_ok {ds : List Du} {L : Int} (h : Ch 0 ds L) : Ch 0 (mgL ds) L ∧ Apart (mgL ds) ∧ (mgL ds).length ≤ ds.length ∧ ∀ m o, AtO (mgL ds) m o ↔ AtO ds m o := by
  have h0 : MgI [] 0 0 (fun _ _ => False) := ⟨rfl, trivial, Nat.le_refl _, fun m o => by simp [AtO]⟩
  have := mg_ok h0 h
  exact ⟨this.c, this.a, by have := this.n; unfold mgL; omega, fun m o => by have := this.o m o; unfold mgL; rw [this]; simp⟩
/-! what is handed over -/
theorem allA_ch {ds : List Du} {L : Int} (V : VD ds L) (f : Int) (hf : 0 ≤ f) : ∀ k, k ≤ ds.length → Ch 0 (allA ds f k) (min (atD ds k) f) := by
  intro k
  induction k with
  | zero => intro _; rw [atD_zero]; show (0 : Int) = min 0 f; omega
  | succ k ih =>
    intro hk
    have hb := V.bd k (by omega)
    have h1 := ih (by omega)
    rw [show allA ds f (k + 1) = allA ds f k ++ pcA (gDu ds k) f from fm_succ ds _ k (by omega), ch_app]
    refine ⟨_, h1, ?_⟩
    rw [atD_succ]
    unfold pcA
    split
    · exact ch_one.2 ⟨hb.2.2.2.2.2, by simp only; omega, by simp only; omega, rfl⟩
    · show min (atD ds k) f = min (gDu ds k).tw f
      omega
theorem allC_ch {ds : List Du} {L : Int} (V : VD ds L) (t : Int) (ht : 0 ≤ t) : ∀ k, k ≤ ds.length → Ch t (allC ds t k) (max (atD ds k) t) := by
  intro k
  induction k with
  | zero => intro _; rw [atD_zero]; show t = max 0 t; omega
  | succ k ih =>
    intro hk
    have hb := V.bd k (by omega)
    have h1 := ih (by omega)
    rw [show allC ds t (k + 1) = allC ds t k ++ pcC (gDu ds k) t from fm_succ ds _ k (by omega), ch_app]
    refine ⟨_, h1, ?_⟩
    rw [atD_succ]
    unfold pcC
    split
    · exact ch_one.2 ⟨hb.2.2.2.2.2, by simp only; omega, by simp only; omega, by simp only; omega⟩
    · show max (atD ds k) t = max (gDu ds k).tw t
      omega
theorem atO_allA (ds : List Du) (f : Int) (m o : Int) : AtO (allA ds f ds.length) m o ↔ AtO ds m o ∧ m < f := by
  unfold allA AtO
  rw [List.take_length]
  simp only [List.mem_flatMap]
  constructor
  · rintro ⟨x, ⟨d, h1, h2⟩, h3, h4, h5⟩
    unfold pcA at h2
    split at h2
    · rw [List.mem_singleton] at h2
      subst h2
      simp only at h3 h4 h5
      exact ⟨⟨d, h1, h3, by omega, h5⟩, by omega⟩
    · simp at h2
  · rintro ⟨⟨d, h1, h2, h3, h4⟩, h5⟩
    refine ⟨⟨d.owner, d.fr, min d.tw f⟩, ⟨d, h1, ?_⟩, h2, by simp only; omega, h4⟩
    rw [pcA, if_pos (by omega)]
    simp
theorem atO_allC (ds : List Du) (t : Int) (m o : Int) : AtO (allC ds t ds.length) m o ↔ AtO ds m o ∧ t ≤ m := by
  unfold allC AtO
  rw [List.take_length]
  simp only [List.mem_flatMap]
  constructor
  · rintro ⟨x, ⟨d, h1, h2⟩, h3, h4, h5⟩
    unfold pcC at h2
    split at h2
    · rw [List.mem_singleton] at h2
      subst h2
      simp only at h3 h4 h5
      exact ⟨⟨d, h1, by omega, h4, h5⟩, by omega⟩
    · simp at h2
  · rintro ⟨⟨d, h1, h2, h3, h4⟩, h5⟩
    refine ⟨⟨d.owner, max d.fr t, d.tw⟩, ⟨d, h1, ?_⟩, by simp only; omega, h3, h4⟩
    rw [pcC, if_pos (by omega)]
    simp
/-- the duties after a hand-over, not yet judged by their number -/
def hoL (ds : List Du) (f t o : Int) : List Du := mgL (allA ds f ds.length ++ ([⟨o, f, t⟩] ++ allC ds t ds.length))
theorem hoL_ok {ds : List Du} {L : Int} (V : VD ds L) (f t o : Int) (h0 : 0 ≤ f) (hft : f < t) (ht : t ≤ L) (ho : 0 ≤ o ∧ o ≤ 39) :
    Ch 0 (hoL ds f t o) L ∧ Apart (hoL ds f t o) ∧ hoL ds f t o ≠ [] ∧ ∀ m p, AtO (hoL ds f t o) m p ↔ (AtO ds m p ∧ m < f) ∨ (f ≤ m ∧ m < t ∧ o = p) ∨ (AtO ds m p ∧ t ≤ m) := by
  have hA := allA_ch V f h0 ds.length (Nat.le_refl _)
  have hC := allC_ch V t (by omega) ds.length (Nat.le_refl _)
  rw [V.e] at hA hC
  rw [show min L f = f by omega] at hA
  rw [show max L t = L by omega] at hC
  have hc : Ch 0 (allA ds f ds.length ++ ([⟨o, f, t⟩] ++ allC ds t ds.length)) L := ch_app.2 ⟨f, hA, ch_app.2 ⟨t, ch_one.2 ⟨ho, rfl, hft, rfl⟩, hC⟩⟩
  obtain ⟨h1, h2, _, h4⟩ := mgL_ok hc
  refine ⟨h1, h2, fun h => ?_, fun m p => ?_⟩
  · have h5 : Ch 0 (mgL (allA ds f ds.length ++ ([⟨o, f, t⟩] ++ allC ds t ds.length))) L := h1
    unfold hoL at h
    rw [h] at h5
    have : (0 : Int) = L := h5
    omega
  · unfold hoL
    rw [h4, atO_app, atO_app, atO_one, atO_allA, atO_allC]
theorem ho_vd {ds : List Du} {L : Int} (V : VD ds L) (f t o : Int) (h0 : 0 ≤ f) (hft : f < t) (ht : t ≤ L) (ho : 0 ≤ o ∧ o ≤ 39) (hn : (hoL ds f t o).length ≤ 40) : VD (hoL ds f t o) L := by
  obtain ⟨h1, _, h3, _⟩ := hoL_ok V f t o h0 hft ht ho
  exact vd_ch.2 ⟨V.l, ⟨List.length_pos_iff.2 h3, hn⟩, h1⟩
/-- whose metre it is, by indices -/
theorem atO_in {ds : List Du} {m o : Int} : AtO ds m o ↔ ∃ j, j < ds.length ∧ InD ds m j ∧ (gDu ds j).owner = o := by
  unfold AtO InD
  constructor
  · rintro ⟨d, h, h1, h2, h3⟩
    obtain ⟨j, hj, rfl⟩ := List.getElem_of_mem h
    exact ⟨j, hj, by rw [gDu_lt ds j hj]; exact ⟨h1, h2⟩, by rw [gDu_lt ds j hj]; exact h3⟩
  · rintro ⟨j, hj, h1, h2⟩
    exact ⟨gDu ds j, gDu_mem ds j hj, h1.1, h1.2, h2⟩
end Go.Proofs.YtbbdfifpncjpnaaDoor
