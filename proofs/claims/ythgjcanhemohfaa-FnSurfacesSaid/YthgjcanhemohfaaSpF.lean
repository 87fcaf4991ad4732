/- surfaces of a flooded land: what is so at the end -/
import Derived.Test.YthgjcanhemohfaaSpP
set_option linter.unusedVariables false
set_option linter.unusedSimpArgs false
namespace Go.Proofs.Ythgjcanhemohfaa
open Go.AG

theorem mem_ifl {p : Prop} [Decidable p] {x y : Int} : x ∈ (if p then [y] else []) ↔ p ∧ x = y := by
  split <;> simp_all
theorem near_mem (l : Ld) (c x : Int) : x ∈ near l c ↔ (0 < c / l.cols ∧ x = c - l.cols) ∨ (0 < c % l.cols ∧ x = c - 1) ∨ (c % l.cols < l.cols - 1 ∧ x = c + 1) ∨ (c / l.cols < l.rows - 1 ∧ x = c + l.cols) := by
  simp only [near, nearK, List.nil_append, List.mem_append, ngh, mem_ifl]
  constructor
  · rintro (((h | h) | h) | h)
    · exact .inl h
    · exact .inr (.inl h)
    · exact .inr (.inr (.inl h))
    · exact .inr (.inr (.inr h))
  · rintro (h | h | h | h)
    · exact .inl (.inl (.inl h))
    · exact .inl (.inl (.inr h))
    · exact .inl (.inr h)
    · exact .inr h
theorem dm_of {c q r k : Int} (hk : 0 < k) (hr : 0 ≤ r ∧ r < k) (h : c = q * k + r) : c / k = q ∧ c % k = r := by
  refine (Int.ediv_emod_unique hk).2 ⟨?_, hr.1, hr.2⟩
  rw [h, Int.mul_comm]; omega
theorem near_sym {l : Ld} (hok : okL l = true) {b x : Int} (hb : inC l b) (h : x ∈ near l b) : b ∈ near l x := by
  have g := Cl.of2 hok hb
  have hk : 0 < l.cols := by have := g.fk; omega
  have h1 := g.frm
  have h2 := g.fcm
  have h3 := g.feq
  rw [near_mem] at h ⊢
  rcases h with ⟨h, e⟩ | ⟨h, e⟩ | ⟨h, e⟩ | ⟨h, e⟩
  · obtain ⟨e1, e2⟩ := dm_of (c := x) (q := b / l.cols - 1) (r := b % l.cols) hk h2 (by rw [Int.sub_mul, Int.one_mul]; omega)
    exact .inr (.inr (.inr ⟨by omega, by omega⟩))
  · obtain ⟨e1, e2⟩ := dm_of (c := x) (q := b / l.cols) (r := b % l.cols - 1) hk (by omega) (by omega)
    exact .inr (.inr (.inl ⟨by omega, by omega⟩))
  · obtain ⟨e1, e2⟩ := dm_of (c := x) (q := b / l.cols) (r := b % l.cols + 1) hk (by omega) (by omega)
    exact .inr (.inl ⟨by omega, by omega⟩)
  · obtain ⟨e1, e2⟩ := dm_of (c := x) (q := b / l.cols + 1) (r := b % l.cols) hk h2 (by rw [Int.add_mul, Int.one_mul]; omega)
    exact .inl ⟨by omega, by omega⟩
/-- a set of cells that holds the neighbours of its cells holds all -/
theorem all_cells {l : Ld} (hok : okL l = true) (S : Int → Prop) (hS : ∀ x, inC l x → S x → ∀ y ∈ near l x, S y) (c : Int) (hc : inC l c) (hSc : S c) : ∀ x, inC l x → S x := by
  have gc := Cl.of2 hok hc
  have hk := gc.fk
  have hr := gc.fr
  have hn := gc.fn
  have ce : ∀ q r : Nat, (q : Int) < l.rows → (r : Int) < l.cols → inC l ((q : Int) * l.cols + r) ∧ ((q : Int) * l.cols + r) / l.cols = q ∧ ((q : Int) * l.cols + r) % l.cols = r := by
    intro q r h1 h2
    obtain ⟨e1, e2⟩ := dm_of (c := (q : Int) * l.cols + r) (q := q) (r := r) (k := l.cols) (by omega) (by omega) rfl
    refine ⟨?_, e1, e2⟩
    have h3 : 0 ≤ (q : Int) * l.cols := Int.mul_nonneg (by omega) (by omega)
    have h4 : ((q : Int) + 1) * l.cols ≤ l.rows * l.cols := Int.mul_le_mul_of_nonneg_right (by omega) (by omega)
    rw [Int.add_mul, Int.one_mul] at h4
    unfold inC
    omega
  have left : ∀ (q r : Nat), (q : Int) < l.rows → (r : Int) < l.cols → S ((q : Int) * l.cols + r) → S ((q : Int) * l.cols + (0 : Nat)) := by
    intro q r
    induction r with
    | zero => intro _ _ h; exact h
    | succ r ih =>
      intro h1 h2 h
      obtain ⟨g1, g2, g3⟩ := ce q (r + 1) h1 h2
      refine ih h1 (by omega) (hS _ g1 h _ ((near_mem _ _ _).2 (.inr (.inl ⟨by omega, by push_cast; omega⟩))))
  have right : ∀ (q r : Nat), (q : Int) < l.rows → (r : Int) < l.cols → S ((q : Int) * l.cols + (0 : Nat)) → S ((q : Int) * l.cols + r) := by
    intro q r
    induction r with
    | zero => intro _ _ h; exact h
    | succ r ih =>
      intro h1 h2 h
      have h3 := ih h1 (by omega) h
      obtain ⟨g1, g2, g3⟩ := ce q r h1 (by omega)
      exact hS _ g1 h3 _ ((near_mem _ _ _).2 (.inr (.inr (.inl ⟨by omega, by push_cast; omega⟩))))
  have up : ∀ (q : Nat), (q : Int) < l.rows → S ((q : Int) * l.cols + (0 : Nat)) → S (((0 : Nat) : Int) * l.cols + (0 : Nat)) := by
    intro q
    induction q with
    | zero => intro _ h; exact h
    | succ q ih =>
      intro h1 h
      obtain ⟨g1, g2, g3⟩ := ce (q + 1) 0 h1 (by omega)
      refine ih (by omega) (hS _ g1 h _ ((near_mem _ _ _).2 (.inl ⟨by omega, ?_⟩)))
      push_cast
      rw [Int.add_mul]; omega
  have down : ∀ (q : Nat), (q : Int) < l.rows → S (((0 : Nat) : Int) * l.cols + (0 : Nat)) → S ((q : Int) * l.cols + (0 : Nat)) := by
    intro q
    induction q with
    | zero => intro _ h; exact h
    | succ q ih =>
      intro h1 h
      have h3 := ih (by omega) h
      obtain ⟨g1, g2, g3⟩ := ce q 0 (by omega) (by omega)
      refine hS _ g1 h3 _ ((near_mem _ _ _).2 (.inr (.inr (.inr ⟨by omega, ?_⟩))))
      push_cast
      rw [Int.add_mul]; omega
  have pos : ∀ x, inC l x → ∃ q r : Nat, (q : Int) < l.rows ∧ (r : Int) < l.cols ∧ x = (q : Int) * l.cols + r := by
    intro x hx
    have g := Cl.of2 hok hx
    have h1 := g.frm
    have h2 := g.fcm
    have h3 := g.feq
    refine ⟨(x / l.cols).toNat, (x % l.cols).toNat, by omega, by omega, ?_⟩
    rw [Int.toNat_of_nonneg h1.1, Int.toNat_of_nonneg h2.1]
    omega
  obtain ⟨q0, r0, a1, a2, a3⟩ := pos c hc
  rw [a3] at hSc
  have h00 := up q0 a1 (left q0 r0 a1 a2 hSc)
  intro x hx
  obtain ⟨q, r, b1, b2, b3⟩ := pos x hx
  rw [b3]
  exact right q r b1 b2 (down q b1 h00)
structure SpF (l : Ld) (fr out od : List Int) : Prop where
  len : out.length = l.hs.length
  odl : od.length = l.hs.length
  cel : ∀ x ∈ od, inC l x
  up : ∀ x, inC l x → ga l.hs x ≤ ga out x
  hi : ∀ x, inC l x → ga out x ≤ 2000
  fo : ∀ o ∈ fr, ga out o = ga l.hs o
  rx : ∀ x, inC l x → ∀ y ∈ near l x, ga out y ≤ mxI (ga out x) (ga l.hs y)
  on : ∀ x, inC l x → x ∈ fr ∨ ∃ b ∈ near l x, ga out b ≤ ga out x
  mn : ∀ T : Int → Int, (∀ o ∈ fr, T o ≤ ga l.hs o) → (∀ x y, inC l x → y ∈ near l x → T y ≤ mxI (T x) (ga l.hs y)) → ∀ x, inC l x → T x ≤ ga out x
  so : ∀ i, i + 1 < od.length → ga out (gi od i) ≤ ga out (gi od (i + 1))
theorem spE_F {l : Ld} (hok : okL l = true) {fr : List Int} (hfr : ∀ o ∈ fr, inC l o) (hne : fr ≠ []) : SpF l fr (spE l fr).out (spE l fr).od := by
  obtain ⟨h, _, _⟩ := spK_ok hok fr hfr l.hs.length
  have hop := spE_nil hok fr hfr
  change SpOk l fr (fun _ _ => True) (spE l fr) at h
  generalize spE l fr = a at *
  have hm : ∀ x, x ∈ a.op ++ a.od ↔ x ∈ a.od := fun x => by rw [hop, List.nil_append]
  obtain ⟨c, hc⟩ := List.exists_mem_of_ne_nil _ hne
  have hcl : ∀ x, inC l x → x ∈ a.od → ∀ y ∈ near l x, y ∈ a.od := fun x _ hx y hy => (hm y).1 (h.rx x hx y hy trivial).1
  have hall : ∀ x, inC l x → x ∈ a.od := all_cells hok _ hcl c (hfr c hc) ((hm c).1 (h.fo c hc).1)
  have hall' : ∀ x, inC l x → x ∈ a.op ++ a.od := fun x hx => (hm x).2 (hall x hx)
  have hodc : ∀ x ∈ a.od, inC l x := fun x hx => h.cel x ((hm x).2 hx)
  refine ⟨h.len, ?_, hodc, fun x hx => h.up x (hall' x hx), fun x hx => h.hi x (hall' x hx), fun o ho => ?_, fun x hx y hy => (h.rx x (hall x hx) y hy trivial).2, fun x hx => ?_, fun T h1 h2 x hx => h.mn T h1 h2 x (hall' x hx), h.so⟩
  · have hnd := h.nd
    rw [hop, List.nil_append] at hnd
    have e := usd_same l.hs.length a.od ((List.range l.hs.length).map fun (i : Nat) => (i : Int)) (fun x hx => by have : 0 ≤ x ∧ x ≤ (l.hs.length : Int) - 1 := hodc x hx; omega) (fun x hx => by
      simp only [List.mem_map, List.mem_range] at hx
      obtain ⟨i, hi, rfl⟩ := hx; omega) hnd (by
      have : (ixs l.hs.length fun _ => true) = (List.range l.hs.length).map fun (i : Nat) => (i : Int) := by
        unfold ixs
        congr 1
        exact List.filter_eq_self.2 fun _ _ => rfl
      rw [← this]
      exact ixs_nodup _ _) (fun x => by
      simp only [List.mem_map, List.mem_range]
      constructor
      · intro hx
        have : 0 ≤ x ∧ x ≤ (l.hs.length : Int) - 1 := hodc x hx
        exact ⟨x.toNat, by omega, by omega⟩
      · rintro ⟨i, hi, rfl⟩
        exact hall _ ⟨by omega, by omega⟩)
    simpa using e
  · have h1 := (h.fo o ho).2
    have h2 := h.up o (hall' o (hfr o ho))
    omega
  · rcases h.on x (hall' x hx) with h1 | ⟨b, hb, h1, h2⟩
    · exact .inl h1
    · exact .inr ⟨b, near_sym hok (hodc b hb) h1, h2⟩
/-- more outlets, no higher surfaces -/
theorem SpF.mono {l : Ld} {fr fr' out out' od od' : List Int} (h : SpF l fr out od) (h' : SpF l fr' out' od') (hs : ∀ o ∈ fr, o ∈ fr') (x : Int) (hx : inC l x) : ga out' x ≤ ga out x :=
  h.mn (ga out') (fun o ho => by rw [h'.fo o (hs o ho)]; exact Int.le_refl _) (fun x y hx hy => h'.rx x hx y hy) x hx
theorem SpF.sums {l : Ld} {fr fr' out out' od od' : List Int} (h : SpF l fr out od) (h' : SpF l fr' out' od') (hs : ∀ o ∈ fr, o ∈ fr') : sumI out' ≤ sumI out := by
  have key : ∀ k, k ≤ l.hs.length → sumI (out'.take k) ≤ sumI (out.take k) := by
    intro k
    induction k with
    | zero => intro _; simp [sumI_nil]
    | succ k ih =>
      intro hk
      rw [take_succ_gi out' k (by rw [h'.len]; omega), take_succ_gi out k (by rw [h.len]; omega), sumI_append, sumI_append, sumI_cons, sumI_nil, sumI_cons, sumI_nil]
      have h1 := ih (by omega)
      have h2 := h.mono h' hs (k : Int) ⟨by omega, by omega⟩
      simp only [ga, Int.toNat_natCast] at h2
      omega
  have := key l.hs.length (Nat.le_refl _)
  rwa [List.take_of_length_le (by rw [h'.len]; omega), List.take_of_length_le (by rw [h.len]; omega)] at this
theorem SpF.wsum {l : Ld} {fr out od : List Int} (hok : okL l = true) (hl : l.hs.length ≤ 144) (h : SpF l fr out od) : wsum out = sumI out ∧ wsum l.hs = sumI l.hs ∧ sumI l.hs ≤ sumI out ∧ (-288000 ≤ sumI out ∧ sumI out ≤ 288000) ∧ (-288000 ≤ sumI l.hs ∧ sumI l.hs ≤ 288000) := by
  have hb : ∀ x ∈ out, -2000 ≤ x ∧ x ≤ 2000 := fun x hx => by
    obtain ⟨i, hi, e⟩ := List.mem_iff_getElem.1 hx
    have h1 := h.up i ⟨by omega, by rw [h.len] at hi; omega⟩
    have h2 := h.hi i ⟨by omega, by rw [h.len] at hi; omega⟩
    have h3 := okL_h hok i (by rw [h.len] at hi; omega)
    simp only [ga, Int.toNat_natCast] at h1 h2
    rw [← e, ← gi_lt _ _ hi]
    omega
  have hh : ∀ x ∈ l.hs, -2000 ≤ x ∧ x ≤ 2000 := fun x hx => by
    obtain ⟨i, hi, e⟩ := List.mem_iff_getElem.1 hx
    have h3 := okL_h hok i hi
    rw [← e, ← gi_lt _ _ hi]
    omega
  have w1 := wsum_eq out 2000 (by omega) hb (by rw [h.len]; omega)
  have w2 := wsum_eq l.hs 2000 (by omega) hh (by omega)
  have hlen := h.len
  refine ⟨w1.1, w2.1, ?_, by omega, by omega⟩
  have key : ∀ k, k ≤ l.hs.length → sumI (l.hs.take k) ≤ sumI (out.take k) := by
    intro k
    induction k with
    | zero => intro _; simp [sumI_nil]
    | succ k ih =>
      intro hk
      rw [take_succ_gi l.hs k (by omega), take_succ_gi out k (by omega), sumI_append, sumI_append, sumI_cons, sumI_nil, sumI_cons, sumI_nil]
      have h1 := ih (by omega)
      have h2 := h.up (k : Int) ⟨by omega, by omega⟩
      simp only [ga, Int.toNat_natCast] at h2
      omega
  have := key l.hs.length (Nat.le_refl _)
  rwa [List.take_of_length_le (by omega), List.take_of_length_le (by omega)] at this
/-- the first cell is where the water comes from -/
theorem spK_hd {l : Ld} (hok : okL l = true) {c : Int} (hc : inC l c) : ∀ k, 1 ≤ k → gi (spK l [c] k).od 0 = c ∧ 1 ≤ (spK l [c] k).od.length
  | 0, h => by omega
  | 1, _ => by
    obtain ⟨h1, h2⟩ := spI_ok hok [c] (fun o ho => by rw [List.mem_singleton.1 ho]; exact hc)
    have hop : (spI l [c]).op = [c] := by simp [spI, spP]
    have hne : ¬ (spI l [c]).op = [] := by rw [hop]; simp
    have e1 : spK l [c] 1 = spN l (spI l [c]) := if_neg hne
    rw [e1]
    obtain ⟨g1, g2⟩ := spN_ok hok h1 (by rw [hop]; simp)
    have g3 := (spB_ok h1 (by rw [hop]; simp)).1
    rw [hop, List.mem_singleton] at g3
    rw [g2, h2, g3]
    exact ⟨rfl, by simp⟩
  | k + 2, _ => by
    obtain ⟨ih1, ih2⟩ := spK_hd hok hc (k + 1) (by omega)
    have h1 := (spK_ok hok [c] (fun o ho => by rw [List.mem_singleton.1 ho]; exact hc) (k + 1)).1
    rw [spK]
    split
    · exact ⟨ih1, ih2⟩
    · rename_i e
      obtain ⟨g1, g2⟩ := spN_ok hok h1 e
      rw [g2, gi_append_left _ _ _ (by omega), List.length_append]
      exact ⟨ih1, by omega⟩
theorem spE_hd {l : Ld} (hok : okL l = true) {c : Int} (hc : inC l c) : gi (spE l [c]).od 0 = c := (spK_hd hok hc l.hs.length (by have : 0 ≤ c ∧ c ≤ (l.hs.length : Int) - 1 := hc; omega)).1
/-- flooded cells are those whose surface lies below the level -/
theorem SpF.wet {l : Ld} (hok : okL l = true) {c lv : Int} (hc : inC l c) {out od : List Int} (h : SpF l [c] out od) (k : Nat) (hk : k < l.hs.length) : gb (wet l c lv) k = true ↔ gi out k < lv := by
  have hkc : inC l (k : Int) := ⟨by omega, by omega⟩
  have hfc := h.fo c (by simp)
  constructor
  · intro hw
    obtain ⟨h1, h2⟩ := (wet_iff hok hc k hk).1 hw
    have h3 : ∀ z ∈ (bfE l lv (off l) c).2, inC l z ∧ ga out z < lv := by
      intro z hz
      refine ⟨(bfK_ok hok hc (by simp) _).ins z hz, ?_⟩
      have := bfK_min (l := l) (lv := lv) (c := c) (s := off l) (S := fun z => inC l z ∧ ga out z < lv) ⟨hc, by rw [hfc]; exact h1⟩ (fun x hx y hy hlow => ⟨near_in l hok x hx.1 y hy, by
        have h4 := h.rx x hx.1 y hy
        have h5 := mxI_ge (ga out x) (ga l.hs y)
        have h6 := hx.2
        rcases h5.2.2 with e | e
        · omega
        · rw [e] at h4
          have : ga l.hs y < lv := hlow
          omega⟩) (l.hs.length + 1) z hz
      exact this.2
    have := (h3 k h2).2
    simpa [ga] using this
  · intro hlt
    by_cases hw : gb (Go.Proofs.Ythgjcanhemohfaa.wet l c lv) k = true
    · exact hw
    · exfalso
      have := h.mn (fun x => if gb (Go.Proofs.Ythgjcanhemohfaa.wet l c lv) x.toNat = true then -1000000 else lv) (fun o ho => ?_) (fun x y hx hy => ?_) k hkc
      · simp only [Int.toNat_natCast, hw, if_false, ga] at this
        simp at this
        omega
      · rw [List.mem_singleton.1 ho]
        have hcb : 0 ≤ c ∧ c ≤ (l.hs.length : Int) - 1 := hc
        have hh := okL_h hok c.toNat (by omega)
        show (if gb (Go.Proofs.Ythgjcanhemohfaa.wet l c lv) c.toNat = true then (-1000000 : Int) else lv) ≤ ga l.hs c
        split
        · simp only [ga]; omega
        · rename_i g
          by_cases e : ga l.hs c < lv
          · exfalso
            refine g ((wet_iff hok hc c.toNat (by omega)).2 ⟨e, ?_⟩)
            rw [show ((c.toNat : Nat) : Int) = c by omega]
            exact bfK_hd l lv (off l) c _
          · omega
      · have hy2 := near_in l hok x hx y hy
        have hxb : 0 ≤ x ∧ x ≤ (l.hs.length : Int) - 1 := hx
        have hyb : 0 ≤ y ∧ y ≤ (l.hs.length : Int) - 1 := hy2
        have hh := okL_h hok y.toNat (by omega)
        have h5 := fun a => mxI_ge a (ga l.hs y)
        show (if gb (Go.Proofs.Ythgjcanhemohfaa.wet l c lv) y.toNat = true then (-1000000 : Int) else lv) ≤ mxI (if gb (Go.Proofs.Ythgjcanhemohfaa.wet l c lv) x.toNat = true then (-1000000 : Int) else lv) (ga l.hs y)
        have hyv : -2000 ≤ ga l.hs y := hh.1
        split
        · have := (h5 (if gb (Go.Proofs.Ythgjcanhemohfaa.wet l c lv) x.toNat = true then (-1000000 : Int) else lv)).2.1
          omega
        · rename_i gy
          split
          · rename_i gx
            by_cases e : ga l.hs y < lv
            · exfalso
              obtain ⟨k1, k2⟩ := (wet_iff hok hc x.toNat (by omega)).1 gx
              refine gy ((wet_iff hok hc y.toNat (by omega)).2 ⟨k1, ?_⟩)
              rw [show ((x.toNat : Nat) : Int) = x by omega] at k2
              rw [show ((y.toNat : Nat) : Int) = y by omega]
              exact bfE_cl hok hc x k2 y hy e
            · have := (h5 (-1000000)).2.1
              omega
          · exact (h5 lv).1
end Go.Proofs.Ythgjcanhemohfaa
