/-
  AG, part W: what a law's argument of any type of numbers, slices and structs reads as. Conditions: none.
-/
import Derived.Test.YtjgjnedenapemaaGreatDoorAgZ
import Derived.ChangeSlices
import Derived.WideShapes
set_option linter.unusedSimpArgs false
set_option linter.unusedVariables false
namespace Go.AG
open Go.RowKit

def noX : Nat → Prop := fun _ => False
/-- whatever treads as type t is m cells that read as G says -/
def Rd (P : Program) (t : TypeId) (m : Nat) (G : List V → Prop) : Prop :=
  ∀ (H : Type) (enc : TypeId × Value → H) (w : World) (fuel : Nat) (cs : List Value) (x : DataW H × List MemPlace),
    DataW.trod enc P w 0 (fun _ => true) true fuel t cs = some x → ∃ xs, G xs ∧ xs.length = m ∧ cs.length = m ∧ ∀ i (h : i < xs.length), RepD w noX (cs.getD i undef) xs[i]
def RdF (P : Program) (fs : List Field) (off m : Nat) (G : List V → Prop) : Prop :=
  ∀ (H : Type) (enc : TypeId × Value → H) (w : World) (n : Nat) (cs : List Value), off + m ≤ cs.length →
    (∀ f ∈ fs, ∃ x, DataW.trod enc P w 0 (fun _ => true) true n f.type ((cs.drop f.offset).take (P.cellsOf f.type)) = some x) →
    ∃ xs, G xs ∧ xs.length = m ∧ ∀ i (h : i < xs.length), RepD w noX (cs.getD (off + i) undef) xs[i]

variable {P : Program}

theorem Rd.mono {t : TypeId} {m : Nat} {G G' : List V → Prop} (h : Rd P t m G) (hg : ∀ xs, G xs → G' xs) : Rd P t m G' := by
  intro H enc w fuel cs x hx
  obtain ⟨xs, h1, h2⟩ := h H enc w fuel cs x hx
  exact ⟨xs, hg _ h1, h2⟩

theorem Rd.int {t : TypeId} {k : IntKind} (ht : P.underlying t = some (.int k)) : Rd P t 1 (fun xs => ∃ n, (Lit.int k n).wf = true ∧ xs = [.sc (.int k n)]) := by
  intro H enc w fuel cs x hx
  obtain ⟨n, rfl, _, hw⟩ := DataW.trod_int ht hx
  refine ⟨_, ⟨n, hw, rfl⟩, rfl, rfl, fun i hi => ?_⟩
  match i, hi with
  | 0, _ => exact .sc _

theorem cells_get {w : World} {a : Addr} {n : Nat} {cs : List Value} (h : w.cells? 0 a n = some cs) : cs.length = n ∧ ∀ i, i < n → w.cell? (a.add i) = cs[i]? := by
  unfold World.cells? at h
  rw [if_pos (Nat.zero_le _)] at h
  refine ⟨by simpa using mapM_some_length h, fun i hi => mapM_some_get h i i (by simp [hi])⟩

theorem cell_spot {w : World} {a : Addr} {c : Value} (h : w.cell? a = some c) : a.spot = none := by
  cases hs : a.spot with
  | none => rfl
  | some q => simp [World.cell?, hs] at h; split at h <;> simp at h

theorem flat_at (chunks : List (List V)) (m : Nat) (hm : ∀ c ∈ chunks, c.length = m) : chunks.flatten.length = chunks.length * m ∧ ∀ i j, i < chunks.length → j < m → chunks.flatten[i * m + j]? = (chunks.getD i [])[j]? := by
  induction chunks with
  | nil => simp
  | cons c cs ih =>
    have h1 := hm c (by simp)
    obtain ⟨h2, h3⟩ := ih (fun c hc => hm c (by simp [hc]))
    refine ⟨by simp only [List.flatten_cons, List.length_append, h1, h2, List.length_cons, Nat.add_mul, Nat.one_mul]; omega, fun i j hi hj => ?_⟩
    cases i with
    | zero => simp only [List.flatten_cons, Nat.zero_mul, Nat.zero_add]; rw [List.getElem?_append_left (by omega)]; simp
    | succ i =>
      simp only [List.flatten_cons, Nat.add_mul, Nat.one_mul]
      rw [List.getElem?_append_right (by omega), show i * m + m + j - c.length = i * m + j from by omega, h3 i j (by simpa using hi) hj]
      simp

theorem pick_chunks {α : Type} {p : Nat → α → Prop} : ∀ (n : Nat), (∀ i, i < n → ∃ c, p i c) → ∃ L : List α, L.length = n ∧ ∀ i (h : i < L.length), p i L[i]
  | 0, _ => ⟨[], rfl, fun i h => absurd h (by simp)⟩
  | n + 1, h => by
    obtain ⟨L, h1, h2⟩ := pick_chunks n (fun i hi => h i (by omega))
    obtain ⟨c, hc⟩ := h n (by omega)
    refine ⟨L ++ [c], by simp [h1], fun i hi => ?_⟩
    by_cases e : i < L.length
    · rw [List.getElem_append_left e]; exact h2 i e
    · have : i = n := by simp at hi; omega
      subst this
      rw [List.getElem_append_right (by omega)]
      simpa [h1] using hc

theorem Rd.sl {t e : TypeId} {m : Nat} {G : List V → Prop} (ht : P.underlying t = some (.slice e)) (hc : P.cellsOf e = m) (hm : 0 < m) (he : Rd P e m G) :
    Rd P t 1 (fun xs => ∃ chunks : List (List V), (chunks.length ≤ 9223372036854775807 ∧ ∀ c ∈ chunks, G c ∧ c.length = m) ∧ xs = [.sl chunks.length chunks.flatten]) := by
  intro H enc w fuel cs x hx
  rcases DataW.trod_slice ht hx with ⟨rfl, _⟩ | ⟨a, len, cap, elems, rest, n, _, rfl, _, _, hl, hcap, hlen, hel, hsp, _⟩
  · refine ⟨_, ⟨[], ⟨by simp, by simp⟩, rfl⟩, rfl, rfl, fun i hi => ?_⟩
    match i, hi with
    | 0, _ => exact .nil
  · rw [hc] at hel hsp
    have hchunk : ∀ i, i < len → ∃ c : List V, (G c ∧ c.length = m) ∧ ∃ cs : List Value, w.cells? 0 (a.add (i * m)) m = some cs ∧ ∀ j (h : j < c.length), RepD w noX (cs.getD j undef) c[j] := by
      intro i hi
      have h1 := hel i hi
      rw [List.getElem?_eq_getElem (by omega)] at h1
      simp only [Option.bind_eq_some_iff] at h1
      obtain ⟨cs, h2, h3⟩ := h1
      obtain ⟨xs, g1, g2, g3, g4⟩ := he H enc w n cs _ h3
      exact ⟨xs, ⟨g1, g2⟩, cs, h2, g4⟩
    obtain ⟨chunks, k1, k2⟩ := pick_chunks len hchunk
    have hG : ∀ c ∈ chunks, G c ∧ c.length = m := by
      intro c hc
      obtain ⟨i, hi, rfl⟩ := List.mem_iff_getElem.1 hc
      exact (k2 i hi).1
    refine ⟨_, ⟨chunks, ⟨by rw [k1]; unfold maxLen at hcap; omega, hG⟩, rfl⟩, rfl, rfl, fun i hi => ?_⟩
    match i, hi with
    | 0, _ =>
      show RepD w noX (.slice (some a) len cap) (.sl chunks.length chunks.flatten)
      obtain ⟨f1, f2⟩ := flat_at chunks m (fun c hc => (hG c hc).2)
      by_cases h0 : cap = 0
      · subst h0
        have : chunks = [] := List.eq_nil_of_length_eq_zero (by omega)
        subst this
        have : len = 0 := by omega
        subst this
        exact .sl0 a
      have hspot : a.spot = none := by
        have : ∃ cs, w.cells? 0 a m = some cs := by
          by_cases h1 : 0 < len
          · obtain ⟨_, cs, h2, _⟩ := k2 0 (by omega)
            exact ⟨cs, by simpa [Addr.add] using h2⟩
          · obtain ⟨r1, r2⟩ := hsp rfl
            have h2 := r2 0 (by omega)
            rw [List.getElem?_eq_getElem (by omega)] at h2
            simp only [Option.bind_eq_some_iff] at h2
            obtain ⟨cs, h3, _⟩ := h2
            exact ⟨cs, by simpa [Addr.add, show len = 0 by omega] using h3⟩
        obtain ⟨cs, h2⟩ := this
        obtain ⟨h3, h4⟩ := cells_get h2
        have h5 := h4 0 hm
        rw [List.getElem?_eq_getElem (by omega)] at h5
        simpa [Addr.add] using cell_spot h5
      obtain ⟨b, o, sp⟩ := a
      simp only at hspot
      subst hspot
      rw [← k1]
      have hcell : ∀ q, q < chunks.flatten.length → ∃ v, w.cell? ⟨b, o + q, none⟩ = some v ∧ ∀ (h : q < chunks.flatten.length), RepD w noX v chunks.flatten[q] := by
        intro q hq
        have e1 : q / m * m + q % m = q := by rw [Nat.mul_comm]; exact Nat.div_add_mod q m
        have hmod := Nat.mod_lt q hm
        have hdiv : q / m < chunks.length := by
          rw [Nat.div_lt_iff_lt_mul hm]; omega
        obtain ⟨⟨_, c1⟩, cs, c2, c3⟩ := k2 (q / m) hdiv
        obtain ⟨d1, d2⟩ := cells_get c2
        have d3 := d2 (q % m) hmod
        have c4 := c3 (q % m) (by omega)
        have e2 : (cs.getD (q % m) undef) = cs[q % m]'(by omega) := by simp [List.getD, d1, hmod]
        rw [e2] at c4
        rw [List.getElem?_eq_getElem (by omega)] at d3
        refine ⟨cs[q % m]'(by omega), ?_, fun h => ?_⟩
        · have : (Addr.add (Addr.add ⟨b, o, none⟩ (q / m * m)) (q % m)) = ⟨b, o + q, none⟩ := by
            unfold Addr.add
            by_cases z1 : q / m * m = 0 <;> by_cases z2 : q % m = 0 <;> simp [z1, z2] <;> omega
          rw [this] at d3
          exact d3
        · have f3 := f2 (q / m) (q % m) hdiv hmod
          rw [e1, List.getElem?_eq_getElem h] at f3
          have : (chunks.getD (q / m) [])[q % m]? = some (chunks[q / m][q % m]'(by omega)) := by
            rw [show chunks.getD (q / m) [] = chunks[q / m] from by simp [List.getD, hdiv]]
            exact List.getElem?_eq_getElem (by omega)
          rw [this] at f3
          rw [Option.some.inj f3]
          exact c4
      refine .sl (fun q => (w.cell? ⟨b, o + q, none⟩).getD undef) (fun q hq => ?_) (fun q hq => ?_) (fun _ h => h) (by omega)
      · obtain ⟨v, h1, _⟩ := hcell q hq
        simp [h1]
      · obtain ⟨v, h1, h2⟩ := hcell q hq
        simp only [h1, Option.getD_some]
        exact h2 hq

theorem RdF.nil (off : Nat) : RdF P [] off 0 (fun xs => xs = []) := fun _ _ _ _ _ _ _ => ⟨[], rfl, rfl, fun i h => absurd h (by simp)⟩
theorem RdF.cons {f : Field} {fs : List Field} {off m1 m2 : Nat} {G1 G2 : List V → Prop} (h1 : Rd P f.type m1 G1) (ho : f.offset = off) (hc : P.cellsOf f.type = m1) (h2 : RdF P fs (off + m1) m2 G2) :
    RdF P (f :: fs) off (m1 + m2) (fun xs => ∃ a b, G1 a ∧ G2 b ∧ xs = a ++ b) := by
  intro H enc w n cs hl hf
  obtain ⟨x, hx⟩ := hf f (by simp)
  obtain ⟨a, a1, a2, a3, a4⟩ := h1 H enc w n _ x hx
  obtain ⟨b, b1, b2, b3⟩ := h2 H enc w n cs (by omega) (fun g hg => hf g (by simp [hg]))
  refine ⟨a ++ b, ⟨a, b, a1, b1, rfl⟩, by simp [a2, b2], fun i hi => ?_⟩
  by_cases e : i < a.length
  · rw [List.getElem_append_left e]
    have := a4 i e
    have e2 : ((cs.drop f.offset).take (P.cellsOf f.type)).getD i undef = cs.getD (off + i) undef := by
      simp only [List.getD, List.getElem?_take, List.getElem?_drop, ho, hc]
      rw [if_pos (by omega)]
    rwa [e2] at this
  · rw [List.getElem_append_right (by omega)]
    have := b3 (i - a.length) (by simp at hi; omega)
    rwa [show off + m1 + (i - a.length) = off + i from by omega] at this
theorem Rd.struct {t : TypeId} {fs : Array Field} {m : Nat} {G : List V → Prop} (ht : P.underlying t = some (.struct fs)) (hc : P.cellsOf t = m) (hf : RdF P fs.toList 0 m G) : Rd P t m G := by
  intro H enc w fuel cs x hx
  obtain ⟨xs, n, _, _, hl, hs, hg⟩ := DataW.trod_struct ht hx
  obtain ⟨ys, y1, y2, y3⟩ := hf H enc w n cs (by omega) (fun f hf => by
    obtain ⟨i, hi, rfl⟩ := List.mem_iff_getElem.1 hf
    have hi2 : i < fs.size := by simpa using hi
    have := hg i fs[i] (by simp [hi2])
    rw [List.getElem?_eq_getElem (by omega)] at this
    exact ⟨_, by simpa using this⟩)
  exact ⟨ys, y1, y2, by omega, fun i hi => by simpa using y3 i hi⟩

theorem Rd.one {t : TypeId} {G : List V → Prop} (h : Rd P t 1 G) {H : Type} {enc : TypeId × Value → H} {w : World} {v : Value} {d : DataW H} {ps : List MemPlace} (hd : DataW.Trod enc P w 0 (fun _ => true) true t v d ps) (hv : v.cells = #[v]) :
    ∃ x, G [x] ∧ RepC w noX (fun _ => ⟨0, 0, 0⟩) [] v x := by
  obtain ⟨fuel, hf⟩ := hd
  obtain ⟨xs, h1, h2, h3, h4⟩ := h H enc w fuel _ _ hf
  match xs, h2 with
  | [x], _ =>
    refine ⟨x, h1, .d ?_⟩
    have := h4 0 (by simp)
    rw [hv] at this
    simpa using this
theorem Rd.agg {t : TypeId} {m : Nat} {G : List V → Prop} (h : Rd P t m G) {H : Type} {enc : TypeId × Value → H} {w : World} {cs : Array Value} {d : DataW H} {ps : List MemPlace} (hd : DataW.Trod enc P w 0 (fun _ => true) true t (.agg cs) d ps) :
    ∃ xs, G xs ∧ RepC w noX (fun _ => ⟨0, 0, 0⟩) [] (.agg cs) (.agg xs) := by
  obtain ⟨fuel, hf⟩ := hd
  obtain ⟨xs, h1, h2, h3, h4⟩ := h H enc w fuel _ _ hf
  refine ⟨xs, h1, .agg (by simp [Value.cells] at h3; omega) fun i hi => .d ?_⟩
  have := h4 i hi
  rw [show (Value.agg cs).cells.toList.getD i undef = cs.getD i undef from by simp [Value.cells, List.getD, Array.getD_eq_getD_getElem?]] at this
  exact this
theorem chunks_of {α : Type} (f : α → List V) {q : α → Prop} : ∀ (chunks : List (List V)), (∀ c ∈ chunks, ∃ d, q d ∧ c = f d) → ∃ ds : List α, ds.length = chunks.length ∧ (∀ d ∈ ds, q d) ∧ chunks.flatten = ds.flatMap f
  | [], _ => ⟨[], rfl, by simp, rfl⟩
  | c :: cs, h => by
    obtain ⟨ds, h1, h2, h3⟩ := chunks_of f cs (fun c hc => h c (by simp [hc]))
    obtain ⟨d, hd, e⟩ := h c (by simp)
    refine ⟨d :: ds, by simp [h1], fun x hx => ?_, by rw [List.flatten_cons, List.flatMap_cons, h3, e]⟩
    rcases List.mem_cons.1 hx with rfl | hx
    · exact hd
    · exact h2 x hx
theorem Rd.slOf {α : Type} (f : α → List V) {q : α → Prop} {t e : TypeId} {m : Nat} (ht : P.underlying t = some (.slice e)) (hc : P.cellsOf e = m) (hm : 0 < m) (he : Rd P e m (fun c => ∃ d, q d ∧ c = f d)) :
    Rd P t 1 (fun xs => ∃ ds : List α, (ds.length ≤ 9223372036854775807 ∧ ∀ d ∈ ds, q d) ∧ xs = [.sl ds.length (ds.flatMap f)]) :=
  (Rd.sl ht hc hm he).mono fun xs ⟨chunks, ⟨h0, h1⟩, h2⟩ => by
    obtain ⟨ds, g1, g2, g3⟩ := chunks_of f chunks (fun c hc => (h1 c hc).1)
    exact ⟨ds, ⟨by omega, g2⟩, by rw [h2, g1, g3]⟩
/-- what an argument reads as -/
def Rdr (P : Program) (t : TypeId) {α : Type} (f : α → V) (q : α → Prop) : Prop :=
  ∀ (H : Type) (enc : TypeId × Value → H) (w : World) (v : Value) (d : DataW H) (ps : List MemPlace), Value.okWide P w .any 0 t v → DataW.Trod enc P w 0 (fun _ => true) true t v d ps → ∃ x, q x ∧ RepC w (fun _ => False) (fun _ => ⟨0, 0, 0⟩) [] v (f x)
theorem Rdr.int {t : TypeId} {k : IntKind} (ht : P.underlying t = some (.int k)) : Rdr P t (fun n => .sc (.int k n)) (fun n => (Lit.int k n).wf = true) := by
  intro H enc w v d ps hv hd
  obtain ⟨n, rfl, _, _, hw⟩ := ChangeShapes.open_int ht hv hd
  exact ⟨n, hw, .d (.sc _)⟩
theorem Rdr.slice {α : Type} {t e : TypeId} {f : α → V} {q : α → Prop} (ht : P.underlying t = some (.slice e)) (h : Rd P t 1 (fun xs => ∃ x, q x ∧ xs = [f x])) : Rdr P t f q := by
  intro H enc w v d ps hv hd
  obtain ⟨a, len, cap, rfl⟩ := WideShapes.okWide_slice ht hv
  obtain ⟨x, ⟨y, hy, e⟩, hr⟩ := h.one hd rfl
  obtain rfl : x = f y := by simpa using e
  exact ⟨y, hy, hr⟩
theorem Rdr.struct {α : Type} {t : TypeId} {m : Nat} {fs : Array Field} {f : α → List V} {q : α → Prop} (ht : P.underlying t = some (.struct fs)) (h : Rd P t m (fun xs => ∃ x, q x ∧ xs = f x)) : Rdr P t (fun x => .agg (f x)) q := by
  intro H enc w v d ps hv hd
  obtain ⟨cs, rfl, _⟩ := WideShapes.okWide_struct ht hv
  obtain ⟨xs, ⟨y, hy, rfl⟩, hr⟩ := h.agg hd
  exact ⟨y, hy, hr⟩
theorem fm_ints (ys : List Int) : (ys.flatMap fun n => [V.sc (.int .i64 n)]) = ints ys := by
  induction ys with
  | nil => rfl
  | cons y ys ih => rw [List.flatMap_cons, ih]; rfl
theorem fm_bts (ys : List Int) : (ys.flatMap fun n => [V.sc (.int .u8 n)]) = bts ys := by
  induction ys with
  | nil => rfl
  | cons y ys ih => rw [List.flatMap_cons, ih]; rfl
theorem Rd.ints {t e : TypeId} (ht : P.underlying t = some (.slice e)) (he : P.underlying e = some (.int .i64)) (hc : P.cellsOf e = 1) : Rd P t 1 (fun xs => ∃ ys : List Int, ys.length ≤ 9223372036854775807 ∧ xs = [iS ys]) :=
  (Rd.slOf (fun n => [V.sc (.int .i64 n)]) (q := fun _ => True) ht hc (by omega) ((Rd.int he).mono fun xs ⟨n, _, e⟩ => ⟨n, trivial, e⟩)).mono fun xs ⟨ds, h, e⟩ => ⟨ds, h.1, by rw [e, AG.fm_ints]; rfl⟩
theorem Rd.bytes {t e : TypeId} (ht : P.underlying t = some (.slice e)) (he : P.underlying e = some (.int .u8)) (hc : P.cellsOf e = 1) : Rd P t 1 (fun xs => ∃ ys : List Int, (ys.length ≤ 9223372036854775807 ∧ bOk ys) ∧ xs = [bS ys]) :=
  (Rd.slOf (fun n => [V.sc (.int .u8 n)]) (q := fun n => (Lit.int .u8 n).wf = true) ht hc (by omega) ((Rd.int he).mono fun xs ⟨n, h, e⟩ => ⟨n, h, e⟩)).mono fun xs ⟨ds, h, e⟩ => ⟨ds, ⟨h.1, fun i hi => by
    have := h.2 _ (gi_mem ds i hi)
    simp [Lit.wf] at this
    have e1 : IntKind.u8.min = 0 := rfl
    have e2 : IntKind.u8.max = 255 := rfl
    omega⟩, by rw [e, AG.fm_bts]; rfl⟩
end Go.AG
