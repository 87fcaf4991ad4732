/- strings.Replacer: build, for three letters that are left out; strings.Replacer: Replace of a short text, three letters left out -/
import Derived.Test.YtjgjnedenapemaaGreatDoorRp2
import Derived.LoopN
import Derived.Lib.SliceRun
import Derived.WalkSpells
set_option linter.unusedVariables false
set_option linter.unusedSimpArgs false
namespace Go.Proofs.YtjgjnedenapemaaGreatDoor
open Go Go.RowKit Go.Proofs Go.AG

theorem mk3 (w : World) : (Instr.makeSlice 62 (.int .i64 0) (.int .i64 3)).run Tryz.prog w = .ok (.slice (some ⟨w.heap.size, 0, none⟩) 0 3) (w.alloc (.cells #[.string (tx []), .string (tx []), .string (tx [])] 9)) := by
  obtain ⟨i, hi, hz, hs, hb⟩ : ∃ i, Tryz.prog.info? 9 = some i ∧ i.zero = some (.string (tx [])) ∧ i.size = 1 ∧ i.bytes = 16 := by
    have h : (Tryz.prog.info? 9).map (fun i => (i.zero, i.size, i.bytes)) = some (some (.string (tx [])), 1, 16) := by kernel_rfl
    cases e : Tryz.prog.info? 9 with
    | none => rw [e] at h; cases h
    | some i =>
      rw [e] at h
      simp only [Option.map_some, Option.some.injEq, Prod.mk.injEq] at h
      exact ⟨i, rfl, h.1, h.2.1, h.2.2⟩
  have h := run_makeSlice (P := Tryz.prog) (w := w) 62 9 i (.string (tx [])) Tryz.underlying62 hi hz .i64 .i64 0 3 (by omega) (by omega) (by rw [hs]; decide) (by rw [hb]; decide) (by omega)
  rw [h, hs]
  exact congrArg (fun c => Result.ok _ (w.alloc (.cells c 9))) (by kernel_rfl)
theorem zc_size : Tryz.zeroCells184.size = 257 := by kernel_rfl
theorem zc_get (k : Nat) (h : k < 257) : Tryz.zeroCells184[k]? = some (.slice none 0 0) := by
  have e : Tryz.zeroCells184 = Array.replicate 257 (.slice none 0 0) := by kernel_rfl
  rw [e]
  simp [h]
theorem below_setCells {B : Nat} {a : World} (b : Nat) (hb : B ≤ b) : ∀ (vs : List Value) (o : Nat) {w : World}, Below B a w → Below B a (w.setCells b o vs)
  | [], _, _, h => h
  | v :: r, o, _, h => below_setCells b hb r (o + 1) (h.setCell hb v)
theorem size_setCells (b : Nat) : ∀ (vs : List Value) (o : Nat) (w : World), (w.setCells b o vs).heap.size = w.heap.size
  | [], _, _ => rfl
  | v :: r, o, w => by rw [World.setCells, size_setCells b r]; simp
noncomputable def rcL (T : Nat) : List Value := Tryz.zeroCells184.toList.set 256 (.slice (some ⟨T, 0, none⟩) 0 3)
theorem rcL_len (T : Nat) : (rcL T).length = 257 := by simp [rcL, zc_size]
theorem rcL_get (T k : Nat) (h : k < 257) : (rcL T)[k]'(by rw [rcL_len]; exact h) = if k = 256 then .slice (some ⟨T, 0, none⟩) 0 3 else .slice none 0 0 := by
  have := zc_get k h
  have h2 : k < Tryz.zeroCells184.size := by rw [zc_size]; exact h
  rw [Array.getElem?_eq_getElem h2, Option.some.injEq] at this
  simp only [rcL, List.getElem_set, Array.getElem_toList, this]
  by_cases e : k = 256
  · simp [e]
  · rw [if_neg (fun h => e h.symm), if_neg e]
theorem stZ (w : World) (A : Array Value) : (storeCells ⟨w.heap.size + 1, 0, none⟩ (Tryz.zeroCells184.toList.set 256 (.slice (some ⟨w.heap.size, 0, none⟩) 0 3))).run Tryz.prog ((w.alloc (.cells A 9)).alloc (.cells Tryz.zeroCells184 184)) =
    .ok () (((w.alloc (.cells A 9)).alloc (.cells Tryz.zeroCells184 184)).setCells (w.heap.size + 1) 0 (rcL w.heap.size)) := by
  refine run_storeCells_cells (P := Tryz.prog) (w.heap.size + 1) 0 (rcL w.heap.size) 0 _ (fun j hj => ?_) (fun j hj => ?_) (fun v hv => ?_)
  · rw [rcL_len] at hj
    rw [World.cell?_alloc_at _ _ _ _ (by simp), zc_get _ (by omega)]
    rfl
  · exact World.frozen?_alloc_at _ _ _ _ (by simp)
  · obtain ⟨k, hk, rfl⟩ := List.getElem_of_mem hv
    rw [rcL_get _ _ (by rw [rcL_len] at hk; exact hk)]
    split <;> rfl
/-- what stands behind some of the rounds: S the letters done -/
structure BI (w0 : World) (S : List UInt8) (wr : World) : Prop where
  bel : Below w0.heap.size w0 wr
  sz : w0.heap.size + 1 < wr.heap.size
  top : wr.cell? ⟨w0.heap.size + 1, 256, none⟩ = some (.slice (some ⟨w0.heap.size, 0, none⟩) S.length 3)
  nil : ∀ k, k < 256 → (∀ c ∈ S, c.toNat ≠ k) → wr.cell? ⟨w0.heap.size + 1, k, none⟩ = some (.slice none 0 0)
  has : ∀ c ∈ S, ∃ a n, wr.cell? ⟨w0.heap.size + 1, c.toNat, none⟩ = some (.slice (some a) 0 n)
  row : ∀ j (h : j < S.length), wr.cell? ⟨w0.heap.size, j, none⟩ = some (.string (tx [S[j]]))
  thr : ∀ j, j < 3 → (wr.cell? ⟨w0.heap.size, j, none⟩).isSome = true ∧ wr.frozen? ⟨w0.heap.size, j, none⟩ = false
  frR : ∀ k, k < 257 → wr.frozen? ⟨w0.heap.size + 1, k, none⟩ = false
theorem BI.start (w : World) : BI w [] (((w.alloc (.cells #[.string (tx []), .string (tx []), .string (tx [])] 9)).alloc (.cells Tryz.zeroCells184 184)).setCells (w.heap.size + 1) 0 (rcL w.heap.size)) := by
  have hin : ∀ k, k < 257 → (((w.alloc (.cells #[.string (tx []), .string (tx []), .string (tx [])] 9)).alloc (.cells Tryz.zeroCells184 184)).setCells (w.heap.size + 1) 0 (rcL w.heap.size)).cell? ⟨w.heap.size + 1, k, none⟩ = some (if k = 256 then .slice (some ⟨w.heap.size, 0, none⟩) 0 3 else .slice none 0 0) := by
    intro k hk
    have := World.cell?_setCells_in (w.heap.size + 1) (rcL w.heap.size) 0 ((w.alloc (.cells #[.string (tx []), .string (tx []), .string (tx [])] 9)).alloc (.cells Tryz.zeroCells184 184)) (fun j hj => ?_) k (by rw [rcL_len]; exact hk)
    · rw [Nat.zero_add, rcL_get _ _ hk] at this
      exact this
    · rw [rcL_len] at hj
      rw [World.cell?_alloc_at _ _ _ _ (by simp), zc_get _ (by omega)]
      rfl
  have hT : ∀ j, (((w.alloc (.cells #[.string (tx []), .string (tx []), .string (tx [])] 9)).alloc (.cells Tryz.zeroCells184 184)).setCells (w.heap.size + 1) 0 (rcL w.heap.size)).cell? ⟨w.heap.size, j, none⟩ = #[Value.string (tx []), .string (tx []), .string (tx [])][j]? := by
    intro j
    rw [World.cell?_setCells_out _ _ _ _ _ (fun h => absurd h (by simp)), World.cell?_alloc_past _ _ _ (by simp), World.cell?_alloc_at _ _ _ _ rfl]
  exact
  { bel := below_setCells _ (by omega) _ _ (((Below.refl _ _).alloc (Nat.le_refl _) _).alloc (by simp) _)
    sz := by rw [size_setCells]; simp
    top := by rw [hin 256 (by omega)]; rfl
    nil := fun k hk _ => by rw [hin k (by omega), if_neg (by omega)]
    has := fun c h => by simp at h
    row := fun j h => by simp at h
    thr := fun j h => by
      refine ⟨?_, ?_⟩
      · rw [hT]
        match j, h with
        | 0, _ => rfl
        | 1, _ => rfl
        | 2, _ => rfl
      · rw [World.frozen?_setCells, World.frozen?_alloc_past _ _ _ (by simp), World.frozen?_alloc_at _ _ _ _ rfl]
    frR := fun k _ => by rw [World.frozen?_setCells, World.frozen?_alloc_at _ _ _ _ (by simp)] }
theorem sc_same (w : World) (p : Addr) (v : Value) (h : (w.cell? p).isSome = true) : (w.setCell p v).cell? p = some v := by
  obtain ⟨u, hu⟩ := Option.isSome_iff_exists.1 h
  exact World.cell?_setCell_same w p _ hu
theorem sc_far (w : World) (p a : Addr) (v : Value) (h : p ≠ a) : (w.setCell p v).cell? a = w.cell? a := World.cell?_setCell_other w p a v h
theorem BI.step {w wr : World} {S : List UInt8} (h : BI w S wr) (x : UInt8) (hx : x ∉ S) (hl : S.length < 3) (a : Addr) (n : Nat) (O1 O2 O3 : Obj) :
    BI w (S ++ [x]) (((((((wr.setCell ⟨w.heap.size, S.length, none⟩ (.string (tx [x]))).setCell ⟨w.heap.size + 1, 256, none⟩ (.slice (some ⟨w.heap.size, 0, none⟩) (S.length + 1) 3)).setCell ⟨w.heap.size + 1, x.toNat, none⟩ (.slice (some a) 0 n)).alloc O1).alloc O2).alloc O3).drew) := by
  obtain ⟨bel, sz, top, nil, has, row, thr, frR⟩ := h
  have hx256 : x.toNat < 256 := x.toNat_lt
  have hne : ∀ c ∈ S, c.toNat ≠ x.toNat := fun c hc e => hx (by rw [← UInt8.toNat_inj.1 e]; exact hc)
  generalize hZ : ((wr.setCell ⟨w.heap.size, S.length, none⟩ (.string (tx [x]))).setCell ⟨w.heap.size + 1, 256, none⟩ (.slice (some ⟨w.heap.size, 0, none⟩) (S.length + 1) 3)).setCell ⟨w.heap.size + 1, x.toNat, none⟩ (.slice (some a) 0 n) = Z
  have hZs : Z.heap.size = wr.heap.size := by rw [← hZ]; simp
  have hc : ∀ b i, b < wr.heap.size → (((Z.alloc O1).alloc O2).alloc O3).drew.cell? ⟨b, i, none⟩ = Z.cell? ⟨b, i, none⟩ := fun b i hb => by
    rw [World.cell?_drew, World.cell?_alloc_past _ _ _ (by simp [hZs]; omega), World.cell?_alloc_past _ _ _ (by simp [hZs]; omega), World.cell?_alloc_past _ _ _ (by omega)]
  have hf : ∀ b i, b < wr.heap.size → (((Z.alloc O1).alloc O2).alloc O3).drew.frozen? ⟨b, i, none⟩ = wr.frozen? ⟨b, i, none⟩ := fun b i hb => by
    rw [World.frozen?_drew, World.frozen?_alloc_past _ _ _ (by simp [hZs]; omega), World.frozen?_alloc_past _ _ _ (by simp [hZs]; omega), World.frozen?_alloc_past _ _ _ (by omega), ← hZ, World.frozen?_setCell, World.frozen?_setCell, World.frozen?_setCell]
  have zR : ∀ k, k < 257 → Z.cell? ⟨w.heap.size + 1, k, none⟩ = if k = x.toNat then some (.slice (some a) 0 n) else if k = 256 then some (.slice (some ⟨w.heap.size, 0, none⟩) (S.length + 1) 3) else wr.cell? ⟨w.heap.size + 1, k, none⟩ := by
    intro k hk
    have e0 : (wr.cell? ⟨w.heap.size + 1, x.toNat, none⟩).isSome = true := by rw [nil x.toNat hx256 hne]; rfl
    have e1 : (wr.cell? ⟨w.heap.size + 1, 256, none⟩).isSome = true := by rw [top]; rfl
    rw [← hZ]
    have n1 : ∀ (i j k : Nat), (⟨w.heap.size, i, none⟩ : Addr) ≠ ⟨w.heap.size + 1, j, none⟩ := fun i j k h => by simp at h
    have n2 : ∀ (i j : Nat), i ≠ j → (⟨w.heap.size + 1, i, none⟩ : Addr) ≠ ⟨w.heap.size + 1, j, none⟩ := fun i j h e => h (Addr.mk.inj e).2.1
    by_cases h1 : k = x.toNat
    · rw [if_pos h1, h1, sc_same]
      rw [sc_far _ _ _ _ (n2 _ _ (by omega)), sc_far _ _ _ _ (n1 _ _ 0)]
      exact e0
    · rw [if_neg h1, sc_far _ _ _ _ (n2 _ _ (by omega))]
      by_cases h2 : k = 256
      · rw [if_pos h2, h2, sc_same]
        rw [sc_far _ _ _ _ (n1 _ _ 0)]
        exact e1
      · rw [if_neg h2, sc_far _ _ _ _ (n2 _ _ (by omega)), sc_far _ _ _ _ (n1 _ _ 0)]
  have zT : ∀ j, Z.cell? ⟨w.heap.size, j, none⟩ = if j = S.length then some (.string (tx [x])) else wr.cell? ⟨w.heap.size, j, none⟩ := by
    intro j
    have n1 : ∀ (i j k : Nat), (⟨w.heap.size + 1, i, none⟩ : Addr) ≠ ⟨w.heap.size, j, none⟩ := fun i j k h => by simp at h
    have n2 : ∀ (i j : Nat), i ≠ j → (⟨w.heap.size, i, none⟩ : Addr) ≠ ⟨w.heap.size, j, none⟩ := fun i j h e => h (Addr.mk.inj e).2.1
    rw [← hZ, sc_far _ _ _ _ (n1 _ _ 0), sc_far _ _ _ _ (n1 _ _ 0)]
    by_cases h1 : j = S.length
    · rw [if_pos h1, h1, sc_same]
      exact (thr _ hl).1
    · rw [if_neg h1, sc_far _ _ _ _ (n2 _ _ (by omega))]
  exact
  { bel := by
      refine Below.drew (Below.alloc (Below.alloc (Below.alloc ?_ (by omega) _) (by simp [hZs]; omega) _) (by simp [hZs]; omega) _)
      rw [← hZ]
      exact ((bel.setCell (by simp) _).setCell (by simp) _).setCell (by simp) _
    sz := by simp [hZs]; omega
    top := by rw [hc _ _ sz, zR 256 (by omega), if_neg (by omega), if_pos rfl, List.length_append]; rfl
    nil := fun k hk hn => by
      rw [hc _ _ sz, zR k (by omega), if_neg (fun e => hn x (by simp) e.symm), if_neg (by omega)]
      exact nil k hk fun c hc => hn c (by simp [hc])
    has := fun c hc0 => by
      have hc256 : c.toNat < 256 := c.toNat_lt
      rw [hc _ _ sz, zR _ (by omega)]
      rcases List.mem_append.1 hc0 with h | h
      · rw [if_neg (hne c h), if_neg (by omega)]
        exact has c h
      · obtain rfl := List.mem_singleton.1 h
        exact ⟨a, n, if_pos rfl⟩
    row := fun j hj => by
      rw [hc _ _ (by omega), zT]
      by_cases h1 : j = S.length
      · subst h1
        rw [if_pos rfl]
        simp
      · have hj2 : j < S.length := by simp at hj; omega
        rw [if_neg h1, row j hj2, List.getElem_append_left hj2]
    thr := fun j hj => by
      rw [hc _ _ (by omega), hf _ _ (by omega), zT]
      refine ⟨?_, (thr j hj).2⟩
      split
      · rfl
      · exact (thr j hj).1
    frR := fun k hk => by rw [hf _ _ sz]; exact frR k hk }
theorem tx_hd (x : UInt8) (h : 0 < (tx [x]).size) : (tx [x])[0]'h = x := rfl
theorem cvB (w : World) (h : Nat) (x : UInt8) (hc : w.cell? ⟨h, 0, none⟩ = some (.int .u8 (x.toNat : Int))) : (convert 22 9 (.slice (some ⟨h, 0, none⟩) 1 1)).run Tryz.prog w = .ok (.string (tx [x])) w := by
  refine run_convert_bytes_back (P := Tryz.prog) w 22 9 5 ⟨h, 0, none⟩ 1 [x] Tryz.underlying22 Tryz.underlying5 Tryz.underlying9 (fun j hj => ?_)
  obtain rfl : j = 0 := by simpa using hj
  exact hc
theorem apS (w : World) (T h m : Nat) (s : ByteArray) (hr : m + 1 ≤ 3) (hs : w.cell? ⟨h, 0, none⟩ = some (.string s)) (h1 : (w.cell? ⟨T, m, none⟩).isSome = true) (hf : w.frozen? ⟨T, m, none⟩ = false) :
    (Builtin.append_ #[62, 62] 62 #[.slice (some ⟨T, 0, none⟩) m 3, .slice (some ⟨h, 0, none⟩) 1 1]).run Tryz.prog w = .ok (.slice (some ⟨T, 0, none⟩) (m + 1) 3) (w.setCell ⟨T, m, none⟩ (.string s)) := by
  obtain ⟨i, hi, hz, hsz⟩ : ∃ i, Tryz.prog.info? 9 = some i ∧ i.zero = some (.string (tx [])) ∧ i.size = 1 := by
    have h : (Tryz.prog.info? 9).map (fun i => (i.zero, i.size)) = some (some (.string (tx [])), 1) := by kernel_rfl
    cases e : Tryz.prog.info? 9 with
    | none => rw [e] at h; cases h
    | some i =>
      rw [e] at h
      simp only [Option.map_some, Option.some.injEq, Prod.mk.injEq] at h
      exact ⟨i, rfl, h.1, h.2⟩
  have := run_append_room_cells (P := Tryz.prog) (w := w) 62 62 9 i Tryz.underlying62 hi T 0 m 3 ⟨h, 0, none⟩ 1 1 [.string s] (by rw [hsz]; rfl) (fun j u hj => by
      match j, hj with
      | 0, hj => rw [show u = .string s from (Option.some.inj hj).symm]; exact hs
      | j + 1, hj => simp at hj) (fun u hu => by simp at hu; subst hu; rfl) hr (fun j hj => by
      obtain rfl : j = 0 := by simpa using hj
      simpa [hsz] using h1) (fun j hj => by
      obtain rfl : j = 0 := by simpa using hj
      simpa [hsz] using hf)
  rw [this]
  simp [hsz, World.setCells]
noncomputable def ebO (w : World) : Obj := .cells (bytesRow (tx []) (grownCap w 0 0 5)) 5 ((bytesRow (tx []) (grownCap w 0 0 5)).size, (bytesRow (tx []) (grownCap w 0 0 5)).size + 1)
theorem sbE (w : World) : (convert 9 22 (.string (tx []))).run Tryz.prog w = .ok (.slice (some ⟨w.heap.size, 0, none⟩) 0 (grownCap w 0 0 5)) (w.drew.alloc (ebO w)) :=
  run_bytes_of_string (P := Tryz.prog) w 9 22 5 (tx []) Tryz.underlying9 Tryz.underlying22 Tryz.underlying5
theorem eqN (w : World) (a : Option Addr) (n c : Nat) : (binOp .eql 22 (.slice a n c) (.slice none 0 0)).run Tryz.prog w = .ok (.bool a.isNone) w :=
  Go.Lib.run_eql_slice_nil (P := Tryz.prog) w 22 5 a n c 0 0 Tryz.underlying22
set_option maxRecDepth 100000 in
set_option maxHeartbeats 3200000 in
theorem buildR (b A cap : Nat) (w : World) (h2 : w.cell? ⟨b, 4, none⟩ = some (.slice (some ⟨A, 0, none⟩) 6 cap))
    (s0 : w.cell? ⟨A, 0, none⟩ = some (.string (tx [43]))) (s1 : w.cell? ⟨A, 1, none⟩ = some (.string (tx []))) (s2 : w.cell? ⟨A, 2, none⟩ = some (.string (tx [46]))) (s3 : w.cell? ⟨A, 3, none⟩ = some (.string (tx [])))
    (s4 : w.cell? ⟨A, 4, none⟩ = some (.string (tx [109]))) (s5 : w.cell? ⟨A, 5, none⟩ = some (.string (tx []))) :
    Calls Tryz.prog 140 #[.pointer (some ⟨b, 0, none⟩)] w fun e w' => e = .returned (.iface 185 (.pointer (some ⟨w.heap.size + 1, 0, none⟩))) ∧ BI w [109, 46, 43] w' := by
  have hst := stZ
  have lt : A < w.heap.size := World.block_lt_of_cell? w ⟨A, 0, none⟩ s0
  have hmk : ∀ w : World, (Instr.makeSlice 62 (.int .i64 0) (.int .i64 3)).run Tryz.prog w = .ok (.slice (some ⟨w.heap.size, 0, none⟩) 0 3) (w.alloc (.cells #[.string (tx []), .string (tx []), .string (tx [])] 9)) := mk3
  go_enter Tryz.func140, Tryz.ntmps140
  go_wp2
  refine wp_loop_rounds 4 ?_
  rw [rounds_succ]
  go_wp2
  rw [rounds_succ]
  go_wp2
  rw [rounds_succ]
  go_wp2
  rw [rounds_succ]
  go_wp2
  generalize hb0 : ((w.alloc (.cells #[.string (tx []), .string (tx []), .string (tx [])] 9)).alloc (.cells Tryz.zeroCells184 184)).setCells (w.heap.size + 1) 0 (rcL w.heap.size) = w1
  have hbi : BI w [] w1 := hb0 ▸ BI.start w
  go_loopw [12] (fun vi wr => ∃ S : List UInt8, (S = [] ∨ S = [109] ∨ S = [109, 46] ∨ S = [109, 46, 43]) ∧ vi = .int .i64 (4 - 2 * (S.length : Int)) ∧ BI w S wr) (fun vi _ => (intOf vi + 2).toNat)
  case atStart => exact ⟨[], .inl rfl, rfl, hbi⟩
  case round =>
    obtain ⟨S, hS, rfl, hB⟩ := hrel
    clear hb0 hbi
    rcases hS with rfl | rfl | rfl | rfl
    · have qnil := hB.nil 109 (by omega) (by simp)
      have qtop := hB.top
      have sz := hB.sz
      have q0 := (hB.bel.cell (p := ⟨A, 0, none⟩) lt).trans s0
      have q1 := (hB.bel.cell (p := ⟨A, 1, none⟩) lt).trans s1
      have q2 := (hB.bel.cell (p := ⟨A, 2, none⟩) lt).trans s2
      have q3 := (hB.bel.cell (p := ⟨A, 3, none⟩) lt).trans s3
      have q4 := (hB.bel.cell (p := ⟨A, 4, none⟩) lt).trans s4
      have q5 := (hB.bel.cell (p := ⟨A, 5, none⟩) lt).trans s5
      obtain ⟨ut, hut⟩ := Option.isSome_iff_exists.1 (hB.thr 0 (by omega)).1
      have qtf := (hB.thr 0 (by omega)).2
      have sz0 : w.heap.size < wr.heap.size := by omega
      have sz1 : w.heap.size < wr.heap.size + 1 := by omega
      have sz2 : w.heap.size + 1 < wr.heap.size + 1 + 1 := by omega
      have sz3 : w.heap.size < wr.heap.size + 1 + 1 := by omega
      have qf1 := hB.frR 256 (by omega)
      have qf2 := hB.frR 109 (by omega)
      have hB' := hB
      clear hB
      simp only [show ([] : List UInt8).length = 0 from rfl] at qtop
      have hx : ∀ h : 0 < (tx [109]).size, (tx [109])[0]'h = 109 := fun _ => rfl
      have l1 := fun w h => cvB w h 109
      have l2 := apS
      have l3 := sbE
      have l4 := eqN
      go_wp2
      refine ⟨⟨_, _, _, _, _, _, _, _, _, _, _, _, _, _, _, _, _, _, _, _, _, _, _, _, _, _, _, _, _, _, _, _, _, _, _, ⟨[109], .inr (.inl rfl), ?vi, ?bi⟩, rfl⟩, ?measure⟩
      case vi => rfl
      case measure => simp [intOf]
      case bi => exact hB'.step 109 (by simp) (by simp) _ _ _ _ _
    · have qnil := hB.nil 46 (by omega) (by simp)
      have qtop := hB.top
      have sz := hB.sz
      have q0 := (hB.bel.cell (p := ⟨A, 0, none⟩) lt).trans s0
      have q1 := (hB.bel.cell (p := ⟨A, 1, none⟩) lt).trans s1
      have q2 := (hB.bel.cell (p := ⟨A, 2, none⟩) lt).trans s2
      have q3 := (hB.bel.cell (p := ⟨A, 3, none⟩) lt).trans s3
      have q4 := (hB.bel.cell (p := ⟨A, 4, none⟩) lt).trans s4
      have q5 := (hB.bel.cell (p := ⟨A, 5, none⟩) lt).trans s5
      obtain ⟨ut, hut⟩ := Option.isSome_iff_exists.1 (hB.thr 1 (by omega)).1
      have qtf := (hB.thr 1 (by omega)).2
      have sz0 : w.heap.size < wr.heap.size := by omega
      have sz1 : w.heap.size < wr.heap.size + 1 := by omega
      have sz2 : w.heap.size + 1 < wr.heap.size + 1 + 1 := by omega
      have sz3 : w.heap.size < wr.heap.size + 1 + 1 := by omega
      have qf1 := hB.frR 256 (by omega)
      have qf2 := hB.frR 46 (by omega)
      have hB' := hB
      clear hB
      simp only [show ([109] : List UInt8).length = 1 from rfl] at qtop
      have hx : ∀ h : 0 < (tx [46]).size, (tx [46])[0]'h = 46 := fun _ => rfl
      have l1 := fun w h => cvB w h 46
      have l2 := apS
      have l3 := sbE
      have l4 := eqN
      go_wp2
      refine ⟨⟨_, _, _, _, _, _, _, _, _, _, _, _, _, _, _, _, _, _, _, _, _, _, _, _, _, _, _, _, _, _, _, _, _, _, _, ⟨[109, 46], .inr (.inr (.inl rfl)), ?vi, ?bi⟩, rfl⟩, ?measure⟩
      case vi => rfl
      case measure => simp [intOf]
      case bi => exact hB'.step 46 (by simp) (by simp) _ _ _ _ _
    · have qnil := hB.nil 43 (by omega) (by simp)
      have qtop := hB.top
      have sz := hB.sz
      have q0 := (hB.bel.cell (p := ⟨A, 0, none⟩) lt).trans s0
      have q1 := (hB.bel.cell (p := ⟨A, 1, none⟩) lt).trans s1
      have q2 := (hB.bel.cell (p := ⟨A, 2, none⟩) lt).trans s2
      have q3 := (hB.bel.cell (p := ⟨A, 3, none⟩) lt).trans s3
      have q4 := (hB.bel.cell (p := ⟨A, 4, none⟩) lt).trans s4
      have q5 := (hB.bel.cell (p := ⟨A, 5, none⟩) lt).trans s5
      obtain ⟨ut, hut⟩ := Option.isSome_iff_exists.1 (hB.thr 2 (by omega)).1
      have qtf := (hB.thr 2 (by omega)).2
      have sz0 : w.heap.size < wr.heap.size := by omega
      have sz1 : w.heap.size < wr.heap.size + 1 := by omega
      have sz2 : w.heap.size + 1 < wr.heap.size + 1 + 1 := by omega
      have sz3 : w.heap.size < wr.heap.size + 1 + 1 := by omega
      have qf1 := hB.frR 256 (by omega)
      have qf2 := hB.frR 43 (by omega)
      have hB' := hB
      clear hB
      simp only [show ([109, 46] : List UInt8).length = 2 from rfl] at qtop
      have hx : ∀ h : 0 < (tx [43]).size, (tx [43])[0]'h = 43 := fun _ => rfl
      have l1 := fun w h => cvB w h 43
      have l2 := apS
      have l3 := sbE
      have l4 := eqN
      go_wp2
      refine ⟨⟨_, _, _, _, _, _, _, _, _, _, _, _, _, _, _, _, _, _, _, _, _, _, _, _, _, _, _, _, _, _, _, _, _, _, _, ⟨[109, 46, 43], .inr (.inr (.inr rfl)), ?vi, ?bi⟩, rfl⟩, ?measure⟩
      case vi => rfl
      case measure => simp [intOf]
      case bi => exact hB'.step 43 (by simp) (by simp) _ _ _ _ _
    · go_wp2
      go_ret
      exact ⟨rfl, hB⟩
end Go.Proofs.YtjgjnedenapemaaGreatDoor
namespace Go.Proofs.YtjgjnedenapemaaGreatDoor
open Go Go.RowKit Go.Proofs Go.AG

def kp (c : UInt8) : Bool := !(c == 43 || c == 46 || c == 109)
def dr (s : List UInt8) (k : Nat) : Nat := ((s.take k).filter (fun c => !kp c)).length
theorem dr_zero (s : List UInt8) : dr s 0 = 0 := by simp [dr]
theorem dr_succ (s : List UInt8) (k : Nat) (h : k < s.length) : dr s (k + 1) = dr s k + if kp s[k] = true then 0 else 1 := by
  unfold dr
  rw [List.take_succ_eq_append_getElem h, List.filter_append, List.length_append]
  cases h : kp s[k] <;> simp [List.filter, h]
theorem dr_le (s : List UInt8) (k : Nat) : dr s k ≤ k := Nat.le_trans (List.length_filter_le _ _) (by simp; omega)
theorem dr_all (s : List UInt8) : (s.filter kp).length + dr s s.length = s.length := by
  unfold dr
  rw [List.take_length]
  induction s with
  | nil => rfl
  | cons c s ih => cases h : kp c <;> simp [List.filter, h] <;> omega
theorem dr_none (s : List UInt8) (h : dr s s.length = 0) : s.filter kp = s := by
  have := dr_all s
  exact (List.filter_sublist ).eq_of_length (by omega)
def fk (s : List UInt8) (k : Nat) : List UInt8 := (s.take k).filter kp
theorem fk_succ (s : List UInt8) (k : Nat) (h : k < s.length) : fk s (k + 1) = fk s k ++ if kp s[k] = true then [s[k]] else [] := by
  unfold fk
  rw [List.take_succ_eq_append_getElem h, List.filter_append]
  cases h : kp s[k] <;> simp [List.filter, h]
theorem fk_len (s : List UInt8) (k : Nat) : (fk s k).length + dr s k = min k s.length := by
  have := dr_all (s.take k)
  unfold dr at this ⊢
  rw [List.take_length] at this
  rw [fk, this, List.length_take]
theorem fk_mono (s : List UInt8) (k : Nat) : (fk s k).length ≤ (s.filter kp).length := by
  refine List.Sublist.length_le ?_
  exact (List.take_sublist k s).filter kp
theorem fk_all (s : List UInt8) : fk s s.length = s.filter kp := by rw [fk, List.take_length]
/-- the replacer as built, wherever it lies -/
structure BJ (T : Nat) (w : World) : Prop where
  sz : T + 1 < w.heap.size
  top : w.cell? ⟨T + 1, 256, none⟩ = some (.slice (some ⟨T, 0, none⟩) 3 3)
  keep : ∀ c : UInt8, kp c = true → w.cell? ⟨T + 1, c.toNat, none⟩ = some (.slice none 0 0)
  drop : ∀ c : UInt8, kp c = false → ∃ a n, w.cell? ⟨T + 1, c.toNat, none⟩ = some (.slice (some a) 0 n)
theorem BI.bj {w0 w w5 : World} (h : BI w0 [109, 46, 43] w) (hs : w.heap.size ≤ w5.heap.size) (hc : ∀ i, w5.cell? ⟨w0.heap.size + 1, i, none⟩ = w.cell? ⟨w0.heap.size + 1, i, none⟩) : BJ w0.heap.size w5 where
  sz := Nat.lt_of_lt_of_le h.sz hs
  top := (hc 256).trans h.top
  keep := fun c hk => (hc _).trans (h.nil c.toNat c.toNat_lt fun d hd e => by
    rw [UInt8.toNat_inj.1 e] at hd
    revert hk
    simp at hd
    rcases hd with rfl | rfl | rfl <;> decide)
  drop := fun c hk => by
    rw [hc]
    exact h.has c (by
      simp only [List.mem_cons, List.not_mem_nil, or_false]
      simp only [kp, Bool.not_eq_false', Bool.or_eq_true, beq_iff_eq] at hk
      rcases hk with (h | h) | h <;> simp [h])
theorem tx_at (s : List UInt8) (k : Nat) (h : k < (tx s).size) (h2 : k < s.length) : (tx s)[k]'h = s[k] := rfl
theorem neN (w : World) (a : Option Addr) (n c : Nat) : (binOp .neq 22 (.slice a n c) (.slice none 0 0)).run Tryz.prog w = .ok (.bool !a.isNone) w :=
  run_neq_slice_nil_any (P := Tryz.prog) w 22 5 a n c 0 0 Tryz.underlying22
theorem mkB (w : World) (m : Nat) (hm : m < 1000) : (Instr.makeSlice 22 (.int .i64 m) (.int .i64 m)).run Tryz.prog w = .ok (.slice (some ⟨w.heap.size, 0, none⟩) m m) (w.alloc (.cells (madeCells #[.int .u8 0] m) 5)) := by
  obtain ⟨i, hi, hz, hs, hb⟩ : ∃ i, Tryz.prog.info? 5 = some i ∧ i.zero = some (.int .u8 0) ∧ i.size = 1 ∧ i.bytes = 1 := by
    have h : (Tryz.prog.info? 5).map (fun i => (i.zero, i.size, i.bytes)) = some (some (.int .u8 0), 1, 1) := by kernel_rfl
    cases e : Tryz.prog.info? 5 with
    | none => rw [e] at h; cases h
    | some i =>
      rw [e] at h
      simp only [Option.map_some, Option.some.injEq, Prod.mk.injEq] at h
      exact ⟨i, rfl, h.1, h.2.1, h.2.2⟩
  have h := run_makeSlice (P := Tryz.prog) (w := w) 22 5 i (.int .u8 0) Tryz.underlying22 hi hz .i64 .i64 m m (by omega) (by omega) (by rw [hs]; simp; omega) (by rw [hb]; simp; omega) (by omega)
  rw [h, hs]
  simp [Value.cells]
theorem cpN (w : World) (d a : Option Addr) (n c c2 : Nat) : (Builtin.copy_ #[22, 22] 3 #[.slice d n c, .slice a 0 c2]).run Tryz.prog w = .ok (goInt 0) w :=
  run_copy_none (P := Tryz.prog) w 22 22 3 5 d a n c 0 c2 Tryz.underlying22 (by kernel_rfl) (by simp)
theorem cvL (w : World) (h m : Nat) (l : List UInt8) (hl : l.length = m) (hc : ∀ j (hj : j < l.length), w.cell? ⟨h, j, none⟩ = some (.int .u8 (l[j].toNat : Int))) : (convert 22 9 (.slice (some ⟨h, 0, none⟩) m m)).run Tryz.prog w = .ok (.string (tx l)) w := by
  subst hl
  refine run_convert_bytes_back (P := Tryz.prog) w 22 9 5 ⟨h, 0, none⟩ l.length l Tryz.underlying22 Tryz.underlying5 Tryz.underlying9 (fun j hj => ?_)
  have : (⟨h, 0, none⟩ : Addr).add j = ⟨h, j, none⟩ := by cases j <;> simp [Addr.add]
  rw [this]
  exact hc j hj
set_option maxRecDepth 100000 in
set_option maxHeartbeats 3200000 in
theorem bsr_walk (T : Nat) (w : World) (B : BJ T w) (s : List UInt8) (hs : s.length < 24) :
    Calls Tryz.prog 260 #[.pointer (some ⟨T + 1, 0, none⟩), .string (tx s)] w fun e w' => e = .returned (.string (tx (s.filter kp))) ∧ Below w.heap.size w w' := by
  have l4 := neN
  have top := B.top
  have hsz : (tx s).size = s.length := tx_size s
  have hnot : ∀ (x : Bool) (w : World), (Op.unary .not (.bool x)).run Tryz.prog w = .ok (.bool (!x)) w := fun _ _ => rfl
  go_enter Tryz.func260, Tryz.ntmps260
  go_wp2
  go_loop [10, 5, 6] (fun vi vn va => ∃ k : Nat, k ≤ s.length ∧ vi = .int .i64 k ∧ vn = .int .i64 ((s.length : Int) - (dr s k : Int)) ∧ va = .bool (decide (0 < dr s k))) (fun vi _ _ => s.length - (intOf vi).toNat)
  case atStart => exact ⟨0, by omega, rfl, by simp [dr_zero], by simp [dr_zero]⟩
  case round =>
    obtain ⟨k, hk, rfl, rfl, rfl⟩ := hrel
    by_cases hlt : k < s.length
    · have hsu := dr_succ s k hlt
      have hle := dr_le s k
      obtain ⟨c, hc⟩ : ∃ c, ∀ h : k < s.length, s[k]'h = c := ⟨s[k], fun _ => rfl⟩
      rw [hc] at hsu
      have ha : ∀ h : k < (tx s).size, (tx s)[k]'h = c := fun _ => hc hlt
      have h256 : ¬ (256 ≤ (c.toNat : Int)) := by have : c.toNat < 256 := c.toNat_lt; omega
      have h256' : (c.toNat : Int) < 256 := by omega
      cases hkp : kp c with
      | true =>
        have hcell := B.keep _ hkp
        rw [hkp, if_pos rfl] at hsu
        go_wp2
        case roundEnd =>
          refine ⟨⟨k + 1, hlt, by simp, ?_, ?_⟩, by simp [intOf]; omega⟩
          · rw [hsu, Nat.add_zero]
          · rw [hsu, Nat.add_zero]
      | false =>
        obtain ⟨a, n, hcell⟩ := B.drop _ hkp
        rw [hkp, if_neg (by simp)] at hsu
        go_wp2
        case roundEnd =>
          refine ⟨⟨k + 1, hlt, by simp, ?_, ?_⟩, by simp [intOf]; omega⟩
          · rw [hsu]; congr 1; omega
          · rw [hsu]; simp
    · obtain rfl : k = s.length := by omega
      have hdl := dr_le s s.length
      have hall := dr_all s
      by_cases hz : dr s s.length = 0
      · rw [hz]
        go_wp2
        go_ret
        rw [dr_none s hz]
        exact ⟨rfl, Below.refl _ _⟩
      · have hz2 : 0 < dr s s.length := by omega
        have e : ((s.length : Int) - (dr s s.length : Int)) = ((s.filter kp).length : Int) := by omega
        rw [e]
        have hm := mkB w (s.filter kp).length (by omega)
        simp only [hz2, decide_true]
        go_wp2
        have hw1 : ∀ p, p < (s.filter kp).length → ((w.alloc (.cells (madeCells #[.int .u8 0] (s.filter kp).length) 5)).cell? ⟨w.heap.size, p, none⟩).isSome = true := fun p hp => by
          rw [World.cell?_alloc_at _ _ _ _ rfl]
          simp [madeCells, hp]
        have hw2 : ∀ p, (w.alloc (.cells (madeCells #[.int .u8 0] (s.filter kp).length) 5)).frozen? ⟨w.heap.size, p, none⟩ = false := fun p => World.frozen?_alloc_at _ _ _ _ rfl
        have hw3 : Below w.heap.size w (w.alloc (.cells (madeCells #[.int .u8 0] (s.filter kp).length) 5)) := (Below.refl _ _).alloc (Nat.le_refl _) _
        have hw4 : w.heap.size < (w.alloc (.cells (madeCells #[.int .u8 0] (s.filter kp).length) 5)).heap.size := by simp
        generalize w.alloc (.cells (madeCells #[.int .u8 0] (s.filter kp).length) 5) = w1 at hw1 hw2 hw3 hw4 ⊢
        go_loopw [14, 13] (fun vi vj wr => ∃ k : Nat, k ≤ s.length ∧ vi = .int .i64 k ∧ vj = .int .i64 ((fk s k).length : Int) ∧ Below w.heap.size w wr ∧ w.heap.size < wr.heap.size ∧
          (∀ p, p < (s.filter kp).length → (wr.cell? ⟨w.heap.size, p, none⟩).isSome = true) ∧ (∀ p, wr.frozen? ⟨w.heap.size, p, none⟩ = false) ∧ (∀ p (h : p < (fk s k).length), wr.cell? ⟨w.heap.size, p, none⟩ = some (.int .u8 ((fk s k)[p].toNat : Int)))) (fun vi _ _ => s.length - (intOf vi).toNat)
        case atStart => exact ⟨0, by omega, rfl, rfl, hw3, hw4, hw1, hw2, fun p h => absurd h (by simp [fk])⟩
        case round =>
          obtain ⟨k, hk, rfl, rfl, b1, b2, b3, b4, b5⟩ := hrel
          clear hw1 hw2 hw3 hw4 hm
          have hmono := fk_mono s
          by_cases hlt : k < s.length
          · have hsu := fk_succ s k hlt
            have hm1 := hmono (k + 1)
            obtain ⟨c, hc⟩ : ∃ c, ∀ h : k < s.length, s[k]'h = c := ⟨s[k], fun _ => rfl⟩
            rw [hc] at hsu
            have ha : ∀ h : k < (tx s).size, (tx s)[k]'h = c := fun _ => hc hlt
            have h256 : ¬ (256 ≤ (c.toNat : Int)) := by have : c.toNat < 256 := c.toNat_lt; omega
            have h256' : (c.toNat : Int) < 256 := by omega
            have hRlt : T + 1 < w.heap.size := B.sz
            cases hkp : kp c with
            | true =>
              have hcell : wr.cell? ⟨T + 1, c.toNat, none⟩ = _ := (b1.cell (p := ⟨T + 1, c.toNat, none⟩) hRlt).trans (B.keep _ hkp)
              rw [hkp, if_pos rfl] at hsu
              rw [hsu, List.length_append] at hm1
              simp only [List.length_singleton] at hm1
              obtain ⟨j, hj⟩ : ∃ j, (fk s k).length = j := ⟨_, rfl⟩
              rw [hj] at hm1 ⊢
              obtain ⟨u, hu⟩ := Option.isSome_iff_exists.1 (b3 j (by omega))
              have hfz := b4 j
              go_wp2
              case roundEnd =>
                refine ⟨⟨k + 1, hlt, by simp, ?_, b1.setCell (Nat.le_refl _) _, by simp; exact b2, fun p hp => ?_, fun p => ?_, fun p hp => ?_⟩, by simp [intOf]; omega⟩
                · rw [hsu, List.length_append, hj]; simp
                · by_cases h : j = p
                  · subst h; rw [sc_same _ _ _ (b3 _ hp)]; rfl
                  · rw [sc_far _ _ _ _ (fun e => h (Addr.mk.inj e).2.1)]; exact b3 p hp
                · rw [World.frozen?_setCell]; exact b4 p
                · by_cases h : j = p
                  · subst h
                    rw [sc_same _ _ _ (b3 _ (by omega))]
                    simp [hsu, ← hj]
                  · have hp2 : p < (fk s k).length := by rw [hsu, List.length_append] at hp; simp at hp; omega
                    rw [sc_far _ _ _ _ (fun e => h (Addr.mk.inj e).2.1), b5 p hp2]
                    simp only [hsu, List.getElem_append_left hp2]
            | false =>
              obtain ⟨a, n, hcell⟩ := B.drop _ hkp
              have hcell : wr.cell? ⟨T + 1, c.toNat, none⟩ = _ := (b1.cell (p := ⟨T + 1, c.toNat, none⟩) hRlt).trans hcell
              rw [hkp, if_neg (by simp), List.append_nil] at hsu
              rw [hsu] at hm1
              have hcp := cpN
              obtain ⟨j, hj⟩ : ∃ j, (fk s k).length = j := ⟨_, rfl⟩
              rw [hj] at hm1 ⊢
              have hj2 : j < 1000 := by omega
              go_wp2
              go_region
              go_wp2
              case roundEnd =>
                refine ⟨⟨k + 1, hlt, by simp, ?_, b1.drew, b2, b3, b4, fun p hp => ?_⟩, by simp [intOf]; omega⟩
                · rw [hsu, hj]
                  try rw [wrap64_of_lt]
                · simp only [hsu] at hp ⊢; exact b5 p hp
          · obtain rfl : k = s.length := by omega
            rw [fk_all] at *
            have hcv := cvL wr w.heap.size (s.filter kp).length (s.filter kp) rfl b5
            go_wp2
            go_ret
            exact ⟨rfl, b1⟩
end Go.Proofs.YtjgjnedenapemaaGreatDoor
