/- rows that a library function sorts in place: the bridge -/
import Derived.Test.YtjgjnedenapemaaGreatDoorAgZ
import Derived.Sort.Grow
set_option linter.unusedVariables false
set_option linter.unusedSimpArgs false
namespace Go.AG
open Go Go.RowKit Go.Sort
variable {α : Type} [Inhabited α]

/-- a row of cells -/
def encs (enc : α → Value) (xs : List α) : List V := xs.map fun x => .sc (enc x)
omit [Inhabited α] in
theorem encs_len (enc : α → Value) (xs : List α) : (encs enc xs).length = xs.length := by simp [encs]
theorem wr_whole {β : Type} (a b : List β) (h : b.length = a.length) : wr a 0 b = b := by simp [wr, h]
theorem arr_get (xs : List α) (j : Nat) (h : j < xs.length) : xs.toArray[j]! = xs[j] := by simp [h]
theorem putCells_wr (enc : α → Value) (off : Nat) (ys : List α) (cur : Array Value) (h : off + ys.length ≤ cur.size) : putCells enc off ys.toArray cur = (wr cur.toList off (ys.map enc)).toArray := by
  apply Array.ext_getElem?
  intro k
  simp only [putCells, Array.getElem?_mapIdx, List.getElem?_toArray]
  rw [get_wr cur.toList off (ys.map enc) (by simpa using h) k]
  simp only [List.length_map, List.size_toArray]
  by_cases h1 : k < off
  · rw [if_pos h1]
    cases hc : cur[k]? with
    | none => simp [hc]
    | some c => simp [hc, show ¬ (off ≤ k ∧ k < off + ys.length) by omega]
  · rw [if_neg h1]
    by_cases h2 : k < off + ys.length
    · rw [if_pos h2]
      have hk : k < cur.size := by omega
      have hy : k - off < ys.length := by omega
      rw [Array.getElem?_eq_getElem hk, Option.map_some, if_pos ⟨by omega, h2⟩, arr_get _ _ hy]
      simp [hy]
    · rw [if_neg h2]
      cases hc : cur[k]? with
      | none => simp [hc]
      | some c => simp [hc, show ¬ (off ≤ k ∧ k < off + ys.length) by omega]
theorem HOk.sorted {F : Fr} {w : World} {ρ : Nat → Pl} {ob : Objs} (h : HOk F w ρ ob) {l esz : Nat} (hm : esz ≠ mapSz) (enc : α → Value) (h1 : ∀ x, (enc x).oneCell' = true) {xs ys : List α} (hl : ys.length = xs.length) (ho : Live ob l ⟨esz, encs enc xs⟩) (n : Nat) (os : Array Obj) :
    HOk F (Sort.grow (putRow enc (Sort.ahead w n) (ρ l).blk (ρ l).base ys.toArray) os) ρ (ob.set l (some ⟨esz, encs enc ys⟩)) ∧
      (∀ v x, RepC w (F.Y ρ ob) ρ ob v x → RepC (Sort.grow (putRow enc (Sort.ahead w n) (ρ l).blk (ρ l).base ys.toArray) os) (F.Y ρ (ob.set l (some ⟨esz, encs enc ys⟩))) ρ (ob.set l (some ⟨esz, encs enc ys⟩)) v x) := by
  obtain ⟨⟨cur, e, hr, hs⟩, hf, hc⟩ := (h.obj l _ ho).cells hm
  simp only [encs_len] at hf
  obtain ⟨w1, hrun, hok, hrep, hoth, hsz⟩ := h.store ho hm 0 (ys.map enc) (encs enc ys) (by simp [encs]) (by simp [encs, hl]) (fun i hi => by
    rw [encs_len] at hi
    have e1 : (ys.map enc).getD i undef = enc ys[i] := by simp [hi]
    have e2 : (encs enc ys)[i]'(by rw [encs_len]; exact hi) = .sc (enc ys[i]) := by simp [encs]
    rw [e1, e2]; exact .d (.sc _)) (fun v hv => by
    obtain ⟨y, _, rfl⟩ := List.mem_map.1 hv
    exact h1 y)
  rw [wr_whole _ _ (by rw [encs_len, encs_len, hl])] at hok hrep
  have hlt := h.blk_lt ho
  have hrow : (Sort.grow (putRow enc (Sort.ahead w n) (ρ l).blk (ρ l).base ys.toArray) os).heap[(ρ l).blk]? = some (.cells (wr cur.toList (ρ l).base (ys.map enc)).toArray e (0, 0)) := by
    rw [heap_grow_old _ _ (by rw [size_putRow]; exact hlt)]
    unfold putRow mapBlock
    simp only [Array.getElem?_modify, if_true]
    rw [show (Sort.ahead w n).heap[(ρ l).blk]? = _ from hr]
    simp only [Option.map_some, onCells]
    rw [putCells_wr enc (ρ l).base ys cur (by omega)]
  have hw1 : w1 = w.setRow (ρ l).blk (wr cur.toList (ρ l).base (ys.map enc)).toArray := by
    have hx := hrun default
    have hx2 := run_storeCells_at (P := default) (ρ l).blk (ρ l).base e (ys.map enc) 0 cur w hr (by simp; omega) (fun v hv => by
      obtain ⟨y, _, rfl⟩ := List.mem_map.1 hv
      exact h1 y)
    rw [Nat.add_zero] at hx
    rw [hx] at hx2
    simp only [Result.ok.injEq, true_and] at hx2
    rw [hx2]
    simp [wr]
  have hb : Below w1.heap.size w1 (Sort.grow (putRow enc (Sort.ahead w n) (ρ l).blk (ρ l).base ys.toArray) os) := by
    subst hw1
    refine ⟨rfl, rfl, rfl, by simp [size_putRow, size_grow, Sort.ahead], fun k hk => ?_⟩
    by_cases hkb : k = (ρ l).blk
    · subst hkb
      rw [hrow, setRow_heap w _ cur _ e _ hr]
    · rw [setRow_other w _ _ _ hkb, heap_grow_old _ _ (by rw [size_putRow]; simpa [Sort.ahead] using hk)]
      simp [putRow, mapBlock, Array.getElem?_modify, Ne.symm hkb, Sort.ahead]
  exact ⟨hok.grow hb, fun v x hx => (hrep v x hx).grow hb⟩
theorem HOk.holds {F : Fr} {w : World} {ρ : Nat → Pl} {ob : Objs} (h : HOk F w ρ ob) {l esz : Nat} (hm : esz ≠ mapSz) (enc : α → Value) {xs : List α} (ho : Live ob l ⟨esz, encs enc xs⟩) : Holds enc w (ρ l).blk (ρ l).base xs.toArray := by
  obtain ⟨⟨cur, e, hr, hs⟩, hf, hc⟩ := (h.obj l _ ho).cells hm
  intro j hj
  have hj2 : j < xs.length := by simpa using hj
  obtain ⟨c, c1, c2, c3⟩ := hc j (by rw [encs_len]; exact hj2)
  refine ⟨?_, ?_⟩
  · rw [c1, arr_get _ _ hj2]
    have e2 : (encs enc xs)[j]'(by rw [encs_len]; exact hj2) = .sc (enc xs[j]) := by simp [encs]
    simp only [e2] at c2
    rw [sc_of c2]
  · simp [World.frozen?, hr]
/-- a library function that sorts a row in place -/
theorem ACalls.row {P : Program} {f : FuncId} (hb : HasBody P f) (enc : α → Value) (h1 : ∀ x, (enc x).oneCell' = true) (xs ys : List α) (hl : ys.length = xs.length)
    (h : ∀ (w : World) (blk off cap : Nat), Holds enc w blk off xs.toArray → blk < w.heap.size → Calls P f #[.slice (some ⟨blk, off, none⟩) xs.length cap] w fun e w' => e = .returned (.tuple #[]) ∧ ∃ n os, w' = Sort.grow (putRow enc (Sort.ahead w n) blk off ys.toArray) os) :
    ACalls P f [.ref 0 0 xs.length] [some ⟨1, encs enc xs⟩] (fun r o => r = .tup [] ∧ o = [some ⟨1, encs enc ys⟩]) := by
  refine ⟨hb, fun w X ρ vs hL hs hH hr => ?_⟩
  have ho : Live [some ⟨1, encs enc xs⟩] 0 ⟨1, encs enc xs⟩ := rfl
  have hlt := hH.blk_lt ho
  have h0 := hr 0 (by simp)
  have hvs : vs = #[vs.getD 0 undef] := by
    have : vs.size = 1 := hs
    apply Array.ext (by simp [this])
    intro i h1 h2
    have : i = 0 := by omega
    subst this
    simp [Array.getD, h1]
  have key : ∀ (m : Nat) (v0 : Value), RepC w (Fr.Y ⟨w, X, ownB ρ [some ⟨1, encs enc xs⟩], 1, ρ⟩ ρ [some ⟨1, encs enc xs⟩]) ρ [some ⟨1, encs enc xs⟩] v0 (.ref 0 0 m) → ∃ off cap, v0 = .slice (some ⟨(ρ 0).blk, off, none⟩) m cap ∧ (off = (ρ 0).base ∨ m = 0) := by
    intro m v0 h0
    cases h0 with
    | d h => cases h
    | ref ho' hm' hlc hc' hs' => exact ⟨_, _, rfl, .inl rfl⟩
    | ref0 ho' hm' => exact ⟨_, _, rfl, .inr rfl⟩
  obtain ⟨off, cap, hv0, hoff⟩ := key _ _ h0
  have hv : vs = #[.slice (some ⟨(ρ 0).blk, off, none⟩) xs.length cap] := by rw [hvs, hv0]
  subst hv
  have hol := hH.holds (by decide) enc ho
  rcases hoff with rfl | hnil
  · refine (h w _ _ cap hol hlt).mono ?_
    rintro e w' ⟨rfl, n, os, rfl⟩
    obtain ⟨k1, k2⟩ := hH.sorted (by decide) enc h1 hl ho n os
    exact ⟨_, .tup [], _, ρ, rfl, ⟨rfl, rfl⟩, k1, .tup rfl fun i hi => absurd hi (by simp)⟩
  · have hnil := List.eq_nil_of_length_eq_zero hnil
    subst hnil
    have hy : ys = [] := List.eq_nil_of_length_eq_zero (by simpa using hl)
    subst hy
    refine (h w (ρ 0).blk off cap (fun j hj => absurd hj (by simp)) hlt).mono ?_
    rintro e w' ⟨rfl, n, os, rfl⟩
    have e1 : putRow enc (Sort.ahead w n) (ρ 0).blk off ([] : List α).toArray = Sort.ahead w n := by
      refine mapBlock_id _ _ _ fun c e fr _ => ?_
      apply Array.ext_getElem?
      intro k
      simp only [putCells, Array.getElem?_mapIdx]
      cases hc : c[k]? with
      | none => rfl
      | some x => simp [show ¬ (off ≤ k ∧ k < off) by omega]
    rw [e1]
    have hbl : Below w.heap.size w (Sort.grow (Sort.ahead w n) os) := ⟨rfl, rfl, rfl, by simp [Sort.ahead], fun k hk => by rw [heap_grow_old _ _ (by simpa [Sort.ahead] using hk)]; rfl⟩
    exact ⟨_, .tup [], _, ρ, rfl, ⟨rfl, rfl⟩, hH.grow hbl, .tup rfl fun i hi => absurd hi (by simp)⟩
end Go.AG
