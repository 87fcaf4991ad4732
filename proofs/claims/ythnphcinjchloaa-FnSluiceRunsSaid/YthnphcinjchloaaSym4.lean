/- sort.swapRange_func, walked; sort.rotate_func, walked; sort.symMerge_func, walked -/
import Derived.Test.YthnphcinjchloaaStbA
import Derived.Test.YthnphcinjchloaaSymS
set_option linter.unusedVariables false
set_option linter.unusedSimpArgs false
namespace Go.Proofs.Ythnphcinjchloaa
open Go.AG Go.Lib Go.Sort Go.Shelf Go.RowKit Go.Proofs
variable {α : Type} [Inhabited α]

set_option maxHeartbeats 2000000 in
set_option maxRecDepth 100000 in
theorem swapRange_w (enc : α → Value) (lt : α → α → Bool) (g : Nat) (lb : Array Value) (sf : Nat) (sb : Array Value) (blk off a b n : Nat) (d dk : Array α) (w0 W : World)
    (hswap : SwapSwaps Try.prog sf sb enc blk off d.size) (hH : Holds enc w0 blk off d) (hblk : blk < w0.heap.size) (hW : SW enc w0 blk off dk W) (hs : dk.size = d.size)
    (ha : a + n ≤ d.size) (hb : b + n ≤ d.size) (hsz : d.size < 4611686018427387904) :
    Calls Try.prog 186 #[.agg #[.func (.func g) #[] lb, .func (.func sf) #[] sb], .int .i64 a, .int .i64 b, .int .i64 n] W fun e w' =>
      e = .returned (.tuple #[]) ∧ SW enc w0 blk off (swR dk a b n) w' := by
  have hW1 := hW.alloc (.cells #[.func (.func g) #[] lb, .func (.func sf) #[] sb] 140)
  have hle := hW.le
  go_enter Try.func186, Try.ntmps186
  go_wp2
  have hsw := hswap
  go_loopw [8] (fun vi wr => ∃ i : Nat, vi = .int .i64 i ∧ i ≤ n ∧ SW enc w0 blk off (swR dk a b i) wr ∧ wr.cell? ⟨W.heap.size, 1, none⟩ = some (.func (.func sf) #[] sb)) (fun vi _ => n - (intOf vi).toNat)
  case atStart => exact ⟨0, rfl, by omega, hW1, by simp⟩
  case round =>
    obtain ⟨i, rfl, hin, hSW, hc1⟩ := hrel
    have c1 : ∀ q, (wr.drewN q).cell? ⟨W.heap.size, 1, none⟩ = some (.func (.func sf) #[] sb) := fun q => hc1
    by_cases hlt : i < n
    · have hh := hswap wr (swR dk a b i) (hSW.holds hblk hH (by rw [swR_size, hs])) (by rw [swR_size, hs]) (a + i) (b + i) (by omega) (by omega)
      rw [Int.natCast_add, Int.natCast_add] at hh
      go_wp2
      have hn := hSW.swap hblk (a + i) (b + i) (by rw [swR_size]; omega) (by rw [swR_size]; omega)
      refine ⟨⟨i + 1, by go_num, by omega, hn, ?_⟩, by simp [intOf]; omega⟩
      have hne : ∀ k, (⟨blk, k, none⟩ : Addr) ≠ ⟨W.heap.size, 1, none⟩ := fun k e => by
        have := congrArg Addr.block e
        simp only at this
        omega
      rw [World.cell?_setCell_other (h := hne _), World.cell?_setCell_other (h := hne _)]
      exact hc1
    · go_wp2
      go_end0
      exact ⟨rfl, by rw [show n = i by omega]; exact hSW⟩
end Go.Proofs.Ythnphcinjchloaa
namespace Go.Proofs.Ythnphcinjchloaa
open Go.AG Go.Lib Go.Sort Go.Shelf Go.RowKit Go.Proofs
variable {α : Type} [Inhabited α]

set_option maxHeartbeats 2000000 in
set_option maxRecDepth 100000 in
theorem rotate_w (enc : α → Value) (lt : α → α → Bool) (g : Nat) (lb : Array Value) (sf : Nat) (sb : Array Value) (blk off a m b : Nat) (d dk : Array α) (w0 W : World)
    (hswap : SwapSwaps Try.prog sf sb enc blk off d.size) (hH : Holds enc w0 blk off d) (hblk : blk < w0.heap.size) (hW : SW enc w0 blk off dk W) (hs : dk.size = d.size)
    (ha : a < m) (hm : m < b) (hb : b ≤ d.size) (hsz : d.size < 4611686018427387904) :
    Calls Try.prog 180 #[.agg #[.func (.func g) #[] lb, .func (.func sf) #[] sb], .int .i64 a, .int .i64 m, .int .i64 b] W fun e w' =>
      e = .returned (.tuple #[]) ∧ SW enc w0 blk off (rotM m (m - a) (b - m) dk) w' := by
  have hle := hW.le
  have e0 : (m : Int) - a = ((m - a : Nat) : Int) := by omega
  have e1 : (b : Int) - m = ((b - m : Nat) : Int) := by omega
  -- the world with the box is the base of the rest
  have hB : Holds enc (W.alloc (.cells #[.func (.func g) #[] lb, .func (.func sf) #[] sb] 140)) blk off dk := by
    rw [alloc_eq_grow]; exact holds_grow enc W _ blk off dk (hW.lt hblk) (hW.holds hblk hH hs)
  have hbB : blk < (W.alloc (.cells #[.func (.func g) #[] lb, .func (.func sf) #[] sb] 140)).heap.size := by rw [alloc_eq_grow, size_grow]; have := hW.lt hblk; omega
  have hswap' : SwapSwaps Try.prog sf sb enc blk off dk.size := by rw [hs]; exact hswap
  have fin : ∀ dj w', dj.size = dk.size → SW enc (W.alloc (.cells #[.func (.func g) #[] lb, .func (.func sf) #[] sb] 140)) blk off dj w' → SW enc w0 blk off dj w' := fun dj w' hd h => by
    obtain ⟨n, os, rfl⟩ := h
    exact (hW.alloc _).on hblk n dj os hd
  have cell : ∀ k v dj w', (W.alloc (.cells #[.func (.func g) #[] lb, .func (.func sf) #[] sb] 140)).cell? ⟨W.heap.size, k, none⟩ = some v → SW enc (W.alloc (.cells #[.func (.func g) #[] lb, .func (.func sf) #[] sb] 140)) blk off dj w' → w'.cell? ⟨W.heap.size, k, none⟩ = some v := fun k v dj w' hv h => by
    obtain ⟨n, os, rfl⟩ := h
    exact sortWorld_other enc hv (by have := hW.lt hblk; show W.heap.size ≠ blk; omega)
  have b0 : (W.alloc (.cells #[.func (.func g) #[] lb, .func (.func sf) #[] sb] 140)).cell? ⟨W.heap.size, 0, none⟩ = some (.func (.func g) #[] lb) := by simp
  have b1 : (W.alloc (.cells #[.func (.func g) #[] lb, .func (.func sf) #[] sb] 140)).cell? ⟨W.heap.size, 1, none⟩ = some (.func (.func sf) #[] sb) := by simp
  go_enter Try.func180, Try.ntmps180
  go_wp2
  go_loopw [8, 9] (fun vi vj wr => ∃ (i j : Nat) (dj : Array α), vi = .int .i64 i ∧ vj = .int .i64 j ∧ 0 < i ∧ 0 < j ∧ i ≤ m - a ∧ j ≤ b - m ∧ dj.size = dk.size ∧
      SW enc (W.alloc (.cells #[.func (.func g) #[] lb, .func (.func sf) #[] sb] 140)) blk off dj wr ∧ rotM m i j dj = rotM m (m - a) (b - m) dk) (fun vi vj _ => (intOf vi).toNat + (intOf vj).toNat)
  case atStart => exact ⟨m - a, b - m, dk, by rw [← e0], by rw [← e1], by omega, by omega, by omega, by omega, rfl, SW.start hB, rfl⟩
  case round =>
    obtain ⟨i, j, dj, rfl, rfl, hi0, hj0, him, hjm, hsj, hSW, hR⟩ := hrel
    have hc0 := cell 0 _ dj wr b0 hSW
    have hc1 := cell 1 _ dj wr b1 hSW
    rw [rotM] at hR
    by_cases hij : i = j
    · subst hij
      rw [if_pos rfl] at hR
      have hc := swapRange_w enc lt g lb sf sb blk off (m - i) m i dk dj _ wr hswap' hB hbB hSW hsj (by omega) (by omega) (by omega)
      rw [hR] at hc
      have hsz2 : (rotM m (m - a) (b - m) dk).size = dk.size := by rw [← hR, swR_size, hsj]
      rw [show ((m - i : Nat) : Int) = (m : Int) - i by omega] at hc
      go_wp2_with (go_at_fn 186)
      refine hc.mono ?_
      rintro e w1 ⟨rfl, hS⟩
      go_wp2
      go_end0
      exact ⟨rfl, fin _ _ hsz2 hS⟩
    · rw [if_neg hij, if_neg (by omega)] at hR
      by_cases hlt : j < i
      · rw [if_pos hlt] at hR
        have hc := swapRange_w enc lt g lb sf sb blk off (m - i) m j dk dj _ wr hswap' hB hbB hSW hsj (by omega) (by omega) (by omega)
        rw [show ((m - i : Nat) : Int) = (m : Int) - i by omega] at hc
        go_wp2_with (go_at_fn 186)
        refine hc.mono ?_
        rintro e w1 ⟨rfl, hS⟩
        go_wp2
        exact ⟨⟨i - j, j, _, by congr 1; omega, rfl, by omega, hj0, by omega, hjm, by rw [swR_size, hsj], hS, hR⟩, by simp [intOf]; omega⟩
      · rw [if_neg hlt] at hR
        have hc := swapRange_w enc lt g lb sf sb blk off (m - i) (m + j - i) i dk dj _ wr hswap' hB hbB hSW hsj (by omega) (by omega) (by omega)
        rw [show ((m - i : Nat) : Int) = (m : Int) - i by omega, show ((m + j - i : Nat) : Int) = (m : Int) + j - i by omega] at hc
        go_wp2_with (go_at_fn 186)
        refine hc.mono ?_
        rintro e w1 ⟨rfl, hS⟩
        go_wp2
        exact ⟨⟨i, j - i, _, rfl, by congr 1; omega, hi0, by omega, him, by omega, by rw [swR_size, hsj], hS, hR⟩, by simp [intOf]; omega⟩
end Go.Proofs.Ythnphcinjchloaa
namespace Go.Proofs.Ythnphcinjchloaa
open Go.AG Go.Lib Go.Sort Go.Shelf Go.RowKit Go.Proofs
variable {α : Type} [Inhabited α]

theorem upM_size (d : Array α) (k i : Nat) : (upM d k i).size = d.size := by
  induction hn : i - k using Nat.strongRecOn generalizing k d with
  | _ n ih =>
    rw [upM]
    split
    · rw [ih (i - (k + 1)) (by omega) _ (k + 1) rfl, size_swp]
    · rfl
theorem downM_size (d : Array α) (k i : Nat) : (downM d k i).size = d.size := by
  induction hn : k - i using Nat.strongRecOn generalizing k d with
  | _ n ih =>
    rw [downM]
    split
    · rw [ih (k - 1 - i) (by omega) _ (k - 1) rfl, size_swp]
    · rfl
theorem symM_size (lt : α → α → Bool) (f a m b : Nat) (d : Array α) : (symM lt f a m b d).size = d.size := by
  induction f generalizing a m b d with
  | zero => rfl
  | succ f ih =>
    rw [symM]
    split
    · exact upM_size _ _ _
    · split
      · exact downM_size _ _ _
      · simp only
        split <;> split <;> split <;> simp only [ih, rotM_size]
end Go.Proofs.Ythnphcinjchloaa
