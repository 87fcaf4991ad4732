/- sort.symMerge_func: the right part is not the shorter one -/
import Derived.Test.YthnphcinjchloaaSym5
set_option linter.unusedVariables false
set_option linter.unusedSimpArgs false
namespace Go.Proofs.Ythnphcinjchloaa
open Go.AG Go.Lib Go.Sort Go.Shelf Go.RowKit Go.Proofs
variable {α : Type} [Inhabited α]

set_option maxHeartbeats 40000000 in
set_option maxRecDepth 100000 in
theorem symMerge_c4 (enc : α → Value) (lt : α → α → Bool) (g : Nat) (lb : Array Value) (sf : Nat) (sb : Array Value) (blk off : Nat) (eg : ∀ args w, (callFunc g args).run Try.prog w = .ok (.enter g args) w) (f : Nat) (ih : SymIH enc lt g lb sf sb blk off f) (a m b : Nat) (d dk : Array α) (w0 W : World)
    (hless : LessReads Try.prog g lb enc lt blk off d.size w0) (hswap : SwapSwaps Try.prog sf sb enc blk off d.size) (hH : Holds enc w0 blk off d) (hblk : blk < w0.heap.size) (hW : SW enc w0 blk off dk W) (hs : dk.size = d.size)
    (ha : a < m) (hm : m < b) (hb : b ≤ d.size) (hf : b - a ≤ f + 1) (hsz : d.size < 2305843009213693952) (c1 : ¬ m - a = 1) (c2 : ¬ b - m = 1) (c3 : ¬ (a + b) / 2 < m) :
    Calls Try.prog 167 #[.agg #[.func (.func g) #[] lb, .func (.func sf) #[] sb], .int .i64 a, .int .i64 m, .int .i64 b] W fun e w' =>
      e = .returned (.tuple #[]) ∧ SW enc w0 blk off (symM lt (f + 1) a m b dk) w' := by
  have hB : Holds enc (W.alloc (.cells #[.func (.func g) #[] lb, .func (.func sf) #[] sb] 140)) blk off dk := by
    rw [alloc_eq_grow]; exact holds_grow enc W _ blk off dk (hW.lt hblk) (hW.holds hblk hH hs)
  have hbB : blk < (W.alloc (.cells #[.func (.func g) #[] lb, .func (.func sf) #[] sb] 140)).heap.size := by rw [alloc_eq_grow, size_grow]; have := hW.lt hblk; omega
  have hswap' : SwapSwaps Try.prog sf sb enc blk off dk.size := by rw [hs]; exact hswap
  have hless' : LessReads Try.prog g lb enc lt blk off dk.size (W.alloc (.cells #[.func (.func g) #[] lb, .func (.func sf) #[] sb] 140)) := by
    rw [hs]; exact (hW.alloc _).lessReads hless hblk hs
  have b0 : (W.alloc (.cells #[.func (.func g) #[] lb, .func (.func sf) #[] sb] 140)).cell? ⟨W.heap.size, 0, none⟩ = some (.func (.func g) #[] lb) := by simp
  have b1 : (W.alloc (.cells #[.func (.func g) #[] lb, .func (.func sf) #[] sb] 140)).cell? ⟨W.heap.size, 1, none⟩ = some (.func (.func sf) #[] sb) := by simp
  have e1 : (m : Int) - a ≠ 1 := by omega
  have e2 : (b : Int) - m ≠ 1 := by omega
  have e3 : ¬ ((a : Int) + b) / 2 < m := by omega
  go_enter Try.func167, Try.ntmps167
  go_wp2
  go_loopw [18, 19] (fun vi vj wr => ∃ (i j : Nat), vi = .int .i64 i ∧ vj = .int .i64 j ∧ a ≤ i ∧ i ≤ j ∧ j ≤ m ∧
      SW enc (W.alloc (.cells #[.func (.func g) #[] lb, .func (.func sf) #[] sb] 140)) blk off dk wr ∧ bsM (fun c => !lt dk[(a + b) / 2 + m - 1 - c]! dk[c]!) i j = bsM (fun c => !lt dk[(a + b) / 2 + m - 1 - c]! dk[c]!) (a) (m)) (fun vi vj _ => (intOf vj).toNat - (intOf vi).toNat)
  case atStart => exact ⟨a, m, by first | (congr 1; done) | (congr 1; omega), by congr 1, by omega, by omega, by omega, SW.start hB, rfl⟩
  case round =>
    obtain ⟨i, j, rfl, rfl, hmi, hij, hjb, hSW, hR⟩ := hrel
    have hc0 := SW_box hW hblk b0 hSW
    have hc1 := SW_box hW hblk b1 hSW
    by_cases hlt : i < j
    · have hl := hSW.less hless' rfl ((a + b) / 2 + m - 1 - ((i + j) / 2)) (((i + j) / 2)) (by omega) (by omega)
      rw [show (((a + b) / 2 + m - 1 - (i + j) / 2 : Nat) : Int) = ((a : Int) + b) / 2 + m - 1 - ((i : Int) + j) / 2 by omega, show (((i + j) / 2 : Nat) : Int) = ((i : Int) + j) / 2 by omega] at hl
      rw [bsM, dif_pos hlt] at hR
      cases hv : lt dk[(a + b) / 2 + m - 1 - ((i + j) / 2)]! dk[((i + j) / 2)]! with
      | false =>
        rw [hv] at hl
        rw [if_pos (by rw [hv]; rfl)] at hR
        go_wp2
        refine hl.mono ?_
        rintro e w1 ⟨rfl, q, rfl⟩
        go_wp2
        exact ⟨⟨(i + j) / 2 + 1, j, by congr 1, rfl, by omega, by omega, hjb, hSW.drewN q, hR⟩, by simp [intOf]; omega⟩
      | true =>
        rw [hv] at hl
        rw [if_neg (by rw [hv]; simp)] at hR
        go_wp2
        refine hl.mono ?_
        rintro e w1 ⟨rfl, q, rfl⟩
        go_wp2
        exact ⟨⟨i, (i + j) / 2, rfl, by congr 1, hmi, by omega, by omega, hSW.drewN q, hR⟩, by simp [intOf]; omega⟩
    · rw [bsM, dif_neg hlt] at hR
      have hst : stM lt dk a m b = i := by unfold stM; simp only; rw [if_neg c3]; exact hR.symm
      clear hR
      by_cases k1 : i < m
      · by_cases k2 : a < i
        · have hsym : symM lt (f + 1) a m b dk = symM lt f ((a + b) / 2) ((a + b) / 2 + m - i) b (symM lt f a i ((a + b) / 2) (rotM m (m - i) ((a + b) / 2 + m - i - m) dk)) := by rw [symM, if_neg c1, if_neg c2]; simp only; rw [hst, if_pos (c := i < m ∧ m < (a + b) / 2 + m - i) (by omega), if_pos (c := a < i ∧ i < (a + b) / 2) (by omega), if_pos (c := (a + b) / 2 < (a + b) / 2 + m - i ∧ (a + b) / 2 + m - i < b) (by omega)]
          go_wp2_with (go_at_fn 180)
          refine (sym_rot enc lt g lb sf sb blk off a m b i dk _ wr hswap' hB hbB hSW (by omega) (by omega) (by omega) (by omega)).mono ?_
          rintro e w1 ⟨rfl, hS1⟩
          have hx1 := SW_box hW hblk b0 hS1
          have hy1 := SW_box hW hblk b1 hS1
          go_wp2_with (go_at_fn 167)
          refine (sym_rec1 enc lt g lb sf sb blk off f a b i dk _ _ w1 ih hless' hswap' hB hbB hS1 (by rw [rotM_size]) (by omega) (by omega) (by omega) (by omega) (by omega)).mono ?_
          rintro e w2 ⟨rfl, hS2⟩
          have hx2 := SW_box hW hblk b0 hS2
          have hy2 := SW_box hW hblk b1 hS2
          go_wp2_with (go_at_fn 167)
          refine (sym_rec2 enc lt g lb sf sb blk off f a b m i dk _ _ w2 ih hless' hswap' hB hbB hS2 (by rw [symM_size, rotM_size]) (by omega) (by omega) (by omega) (by omega) (by omega) (by omega)).mono ?_
          rintro e w3 ⟨rfl, hS3⟩
          go_wp2
          go_end0
          exact ⟨rfl, by first | (rw [hsym]; exact SW_fin hW hblk (by simp only [symM_size, rotM_size]) hS3) | exact SW_fin hW hblk (by simp only [symM_size, rotM_size]) hS3⟩
        · by_cases k3 : (a + b) / 2 + m - i < b
          · have hsym : symM lt (f + 1) a m b dk = symM lt f ((a + b) / 2) ((a + b) / 2 + m - i) b (rotM m (m - i) ((a + b) / 2 + m - i - m) dk) := by rw [symM, if_neg c1, if_neg c2]; simp only; rw [hst, if_pos (c := i < m ∧ m < (a + b) / 2 + m - i) (by omega), if_neg (c := a < i ∧ i < (a + b) / 2) (by omega), if_pos (c := (a + b) / 2 < (a + b) / 2 + m - i ∧ (a + b) / 2 + m - i < b) (by omega)]
            go_wp2_with (go_at_fn 180)
            refine (sym_rot enc lt g lb sf sb blk off a m b i dk _ wr hswap' hB hbB hSW (by omega) (by omega) (by omega) (by omega)).mono ?_
            rintro e w1 ⟨rfl, hS1⟩
            have hx1 := SW_box hW hblk b0 hS1
            have hy1 := SW_box hW hblk b1 hS1
            go_wp2_with (go_at_fn 167)
            refine (sym_rec2 enc lt g lb sf sb blk off f a b m i dk _ _ w1 ih hless' hswap' hB hbB hS1 (by rw [rotM_size]) (by omega) (by omega) (by omega) (by omega) (by omega) (by omega)).mono ?_
            rintro e w2 ⟨rfl, hS2⟩
            go_wp2
            go_end0
            exact ⟨rfl, by first | (rw [hsym]; exact SW_fin hW hblk (by simp only [symM_size, rotM_size]) hS2) | exact SW_fin hW hblk (by simp only [symM_size, rotM_size]) hS2⟩
          · have hsym : symM lt (f + 1) a m b dk = rotM m (m - i) ((a + b) / 2 + m - i - m) dk := by rw [symM, if_neg c1, if_neg c2]; simp only; rw [hst, if_pos (c := i < m ∧ m < (a + b) / 2 + m - i) (by omega), if_neg (c := a < i ∧ i < (a + b) / 2) (by omega), if_neg (c := (a + b) / 2 < (a + b) / 2 + m - i ∧ (a + b) / 2 + m - i < b) (by omega)]
            go_wp2_with (go_at_fn 180)
            refine (sym_rot enc lt g lb sf sb blk off a m b i dk _ wr hswap' hB hbB hSW (by omega) (by omega) (by omega) (by omega)).mono ?_
            rintro e w1 ⟨rfl, hS1⟩
            go_wp2
            go_end0
            exact ⟨rfl, by first | (rw [hsym]; exact SW_fin hW hblk (by simp only [symM_size, rotM_size]) hS1) | exact SW_fin hW hblk (by simp only [symM_size, rotM_size]) hS1⟩
      · by_cases k2 : m < (a + b) / 2
        · have hsym : symM lt (f + 1) a m b dk = symM lt f a i ((a + b) / 2) dk := by rw [symM, if_neg c1, if_neg c2]; simp only; rw [hst, if_neg (c := i < m ∧ m < (a + b) / 2 + m - i) (by omega), if_pos (c := a < i ∧ i < (a + b) / 2) (by omega), if_neg (c := (a + b) / 2 < (a + b) / 2 + m - i ∧ (a + b) / 2 + m - i < b) (by omega)]
          go_wp2_with (go_at_fn 167)
          refine (sym_rec1 enc lt g lb sf sb blk off f a b i dk _ _ wr ih hless' hswap' hB hbB hSW rfl (by omega) (by omega) (by omega) (by omega) (by omega)).mono ?_
          rintro e w1 ⟨rfl, hS1⟩
          go_wp2
          go_end0
          exact ⟨rfl, by first | (rw [hsym]; exact SW_fin hW hblk (by simp only [symM_size, rotM_size]) hS1) | exact SW_fin hW hblk (by simp only [symM_size, rotM_size]) hS1⟩
        · have hsym : symM lt (f + 1) a m b dk = dk := by rw [symM, if_neg c1, if_neg c2]; simp only; rw [hst, if_neg (c := i < m ∧ m < (a + b) / 2 + m - i) (by omega), if_neg (c := a < i ∧ i < (a + b) / 2) (by omega), if_neg (c := (a + b) / 2 < (a + b) / 2 + m - i ∧ (a + b) / 2 + m - i < b) (by omega)]
          go_wp2
          go_end0
          exact ⟨rfl, by first | (rw [hsym]; exact SW_fin hW hblk (by simp only [symM_size, rotM_size]) hSW) | exact SW_fin hW hblk (by simp only [symM_size, rotM_size]) hSW⟩
end Go.Proofs.Ythnphcinjchloaa
