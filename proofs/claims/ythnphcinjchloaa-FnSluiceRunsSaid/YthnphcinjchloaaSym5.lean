/- sort.symMerge_func: one element on the left or on the right -/
import Derived.Test.YthnphcinjchloaaSym4
set_option linter.unusedVariables false
set_option linter.unusedSimpArgs false
namespace Go.Proofs.Ythnphcinjchloaa
open Go.AG Go.Lib Go.Sort Go.Shelf Go.RowKit Go.Proofs
variable {α : Type} [Inhabited α]

theorem SW_fin {enc : α → Value} {g : Nat} {lb : Array Value} {sf : Nat} {sb : Array Value} {blk off : Nat} {dk dj : Array α} {w0 W w' : World} (hW : SW enc w0 blk off dk W) (hblk : blk < w0.heap.size) (hd : dj.size = dk.size)
    (h : SW enc (W.alloc (.cells #[.func (.func g) #[] lb, .func (.func sf) #[] sb] 140)) blk off dj w') : SW enc w0 blk off dj w' := by
  obtain ⟨n, os, rfl⟩ := h
  exact (hW.alloc _).on hblk n dj os hd
theorem SW_box {enc : α → Value} {g : Nat} {lb : Array Value} {sf : Nat} {sb : Array Value} {blk off : Nat} {dk dj : Array α} {w0 W w' : World} {k : Nat} {v : Value} (hW : SW enc w0 blk off dk W) (hblk : blk < w0.heap.size)
    (hv : (W.alloc (.cells #[.func (.func g) #[] lb, .func (.func sf) #[] sb] 140)).cell? ⟨W.heap.size, k, none⟩ = some v) (h : SW enc (W.alloc (.cells #[.func (.func g) #[] lb, .func (.func sf) #[] sb] 140)) blk off dj w') : w'.cell? ⟨W.heap.size, k, none⟩ = some v := by
  obtain ⟨n, os, rfl⟩ := h
  exact sortWorld_other enc hv (by have := hW.lt hblk; show W.heap.size ≠ blk; omega)
/-- symMerge on fewer elements -/
def SymIH (enc : α → Value) (lt : α → α → Bool) (g : Nat) (lb : Array Value) (sf : Nat) (sb : Array Value) (blk off : Nat) (f : Nat) : Prop := ∀ (a m b : Nat) (d dk : Array α) (w0 W : World),
    LessReads Try.prog g lb enc lt blk off d.size w0 → SwapSwaps Try.prog sf sb enc blk off d.size → Holds enc w0 blk off d → blk < w0.heap.size → SW enc w0 blk off dk W → dk.size = d.size →
    a < m → m < b → b ≤ d.size → b - a ≤ f → d.size < 2305843009213693952 →
    Calls Try.prog 167 #[.agg #[.func (.func g) #[] lb, .func (.func sf) #[] sb], .int .i64 a, .int .i64 m, .int .i64 b] W fun e w' =>
      e = .returned (.tuple #[]) ∧ SW enc w0 blk off (symM lt f a m b dk) w'
set_option maxHeartbeats 40000000 in
set_option maxRecDepth 100000 in
theorem symMerge_c1 (enc : α → Value) (lt : α → α → Bool) (g : Nat) (lb : Array Value) (sf : Nat) (sb : Array Value) (blk off : Nat) (eg : ∀ args w, (callFunc g args).run Try.prog w = .ok (.enter g args) w) (f : Nat)  (a m b : Nat) (d dk : Array α) (w0 W : World)
    (hless : LessReads Try.prog g lb enc lt blk off d.size w0) (hswap : SwapSwaps Try.prog sf sb enc blk off d.size) (hH : Holds enc w0 blk off d) (hblk : blk < w0.heap.size) (hW : SW enc w0 blk off dk W) (hs : dk.size = d.size)
    (ha : a < m) (hm : m < b) (hb : b ≤ d.size) (hf : b - a ≤ f + 1) (hsz : d.size < 2305843009213693952) (c1 : m - a = 1) :
    Calls Try.prog 167 #[.agg #[.func (.func g) #[] lb, .func (.func sf) #[] sb], .int .i64 a, .int .i64 m, .int .i64 b] W fun e w' =>
      e = .returned (.tuple #[]) ∧ SW enc w0 blk off (symM lt (f + 1) a m b dk) w' := by
  have hB : Holds enc (W.alloc (.cells #[.func (.func g) #[] lb, .func (.func sf) #[] sb] 140)) blk off dk := by
    rw [alloc_eq_grow]; exact holds_grow enc W _ blk off dk (hW.lt hblk) (hW.holds hblk hH hs)
  have hbB : blk < (W.alloc (.cells #[.func (.func g) #[] lb, .func (.func sf) #[] sb] 140)).heap.size := by rw [alloc_eq_grow, size_grow]; have := hW.lt hblk; omega
  have hswap' : SwapSwaps Try.prog sf sb enc blk off dk.size := by rw [hs]; exact hswap
  have hless' : LessReads Try.prog g lb enc lt blk off dk.size (W.alloc (.cells #[.func (.func g) #[] lb, .func (.func sf) #[] sb] 140)) := by
    rw [hs]; exact (hW.alloc _).lessReads hless hblk hs
  have b0 : (W.alloc (.cells #[.func (.func g) #[] lb, .func (.func sf) #[] sb] 140)).cell? ⟨W.heap.size, 0, none⟩ = some (.func (.func g) #[] lb) := by simp
  have b1 : (W.alloc (.cells #[.func (.func g) #[] lb, .func (.func sf) #[] sb] 140)).cell? ⟨W.heap.size, 1, none⟩ = some (.func (.func sf) #[] sb) := by simp
  have e1 : (m : Int) - a = 1 := by omega
  go_enter Try.func167, Try.ntmps167
  go_wp2
  go_loopw [8, 9] (fun vi vj wr => ∃ (i j : Nat), vi = .int .i64 i ∧ vj = .int .i64 j ∧ m ≤ i ∧ i ≤ j ∧ j ≤ b ∧
      SW enc (W.alloc (.cells #[.func (.func g) #[] lb, .func (.func sf) #[] sb] 140)) blk off dk wr ∧ bsM (fun c => lt dk[c]! dk[a]!) i j = bsM (fun c => lt dk[c]! dk[a]!) (m) (b)) (fun vi vj _ => (intOf vj).toNat - (intOf vi).toNat)
  case atStart => exact ⟨m, b, by first | (congr 1; done) | (congr 1; omega), by congr 1, by omega, by omega, by omega, SW.start hB, rfl⟩
  case round =>
    obtain ⟨i, j, rfl, rfl, hmi, hij, hjb, hSW, hR⟩ := hrel
    have hc0 := SW_box hW hblk b0 hSW
    have hc1 := SW_box hW hblk b1 hSW
    by_cases hlt : i < j
    · have hl := hSW.less hless' rfl (((i + j) / 2)) (a) (by omega) (by omega)
      rw [show (((i + j) / 2 : Nat) : Int) = ((i : Int) + j) / 2 by omega] at hl
      rw [bsM, dif_pos hlt] at hR
      cases hv : lt dk[((i + j) / 2)]! dk[a]! with
      | true =>
        rw [hv] at hl
        rw [if_pos hv] at hR
        go_wp2
        refine hl.mono ?_
        rintro e w1 ⟨rfl, q, rfl⟩
        go_wp2
        exact ⟨⟨(i + j) / 2 + 1, j, by congr 1, rfl, by omega, by omega, hjb, hSW.drewN q, hR⟩, by simp [intOf]; omega⟩
      | false =>
        rw [hv] at hl
        rw [if_neg (by rw [hv]; simp)] at hR
        go_wp2
        refine hl.mono ?_
        rintro e w1 ⟨rfl, q, rfl⟩
        go_wp2
        exact ⟨⟨i, (i + j) / 2, rfl, by congr 1, hmi, by omega, by omega, hSW.drewN q, hR⟩, by simp [intOf]; omega⟩
    · rw [bsM, dif_neg hlt] at hR
      have hsym : symM lt (f + 1) a m b dk = upM dk a i := by rw [symM, if_pos c1, ← hR]
      go_wp2
      go_loopw [11] (fun vk wr2 => ∃ (k : Nat) (dj : Array α), vk = .int .i64 k ∧ a ≤ k ∧ dj.size = dk.size ∧
          SW enc (W.alloc (.cells #[.func (.func g) #[] lb, .func (.func sf) #[] sb] 140)) blk off dj wr2 ∧ upM dj k i = upM dk a i) (fun vk _ => i - (intOf vk).toNat)
      case atStart => exact ⟨a, dk, rfl, Nat.le_refl _, rfl, hSW, rfl⟩
      case round =>
        obtain ⟨k, dj, rfl, hak, hsj, hSj, hU⟩ := hrel
        have hd0 := SW_box hW hblk b0 hSj
        have hd1 := SW_box hW hblk b1 hSj
        rw [upM] at hU
        by_cases hk : k + 1 < i
        · rw [if_pos hk] at hU
          have hh := hswap' _ dj (hSj.holds hbB hB hsj) hsj k (k + 1) (by omega) (by omega)
          rw [Int.natCast_add, show ((1 : Nat) : Int) = 1 from rfl] at hh
          have hn := hSj.swap hbB k (k + 1) (by omega) (by omega)
          go_wp2
          exact ⟨⟨k + 1, _, by congr 1, by omega, by rw [size_swp, hsj], hn, hU⟩, by simp [intOf]; omega⟩
        · rw [if_neg hk] at hU
          go_wp2
          refine bodyPost_ret (results_none rfl _ _ _) rfl ?_
          exact ⟨rfl, by rw [hsym, ← hU]; exact SW_fin hW hblk hsj hSj⟩
set_option maxHeartbeats 40000000 in
set_option maxRecDepth 100000 in
theorem symMerge_c2 (enc : α → Value) (lt : α → α → Bool) (g : Nat) (lb : Array Value) (sf : Nat) (sb : Array Value) (blk off : Nat) (eg : ∀ args w, (callFunc g args).run Try.prog w = .ok (.enter g args) w) (f : Nat)  (a m b : Nat) (d dk : Array α) (w0 W : World)
    (hless : LessReads Try.prog g lb enc lt blk off d.size w0) (hswap : SwapSwaps Try.prog sf sb enc blk off d.size) (hH : Holds enc w0 blk off d) (hblk : blk < w0.heap.size) (hW : SW enc w0 blk off dk W) (hs : dk.size = d.size)
    (ha : a < m) (hm : m < b) (hb : b ≤ d.size) (hf : b - a ≤ f + 1) (hsz : d.size < 2305843009213693952) (c1 : ¬ m - a = 1) (c2 : b - m = 1) :
    Calls Try.prog 167 #[.agg #[.func (.func g) #[] lb, .func (.func sf) #[] sb], .int .i64 a, .int .i64 m, .int .i64 b] W fun e w' =>
      e = .returned (.tuple #[]) ∧ SW enc w0 blk off (symM lt (f + 1) a m b dk) w' := by
  have hB : Holds enc (W.alloc (.cells #[.func (.func g) #[] lb, .func (.func sf) #[] sb] 140)) blk off dk := by
    rw [alloc_eq_grow]; exact holds_grow enc W _ blk off dk (hW.lt hblk) (hW.holds hblk hH hs)
  have hbB : blk < (W.alloc (.cells #[.func (.func g) #[] lb, .func (.func sf) #[] sb] 140)).heap.size := by rw [alloc_eq_grow, size_grow]; have := hW.lt hblk; omega
  have hswap' : SwapSwaps Try.prog sf sb enc blk off dk.size := by rw [hs]; exact hswap
  have hless' : LessReads Try.prog g lb enc lt blk off dk.size (W.alloc (.cells #[.func (.func g) #[] lb, .func (.func sf) #[] sb] 140)) := by
    rw [hs]; exact (hW.alloc _).lessReads hless hblk hs
  have b0 : (W.alloc (.cells #[.func (.func g) #[] lb, .func (.func sf) #[] sb] 140)).cell? ⟨W.heap.size, 0, none⟩ = some (.func (.func g) #[] lb) := by simp
  have b1 : (W.alloc (.cells #[.func (.func g) #[] lb, .func (.func sf) #[] sb] 140)).cell? ⟨W.heap.size, 1, none⟩ = some (.func (.func sf) #[] sb) := by simp
  have e1 : (m : Int) - a ≠ 1 := by omega
  have e2 : (b : Int) - m = 1 := by omega
  go_enter Try.func167, Try.ntmps167
  go_wp2
  go_loopw [12, 13] (fun vi vj wr => ∃ (i j : Nat), vi = .int .i64 i ∧ vj = .int .i64 j ∧ a ≤ i ∧ i ≤ j ∧ j ≤ m ∧
      SW enc (W.alloc (.cells #[.func (.func g) #[] lb, .func (.func sf) #[] sb] 140)) blk off dk wr ∧ bsM (fun c => !lt dk[m]! dk[c]!) i j = bsM (fun c => !lt dk[m]! dk[c]!) (a) (m)) (fun vi vj _ => (intOf vj).toNat - (intOf vi).toNat)
  case atStart => exact ⟨a, m, by first | (congr 1; done) | (congr 1; omega), by congr 1, by omega, by omega, by omega, SW.start hB, rfl⟩
  case round =>
    obtain ⟨i, j, rfl, rfl, hmi, hij, hjb, hSW, hR⟩ := hrel
    have hc0 := SW_box hW hblk b0 hSW
    have hc1 := SW_box hW hblk b1 hSW
    by_cases hlt : i < j
    · have hl := hSW.less hless' rfl (m) (((i + j) / 2)) (by omega) (by omega)
      rw [show (((i + j) / 2 : Nat) : Int) = ((i : Int) + j) / 2 by omega] at hl
      rw [bsM, dif_pos hlt] at hR
      cases hv : lt dk[m]! dk[((i + j) / 2)]! with
      | false =>
        rw [hv] at hl
        rw [if_pos (by rw [hv]; rfl)] at hR
        go_wp2
        refine hl.mono ?_
        rintro e w1 ⟨rfl, q, rfl⟩
        go_wp2
        exact ⟨⟨(i + j) / 2 + 1, j, by congr 1, rfl, by omega, by omega, hjb, hSW.drewN q, hR⟩, by simp [intOf]; omega⟩
      | true =>
        rw [hv] at hl
        rw [if_neg (by rw [hv]; simp)] at hR
        go_wp2
        refine hl.mono ?_
        rintro e w1 ⟨rfl, q, rfl⟩
        go_wp2
        exact ⟨⟨i, (i + j) / 2, rfl, by congr 1, hmi, by omega, by omega, hSW.drewN q, hR⟩, by simp [intOf]; omega⟩
    · rw [bsM, dif_neg hlt] at hR
      have hsym : symM lt (f + 1) a m b dk = downM dk m i := by rw [symM, if_neg c1, if_pos c2, ← hR]
      go_wp2
      go_loopw [15] (fun vk wr2 => ∃ (k : Nat) (dj : Array α), vk = .int .i64 k ∧ k ≤ m ∧ i ≤ k ∧ dj.size = dk.size ∧
          SW enc (W.alloc (.cells #[.func (.func g) #[] lb, .func (.func sf) #[] sb] 140)) blk off dj wr2 ∧ downM dj k i = downM dk m i) (fun vk _ => (intOf vk).toNat - i)
      case atStart => exact ⟨m, dk, rfl, Nat.le_refl _, by omega, rfl, hSW, rfl⟩
      case round =>
        obtain ⟨k, dj, rfl, hak, hik, hsj, hSj, hU⟩ := hrel
        have hd0 := SW_box hW hblk b0 hSj
        have hd1 := SW_box hW hblk b1 hSj
        rw [downM] at hU
        by_cases hk : i < k
        · rw [if_pos hk] at hU
          have hh := hswap' _ dj (hSj.holds hbB hB hsj) hsj k (k - 1) (by omega) (by omega)
          rw [show ((k - 1 : Nat) : Int) = (k : Int) - 1 by omega] at hh
          have hn := hSj.swap hbB k (k - 1) (by omega) (by omega)
          go_wp2
          exact ⟨⟨k - 1, _, by congr 1; omega, by omega, by omega, by rw [size_swp, hsj], hn, hU⟩, by simp [intOf]; omega⟩
        · rw [if_neg hk] at hU
          go_wp2
          refine bodyPost_ret (results_none rfl _ _ _) rfl ?_
          exact ⟨rfl, by rw [hsym, ← hU]; exact SW_fin hW hblk hsj hSj⟩
theorem sym_rot (enc : α → Value) (lt : α → α → Bool) (g : Nat) (lb : Array Value) (sf : Nat) (sb : Array Value) (blk off : Nat) (a m b i : Nat) (dk : Array α) (B wr : World) (hswap' : SwapSwaps Try.prog sf sb enc blk off dk.size) (hB : Holds enc B blk off dk) (hbB : blk < B.heap.size) (hS : SW enc B blk off dk wr)
    (h1 : i < m) (h2 : m < (a + b) / 2 + m - i) (h3 : (a + b) / 2 + m - i ≤ dk.size) (hsz : dk.size < 2305843009213693952) :
    Calls Try.prog 180 #[.agg #[.func (.func g) #[] lb, .func (.func sf) #[] sb], .int .i64 i, .int .i64 m, .int .i64 (((a : Int) + b) / 2 + m - i)] wr fun e w' =>
      e = .returned (.tuple #[]) ∧ SW enc B blk off (rotM m (m - i) ((a + b) / 2 + m - i - m) dk) w' := by
  have := rotate_w enc lt g lb sf sb blk off i m ((a + b) / 2 + m - i) dk dk B wr hswap' hB hbB hS rfl h1 h2 h3 (by omega)
  rw [show (((a + b) / 2 + m - i : Nat) : Int) = ((a : Int) + b) / 2 + m - i by omega] at this
  exact this
theorem sym_rec1 (enc : α → Value) (lt : α → α → Bool) (g : Nat) (lb : Array Value) (sf : Nat) (sb : Array Value) (blk off : Nat) (f a b i : Nat) (d dj : Array α) (B wr : World) (ih : SymIH enc lt g lb sf sb blk off f) (hless' : LessReads Try.prog g lb enc lt blk off d.size B) (hswap' : SwapSwaps Try.prog sf sb enc blk off d.size) (hB : Holds enc B blk off d) (hbB : blk < B.heap.size)
    (hS : SW enc B blk off dj wr) (hd : dj.size = d.size) (h1 : a < i) (h2 : i < (a + b) / 2) (h3 : b ≤ d.size) (h4 : b - a ≤ f + 1) (hsz : d.size < 2305843009213693952) :
    Calls Try.prog 167 #[.agg #[.func (.func g) #[] lb, .func (.func sf) #[] sb], .int .i64 a, .int .i64 i, .int .i64 (((a : Int) + b) / 2)] wr fun e w' =>
      e = .returned (.tuple #[]) ∧ SW enc B blk off (symM lt f a i ((a + b) / 2) dj) w' := by
  have := ih a i ((a + b) / 2) d dj B wr hless' hswap' hB hbB hS hd h1 h2 (by omega) (by omega) (by omega)
  rw [show (((a + b) / 2 : Nat) : Int) = ((a : Int) + b) / 2 by omega] at this
  exact this
theorem sym_rec2 (enc : α → Value) (lt : α → α → Bool) (g : Nat) (lb : Array Value) (sf : Nat) (sb : Array Value) (blk off : Nat) (f a b m i : Nat) (d dj : Array α) (B wr : World) (ih : SymIH enc lt g lb sf sb blk off f) (hless' : LessReads Try.prog g lb enc lt blk off d.size B) (hswap' : SwapSwaps Try.prog sf sb enc blk off d.size) (hB : Holds enc B blk off d) (hbB : blk < B.heap.size)
    (hS : SW enc B blk off dj wr) (hd : dj.size = d.size) (h1 : (a + b) / 2 < (a + b) / 2 + m - i) (h2 : (a + b) / 2 + m - i < b) (h3 : b ≤ d.size) (h4 : b - a ≤ f + 1) (h5 : a + 1 < b) (hsz : d.size < 2305843009213693952) :
    Calls Try.prog 167 #[.agg #[.func (.func g) #[] lb, .func (.func sf) #[] sb], .int .i64 (((a : Int) + b) / 2), .int .i64 (((a : Int) + b) / 2 + m - i), .int .i64 b] wr fun e w' =>
      e = .returned (.tuple #[]) ∧ SW enc B blk off (symM lt f ((a + b) / 2) ((a + b) / 2 + m - i) b dj) w' := by
  have := ih ((a + b) / 2) ((a + b) / 2 + m - i) b d dj B wr hless' hswap' hB hbB hS hd h1 h2 h3 (by omega) (by omega)
  rw [show (((a + b) / 2 : Nat) : Int) = ((a : Int) + b) / 2 by omega, show (((a + b) / 2 + m - i : Nat) : Int) = ((a : Int) + b) / 2 + m - i by omega] at this
  exact this
end Go.Proofs.Ythnphcinjchloaa
