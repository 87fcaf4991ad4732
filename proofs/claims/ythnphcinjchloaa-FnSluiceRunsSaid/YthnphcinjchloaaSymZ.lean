/- sort.symMerge_func, walked; sort.stable_func and sort.SliceStable, any length -/
import Derived.Test.YthnphcinjchloaaSym6
import Derived.Test.YthnphcinjchloaaSym7
import Derived.Test.YthnphcinjchloaaSymS
set_option linter.unusedVariables false
set_option linter.unusedSimpArgs false
namespace Go.Proofs.Ythnphcinjchloaa
open Go.AG Go.Lib Go.Sort Go.Shelf Go.RowKit Go.Proofs
variable {α : Type} [Inhabited α]

theorem symMerge_w (enc : α → Value) (lt : α → α → Bool) (g : Nat) (lb : Array Value) (sf : Nat) (sb : Array Value) (blk off : Nat) (eg : ∀ args w, (callFunc g args).run Try.prog w = .ok (.enter g args) w) (f : Nat) : SymIH enc lt g lb sf sb blk off f := by
  induction f with
  | zero => intro a m b d dk w0 W _ _ _ _ _ _ h1 h2 _ h3; omega
  | succ f ih =>
    intro a m b d dk w0 W hless hswap hH hblk hW hs ha hm hb hf hsz
    by_cases c1 : m - a = 1
    · exact symMerge_c1 enc lt g lb sf sb blk off eg f a m b d dk w0 W hless hswap hH hblk hW hs ha hm hb hf hsz c1
    · by_cases c2 : b - m = 1
      · exact symMerge_c2 enc lt g lb sf sb blk off eg f a m b d dk w0 W hless hswap hH hblk hW hs ha hm hb hf hsz c1 c2
      · by_cases c3 : (a + b) / 2 < m
        · exact symMerge_c3 enc lt g lb sf sb blk off eg f ih a m b d dk w0 W hless hswap hH hblk hW hs ha hm hb hf hsz c1 c2 c3
        · exact symMerge_c4 enc lt g lb sf sb blk off eg f ih a m b d dk w0 W hless hswap hH hblk hW hs ha hm hb hf hsz c1 c2 c3
end Go.Proofs.Ythnphcinjchloaa
namespace Go.Proofs.Ythnphcinjchloaa
open Go.AG Go.Lib Go.Sort Go.Shelf Go.RowKit Go.Proofs
variable {α : Type} [Inhabited α]

theorem insInner_size (lt : α → α → Bool) (a j : Nat) (d : Array α) : (insInner lt a j d).size = d.size := by
  induction j generalizing d with
  | zero => rfl
  | succ j ih =>
    rw [insInner]
    split
    · rw [ih, size_swp]
    · rfl
theorem insOuter_size (lt : α → α → Bool) (a b i : Nat) (d : Array α) : (insOuter lt a b i d).size = d.size := by
  induction hn : b - i using Nat.strongRecOn generalizing i d with
  | _ n ih =>
    rw [insOuter]
    split
    · rw [ih (b - (i + 1)) (by omega) (i + 1) _ rfl, insInner_size]
    · rfl
theorem insSort_size (lt : α → α → Bool) (d : Array α) (a b : Nat) : (insertionSort lt d a b).size = d.size := insOuter_size _ _ _ _ _
theorem ins_w (enc : α → Value) (lt : α → α → Bool) (g : Nat) (lb : Array Value) (sf : Nat) (sb : Array Value) (blk off a b : Nat) (d : Array α) (w : World)
    (eg : ∀ args w, (callFunc g args).run Try.prog w = .ok (.enter g args) w) (hless : LessReads Try.prog g lb enc lt blk off d.size w) (hswap : SwapSwaps Try.prog sf sb enc blk off d.size)
    (hH : Holds enc w blk off d) (hblk : blk < w.heap.size) (hab : a ≤ b) (hb : b ≤ d.size) (hsz : d.size < 4611686018427387904) :
    Calls Try.prog 166 #[.agg #[.func (.func g) #[] lb, .func (.func sf) #[] sb], .int .i64 a, .int .i64 b] w fun e w' => e = .returned (.tuple #[]) ∧ ∃ n os, w' = sortWorld enc w blk off n (Sort.insertionSort lt d a b) os := by
  have L := Try.laysGt8
  have L2 : LaysGt.n15 Try.prog _ := { L with }
  exact Any.insertionSort_func_w ({ L2 with } : LaysGt.n29 _ _).elder enc lt g lb sf sb blk off a b d w eg hless hswap hH hblk hab hb hsz

set_option maxHeartbeats 4000000 in
set_option maxRecDepth 100000 in
theorem stable_w (enc : α → Value) (lt : α → α → Bool) (g : Nat) (lb : Array Value) (sf : Nat) (sb : Array Value) (blk off : Nat) (d : Array α) (W : World)
    (eg : ∀ args w, (callFunc g args).run Try.prog w = .ok (.enter g args) w) (hless : LessReads Try.prog g lb enc lt blk off d.size W) (hswap : SwapSwaps Try.prog sf sb enc blk off d.size)
    (hH : Holds enc W blk off d) (hblk : blk < W.heap.size) (hsz : d.size < 1152921504606846976) :
    Calls Try.prog 137 #[.agg #[.func (.func g) #[] lb, .func (.func sf) #[] sb], .int .i64 d.size] W fun e w' => e = .returned (.tuple #[]) ∧ SW enc W blk off (stA lt d.size d) w' := by
  have hB : Holds enc (W.alloc (.cells #[.func (.func g) #[] lb, .func (.func sf) #[] sb] 140)) blk off d := by
    rw [alloc_eq_grow]; exact holds_grow enc W _ blk off d hblk hH
  have hbB : blk < (W.alloc (.cells #[.func (.func g) #[] lb, .func (.func sf) #[] sb] 140)).heap.size := by rw [alloc_eq_grow, size_grow]; omega
  have hless' : LessReads Try.prog g lb enc lt blk off d.size (W.alloc (.cells #[.func (.func g) #[] lb, .func (.func sf) #[] sb] 140)) := ((SW.start hH).alloc _).lessReads hless hblk rfl
  have fin : ∀ dj w', dj.size = d.size → SW enc (W.alloc (.cells #[.func (.func g) #[] lb, .func (.func sf) #[] sb] 140)) blk off dj w' → SW enc W blk off dj w' := fun dj w' hd h => by
    obtain ⟨n, os, rfl⟩ := h
    exact ((SW.start hH).alloc _).on hblk n dj os hd
  have cell : ∀ k v dj w', (W.alloc (.cells #[.func (.func g) #[] lb, .func (.func sf) #[] sb] 140)).cell? ⟨W.heap.size, k, none⟩ = some v → SW enc (W.alloc (.cells #[.func (.func g) #[] lb, .func (.func sf) #[] sb] 140)) blk off dj w' → w'.cell? ⟨W.heap.size, k, none⟩ = some v := fun k v dj w' hv h => by
    obtain ⟨n, os, rfl⟩ := h
    exact sortWorld_other enc hv (by show W.heap.size ≠ blk; omega)
  have b0 : (W.alloc (.cells #[.func (.func g) #[] lb, .func (.func sf) #[] sb] 140)).cell? ⟨W.heap.size, 0, none⟩ = some (.func (.func g) #[] lb) := by simp
  have b1 : (W.alloc (.cells #[.func (.func g) #[] lb, .func (.func sf) #[] sb] 140)).cell? ⟨W.heap.size, 1, none⟩ = some (.func (.func sf) #[] sb) := by simp
  have ins : ∀ (a b : Nat) (dj : Array α) (wr : World), SW enc (W.alloc (.cells #[.func (.func g) #[] lb, .func (.func sf) #[] sb] 140)) blk off dj wr → dj.size = d.size → a ≤ b → b ≤ d.size →
      Calls Try.prog 166 #[.agg #[.func (.func g) #[] lb, .func (.func sf) #[] sb], .int .i64 a, .int .i64 b] wr fun e w' =>
        e = .returned (.tuple #[]) ∧ (insertionSort lt dj a b).size = d.size ∧ SW enc (W.alloc (.cells #[.func (.func g) #[] lb, .func (.func sf) #[] sb] 140)) blk off (insertionSort lt dj a b) w' := fun a b dj wr hS hs hab hb => by
    have hz := insSort_size lt dj a b
    refine (ins_w enc lt g lb sf sb blk off a b dj wr eg (by rw [hs]; exact hS.lessReads hless' hbB hs) (by rw [hs]; exact hswap) (hS.holds hbB hB hs) (hS.lt hbB) hab (by omega) (by omega)).mono ?_
    rintro e w' ⟨rfl, n, os, rfl⟩
    exact ⟨rfl, by omega, hS.on hbB n _ os hz⟩
  have mrg : ∀ (f a m b : Nat) (dj : Array α) (wr : World), SW enc (W.alloc (.cells #[.func (.func g) #[] lb, .func (.func sf) #[] sb] 140)) blk off dj wr → dj.size = d.size → a < m → m < b → b ≤ d.size → b - a ≤ f →
      Calls Try.prog 167 #[.agg #[.func (.func g) #[] lb, .func (.func sf) #[] sb], .int .i64 a, .int .i64 m, .int .i64 b] wr fun e w' =>
        e = .returned (.tuple #[]) ∧ (symM lt f a m b dj).size = d.size ∧ SW enc (W.alloc (.cells #[.func (.func g) #[] lb, .func (.func sf) #[] sb] 140)) blk off (symM lt f a m b dj) w' := fun f a m b dj wr hS hs h1 h2 h3 h4 => by
    refine (symMerge_w enc lt g lb sf sb blk off eg f a m b d dj _ wr hless' hswap hB hbB hS hs h1 h2 h3 h4 (by omega)).mono ?_
    rintro e w' ⟨rfl, h⟩
    exact ⟨rfl, by rw [symM_size, hs], h⟩
  go_enter Try.func137, Try.ntmps137
  go_wp2
  go_loopw [5, 6] (fun va vb wr => ∃ (f a : Nat) (dj : Array α), va = .int .i64 a ∧ vb = .int .i64 (a + 20 : Nat) ∧ d.size < a + f ∧ a ≤ d.size ∧ dj.size = d.size ∧
      SW enc (W.alloc (.cells #[.func (.func g) #[] lb, .func (.func sf) #[] sb] 140)) blk off dj wr ∧ stI lt d.size f a dj = stI lt d.size (d.size + 1) 0 d) (fun va _ _ => d.size - (intOf va).toNat)
  case atStart => exact ⟨d.size + 1, 0, d, rfl, rfl, by omega, by omega, rfl, SW.start hB, rfl⟩
  case round =>
    obtain ⟨f, a, dj, rfl, rfl, hf, han, hsj, hSW, hR⟩ := hrel
    obtain ⟨f, rfl⟩ : ∃ f', f = f' + 1 := ⟨f - 1, by omega⟩
    have hc0 := cell 0 _ dj wr b0 hSW
    have hc1 := cell 1 _ dj wr b1 hSW
    rw [stI] at hR
    by_cases hlt : a + 20 ≤ d.size
    · rw [if_pos hlt] at hR
      go_wp2_with (go_at_fn 166)
      refine (ins a (a + 20) dj wr hSW hsj (by omega) hlt).mono ?_
      rintro e w1 ⟨rfl, hz, hS1⟩
      go_wp2
      exact ⟨⟨f, a + 20, _, rfl, by congr 1, by omega, hlt, hz, hS1, hR⟩, by simp [intOf]; omega⟩
    · rw [if_neg hlt] at hR
      go_wp2_with (go_at_fn 166)
      refine (ins a d.size dj wr hSW hsj han (Nat.le_refl _)).mono ?_
      rintro e w1 ⟨rfl, hz, hS1⟩
      rw [hR] at hS1 hz
      go_wp2
      go_loopw [4] (fun vc wr2 => ∃ (f c : Nat) (dj : Array α), vc = .int .i64 c ∧ 0 < c ∧ c < 2 * d.size + 21 ∧ d.size < c + f ∧ dj.size = d.size ∧
          SW enc (W.alloc (.cells #[.func (.func g) #[] lb, .func (.func sf) #[] sb] 140)) blk off dj wr2 ∧ stB lt d.size f c dj = stA lt d.size d) (fun vc _ => d.size - (intOf vc).toNat)
      case atStart => exact ⟨d.size, 20, _, rfl, by omega, by omega, by omega, hz, hS1, rfl⟩
      case round =>
        obtain ⟨f2, c, d2, rfl, hc, hc2, hf2, hs2, hSW2, hR2⟩ := hrel
        have hd0 := cell 0 _ d2 _ b0 hSW2
        have hd1 := cell 1 _ d2 _ b1 hSW2
        by_cases hlt2 : c < d.size
        · obtain ⟨f2, rfl⟩ : ∃ f', f2 = f' + 1 := ⟨f2 - 1, by omega⟩
          rw [stB, if_pos hlt2] at hR2
          go_wp2
          go_loopw [5, 6] (fun va vb wr3 => ∃ (f a : Nat) (dj : Array α), va = .int .i64 a ∧ vb = .int .i64 (a + 2 * c : Nat) ∧ d.size < a + f ∧ a ≤ d.size ∧ dj.size = d.size ∧
              SW enc (W.alloc (.cells #[.func (.func g) #[] lb, .func (.func sf) #[] sb] 140)) blk off dj wr3 ∧ stP lt d.size c f a dj = stP lt d.size c (d.size + 1) 0 d2) (fun va _ _ => d.size - (intOf va).toNat)
          case atStart => exact ⟨d.size + 1, 0, d2, rfl, by first | (congr 1; done) | (congr 1; omega), by omega, by omega, hs2, hSW2, rfl⟩
          case round =>
            obtain ⟨f3, a3, d3, rfl, rfl, hf3, han3, hs3, hSW3, hR3⟩ := hrel
            obtain ⟨f3, rfl⟩ : ∃ f', f3 = f' + 1 := ⟨f3 - 1, by omega⟩
            have he0 := cell 0 _ d3 _ b0 hSW3
            have he1 := cell 1 _ d3 _ b1 hSW3
            rw [stP] at hR3
            by_cases hlt3 : a3 + 2 * c ≤ d.size
            · rw [if_pos hlt3] at hR3
              have hm := mrg (2 * c) a3 (a3 + c) (a3 + 2 * c) d3 _ hSW3 hs3 (by omega) (by omega) hlt3 (by omega)
              rw [show ((a3 + c : Nat) : Int) = (a3 : Int) + c by omega] at hm
              go_wp2_with (go_at_fn 167)
              refine hm.mono ?_
              rintro e w4 ⟨rfl, hz4, hS4⟩
              go_wp2
              exact ⟨⟨f3, a3 + 2 * c, _, rfl, by first | (congr 1; done) | (congr 1; omega), by omega, hlt3, hz4, hS4, hR3⟩, by simp [intOf]; omega⟩
            · rw [if_neg hlt3] at hR3
              by_cases hlt4 : a3 + c < d.size
              · rw [if_pos hlt4] at hR3
                have hm := mrg (d.size - a3) a3 (a3 + c) d.size d3 _ hSW3 hs3 (by omega) hlt4 (Nat.le_refl _) (by omega)
                rw [show ((a3 + c : Nat) : Int) = (a3 : Int) + c by omega] at hm
                go_wp2_with (go_at_fn 167)
                refine hm.mono ?_
                rintro e w4 ⟨rfl, hz4, hS4⟩
                go_wp2
                rw [hR3] at hS4 hz4
                exact ⟨⟨f2, 2 * c, _, by first | (congr 1; done) | (congr 1; omega), by omega, by omega, by omega, hz4, hS4, hR2⟩, by simp [intOf]; omega⟩
              · rw [if_neg hlt4] at hR3
                go_wp2
                rw [← hR3] at hR2
                exact ⟨⟨f2, 2 * c, _, by first | (congr 1; done) | (congr 1; omega), by omega, by omega, by omega, hs3, hSW3, hR2⟩, by simp [intOf]; omega⟩
        · have hst : stA lt d.size d = d2 := by
            rw [← hR2]
            cases f2 with
            | zero => rfl
            | succ f2 => rw [stB, if_neg hlt2]
          go_wp2
          go_end0
          exact ⟨rfl, by rw [hst]; exact fin _ _ hs2 hSW2⟩

set_option maxHeartbeats 1000000 in
/-- sort.SliceStable of two elements or more -/
theorem stable_any (t e : TypeId) (i ie : TypeInfo) (hi : Try.prog.info? t = some i) (hd : i.desc = .slice e) (hpk : Try.prog.packed t = false) (hie : Try.prog.info? e = some ie) (ke : Nat) (hke : ∀ w, (Extern.Rtype.kind e).run Try.prog w = .ok ke w)
    (hs1 : ie.size = 1) (hagg : ∀ w, (isAgg e).run Try.prog w = .ok false w) (enc : α → Value) (h1 : ∀ x, (enc x).oneCell' = true) (lt : α → α → Bool) (g : Nat) (lb : Array Value)
    (eg : ∀ args w, (callFunc g args).run Try.prog w = .ok (.enter g args) w) (blk off c : Nat) (d : Array α) (h2 : 2 ≤ d.size) (h20 : d.size < 1152921504606846976)
    (f : Nat) (hf : Try.prog.funcs.findIdx? (·.name == "internal/reflectlite" ++ ".Swapper$" ++ toString (swapperK d.size ie ke)) = some f)
    (gS : Bool) (hx : ∀ args W, (callFunc f args).run Try.prog W = ((Extern.ReflectliteSwapper.swap gS args).run Try.prog W).andThen fun v w' => .ok (.value v) w')
    (w : World) (hless : LessReads Try.prog g lb enc lt blk off d.size w) (hH : Holds enc w blk off d) (hblk : blk < w.heap.size) :
    Calls Try.prog 86 #[.iface t (.slice (some ⟨blk, off, none⟩) d.size c), .func (.func g) #[] lb] w fun e w' =>
      e = .returned (.tuple #[]) ∧ ∃ n os, w' = grow (putRow enc (Sort.ahead w n) blk off (stA lt d.size d)) os := by
  have L := Try.laysGt8
  refine Any.sort_SliceStable_of_stable L t e i ie hi hd hpk hie ke hke _ d.size c (by omega) f hf (.func g) #[] lb w _ ?_
  have hB : sliceBound Try.prog e ie ke (some ⟨blk, off, none⟩) d.size c = #[.slice (some ⟨blk, off, none⟩) d.size c, typeHandle Try.prog e] := by
    unfold sliceBound; rw [if_neg (swapperK_gt _ _ _ h2)]
  obtain ⟨os0, hW⟩ : ∃ os0, stableWorld Try.prog Try.laysGt8_ren t (some ⟨blk, off, none⟩) d.size c w = grow w os0 := by
    exact ⟨_, by unfold stableWorld; rw [alloc_eq_grow, alloc_eq_grow, grow_grow]⟩
  rw [hB, hW]
  have hp := stable_w enc lt g lb f _ blk off d (grow w os0) eg (hless.grow hblk os0)
    (swapSwaps_of_literal gS f hx e ie hie hs1 hagg enc h1 blk off d.size c) (holds_grow enc w _ blk off d hblk hH) (by rw [size_grow]; omega) h20
  refine hp.mono ?_
  rintro e w' ⟨rfl, n, os, rfl⟩
  exact ⟨rfl, n, _, by unfold sortWorld; rw [ahead_grow, putRow_grow enc (Sort.ahead w n) _ blk off _ hblk, grow_grow]⟩
end Go.Proofs.Ythnphcinjchloaa
