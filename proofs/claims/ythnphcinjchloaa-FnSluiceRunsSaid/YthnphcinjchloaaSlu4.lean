/- the best hours: the ascending sort; the program -/
import Derived.Test.YthnphcinjchloaaSlu3
import Derived.Test.YthnphcinjchloaaSlu2
import Derived.Shelf.GgSortFunc.Whole
set_option linter.unusedVariables false
set_option linter.unusedSimpArgs false
namespace Go.Proofs.Ythnphcinjchloaa
open Go.AG Go.Lib Go.Sort Go.Shelf Go.RowKit

theorem putI_new (n : Int) : ∀ (xs : List Int), n ∉ xs → (putI n xs).length = xs.length + 1
  | [], _ => rfl
  | x :: r, h => by
    rw [List.mem_cons, not_or] at h
    have := putI_new n r h.2
    simp only [putI]
    split
    · simp [this]
    · split
      · simp
      · exact absurd (show n = x by omega) h.1
theorem ascI_len (xs : List Int) : xs.Nodup → (ascI xs).length = xs.length := by
  refine snoc_ind (M := fun xs => xs.Nodup → (ascI xs).length = xs.length) (fun _ => rfl) ?_ xs
  intro ys y ih h
  rw [List.nodup_append] at h
  obtain ⟨h1, _, h3⟩ := h
  rw [ascI_snoc, putI_new _ _ (fun hm => h3 y ((ascI_ok ys).2 y |>.1 hm) y (by simp) rfl), ih h1]
  simp
def ltI9 (a b : Int) : Bool := decide (a < b)
theorem ltI9_swo : SWO ltI9 := ⟨fun x => by simp [ltI9], fun x y z h1 h2 => by simp [ltI9] at *; omega, fun x y z h1 h2 => by simp [ltI9] at *; omega⟩
def encI9 (x : Int) : Value := .int .i64 x
theorem encs_I9 (xs : List Int) : encs encI9 xs = ints xs := rfl
theorem ascLess (xs : List Int) (hx : 2 ≤ xs.length) (F : Fr) (w : World) (ρ : Nat → Pl) (h : HOk F w ρ (some ⟨1, encs encI9 xs⟩ :: [some ⟨1, [.ref 0 0 xs.length]⟩]))
    (cs : Array Value) (hs : cs.size = 1) (hr : ∀ i (h : i < [V.ptr 1 0].length), RepC w (F.Y ρ (some ⟨1, encs encI9 xs⟩ :: [some ⟨1, [.ref 0 0 xs.length]⟩])) ρ (some ⟨1, encs encI9 xs⟩ :: [some ⟨1, [.ref 0 0 xs.length]⟩]) (cs.getD i undef) [V.ptr 1 0][i]) :
    LessReads (α := Int) Try.prog 90 cs encI9 ltI9 (ρ 0).blk (ρ 0).base xs.length w := by
  have l0 : Live (some ⟨1, encs encI9 xs⟩ :: [some ⟨1, [.ref 0 0 xs.length]⟩]) 0 ⟨1, encs encI9 xs⟩ := rfl
  have l1 : Live (some ⟨1, encs encI9 xs⟩ :: [some ⟨1, [.ref 0 0 xs.length]⟩]) 1 ⟨1, [.ref 0 0 xs.length]⟩ := rfl
  have p0 := ptr_of (l := 1) (off := 0) (hr 0 (by simp))
  have hcs : cs = #[cs.getD 0 undef] := by
    apply Array.ext (by simp [hs])
    intro i h1 h2
    have : i = 0 := by omega
    subst this
    simp [Array.getD, h1]
  rw [p0] at hcs
  subst hcs
  obtain ⟨c2, a2, b2⟩ := h.box0 l1
  have hb := h.blk_lt l0
  have hH := h.holds (by decide) encI9 l0
  obtain ⟨cap, e3⟩ := ref_of9 b2 (by omega)
  subst e3
  intro m os dk hd i j hi hj
  have n1 : (ρ 1).blk ≠ (ρ 0).blk := fun e => absurd (h.inj _ _ _ _ l1 l0 e) (by decide)
  exact ascLess_walk _ (ρ 1).blk ((ρ 1).base + 0) (ρ 0).blk (ρ 0).base cap xs.length (fun t => dk[t]!) (sortWorld_other _ a2 n1) (fun t ht => sortWorld_row encI9 hH hb (by simp [hd]) t (by omega)) i j hi hj
theorem asc_unique {xs ys : List Int} (hp : ys.Perm xs) (hn : xs.Nodup) (hs : ∀ i j (h : i < j) (hj : j < ys.length), ltI9 ys[j] (ys[i]'(by omega)) = false) : ys = ascI xs := by
  have hyn : ys.Nodup := hp.nodup_iff.2 hn
  refine srt_ext ?_ (ascI_ok xs).1 fun z => ?_
  · rw [List.pairwise_iff_getElem]
    intro i j hi hj hij
    have h1 := hs i j hij hj
    simp only [ltI9, decide_eq_false_iff_not] at h1
    have h2 : ys[i] ≠ ys[j] := fun e => by
      have := (List.getElem_inj hyn).1 e
      omega
    omega
  · rw [(ascI_ok xs).2, hp.mem_iff]
theorem sortAsc_ok (xs : List Int) (hn : xs.Nodup) (hl : xs.length ≤ 1000000) : ACalls Try.prog 89 [.ifc 22 (.ref 0 0 xs.length), .fn 90 [.ptr 1 0]] [oI xs, some ⟨1, [.ref 0 0 xs.length]⟩] (fun r o => r = .tup [] ∧ o = [oI (ascI xs), some ⟨1, [.ref 0 0 xs.length]⟩]) := by
  have hb : HasBody Try.prog 89 := ⟨_, Try.func89, by kernel_rfl, rfl⟩
  by_cases h : xs.length ≤ 1
  · have e : ascI xs = xs := by
      match xs, h with
      | [], _ => rfl
      | [x], _ => rfl
    rw [e]
    refine ACalls.tiny hb _ _ _ xs.length _ (fun w p cap cs => ?_)
    generalize xs.length = n at h
    rcases (show n = 0 ∨ n = 1 by omega) with rfl | rfl
    · exact Any.sort_Slice_tiny Try.laysGg6 22 2 bhT bhE (by kernel_rfl) (by kernel_rfl) (by kernel_rfl) (by kernel_rfl) 6 (fun _ => by kernel_rfl) p 0 cap (by omega) 157 (by rw [bhK0]; kernel_rfl) (.func 90) #[] cs w
    · exact Any.sort_Slice_tiny Try.laysGg6 22 2 bhT bhE (by kernel_rfl) (by kernel_rfl) (by kernel_rfl) (by kernel_rfl) 6 (fun _ => by kernel_rfl) p 1 cap (by omega) 158 (by rw [bhK1]; kernel_rfl) (.func 90) #[] cs w
  · have h2 : 2 ≤ xs.length := by omega
    refine ACalls.stable (α := Int) hb _ _ [.ptr 1 0] encI9 (fun x => rfl) ltI9 xs (ascI xs) (ascI_len xs hn) (fun e => by simp [e] at h2) [some ⟨1, [.ref 0 0 xs.length]⟩] (fun F w ρ h cs hs hr => ascLess xs h2 F w ρ h cs hs hr) (fun w blk off cap cs hless hH hblk => ?_)
    have hz : xs.toArray.size = xs.length := by simp
    have h := Any.sort_Slice_sorted Try.laysGg6 22 2 bhT bhE (by kernel_rfl) (by kernel_rfl) (by kernel_rfl) (by kernel_rfl) 6 (fun _ => by kernel_rfl) (by kernel_rfl) (fun _ => by kernel_rfl) encI9 (fun _ => rfl) ltI9 ltI9_swo 90 cs
      (enters_of Try.func90 (by kernel_rfl) rfl) blk off cap xs.toArray (by omega) (by omega) 161 (by rw [bhK _ (by omega)]; kernel_rfl) true
      (fun args W => run_callFunc_extern Try.func161 (by kernel_rfl) (by kernel_rfl) (by kernel_rfl) (e := Extern.ReflectliteSwapper.swap true) (by kernel_rfl) args W) w (by rw [hz]; exact hless) hH hblk
    rw [hz] at h
    refine h.mono ?_
    rintro e w' ⟨e1, d', n, os, ⟨p1, _, p3⟩, s1, e2⟩
    refine ⟨e1, n, os, ?_⟩
    have x1 := ext_self9 d' xs.length (by rw [p1, hz])
    have x2 := ext_self9 xs.toArray xs.length hz
    rw [x1, x2, List.toList_toArray] at p3
    have hu : d'.toList = ascI xs := asc_unique p3 hn fun i j h hj => by
      have hj2 : j < xs.length := by rw [← hz, ← p1]; simpa using hj
      have := s1 i j (Nat.zero_le _) h hj2
      rw [get_bang9 d' j hj, get_bang9 d' i (by omega)] at this
      exact this
    rw [e2, ← hu]
/-! the program -/
theorem bh1_ok (f : List Int) (i : Nat) (hi : i < f.length) : ACalls Try.prog 85 [I i, .ip [iS f] 0] [] (fun r o => r = B (decide (0 < gi f i)) ∧ o = []) := by
  refine ACalls.of_vc Try.func85 rfl (by decide) 9 rfl [.tmp 3] rfl (by simp) ?_
  unfold iS
  (repeat (first | simp (maxSteps := 2000000) (disch := omega) only [go_sem, ↓reduceIte, Nat.reduceEqDiff, Nat.reduceAdd, Nat.reduceMul, Nat.reduceSub, Int.reduceToNat, Int.reduceAdd, Int.reduceSub, Int.reduceMul, Int.reduceNeg] | with_reducible refine vIf_t ?_ | with_reducible refine vIf_f ?_))
  (refine retK_of ?_; (repeat (first | simp (maxSteps := 2000000) (disch := omega) only [go_sem, ↓reduceIte, Nat.reduceEqDiff, Nat.reduceAdd, Nat.reduceMul, Nat.reduceSub, Int.reduceToNat, Int.reduceAdd, Int.reduceSub, Int.reduceMul, Int.reduceNeg] | with_reducible refine vIf_t ?_ | with_reducible refine vIf_f ?_)))
def bhC (s : Slc) (a b : List Int) (m : Int) : Int := if okS s = true then if sdB a b = true ∧ 0 ≤ m ∧ m ≤ 200 then 0 else 2 else 1
def bhQ (s : Slc) (a b : List Int) (m : Int) : List Int := if bhC s a b m = 0 then ascI ((bhL (flL s a b a.length)).take m.toNat) else []
theorem bhL_len (f : List Int) : (bhL f).length = (psI f).length := (bhL_ok f).n
theorem bhL_nodup (f : List Int) : (bhL f).Nodup := by
  have h := bhL_ok f
  refine List.pairwise_iff_getElem.2 fun i j hi hj hij e => ?_
  have := h.s i j hij hj
  have e2 : gi (bhL f) i = gi (bhL f) j := by rw [gi_lt _ _ hi, gi_lt _ _ hj]; exact e
  rw [e2] at this
  omega
theorem take_nodup (f : List Int) (k : Nat) : ((bhL f).take k).Nodup := (bhL_nodup f).sublist (List.take_sublist _ _)
set_option maxHeartbeats 8000000 in
theorem bestH_ok (s : Slc) (a b : List Int) (m : Int) (ha : a.length ≤ 10000000) (hb : b.length ≤ 10000000) : ACalls Try.prog 21 [.agg s.cells, .sl a.length (ints a), .sl b.length (ints b), I m] [] (fun r o => r = .tup [.sl (bhQ s a b m).length (ints (bhQ s a b m)), I (bhC s a b m)] ∧ o = []) := by
  refine RowR.fz (ACalls.mono (Q := fun r o => r = .tup [.ref 0 0 (bhQ s a b m).length, I (bhC s a b m)] ∧ o = [oI (bhQ s a b m)]) ?_ fun r o h => .inl h)
  refine ACalls.of_vc Try.func21 rfl (by decide) 52 rfl [.tmp 8, .tmp 9] rfl (by simp) ?_
  have h1 := validSl_ok s
  have h2 := areSides_ok a b ha hb
  have h4 := fun h1 h2 => flows_ok s a b h1 h2
  unfold Slc.cells at h1 h4 ⊢
  (repeat (first | simp (maxSteps := 2000000) (disch := omega) only [go_sem, ↓reduceIte, Nat.reduceEqDiff, Nat.reduceAdd, Nat.reduceMul, Nat.reduceSub, Int.reduceToNat, Int.reduceAdd, Int.reduceSub, Int.reduceMul, Int.reduceNeg] | with_reducible refine vIf_t ?_ | with_reducible refine vIf_f ?_))
  (refine vCallX_of ?_; (repeat (first | simp (maxSteps := 2000000) (disch := omega) only [go_sem, ↓reduceIte, Nat.reduceEqDiff, Nat.reduceAdd, Nat.reduceMul, Nat.reduceSub, Int.reduceToNat, Int.reduceAdd, Int.reduceSub, Int.reduceMul, Int.reduceNeg] | with_reducible refine vIf_t ?_ | with_reducible refine vIf_f ?_)); refine vCall_eq (h1) (by simp (disch := omega) only [go_sem, Nat.reduceAdd]) rfl (by first | exact Or.inl rfl | exact Or.inr ⟨rfl, rfl⟩ | (apply Or.inr; simp only [go_sem])) ?_; (repeat (first | simp (maxSteps := 2000000) (disch := omega) only [go_sem, ↓reduceIte, Nat.reduceEqDiff, Nat.reduceAdd, Nat.reduceMul, Nat.reduceSub, Int.reduceToNat, Int.reduceAdd, Int.reduceSub, Int.reduceMul, Int.reduceNeg] | with_reducible refine vIf_t ?_ | with_reducible refine vIf_f ?_)))
  cases hs : okS s with
  | false =>
    have ec : bhC s a b m = 1 := by simp [bhC, hs]
    simp only [bhQ, ec]
    (repeat (first | simp (maxSteps := 2000000) (disch := omega) only [go_sem, ↓reduceIte, Nat.reduceEqDiff, Nat.reduceAdd, Nat.reduceMul, Nat.reduceSub, Int.reduceToNat, Int.reduceAdd, Int.reduceSub, Int.reduceMul, Int.reduceNeg, hs] | with_reducible refine vIf_t ?_ | with_reducible refine vIf_f ?_))
    (refine retK_of ?_; (repeat (first | simp (maxSteps := 2000000) (disch := omega) only [go_sem, ↓reduceIte, Nat.reduceEqDiff, Nat.reduceAdd, Nat.reduceMul, Nat.reduceSub, Int.reduceToNat, Int.reduceAdd, Int.reduceSub, Int.reduceMul, Int.reduceNeg] | with_reducible refine vIf_t ?_ | with_reducible refine vIf_f ?_)))
    simp [ints]
  | true =>
    (repeat (first | simp (maxSteps := 2000000) (disch := omega) only [go_sem, ↓reduceIte, Nat.reduceEqDiff, Nat.reduceAdd, Nat.reduceMul, Nat.reduceSub, Int.reduceToNat, Int.reduceAdd, Int.reduceSub, Int.reduceMul, Int.reduceNeg, hs] | with_reducible refine vIf_t ?_ | with_reducible refine vIf_f ?_))
    (refine vCallX_of ?_; (repeat (first | simp (maxSteps := 2000000) (disch := omega) only [go_sem, ↓reduceIte, Nat.reduceEqDiff, Nat.reduceAdd, Nat.reduceMul, Nat.reduceSub, Int.reduceToNat, Int.reduceAdd, Int.reduceSub, Int.reduceMul, Int.reduceNeg] | with_reducible refine vIf_t ?_ | with_reducible refine vIf_f ?_)); refine vCall_eq (h2) (by simp (disch := omega) only [go_sem, Nat.reduceAdd]) rfl (by first | exact Or.inl rfl | exact Or.inr ⟨rfl, rfl⟩ | (apply Or.inr; simp only [go_sem])) ?_; (repeat (first | simp (maxSteps := 2000000) (disch := omega) only [go_sem, ↓reduceIte, Nat.reduceEqDiff, Nat.reduceAdd, Nat.reduceMul, Nat.reduceSub, Int.reduceToNat, Int.reduceAdd, Int.reduceSub, Int.reduceMul, Int.reduceNeg] | with_reducible refine vIf_t ?_ | with_reducible refine vIf_f ?_)))
    cases hd : sdB a b with
    | false =>
      have ec : bhC s a b m = 2 := by simp [bhC, hs, hd]
      simp only [bhQ, ec]
      (repeat (first | simp (maxSteps := 2000000) (disch := omega) only [go_sem, ↓reduceIte, Nat.reduceEqDiff, Nat.reduceAdd, Nat.reduceMul, Nat.reduceSub, Int.reduceToNat, Int.reduceAdd, Int.reduceSub, Int.reduceMul, Int.reduceNeg, hd] | with_reducible refine vIf_t ?_ | with_reducible refine vIf_f ?_))
      (refine retK_of ?_; (repeat (first | simp (maxSteps := 2000000) (disch := omega) only [go_sem, ↓reduceIte, Nat.reduceEqDiff, Nat.reduceAdd, Nat.reduceMul, Nat.reduceSub, Int.reduceToNat, Int.reduceAdd, Int.reduceSub, Int.reduceMul, Int.reduceNeg] | with_reducible refine vIf_t ?_ | with_reducible refine vIf_f ?_)))
      simp [ints]
    | true =>
      (repeat (first | simp (maxSteps := 2000000) (disch := omega) only [go_sem, ↓reduceIte, Nat.reduceEqDiff, Nat.reduceAdd, Nat.reduceMul, Nat.reduceSub, Int.reduceToNat, Int.reduceAdd, Int.reduceSub, Int.reduceMul, Int.reduceNeg, hd] | with_reducible refine vIf_t ?_ | with_reducible refine vIf_f ?_))
      (refine vCallX_of ?_; (repeat (first | simp (maxSteps := 2000000) (disch := omega) only [go_sem, ↓reduceIte, Nat.reduceEqDiff, Nat.reduceAdd, Nat.reduceMul, Nat.reduceSub, Int.reduceToNat, Int.reduceAdd, Int.reduceSub, Int.reduceMul, Int.reduceNeg] | with_reducible refine vIf_t ?_ | with_reducible refine vIf_f ?_)); refine vCall_eq (in_ok m 0 200) (by simp (disch := omega) only [go_sem, Nat.reduceAdd]) rfl (by first | exact Or.inl rfl | exact Or.inr ⟨rfl, rfl⟩ | (apply Or.inr; simp only [go_sem])) ?_; (repeat (first | simp (maxSteps := 2000000) (disch := omega) only [go_sem, ↓reduceIte, Nat.reduceEqDiff, Nat.reduceAdd, Nat.reduceMul, Nat.reduceSub, Int.reduceToNat, Int.reduceAdd, Int.reduceSub, Int.reduceMul, Int.reduceNeg] | with_reducible refine vIf_t ?_ | with_reducible refine vIf_f ?_)))
      by_cases h3 : 0 ≤ m ∧ m ≤ 200
      case neg =>
        have h3b : decide (0 ≤ m ∧ m ≤ 200) = false := decide_eq_false h3
        have ec : bhC s a b m = 2 := by rw [bhC, if_pos hs, if_neg (fun h => h3 h.2)]
        simp only [bhQ, ec]
        (repeat (first | simp (maxSteps := 2000000) (disch := omega) only [go_sem, ↓reduceIte, Nat.reduceEqDiff, Nat.reduceAdd, Nat.reduceMul, Nat.reduceSub, Int.reduceToNat, Int.reduceAdd, Int.reduceSub, Int.reduceMul, Int.reduceNeg, h3b] | with_reducible refine vIf_t ?_ | with_reducible refine vIf_f ?_))
        (refine retK_of ?_; (repeat (first | simp (maxSteps := 2000000) (disch := omega) only [go_sem, ↓reduceIte, Nat.reduceEqDiff, Nat.reduceAdd, Nat.reduceMul, Nat.reduceSub, Int.reduceToNat, Int.reduceAdd, Int.reduceSub, Int.reduceMul, Int.reduceNeg] | with_reducible refine vIf_t ?_ | with_reducible refine vIf_f ?_)))
        simp [ints]
      have h3b : decide (0 ≤ m ∧ m ≤ 200) = true := decide_eq_true h3
      have ec : bhC s a b m = 0 := by rw [bhC, if_pos hs, if_pos ⟨hd, h3⟩]
      have D := sd_ok hd
      have hn := D.n
      have he := D.e
      have hfl := h4 hs hd
      have hfe := flL_len s a b a.length
      simp only [bhQ, ec, if_true]
      generalize flL s a b a.length = f at *
      have hix := ixw_ok f.length 85 [.ip [iS f] 0] (fun i => decide (0 < gi f i)) (fun i hi => bh1_ok f i hi) rfl (by omega)
      have hsr := sortBh_ok f (by omega)
      unfold bhRest bhCaps at hsr
      unfold iS at hix hsr
      rw [hfe] at hix hsr
      (repeat (first | simp (maxSteps := 2000000) (disch := omega) only [go_sem, ↓reduceIte, Nat.reduceEqDiff, Nat.reduceAdd, Nat.reduceMul, Nat.reduceSub, Int.reduceToNat, Int.reduceAdd, Int.reduceSub, Int.reduceMul, Int.reduceNeg, h3b] | with_reducible refine vIf_t ?_ | with_reducible refine vIf_f ?_))
      (refine vCallX_of ?_; (repeat (first | simp (maxSteps := 2000000) (disch := omega) only [go_sem, ↓reduceIte, Nat.reduceEqDiff, Nat.reduceAdd, Nat.reduceMul, Nat.reduceSub, Int.reduceToNat, Int.reduceAdd, Int.reduceSub, Int.reduceMul, Int.reduceNeg] | with_reducible refine vIf_t ?_ | with_reducible refine vIf_f ?_)); refine vCall_eq (hfl) (by simp (disch := omega) only [go_sem, Nat.reduceAdd]) rfl (by first | exact Or.inl rfl | exact Or.inr ⟨rfl, rfl⟩ | (apply Or.inr; simp only [go_sem])) ?_; (repeat (first | simp (maxSteps := 2000000) (disch := omega) only [go_sem, ↓reduceIte, Nat.reduceEqDiff, Nat.reduceAdd, Nat.reduceMul, Nat.reduceSub, Int.reduceToNat, Int.reduceAdd, Int.reduceSub, Int.reduceMul, Int.reduceNeg] | with_reducible refine vIf_t ?_ | with_reducible refine vIf_f ?_)))
      (refine vCallX_fz 1 _ rfl (by (repeat (first | simp (maxSteps := 2000000) (disch := omega) only [go_sem, ↓reduceIte, Nat.reduceEqDiff, Nat.reduceAdd, Nat.reduceMul, Nat.reduceSub, Int.reduceToNat, Int.reduceAdd, Int.reduceSub, Int.reduceMul, Int.reduceNeg] | with_reducible refine vIf_t ?_ | with_reducible refine vIf_f ?_))) ?_; (repeat (first | simp (maxSteps := 2000000) (disch := omega) only [go_sem, ↓reduceIte, Nat.reduceEqDiff, Nat.reduceAdd, Nat.reduceMul, Nat.reduceSub, Int.reduceToNat, Int.reduceAdd, Int.reduceSub, Int.reduceMul, Int.reduceNeg] | with_reducible refine vIf_t ?_ | with_reducible refine vIf_f ?_)))
      (refine vCallX_of ?_; (repeat (first | simp (maxSteps := 2000000) (disch := omega) only [go_sem, ↓reduceIte, Nat.reduceEqDiff, Nat.reduceAdd, Nat.reduceMul, Nat.reduceSub, Int.reduceToNat, Int.reduceAdd, Int.reduceSub, Int.reduceMul, Int.reduceNeg] | with_reducible refine vIf_t ?_ | with_reducible refine vIf_f ?_)); refine vCall_eq (size_ok (ints f) a.length) (by simp (disch := omega) only [go_sem, Nat.reduceAdd]) rfl (by first | exact Or.inl rfl | exact Or.inr ⟨rfl, rfl⟩ | (apply Or.inr; simp only [go_sem])) ?_; (repeat (first | simp (maxSteps := 2000000) (disch := omega) only [go_sem, ↓reduceIte, Nat.reduceEqDiff, Nat.reduceAdd, Nat.reduceMul, Nat.reduceSub, Int.reduceToNat, Int.reduceAdd, Int.reduceSub, Int.reduceMul, Int.reduceNeg] | with_reducible refine vIf_t ?_ | with_reducible refine vIf_f ?_)))
      (refine vCallX_of ?_; (repeat (first | simp (maxSteps := 2000000) (disch := omega) only [go_sem, ↓reduceIte, Nat.reduceEqDiff, Nat.reduceAdd, Nat.reduceMul, Nat.reduceSub, Int.reduceToNat, Int.reduceAdd, Int.reduceSub, Int.reduceMul, Int.reduceNeg] | with_reducible refine vIf_t ?_ | with_reducible refine vIf_f ?_)); refine vCall_eq (hix) (by simp (disch := omega) only [go_sem, Nat.reduceAdd]) rfl (by first | exact Or.inl rfl | exact Or.inr ⟨rfl, rfl⟩ | (apply Or.inr; simp only [go_sem])) ?_; (repeat (first | simp (maxSteps := 2000000) (disch := omega) only [go_sem, ↓reduceIte, Nat.reduceEqDiff, Nat.reduceAdd, Nat.reduceMul, Nat.reduceSub, Int.reduceToNat, Int.reduceAdd, Int.reduceSub, Int.reduceMul, Int.reduceNeg] | with_reducible refine vIf_t ?_ | with_reducible refine vIf_f ?_)))
      have hpe : (ixs a.length fun i => decide (0 < gi f i)) = psI f := by unfold psI; rw [hfe]
      rw [hpe]
      (refine vCallX_io [3, 2, 4] ?_; (repeat (first | simp (maxSteps := 2000000) (disch := omega) only [go_sem, ↓reduceIte, Nat.reduceEqDiff, Nat.reduceAdd, Nat.reduceMul, Nat.reduceSub, Int.reduceToNat, Int.reduceAdd, Int.reduceSub, Int.reduceMul, Int.reduceNeg] | with_reducible refine vIf_t ?_ | with_reducible refine vIf_f ?_)); refine vCallIO_eq (hsr) (by simp (disch := omega) only [go_sem, Nat.reduceAdd, Nat.reduceEqDiff]) (by simp (disch := omega) only [go_sem, Nat.reduceAdd, Nat.reduceEqDiff]) (by first | rfl | (simp (disch := omega) only [go_sem, Nat.reduceAdd, Nat.reduceEqDiff])) (by first | rfl | (simp (disch := omega) only [go_sem, Nat.reduceAdd, Nat.reduceEqDiff])) (by first | rfl | (simp (disch := omega) only [go_sem, Nat.reduceAdd, Nat.reduceEqDiff])) (by first | (simp (disch := omega) only [go_sem, Nat.reduceAdd, Nat.reduceEqDiff]) | skip) ?_; (repeat (first | simp (maxSteps := 2000000) (disch := omega) only [go_sem, ↓reduceIte, Nat.reduceEqDiff, Nat.reduceAdd, Nat.reduceMul, Nat.reduceSub, Int.reduceToNat, Int.reduceAdd, Int.reduceSub, Int.reduceMul, Int.reduceNeg] | with_reducible refine vIf_t ?_ | with_reducible refine vIf_f ?_)))
      have hbl := bhL_len f
      have hsz := size_ok (ints (bhL f)) (psI f).length
      (repeat (first | simp (maxSteps := 2000000) (disch := omega) only [go_sem, ↓reduceIte, Nat.reduceEqDiff, Nat.reduceAdd, Nat.reduceMul, Nat.reduceSub, Int.reduceToNat, Int.reduceAdd, Int.reduceSub, Int.reduceMul, Int.reduceNeg] | with_reducible refine vIf_t ?_ | with_reducible refine vIf_f ?_))
      (refine vDraw_sch 5 [(1, false), (0, false), (2, true), (3, false), (4, false)] mixed (by kernel_rfl) ?_; simp only [List.cons_append, List.nil_append, List.map_cons, List.map_nil, nthO_zero, nthO_succ, List.drop_succ_cons, List.drop_zero, List.drop_nil]; (repeat (first | simp (maxSteps := 2000000) (disch := omega) only [go_sem, ↓reduceIte, Nat.reduceEqDiff, Nat.reduceAdd, Nat.reduceMul, Nat.reduceSub, Int.reduceToNat, Int.reduceAdd, Int.reduceSub, Int.reduceMul, Int.reduceNeg] | with_reducible refine vIf_t ?_ | with_reducible refine vIf_f ?_)))
      (refine vsCallX_of ?_; (try (repeat (first | simp (maxSteps := 2000000) (disch := omega) only [go_sem, ↓reduceIte, Nat.reduceEqDiff, Nat.reduceAdd, Nat.reduceMul, Nat.reduceSub, Int.reduceToNat, Int.reduceAdd, Int.reduceSub, Int.reduceMul, Int.reduceNeg] | with_reducible refine vIf_t ?_ | with_reducible refine vIf_f ?_))); refine vCall_eq (hsz) (by simp (disch := omega) only [go_sem, Nat.reduceAdd]) rfl (by first | exact Or.inl rfl | exact Or.inr ⟨rfl, rfl⟩ | (apply Or.inr; simp only [go_sem])) ?_; (try (repeat (first | simp (maxSteps := 2000000) (disch := omega) only [go_sem, ↓reduceIte, Nat.reduceEqDiff, Nat.reduceAdd, Nat.reduceMul, Nat.reduceSub, Int.reduceToNat, Int.reduceAdd, Int.reduceSub, Int.reduceMul, Int.reduceNeg] | with_reducible refine vIf_t ?_ | with_reducible refine vIf_f ?_))))
      (try (repeat (first | simp (maxSteps := 2000000) (disch := omega) only [go_sem, ↓reduceIte, Nat.reduceEqDiff, Nat.reduceAdd, Nat.reduceMul, Nat.reduceSub, Int.reduceToNat, Int.reduceAdd, Int.reduceSub, Int.reduceMul, Int.reduceNeg] | with_reducible refine vIf_t ?_ | with_reducible refine vIf_f ?_)))
      have hnd := take_nodup f m.toNat
      obtain ⟨T, hT⟩ : ∃ T, T = (bhL f).take m.toNat := ⟨_, rfl⟩
      have hTl : (if ((psI f).length : Int) < m then ((psI f).length : Int) else m).toNat = T.length := by
        rw [hT, List.length_take, hbl]
        split <;> omega
      have hTt : (bhL f).take T.length = T := by
        rw [hT, List.length_take]
        by_cases hc : m.toNat ≤ (bhL f).length
        · rw [Nat.min_eq_left hc]
        · rw [Nat.min_eq_right (by omega), List.take_of_length_le (Nat.le_refl _), List.take_of_length_le (by omega)]
      have hle : T.length ≤ 10000000 := by
        have : (psI f).length ≤ f.length := ixs_len _ _
        rw [hT, List.length_take]; omega
      have hcl := clone_ok T hle
      have has := sortAsc_ok T (by rw [hT]; exact hnd) (by rw [hT, List.length_take]; omega)
      have hal := ascI_len T (by rw [hT]; exact hnd)
      unfold iS at hcl
      rw [hTl]
      have hcl2 : ACalls Try.prog 88 [.sl T.length (ints ((bhL f).take T.length))] [] (fun r o => r = .ref 0 0 T.length ∧ o = [oI T]) := by rw [hTt]; exact hcl
      (refine vCallX_of ?_; (repeat (first | simp (maxSteps := 2000000) (disch := omega) only [go_sem, ↓reduceIte, Nat.reduceEqDiff, Nat.reduceAdd, Nat.reduceMul, Nat.reduceSub, Int.reduceToNat, Int.reduceAdd, Int.reduceSub, Int.reduceMul, Int.reduceNeg] | with_reducible refine vIf_t ?_ | with_reducible refine vIf_f ?_)); refine vCall_eq (hcl2) (by simp (disch := omega) only [go_sem, Nat.reduceAdd]) rfl (by first | exact Or.inl rfl | exact Or.inr ⟨rfl, rfl⟩ | (apply Or.inr; simp only [go_sem])) ?_; (repeat (first | simp (maxSteps := 2000000) (disch := omega) only [go_sem, ↓reduceIte, Nat.reduceEqDiff, Nat.reduceAdd, Nat.reduceMul, Nat.reduceSub, Int.reduceToNat, Int.reduceAdd, Int.reduceSub, Int.reduceMul, Int.reduceNeg] | with_reducible refine vIf_t ?_ | with_reducible refine vIf_f ?_)))
      (refine vCallX_io [5, 4] ?_; (repeat (first | simp (maxSteps := 2000000) (disch := omega) only [go_sem, ↓reduceIte, Nat.reduceEqDiff, Nat.reduceAdd, Nat.reduceMul, Nat.reduceSub, Int.reduceToNat, Int.reduceAdd, Int.reduceSub, Int.reduceMul, Int.reduceNeg] | with_reducible refine vIf_t ?_ | with_reducible refine vIf_f ?_)); refine vCallIO_eq (has) (by simp (disch := omega) only [go_sem, Nat.reduceAdd, Nat.reduceEqDiff]) (by simp (disch := omega) only [go_sem, Nat.reduceAdd, Nat.reduceEqDiff]) (by first | rfl | (simp (disch := omega) only [go_sem, Nat.reduceAdd, Nat.reduceEqDiff])) (by first | rfl | (simp (disch := omega) only [go_sem, Nat.reduceAdd, Nat.reduceEqDiff])) (by first | rfl | (simp (disch := omega) only [go_sem, Nat.reduceAdd, Nat.reduceEqDiff])) (by first | (simp (disch := omega) only [go_sem, Nat.reduceAdd, Nat.reduceEqDiff]) | skip) ?_; (repeat (first | simp (maxSteps := 2000000) (disch := omega) only [go_sem, ↓reduceIte, Nat.reduceEqDiff, Nat.reduceAdd, Nat.reduceMul, Nat.reduceSub, Int.reduceToNat, Int.reduceAdd, Int.reduceSub, Int.reduceMul, Int.reduceNeg] | with_reducible refine vIf_t ?_ | with_reducible refine vIf_f ?_)))
      (refine retK_of ?_; (repeat (first | simp (maxSteps := 2000000) (disch := omega) only [go_sem, ↓reduceIte, Nat.reduceEqDiff, Nat.reduceAdd, Nat.reduceMul, Nat.reduceSub, Int.reduceToNat, Int.reduceAdd, Int.reduceSub, Int.reduceMul, Int.reduceNeg] | with_reducible refine vIf_t ?_ | with_reducible refine vIf_f ?_)))
      rw [← hT, hal]
      exact ⟨rfl, rfl⟩
end Go.Proofs.Ythnphcinjchloaa
