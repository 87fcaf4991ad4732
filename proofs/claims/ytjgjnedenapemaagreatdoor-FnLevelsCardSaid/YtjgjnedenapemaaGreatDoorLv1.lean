/- levels: the sorted ones, the middle; no program in sight; the middle of levels -/
import Derived.Test.YtjgjnedenapemaaGreatDoorAgQ
import Derived.Test.YtjgjnedenapemaaGreatDoorStbA
import Derived.Test.YtjgjnedenapemaaGreatDoorX6
import Derived.Shelf.GgSortFunc.Whole
set_option linter.unusedVariables false
set_option linter.unusedSimpArgs false
namespace Go.Proofs.YtjgjnedenapemaaGreatDoor
open Go.AG

/-- a number put into its place among ascending ones -/
def isI (x : Int) : List Int → List Int
  | [] => [x]
  | y :: r => if x < y then x :: y :: r else y :: isI x r
/-- numbers in ascending order -/
def srtI (xs : List Int) : List Int := xs.foldl (fun a x => isI x a) []
theorem srtI_snoc (xs : List Int) (x : Int) : srtI (xs ++ [x]) = isI x (srtI xs) := by simp [srtI]
theorem isI_perm (x : Int) : ∀ P : List Int, (isI x P).Perm (x :: P)
  | [] => .refl _
  | y :: r => by
    simp only [isI]
    split
    · exact .refl _
    · exact (List.Perm.cons y (isI_perm x r)).trans (List.Perm.swap x y r)
theorem isI_sorted (x : Int) : ∀ P : List Int, P.Pairwise (· ≤ ·) → (isI x P).Pairwise (· ≤ ·)
  | [], _ => by simp [isI]
  | y :: r, h => by
    rw [List.pairwise_cons] at h
    simp only [isI]
    split
    · rename_i hx
      rw [List.pairwise_cons, List.pairwise_cons]
      refine ⟨fun z hz => ?_, h⟩
      rcases List.mem_cons.1 hz with rfl | hz
      · omega
      · have := h.1 z hz; omega
    · rename_i hx
      rw [List.pairwise_cons]
      refine ⟨fun z hz => ?_, isI_sorted x r h.2⟩
      rcases List.mem_cons.1 ((isI_perm x r).mem_iff.1 hz) with rfl | hz
      · omega
      · exact h.1 z hz
theorem snocI {M : List Int → Prop} (h0 : M []) (h1 : ∀ xs x, M xs → M (xs ++ [x])) (xs : List Int) : M xs := by
  have : ∀ n (xs : List Int), xs.length = n → M xs := by
    intro n
    induction n with
    | zero => intro xs h; rw [List.length_eq_zero_iff.1 h]; exact h0
    | succ n ih =>
      intro xs h
      have hne : xs ≠ [] := fun e => by rw [e] at h; simp at h
      rw [← List.dropLast_concat_getLast hne]
      exact h1 _ _ (ih _ (by simp [h]))
  exact this _ xs rfl
theorem srtI_ok (xs : List Int) : (srtI xs).Perm xs ∧ (srtI xs).Pairwise (· ≤ ·) := by
  refine snocI (M := fun xs => (srtI xs).Perm xs ∧ (srtI xs).Pairwise (· ≤ ·)) ⟨.refl _, .nil⟩ ?_ xs
  rintro ys y ⟨h1, h2⟩
  rw [srtI_snoc]
  refine ⟨?_, isI_sorted y _ h2⟩
  exact (isI_perm y _).trans ((List.Perm.cons y h1).trans (List.perm_append_singleton y ys).symm)
theorem srtI_len (xs : List Int) : (srtI xs).length = xs.length := (srtI_ok xs).1.length_eq
theorem srtI_unique {xs ys : List Int} (hp : ys.Perm xs) (hs : ys.Pairwise (· ≤ ·)) : ys = srtI xs :=
  List.Perm.eq_of_pairwise (le := fun (a b : Int) => a ≤ b) (fun a b _ _ h1 h2 => by omega) hs (srtI_ok xs).2 (hp.trans (srtI_ok xs).1.symm)
theorem isI_at (x : Int) : ∀ (P : List Int) (k : Nat), k ≤ P.length → (∀ j, j < k → gi P j ≤ x) → (k < P.length → x < gi P k) → isI x P = P.take k ++ x :: P.drop k
  | [], k, h, _, _ => by
    have : k = 0 := by simpa using h
    subst this; rfl
  | y :: r, 0, _, _, h2 => by
    have := h2 (by simp)
    simp only [gi, List.getD_cons_zero] at this
    simp [isI, this]
  | y :: r, k + 1, h, h1, h2 => by
    have a := h1 0 (by omega)
    simp only [gi, List.getD_cons_zero] at a
    have ih := isI_at x r k (by simpa using h) (fun j hj => by have := h1 (j + 1) (by omega); simpa [gi] using this) (fun hk => by have := h2 (by simpa using hk); simpa [gi] using this)
    simp [isI, show ¬ x < y by omega, ih]
theorem sorted_gi {P : List Int} (h : P.Pairwise (· ≤ ·)) {i j : Nat} (hij : i ≤ j) (hj : j < P.length) : gi P i ≤ gi P j := by
  rcases Nat.eq_or_lt_of_le hij with rfl | hlt
  · exact Int.le_refl _
  · rw [gi_lt _ _ (by omega), gi_lt _ _ hj]
    exact List.pairwise_iff_getElem.1 h i j (by omega) hj hlt
/-- the row while x moves down to its place -/
def mvI (P : List Int) (x : Int) (R : List Int) (k : Nat) : List Int := P.take k ++ x :: (P.drop k ++ R)
theorem mvI_len (P : List Int) (x : Int) (R : List Int) (k : Nat) : (mvI P x R k).length = P.length + 1 + R.length := by simp [mvI]; omega
theorem mvI_at (P : List Int) (x : Int) (R : List Int) (k : Nat) (h : k ≤ P.length) : gi (mvI P x R k) k = x := by
  unfold mvI
  rw [gi_append_right _ _ _ (by simp; omega)]
  have : k - (P.take k).length = 0 := by simp; omega
  rw [this]; rfl
theorem mvI_bef (P : List Int) (x : Int) (R : List Int) (k j : Nat) (h : k ≤ P.length) (hj : j < k) : gi (mvI P x R k) j = gi P j := by
  unfold mvI
  rw [gi_append_left _ _ _ (by simp; omega), gi_lt _ _ (by simp; omega), gi_lt _ _ (by omega)]
  simp
theorem mvI_step (P : List Int) (x : Int) (R : List Int) (k : Nat) (h : k + 1 ≤ P.length) : ((mvI P x R (k + 1)).set (k + 1) (gi P k)).set k x = mvI P x R k := by
  have hk : k < P.length := by omega
  have e1 : P.take (k + 1) = P.take k ++ [gi P k] := by rw [gi_lt _ _ hk, List.take_succ_eq_append_getElem hk]
  have e2 : P.drop k = gi P k :: P.drop (k + 1) := by rw [gi_lt _ _ hk]; exact List.drop_eq_getElem_cons hk
  unfold mvI
  rw [e1, e2]
  have l1 : (P.take k ++ [gi P k]).length = k + 1 := by simp; omega
  rw [List.set_append_right _ _ (by omega)]
  rw [show k + 1 - (P.take k ++ [gi P k]).length = 0 by omega]
  have l2 : (P.take k).length = k := by simp; omega
  rw [List.set_cons_zero, List.append_assoc, List.set_append_right _ _ (by omega), show k - (P.take k).length = 0 by omega]
  rfl
theorem mvI_zero (P : List Int) (x : Int) (R : List Int) : mvI P x R P.length = P ++ x :: R := by simp [mvI]
theorem mvI_end {xs : List Int} {i k : Nat} {x : Int} (hP : (srtI (xs.take i)).length = i) (hk : k ≤ i) (hi : i < xs.length) (hx : x = gi xs i) (h1 : k = 0 ∨ gi (srtI (xs.take i)) (k - 1) ≤ x) (h2 : k < i → x < gi (srtI (xs.take i)) k) :
    mvI (srtI (xs.take i)) x (xs.drop (i + 1)) k = srtI (xs.take (i + 1)) ++ xs.drop (i + 1) := by
  have hs := (srtI_ok (xs.take i)).2
  have e : xs.take (i + 1) = xs.take i ++ [x] := by rw [hx, gi_lt _ _ hi, List.take_succ_eq_append_getElem hi]
  rw [e, srtI_snoc]
  generalize srtI (xs.take i) = P at *
  rw [isI_at x P k (by omega) (fun j hj => ?_) (fun h => h2 (by omega))]
  · simp [mvI]
  · rcases h1 with h1 | h1
    · omega
    · have := sorted_gi hs (i := j) (j := k - 1) (by omega) (by omega)
      omega
theorem drop_gi (xs : List Int) (i : Nat) (h : i < xs.length) : xs.drop i = gi xs i :: xs.drop (i + 1) := by rw [gi_lt _ _ h]; exact List.drop_eq_getElem_cons h
/-- the middle -/
def mdI (xs : List Int) : Int := gi (srtI xs) ((xs.length - 1) / 2)
theorem mdI_bd {xs : List Int} {a b : Int} (h : ∀ x ∈ xs, a ≤ x ∧ x ≤ b) (hn : 0 < xs.length) : a ≤ mdI xs ∧ mdI xs ≤ b := by
  have hl := srtI_len xs
  exact h _ ((srtI_ok xs).1.mem_iff.1 (gi_mem _ _ (by omega)))
theorem countP_drop0 (p : Int → Bool) (s : List Int) (t : Nat) (h : ∀ j, t ≤ j → j < s.length → p (gi s j) = false) : s.countP p ≤ t := by
  rw [← List.take_append_drop t s, List.countP_append]
  have h1 : (s.drop t).countP p = 0 := by
    rw [List.countP_eq_zero]
    intro a ha
    obtain ⟨i, hi, e⟩ := List.mem_iff_getElem.1 ha
    have hi2 : i < s.length - t := by simpa using hi
    have := h (t + i) (by omega) (by omega)
    rw [gi_lt _ _ (by omega)] at this
    rw [← e, List.getElem_drop, this]; simp
  have h2 : (s.take t).countP p ≤ (s.take t).length := List.countP_le_length
  simp at h2
  omega
theorem countP_take0 (p : Int → Bool) (s : List Int) (t : Nat) (h : ∀ j, j < t → j < s.length → p (gi s j) = false) : s.countP p ≤ s.length - t := by
  rw [← List.take_append_drop t s, List.countP_append]
  have h1 : (s.take t).countP p = 0 := by
    rw [List.countP_eq_zero]
    intro a ha
    obtain ⟨i, hi, e⟩ := List.mem_iff_getElem.1 ha
    have hi2 : i < min t s.length := by simpa using hi
    have := h i (by omega) (by omega)
    rw [gi_lt _ _ (by omega)] at this
    rw [← e, List.getElem_take, this]; simp
  have h2 : (s.drop t).countP p ≤ (s.drop t).length := List.countP_le_length
  simp at h2 ⊢
  omega
theorem below_md (xs : List Int) (h : 0 < xs.length) : 2 * xs.countP (fun x => decide (x < mdI xs)) < xs.length := by
  rw [← (srtI_ok xs).1.countP_eq]
  have hl := srtI_len xs
  have := countP_drop0 (fun x => decide (x < mdI xs)) (srtI xs) ((xs.length - 1) / 2) (fun j h1 h2 => by
    have := sorted_gi (srtI_ok xs).2 h1 h2
    simp only [decide_eq_false_iff_not]
    unfold mdI
    omega)
  omega
theorem above_md (xs : List Int) (h : 0 < xs.length) : 2 * xs.countP (fun x => decide (mdI xs < x)) ≤ xs.length := by
  rw [← (srtI_ok xs).1.countP_eq]
  have hl := srtI_len xs
  have := countP_take0 (fun x => decide (mdI xs < x)) (srtI xs) ((xs.length - 1) / 2 + 1) (fun j h1 h2 => by
    have := sorted_gi (srtI_ok xs).2 (i := j) (j := (xs.length - 1) / 2) (by omega) (by omega)
    simp only [decide_eq_false_iff_not]
    unfold mdI
    omega)
  omega
theorem countP_snoc (p : Int → Bool) (xs : List Int) (k : Nat) (h : k < xs.length) : (xs.take (k + 1)).countP p = (xs.take k).countP p + if p (gi xs k) then 1 else 0 := by
  rw [gi_lt _ _ h, List.take_succ_eq_append_getElem h, List.countP_append, List.countP_singleton]
end Go.Proofs.YtjgjnedenapemaaGreatDoor
namespace Go.Proofs.YtjgjnedenapemaaGreatDoor
open Go.AG Go.Lib Go.Sort Go.Shelf Go.RowKit

set_option maxHeartbeats 4000000 in
theorem mdLess_walk (W : World) (bo oo blk off c n : Nat) (G : Nat → Int)
    (ho : W.cell? ⟨bo, oo, none⟩ = some (.slice (some ⟨blk, off, none⟩) n c))
    (hc : ∀ t, t < n → W.cell? ⟨blk, off + t, none⟩ = some (.int .i64 (G t)))
    (i j : Nat) (hi : i < n) (hj : j < n) :
    Calls Tryz.prog 106 #[.int .i64 i, .int .i64 j, .pointer (some ⟨bo, oo, none⟩)] W
      fun e w' => e = .returned (.bool (decide (G i < G j))) ∧ ∃ q, w' = W.drewN q := by
  have ci := hc i hi
  have cj := hc j hj
  go_enter Tryz.func106, Tryz.ntmps106
  go_wp2
  go_quiet (fail)
  go_wp2
  go_ret
  refine ⟨?_, _, rfl⟩
  show Ending.returned (Value.bool (decide (G i < G j))) = _
  rfl
theorem mdSelf {α : Type} (d : Array α) (n : Nat) (h : d.size = n) : d.extract 0 n = d := by subst h; simp
theorem mdBang {α : Type} [Inhabited α] (d : Array α) (t : Nat) (h : t < d.toList.length) : d[t]! = d.toList[t] := by
  have : t < d.size := by simpa using h
  simp [this]
theorem mdRef {w : World} {Y : Nat → Prop} {ρ : Nat → Pl} {ob : Objs} {v : Value} {l n : Nat} (h : RepC w Y ρ ob v (.ref l 0 n)) (hn : n ≠ 0) : ∃ cap, v = .slice (some ⟨(ρ l).blk, (ρ l).base, none⟩) n cap := by
  cases h with
  | d h => cases h
  | ref ho' hm' hlc hc' hs' => exact ⟨_, rfl⟩
  | ref0 ho' hm' => exact absurd rfl hn
noncomputable def mdT : TypeInfo := (Tryz.prog.info? 24).get (by kernel_rfl)
noncomputable def mdE : TypeInfo := (Tryz.prog.info? 2).get (by kernel_rfl)
theorem mdK (n : Nat) (h2 : 2 ≤ n) : Lib.swapperK n mdE 6 = 5 := by
  have a : mdE.hasPointers = false := by kernel_rfl
  have b : mdE.bytes = 8 := by kernel_rfl
  have c : (n == 0) = false := by simp; omega
  have d : (n == 1) = false := by simp; omega
  simp [Lib.swapperK, a, b, c, d]
theorem mdK0 : Lib.swapperK 0 mdE 6 = 1 := by simp [Lib.swapperK]
theorem mdK1 : Lib.swapperK 1 mdE 6 = 2 := by simp [Lib.swapperK]
def ltMd (a b : Int) : Bool := decide (a < b)
theorem ltMd_swo : SWO ltMd := ⟨fun x => by simp [ltMd], fun x y z h1 h2 => by simp [ltMd] at *; omega, fun x y z h1 h2 => by simp [ltMd] at *; omega⟩
def encMd (x : Int) : Value := .int .i64 x
theorem encs_Md (xs : List Int) : encs encMd xs = ints xs := rfl
theorem mdLess (xs : List Int) (hx : 2 ≤ xs.length) (F : Fr) (w : World) (ρ : Nat → Pl) (h : HOk F w ρ (some ⟨1, encs encMd xs⟩ :: [some ⟨1, [.ref 0 0 xs.length]⟩]))
    (cs : Array Value) (hs : cs.size = 1) (hr : ∀ i (h : i < [V.ptr 1 0].length), RepC w (F.Y ρ (some ⟨1, encs encMd xs⟩ :: [some ⟨1, [.ref 0 0 xs.length]⟩])) ρ (some ⟨1, encs encMd xs⟩ :: [some ⟨1, [.ref 0 0 xs.length]⟩]) (cs.getD i undef) [V.ptr 1 0][i]) :
    LessReads (α := Int) Tryz.prog 106 cs encMd ltMd (ρ 0).blk (ρ 0).base xs.length w := by
  have l0 : Live (some ⟨1, encs encMd xs⟩ :: [some ⟨1, [.ref 0 0 xs.length]⟩]) 0 ⟨1, encs encMd xs⟩ := rfl
  have l1 : Live (some ⟨1, encs encMd xs⟩ :: [some ⟨1, [.ref 0 0 xs.length]⟩]) 1 ⟨1, [.ref 0 0 xs.length]⟩ := rfl
  have p0 := ptr_of (l := 1) (off := 0) (hr 0 (by simp))
  have hcs : cs = #[cs.getD 0 undef] := by
    apply Array.ext (by simp [hs])
    intro i h1 h2
    have : i = 0 := by omega
    subst this
    simp [Array.getD, h1]
  rw [p0] at hcs
  subst hcs
  obtain ⟨c2, a2, b2⟩ := h.box0 l1
  have hb := h.blk_lt l0
  have hH := h.holds (by decide) encMd l0
  obtain ⟨cap, e3⟩ := mdRef b2 (by omega)
  subst e3
  intro m os dk hd i j hi hj
  have n1 : (ρ 1).blk ≠ (ρ 0).blk := fun e => absurd (h.inj _ _ _ _ l1 l0 e) (by decide)
  exact mdLess_walk _ (ρ 1).blk ((ρ 1).base + 0) (ρ 0).blk (ρ 0).base cap xs.length (fun t => dk[t]!) (sortWorld_other _ a2 n1) (fun t ht => sortWorld_row encMd hH hb (by simp [hd]) t (by omega)) i j hi hj
theorem md_unique {xs ys : List Int} (hp : ys.Perm xs) (hs : ∀ i j (h : i < j) (hj : j < ys.length), ltMd ys[j] (ys[i]'(by omega)) = false) : ys = srtI xs :=
  srtI_unique hp (List.pairwise_iff_getElem.2 fun i j hi hj hij => by
    have h1 := hs i j hij hj
    simp only [ltMd, decide_eq_false_iff_not] at h1
    omega)
theorem sortMd_ok (xs : List Int) (hl : xs.length ≤ 1000000) : ACalls Tryz.prog 105 [.ifc 24 (.ref 0 0 xs.length), .fn 106 [.ptr 1 0]] [oI xs, some ⟨1, [.ref 0 0 xs.length]⟩] (fun r o => r = .tup [] ∧ o = [oI (srtI xs), some ⟨1, [.ref 0 0 xs.length]⟩]) := by
  have hb : HasBody Tryz.prog 105 := ⟨_, Tryz.func105, by kernel_rfl, rfl⟩
  by_cases h : xs.length ≤ 1
  · have e : srtI xs = xs := by
      match xs, h with
      | [], _ => rfl
      | [x], _ => rfl
    rw [e]
    refine ACalls.tiny hb _ _ _ xs.length _ (fun w p cap cs => ?_)
    generalize xs.length = n at h
    rcases (show n = 0 ∨ n = 1 by omega) with rfl | rfl
    · exact Any.sort_Slice_tiny Tryz.laysGg6 24 2 mdT mdE (by kernel_rfl) (by kernel_rfl) (by kernel_rfl) (by kernel_rfl) 6 (fun _ => by kernel_rfl) p 0 cap (by omega) 148 (by rw [mdK0]; kernel_rfl) (.func 106) #[] cs w
    · exact Any.sort_Slice_tiny Tryz.laysGg6 24 2 mdT mdE (by kernel_rfl) (by kernel_rfl) (by kernel_rfl) (by kernel_rfl) 6 (fun _ => by kernel_rfl) p 1 cap (by omega) 149 (by rw [mdK1]; kernel_rfl) (.func 106) #[] cs w
  · have h2 : 2 ≤ xs.length := by omega
    refine ACalls.stable (α := Int) hb _ _ [.ptr 1 0] encMd (fun x => rfl) ltMd xs (srtI xs) (srtI_len xs) (fun e => by simp [e] at h2) [some ⟨1, [.ref 0 0 xs.length]⟩] (fun F w ρ h cs hs hr => mdLess xs h2 F w ρ h cs hs hr) (fun w blk off cap cs hless hH hblk => ?_)
    have hz : xs.toArray.size = xs.length := by simp
    have h := Any.sort_Slice_sorted Tryz.laysGg6 24 2 mdT mdE (by kernel_rfl) (by kernel_rfl) (by kernel_rfl) (by kernel_rfl) 6 (fun _ => by kernel_rfl) (by kernel_rfl) (fun _ => by kernel_rfl) encMd (fun _ => rfl) ltMd ltMd_swo 106 cs
      (enters_of Tryz.func106 (by kernel_rfl) rfl) blk off cap xs.toArray (by omega) (by omega) 152 (by rw [mdK _ (by omega)]; kernel_rfl) true
      (fun args W => run_callFunc_extern Tryz.func152 (by kernel_rfl) (by kernel_rfl) (by kernel_rfl) (e := Extern.ReflectliteSwapper.swap true) (by kernel_rfl) args W) w (by rw [hz]; exact hless) hH hblk
    rw [hz] at h
    refine h.mono ?_
    rintro e w' ⟨e1, d', n, os, ⟨p1, _, p3⟩, s1, e2⟩
    refine ⟨e1, n, os, ?_⟩
    have x1 := mdSelf d' xs.length (by rw [p1, hz])
    have x2 := mdSelf xs.toArray xs.length hz
    rw [x1, x2, List.toList_toArray] at p3
    have hu : d'.toList = srtI xs := md_unique p3 fun i j h hj => by
      have hj2 : j < xs.length := by rw [← hz, ← p1]; simpa using hj
      have := s1 i j (Nat.zero_le _) h hj2
      rw [mdBang d' j hj, mdBang d' i (by omega)] at this
      exact this
    rw [e2, ← hu]
theorem middle_ok (xs : List Int) (h : 0 < xs.length) (hl : xs.length ≤ 1000000) : ACalls Tryz.prog 64 [.sl xs.length (ints xs)] [] (fun r o => r = I (mdI xs) ∧ o = []) := by
  refine ACalls.of_vc Tryz.func64 rfl (by decide) 17 rfl [.tmp 2] rfl (by simp) ?_
  have hcl := clone_ok xs (by omega)
  have hso := sortMd_ok xs hl
  have hsl := srtI_len xs
  have hix : ((xs.length : Int) - 1).tdiv 2 = ((xs.length - 1) / 2 : Nat) := by
    rw [show (xs.length : Int) - 1 = ((xs.length - 1 : Nat) : Int) by omega]; rfl
  have hlt : (xs.length - 1) / 2 < xs.length := by omega
  unfold iS at hcl
  (repeat (first | simp (maxSteps := 2000000) (disch := omega) only [go_sem, ↓reduceIte] | with_reducible refine vIf_t ?_ | with_reducible refine vIf_f ?_))
  (refine vCallX_of ?_; (repeat (first | simp (maxSteps := 2000000) (disch := omega) only [go_sem, ↓reduceIte] | with_reducible refine vIf_t ?_ | with_reducible refine vIf_f ?_)); refine vCall_eq (hcl) (by simp (disch := omega) only [go_sem]) rfl (by first | exact Or.inl rfl | exact Or.inr ⟨rfl, rfl⟩ | (apply Or.inr; simp only [go_sem])) ?_; (repeat (first | simp (maxSteps := 2000000) (disch := omega) only [go_sem, ↓reduceIte] | with_reducible refine vIf_t ?_ | with_reducible refine vIf_f ?_)))
  (refine vCallX_io [0, 1] ?_; (repeat (first | simp (maxSteps := 2000000) (disch := omega) only [go_sem, ↓reduceIte] | with_reducible refine vIf_t ?_ | with_reducible refine vIf_f ?_)); refine vCallIO_eq (hso) (by simp (disch := omega) only [go_sem]) (by simp (disch := omega) only [go_sem]) (by first | rfl | (simp (disch := omega) only [go_sem])) (by first | rfl | (simp (disch := omega) only [go_sem])) (by first | rfl | (simp (disch := omega) only [go_sem])) (by first | (simp (disch := omega) only [go_sem]) | skip) ?_; (repeat (first | simp (maxSteps := 2000000) (disch := omega) only [go_sem, ↓reduceIte] | with_reducible refine vIf_t ?_ | with_reducible refine vIf_f ?_)))
  (repeat (first | simp (maxSteps := 2000000) (disch := omega) only [go_sem, ↓reduceIte, hix] | with_reducible refine vIf_t ?_ | with_reducible refine vIf_f ?_))
  (refine retK_of ?_; (repeat (first | simp (maxSteps := 2000000) (disch := omega) only [go_sem, ↓reduceIte] | with_reducible refine vIf_t ?_ | with_reducible refine vIf_f ?_)))
  rfl
theorem ownV_ok (xs : List Int) (hl : xs.length ≤ 10000000) : ACalls Tryz.prog 133 [iS xs] [] (fun r o => r = .ref 0 0 xs.length ∧ o = [oI xs]) := by
  refine ACalls.of_vc Tryz.func133 rfl (by decide) 6 rfl [.tmp 2] rfl (by simp) ?_
  unfold iS oI
  (repeat (first | simp (maxSteps := 2000000) (disch := omega) only [go_sem, ↓reduceIte] | with_reducible refine vIf_t ?_ | with_reducible refine vIf_f ?_))
  (refine retK_of ?_; (repeat (first | simp (maxSteps := 2000000) (disch := omega) only [go_sem, ↓reduceIte] | with_reducible refine vIf_t ?_ | with_reducible refine vIf_f ?_)))
set_option maxHeartbeats 4000000 in
theorem sortedS_ok (xs : List Int) (hl : xs.length ≤ 1000000) : ACalls Tryz.prog 107 [.sl xs.length (ints xs)] [] (fun r o => r = .ref 0 0 xs.length ∧ o = [oI (srtI xs)]) := by
  refine ACalls.of_vc Tryz.func107 rfl (by decide) 50 rfl [.tmp 2] rfl (by simp) ?_
  have hcl := ownV_ok xs (by omega)
  unfold iS at hcl
  (repeat (first | simp (maxSteps := 2000000) (disch := omega) only [go_sem, ↓reduceIte] | with_reducible refine vIf_t ?_ | with_reducible refine vIf_f ?_))
  (refine vCallX_of ?_; (repeat (first | simp (maxSteps := 2000000) (disch := omega) only [go_sem, ↓reduceIte] | with_reducible refine vIf_t ?_ | with_reducible refine vIf_f ?_)); refine vCall_eq (hcl) (by simp (disch := omega) only [go_sem]) rfl (by first | exact Or.inl rfl | exact Or.inr ⟨rfl, rfl⟩ | (apply Or.inr; simp only [go_sem])) ?_; (repeat (first | simp (maxSteps := 2000000) (disch := omega) only [go_sem, ↓reduceIte] | with_reducible refine vIf_t ?_ | with_reducible refine vIf_f ?_)))
  refine vcLoop_invF (fun k : Nat => k + 1 ≤ xs.length ∨ k = 0) (fun k => ⟨50, 0, [(4, I (k + 1)), (3, .ref 0 0 xs.length)], [oI (srtI (xs.take (k + 1)) ++ xs.drop (k + 1))]⟩) (fun k => xs.length - k) 0 (by omega) ?_ ?_
  · have e : srtI (xs.take 1) ++ xs.drop 1 = xs := by
      match xs with
      | [] => rfl
      | x :: r => rfl
    rw [Nat.zero_add, e]
    (first | (refine leF_s ?_; ((repeat (first | simp (maxSteps := 2000000) (disch := omega) only [go_sem, ↓reduceIte] | with_reducible refine vIf_t ?_ | with_reducible refine vIf_f ?_)); all_goals (try simp); all_goals (try omega)); done) | (refine leF_p ?_; ((repeat (first | simp (maxSteps := 2000000) (disch := omega) only [go_sem, ↓reduceIte] | with_reducible refine vIf_t ?_ | with_reducible refine vIf_f ?_)); all_goals (try simp); all_goals (try omega)); done))
  intro k hk
  have hsl := srtI_len (xs.take (k + 1))
  rw [List.length_take] at hsl
  (repeat (first | simp (maxSteps := 2000000) (disch := omega) only [go_sem, ↓reduceIte] | with_reducible refine vIf_t ?_ | with_reducible refine vIf_f ?_))
  refine vIf_dec (fun h => ?_) (fun h => ?_)
  · have hkl : k + 1 < xs.length := by omega
    have hP : (srtI (xs.take (k + 1))).length = k + 1 := by omega
    have e0 : srtI (xs.take (k + 1)) ++ xs.drop (k + 1) = mvI (srtI (xs.take (k + 1))) (gi xs (k + 1)) (xs.drop (k + 2)) (k + 1) := by
      have := mvI_zero (srtI (xs.take (k + 1))) (gi xs (k + 1)) (xs.drop (k + 2))
      rw [hP] at this
      rw [this, drop_gi xs (k + 1) hkl]
    have hend := fun j h1 h2 h3 => mvI_end (xs := xs) (i := k + 1) (k := j) (x := gi xs (k + 1)) hP h1 hkl rfl h2 h3
    rw [show k + 1 + 1 = k + 2 by omega] at hend
    rw [e0]
    obtain ⟨P, hPe⟩ : ∃ P, P = srtI (xs.take (k + 1)) := ⟨_, rfl⟩
    obtain ⟨x, hxe⟩ : ∃ x, x = gi xs (k + 1) := ⟨_, rfl⟩
    obtain ⟨R, hRe⟩ : ∃ R, R = xs.drop (k + 2) := ⟨_, rfl⟩
    have hRl : R.length = xs.length - (k + 2) := by rw [hRe, List.length_drop]
    rw [← hPe, ← hxe] at hend
    rw [← hPe] at hP
    rw [← hPe, ← hxe, ← hRe]
    rw [← hRe] at hend
    have hRe2 : R = xs.drop (k + 1 + 1) := hRe
    clear hPe hxe hRe e0 hsl
    (repeat (first | simp (maxSteps := 2000000) (disch := omega) only [go_sem, ↓reduceIte] | with_reducible refine vIf_t ?_ | with_reducible refine vIf_f ?_))
    refine vcLoop_invF (fun j : Nat => j ≤ k + 1 ∧ (j < k + 1 → x < gi P j)) (fun j => ⟨50, 0, [(5, I j), (3, .ref 0 0 xs.length), (4, I (k + 1))], [oI (mvI P x R j)]⟩) (fun j => j) (k + 1) ⟨Nat.le_refl _, fun h => absurd h (by omega)⟩ (by (first | (refine leF_s ?_; ((repeat (first | simp (maxSteps := 2000000) (disch := omega) only [go_sem, ↓reduceIte] | with_reducible refine vIf_t ?_ | with_reducible refine vIf_f ?_)); all_goals (try simp); all_goals (try omega)); done) | (refine leF_p ?_; ((repeat (first | simp (maxSteps := 2000000) (disch := omega) only [go_sem, ↓reduceIte] | with_reducible refine vIf_t ?_ | with_reducible refine vIf_f ?_)); all_goals (try simp); all_goals (try omega)); done))) ?_
    rintro j ⟨hj, hjx⟩
    have hml := mvI_len P x R j
    have hm1 := mvI_at P x R j (by omega)
    by_cases h0 : j = 0
    · have c0 : decide (0 < (j : Int)) = false := decide_eq_false (by omega)
      have he := hend j hj (Or.inl h0) hjx
      (repeat (first | simp (maxSteps := 2000000) (disch := omega) only [go_sem, ↓reduceIte] | with_reducible refine vIf_t ?_ | with_reducible refine vIf_f ?_))
      (refine vDraw_sch 12 [(0, false), (1, false), (2, false), (3, false), (4, false), (5, false), (6, false), (7, false), (8, false), (9, false), (10, false), (11, false)] mixed (by kernel_rfl) ?_; simp only [List.cons_append, List.nil_append, List.map_cons, List.map_nil, nthO_zero, nthO_succ, List.drop_succ_cons, List.drop_zero, List.drop_nil]; (repeat (first | simp (maxSteps := 2000000) (disch := omega) only [go_sem, ↓reduceIte] | with_reducible refine vIf_t ?_ | with_reducible refine vIf_f ?_)))
      (try (repeat (first | simp (maxSteps := 2000000) (disch := omega) only [go_sem, ↓reduceIte, c0] | with_reducible refine vIf_t ?_ | with_reducible refine vIf_f ?_)))
      rw [he, hRe2]
      refine againF (k + 1) (by omega) (by omega) (by (first | (refine leF_s ?_; ((repeat (first | simp (maxSteps := 2000000) (disch := omega) only [go_sem, ↓reduceIte] | with_reducible refine vIf_t ?_ | with_reducible refine vIf_f ?_)); all_goals (try simp); all_goals (try omega)); done) | (refine leF_p ?_; ((repeat (first | simp (maxSteps := 2000000) (disch := omega) only [go_sem, ↓reduceIte] | with_reducible refine vIf_t ?_ | with_reducible refine vIf_f ?_)); all_goals (try simp); all_goals (try omega)); done)))
    · have c0 : decide (0 < (j : Int)) = true := decide_eq_true (by omega)
      have j1 : ((j : Int) - 1).toNat = j - 1 := by omega
      have hm2 := mvI_bef P x R j (j - 1) (by omega) (by omega)
      by_cases hx : x < gi P (j - 1)
      · have c1 : decide (x < gi P (j - 1)) = true := decide_eq_true hx
        have hst := mvI_step P x R (j - 1) (by omega)
        rw [show j - 1 + 1 = j by omega] at hst
        (repeat (first | simp (maxSteps := 2000000) (disch := omega) only [go_sem, ↓reduceIte] | with_reducible refine vIf_t ?_ | with_reducible refine vIf_f ?_))
        (refine vDraw_sch 12 [(0, false), (1, false), (2, false), (3, false), (4, false), (5, false), (6, false), (7, false), (8, false), (9, false), (10, false), (11, false)] mixed (by kernel_rfl) ?_; simp only [List.cons_append, List.nil_append, List.map_cons, List.map_nil, nthO_zero, nthO_succ, List.drop_succ_cons, List.drop_zero, List.drop_nil]; (repeat (first | simp (maxSteps := 2000000) (disch := omega) only [go_sem, ↓reduceIte] | with_reducible refine vIf_t ?_ | with_reducible refine vIf_f ?_)))
        have hw : wr ((mvI P x R j).set j (gi P (j - 1))) (j - 1) [x] = mvI P x R (j - 1) := by
          rw [wr_set _ _ _ (by rw [List.length_set]; omega), hst]
        (try (repeat (first | simp (maxSteps := 2000000) (disch := omega) only [go_sem, ↓reduceIte, c0, j1, hm2, hm1, c1, hw] | with_reducible refine vIf_t ?_ | with_reducible refine vIf_f ?_)))
        refine againF (j - 1) ⟨by omega, fun _ => hx⟩ (by omega) (by (first | (refine leF_s ?_; ((repeat (first | simp (maxSteps := 2000000) (disch := omega) only [go_sem, ↓reduceIte] | with_reducible refine vIf_t ?_ | with_reducible refine vIf_f ?_)); all_goals (try simp); all_goals (try omega)); done) | (refine leF_p ?_; ((repeat (first | simp (maxSteps := 2000000) (disch := omega) only [go_sem, ↓reduceIte] | with_reducible refine vIf_t ?_ | with_reducible refine vIf_f ?_)); all_goals (try simp); all_goals (try omega)); done)))
      · have c1 : decide (x < gi P (j - 1)) = false := decide_eq_false hx
        have he := hend j hj (Or.inr (by omega)) hjx
        (repeat (first | simp (maxSteps := 2000000) (disch := omega) only [go_sem, ↓reduceIte] | with_reducible refine vIf_t ?_ | with_reducible refine vIf_f ?_))
        (refine vDraw_sch 12 [(0, false), (1, false), (2, false), (3, false), (4, false), (5, false), (6, false), (7, false), (8, false), (9, false), (10, false), (11, false)] mixed (by kernel_rfl) ?_; simp only [List.cons_append, List.nil_append, List.map_cons, List.map_nil, nthO_zero, nthO_succ, List.drop_succ_cons, List.drop_zero, List.drop_nil]; (repeat (first | simp (maxSteps := 2000000) (disch := omega) only [go_sem, ↓reduceIte] | with_reducible refine vIf_t ?_ | with_reducible refine vIf_f ?_)))
        (try (repeat (first | simp (maxSteps := 2000000) (disch := omega) only [go_sem, ↓reduceIte, c0, j1, hm2, hm1, c1] | with_reducible refine vIf_t ?_ | with_reducible refine vIf_f ?_)))
        rw [he, hRe2]
        refine againF (k + 1) (by omega) (by omega) (by (first | (refine leF_s ?_; ((repeat (first | simp (maxSteps := 2000000) (disch := omega) only [go_sem, ↓reduceIte] | with_reducible refine vIf_t ?_ | with_reducible refine vIf_f ?_)); all_goals (try simp); all_goals (try omega)); done) | (refine leF_p ?_; ((repeat (first | simp (maxSteps := 2000000) (disch := omega) only [go_sem, ↓reduceIte] | with_reducible refine vIf_t ?_ | with_reducible refine vIf_f ?_)); all_goals (try simp); all_goals (try omega)); done)))
  · (repeat (first | simp (maxSteps := 2000000) (disch := omega) only [go_sem, ↓reduceIte] | with_reducible refine vIf_t ?_ | with_reducible refine vIf_f ?_))
    have e : srtI (xs.take (k + 1)) ++ xs.drop (k + 1) = srtI xs := by
      rw [List.take_of_length_le (by omega), List.drop_eq_nil_of_le (by omega), List.append_nil]
    rw [e]
    (refine retK_of ?_; (repeat (first | simp (maxSteps := 2000000) (disch := omega) only [go_sem, ↓reduceIte] | with_reducible refine vIf_t ?_ | with_reducible refine vIf_f ?_)))
end Go.Proofs.YtjgjnedenapemaaGreatDoor
