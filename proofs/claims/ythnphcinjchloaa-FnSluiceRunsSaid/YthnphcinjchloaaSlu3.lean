/- the best hours: what the program sorts -/
import Derived.Test.YthnphcinjchloaaSymZ
import Derived.Test.YthnphcinjchloaaShr1
import Derived.Test.YthnphcinjchloaaPutI
import Derived.Test.YthnphcinjchloaaIxs
set_option linter.unusedVariables false
set_option linter.unusedSimpArgs false
namespace Go.Proofs.Ythnphcinjchloaa
open Go.AG Go.Lib Go.Sort Go.Shelf Go.RowKit

set_option maxHeartbeats 4000000 in
theorem bhLess_walk (W : World) (bl ol bo oo blk off c fb fo cf n N : Nat) (fs : Nat → Int) (G : Nat → Nat)
    (hl : W.cell? ⟨bl, ol, none⟩ = some (.slice (some ⟨fb, fo, none⟩) N cf)) (ho : W.cell? ⟨bo, oo, none⟩ = some (.slice (some ⟨blk, off, none⟩) n c))
    (hc : ∀ t, t < n → W.cell? ⟨blk, off + t, none⟩ = some (.int .i64 (G t : Nat))) (hg : ∀ t, t < n → G t < N)
    (hf : ∀ t, t < N → W.cell? ⟨fb, fo + t, none⟩ = some (.int .i64 (fs t)))
    (i j : Nat) (hi : i < n) (hj : j < n) :
    Calls Try.prog 87 #[.int .i64 i, .int .i64 j, .pointer (some ⟨bl, ol, none⟩), .pointer (some ⟨bo, oo, none⟩)] W
      fun e w' => e = .returned (.bool (decide (fs (G j) < fs (G i)))) ∧ ∃ q, w' = W.drewN q := by
  have ci := hc i hi
  have cj := hc j hj
  have gi := hg i hi
  have gj := hg j hj
  have wi := hf _ gi
  have wj := hf _ gj
  go_enter Try.func87, Try.ntmps87
  go_wp2
  go_quiet (fail)
  go_wp2
  go_ret
  refine ⟨?_, _, rfl⟩
  show Ending.returned (Value.bool (decide (fs (G j) < fs (G i)))) = _
  rfl
set_option maxHeartbeats 4000000 in
theorem ascLess_walk (W : World) (bo oo blk off c n : Nat) (G : Nat → Int)
    (ho : W.cell? ⟨bo, oo, none⟩ = some (.slice (some ⟨blk, off, none⟩) n c))
    (hc : ∀ t, t < n → W.cell? ⟨blk, off + t, none⟩ = some (.int .i64 (G t)))
    (i j : Nat) (hi : i < n) (hj : j < n) :
    Calls Try.prog 90 #[.int .i64 i, .int .i64 j, .pointer (some ⟨bo, oo, none⟩)] W
      fun e w' => e = .returned (.bool (decide (G i < G j))) ∧ ∃ q, w' = W.drewN q := by
  have ci := hc i hi
  have cj := hc j hj
  go_enter Try.func90, Try.ntmps90
  go_wp2
  go_quiet (fail)
  go_wp2
  go_ret
  refine ⟨?_, _, rfl⟩
  show Ending.returned (Value.bool (decide (G i < G j))) = _
  rfl
def encF9 {n : Nat} (k : Fin n) : Value := .int .i64 (k.val : Nat)
def ltB (f : List Int) {n : Nat} (a b : Fin n) : Bool := decide (gi f b.val < gi f a.val)
def RbB (f : List Int) {n : Nat} (a b : Fin n) : Bool := ltB f a b || (!ltB f b a && decide (a.val < b.val))
theorem RbB_iff (f : List Int) {n : Nat} (a b : Fin n) : RbB f a b = true ↔ gi f b.val < gi f a.val ∨ gi f b.val = gi f a.val ∧ a.val < b.val := by
  simp only [RbB, ltB, Bool.or_eq_true, Bool.and_eq_true, Bool.not_eq_true', decide_eq_true_eq, decide_eq_false_iff_not]
  omega
theorem RbB_no (f : List Int) {n : Nat} (a b : Fin n) : RbB f a b = false ↔ ¬ (gi f b.val < gi f a.val ∨ gi f b.val = gi f a.val ∧ a.val < b.val) := by
  rw [← RbB_iff, Bool.not_eq_true]
theorem RbB_swo (f : List Int) (n : Nat) : SWO (RbB f (n := n + 1)) := ⟨fun x => by rw [RbB_no]; omega, fun x y z h1 h2 => by rw [RbB_iff] at *; omega, fun x y z h1 h2 => by rw [RbB_no] at *; omega⟩
theorem ext_self9 {α : Type} (d : Array α) (n : Nat) (h : d.size = n) : d.extract 0 n = d := by subst h; simp
theorem get_bang9 {α : Type} [Inhabited α] (d : Array α) (t : Nat) (h : t < d.toList.length) : d[t]! = d.toList[t] := by
  have : t < d.size := by simpa using h
  simp [this]
def srB (f : List Int) {n : Nat} (xs : List (Fin (n + 1))) : List (Fin (n + 1)) := (stA (ltB f) xs.toArray.size xs.toArray).toList
theorem org_B (f : List Int) (n : Nat) (xs : List (Fin (n + 1))) (hx : xs.Pairwise fun a b => a.val < b.val) : Org (ltB f (n := n + 1)) (RbB f) xs.toArray xs.toArray.size := by
  intro i j hij hj
  have hj' : j < xs.length := by simpa using hj
  have hv : (xs[i]).val < (xs[j]).val := List.pairwise_iff_getElem.1 hx i j (by omega) hj' hij
  have ei : xs.toArray[i]! = xs[i] := by rw [get_bang9 _ _ (by simpa using (show i < xs.length by omega))]
  have ej : xs.toArray[j]! = xs[j] := by rw [get_bang9 _ _ (by simpa using hj')]
  rw [ei, ej]
  constructor
  · have : decide ((xs[j]).val < (xs[i]).val) = false := decide_eq_false (by omega)
    simp only [RbB, this, Bool.and_false, Bool.or_false]
  · intro h
    rw [RbB_no] at h
    rw [RbB_iff]
    omega
theorem srB_perm (f : List Int) (n : Nat) (xs : List (Fin (n + 1))) (hx : xs.Pairwise fun a b => a.val < b.val) : (srB f xs).Perm xs := by
  obtain ⟨⟨h1, _, h2⟩, _⟩ := stA_ok (RbB_swo f n) (org_B f n xs hx) (Nat.le_refl _)
  have e1 := ext_self9 (stA (ltB f (n := n + 1)) xs.toArray.size xs.toArray) _ h1
  have e2 := ext_self9 xs.toArray _ rfl
  rw [e1, e2, List.toList_toArray] at h2
  exact h2
theorem srB_tot (f : List Int) (n : Nat) (xs : List (Fin (n + 1))) (hx : xs.Pairwise fun a b => a.val < b.val) : ∀ i j (h : i < j) (hj : j < (srB f xs).length), RbB f ((srB f xs)[i]'(by omega)) (srB f xs)[j] = true := fun i j h hj => by
  obtain ⟨_, h3⟩ := stA_ok (RbB_swo f n) (org_B f n xs hx) (Nat.le_refl _)
  have hl := (srB_perm f n xs hx).length_eq
  have := h3 i j (Nat.zero_le _) h (by simp; omega)
  have ej : ∀ t (ht : t < (srB f xs).length), (stA (ltB f (n := n + 1)) xs.toArray.size xs.toArray)[t]! = (srB f xs)[t] := fun t ht => get_bang9 _ t ht
  rw [ej i (by omega), ej j hj] at this
  exact this
def bhRest (f : List Int) (m : Nat) : Objs := [some ⟨1, [iS f]⟩, some ⟨1, [.ref 0 0 m]⟩]
def bhCaps : List V := [.ptr 1 0, .ptr 2 0]
theorem ref_of9 {w : World} {Y : Nat → Prop} {ρ : Nat → Pl} {ob : Objs} {v : Value} {l n : Nat} (h : RepC w Y ρ ob v (.ref l 0 n)) (hn : n ≠ 0) : ∃ cap, v = .slice (some ⟨(ρ l).blk, (ρ l).base, none⟩) n cap := by
  cases h with
  | d h => cases h
  | ref ho' hm' hlc hc' hs' => exact ⟨_, rfl⟩
  | ref0 ho' hm' => exact absurd rfl hn
theorem bhLess (f : List Int) (N : Nat) (hN : f.length = N + 1) (xs : List (Fin (N + 1))) (hx : 2 ≤ xs.length) (F : Fr) (w : World) (ρ : Nat → Pl) (h : HOk F w ρ (some ⟨1, encs encF9 xs⟩ :: bhRest f xs.length))
    (cs : Array Value) (hs : cs.size = bhCaps.length) (hr : ∀ i (h : i < bhCaps.length), RepC w (F.Y ρ (some ⟨1, encs encF9 xs⟩ :: bhRest f xs.length)) ρ (some ⟨1, encs encF9 xs⟩ :: bhRest f xs.length) (cs.getD i undef) bhCaps[i]) :
    LessReads (α := Fin (N + 1)) Try.prog 87 cs encF9 (ltB f) (ρ 0).blk (ρ 0).base xs.length w := by
  have l0 : Live (some ⟨1, encs encF9 xs⟩ :: bhRest f xs.length) 0 ⟨1, encs encF9 xs⟩ := rfl
  have l1 : Live (some ⟨1, encs encF9 xs⟩ :: bhRest f xs.length) 1 ⟨1, [iS f]⟩ := rfl
  have l2 : Live (some ⟨1, encs encF9 xs⟩ :: bhRest f xs.length) 2 ⟨1, [.ref 0 0 xs.length]⟩ := rfl
  have p0 := ptr_of (l := 1) (off := 0) (hr 0 (by simp [bhCaps]))
  have p1 := ptr_of (l := 2) (off := 0) (hr 1 (by simp [bhCaps]))
  have hcs : cs = #[cs.getD 0 undef, cs.getD 1 undef] := by
    have hs4 : cs.size = 2 := hs
    apply Array.ext (by simp [hs4])
    intro i h1 h2
    have : i = 0 ∨ i = 1 := by omega
    rcases this with rfl | rfl <;> simp [Array.getD, h1]
  rw [p0, p1] at hcs
  subst hcs
  obtain ⟨c1, a1, b1⟩ := h.box0 l1
  obtain ⟨c2, a2, b2⟩ := h.box0 l2
  have hb := h.blk_lt l0
  have hH := h.holds (by decide) encF9 l0
  obtain ⟨wb, wo, cw, e2, hwb, hwc⟩ := by
    cases b1 with
    | d hd => exact sl_of hd (by intro e; have := congrArg List.length e; simp [ints, hN] at this)
  subst e2
  obtain ⟨cap, e3⟩ := ref_of9 b2 (by omega)
  subst e3
  have hne : wb ≠ (ρ 0).blk := fun e => hwb (.inr ⟨0, _, l0, e.symm⟩)
  intro m os dk hd i j hi hj
  have n1 : (ρ 1).blk ≠ (ρ 0).blk := fun e => absurd (h.inj _ _ _ _ l1 l0 e) (by decide)
  have n2 : (ρ 2).blk ≠ (ρ 0).blk := fun e => absurd (h.inj _ _ _ _ l2 l0 e) (by decide)
  refine bhLess_walk _ (ρ 1).blk ((ρ 1).base + 0) (ρ 2).blk ((ρ 2).base + 0) (ρ 0).blk (ρ 0).base cap wb wo cw xs.length (N + 1) (gi f) (fun t => (dk[t]!).val)
    ?_ (sortWorld_other _ a2 n2) (fun t ht => ?_) (fun t ht => (dk[t]!).isLt) (fun t ht => ?_) i j hi hj
  · rw [hN] at a1; exact sortWorld_other _ a1 n1
  · exact sortWorld_row encF9 hH hb (by simp [hd]) t (by omega)
  · obtain ⟨c, q1, q2⟩ := hwc t (by simp [ints]; omega)
    have : c = .int .i64 (gi f t) := by
      simp only [ints, List.getElem_map] at q2
      cases q2
      simp [gi, List.getD, show t < f.length by omega]
    rw [this] at q1
    exact sortWorld_other _ q1 hne
noncomputable def bhT : TypeInfo := (Try.prog.info? 22).get (by kernel_rfl)
noncomputable def bhE : TypeInfo := (Try.prog.info? 2).get (by kernel_rfl)
theorem bhK (n : Nat) (h2 : 2 ≤ n) : Lib.swapperK n bhE 6 = 5 := by
  have a : bhE.hasPointers = false := by kernel_rfl
  have b : bhE.bytes = 8 := by kernel_rfl
  have c : (n == 0) = false := by simp; omega
  have d : (n == 1) = false := by simp; omega
  simp [Lib.swapperK, a, b, c, d]
theorem bhK0 : Lib.swapperK 0 bhE 6 = 1 := by simp [Lib.swapperK]
theorem bhK1 : Lib.swapperK 1 bhE 6 = 2 := by simp [Lib.swapperK]
theorem sortB9_ok (f : List Int) (N : Nat) (hN : f.length = N + 1) (xs : List (Fin (N + 1))) (hp : xs.Pairwise fun a b => a.val < b.val) (hx : 2 ≤ xs.length) (h20 : xs.length ≤ 1000000) :
    ACalls Try.prog 86 [.ifc 22 (.ref 0 0 xs.length), .fn 87 bhCaps] (some ⟨1, encs encF9 xs⟩ :: bhRest f xs.length) (fun r o => r = .tup [] ∧ o = some ⟨1, encs encF9 (srB f xs)⟩ :: bhRest f xs.length) := by
  have hb : HasBody Try.prog 86 := ⟨_, Try.func86, by kernel_rfl, rfl⟩
  refine ACalls.stable hb _ _ _ encF9 (fun x => rfl) (ltB f) xs (srB f xs) (srB_perm f N xs hp).length_eq (fun e => by simp [e] at hx) _ (fun F w ρ h cs hs hr => bhLess f N hN xs hx F w ρ h cs hs hr) (fun w blk off cap cs hless hH hblk => ?_)
  have hz : xs.toArray.size = xs.length := by simp
  have h := stable_any 22 2 bhT bhE (by kernel_rfl) (by kernel_rfl) (by kernel_rfl) (by kernel_rfl) 6 (fun _ => by kernel_rfl) (by kernel_rfl) (fun _ => by kernel_rfl) encF9 (fun _ => rfl) (ltB f) 87 cs
    (enters_of Try.func87 (by kernel_rfl) rfl) blk off cap xs.toArray (by omega) (by omega) 161 (by rw [bhK _ (by omega)]; kernel_rfl) true
    (fun args W => run_callFunc_extern Try.func161 (by kernel_rfl) (by kernel_rfl) (by kernel_rfl) (e := Extern.ReflectliteSwapper.swap true) (by kernel_rfl) args W) w (by rw [hz]; exact hless) hH hblk
  rw [hz] at h
  refine h.mono ?_
  rintro e w' ⟨e1, n, os, e2⟩
  refine ⟨e1, n, os, ?_⟩
  rw [e2]
  simp [srB]
theorem tinyB9_ok (n : Nat) (hn : n ≤ 1) (g : FuncId) (caps : List V) (ob : Objs) :
    ACalls Try.prog 86 [.ifc 22 (.ref 0 0 n), .fn g caps] ob (fun r o => r = .tup [] ∧ o = ob) := by
  have hb : HasBody Try.prog 86 := ⟨_, Try.func86, by kernel_rfl, rfl⟩
  refine ACalls.tiny hb _ _ _ n ob (fun w p cap cs => ?_)
  rcases (show n = 0 ∨ n = 1 by omega) with rfl | rfl
  · exact Any.sort_SliceStable_tiny Try.laysGt8 22 2 bhT bhE (by kernel_rfl) (by kernel_rfl) (by kernel_rfl) (by kernel_rfl) 6 (fun _ => by kernel_rfl) p 0 cap (by omega) 157 (by rw [bhK0]; kernel_rfl) (.func g) #[] cs w
  · exact Any.sort_SliceStable_tiny Try.laysGt8 22 2 bhT bhE (by kernel_rfl) (by kernel_rfl) (by kernel_rfl) (by kernel_rfl) 6 (fun _ => by kernel_rfl) p 1 cap (by omega) 158 (by rw [bhK1]; kernel_rfl) (.func g) #[] cs w
theorem encs_fin9 {n : Nat} (xs : List (Fin n)) : encs encF9 xs = ints (xs.map fun i => (i.val : Int)) := by
  simp only [encs, ints, List.map_map]
  rfl
/-! the hours with flow, best first -/
def psF (f : List Int) (n : Nat) : List (Fin (n + 1)) := (List.finRange (n + 1)).filter fun i => decide (0 < gi f i.val)
def psI (f : List Int) : List Int := ixs f.length fun i => decide (0 < gi f i)
theorem psF_ps (f : List Int) (n : Nat) (hn : f.length = n + 1) : (psF f n).map (fun i => (i.val : Int)) = psI f := by
  have hr : List.range (n + 1) = (List.finRange (n + 1)).map Fin.val := by
    apply List.ext_getElem (by simp)
    intro i h1 h2
    simp
  unfold psI ixs psF
  rw [hn, hr, List.filter_map, List.map_map]
  rfl
theorem psF_up (f : List Int) (n : Nat) : (psF f n).Pairwise fun a b => a.val < b.val := by
  unfold psF
  refine List.Pairwise.filter _ ?_
  rw [List.pairwise_iff_getElem]
  intro i j hi hj hij
  simpa using hij
def bhL (f : List Int) : List Int := match f.length with
  | 0 => []
  | n + 1 => if (psF f n).length ≤ 1 then psI f else (srB f (psF f n)).map fun i => (i.val : Int)
structure BhO (f L : List Int) : Prop where
  n : L.length = (psI f).length
  m : ∀ x, x ∈ L ↔ 0 ≤ x ∧ x < f.length ∧ 0 < gi f x.toNat
  s : ∀ i j, i < j → j < L.length → gi f (gi L j).toNat < gi f (gi L i).toNat ∨ gi f (gi L j).toNat = gi f (gi L i).toNat ∧ gi L i < gi L j
theorem mem_psI (f : List Int) (x : Int) : x ∈ psI f ↔ 0 ≤ x ∧ x < f.length ∧ 0 < gi f x.toNat := by
  simp only [psI, ixs, List.mem_map, List.mem_filter, List.mem_range, decide_eq_true_eq]
  constructor
  · rintro ⟨a, ⟨h1, h2⟩, rfl⟩
    exact ⟨by omega, by omega, by rw [Int.toNat_natCast]; exact h2⟩
  · rintro ⟨h1, h2, h3⟩
    exact ⟨x.toNat, ⟨by omega, h3⟩, by omega⟩
theorem bhL_ok (f : List Int) : BhO f (bhL f) := by
  have small : (psI f).length ≤ 1 → BhO f (psI f) := fun h => ⟨rfl, mem_psI f, fun i j h1 h2 => by omega⟩
  unfold bhL
  split
  · rename_i h0
    have e : psI f = [] := by unfold psI; rw [h0]; rfl
    have := small (by rw [e]; simp)
    rw [e] at this
    exact this
  · rename_i n hn
    have hps := psF_ps f n hn
    have hl : (psF f n).length = (psI f).length := by rw [← hps, List.length_map]
    split
    · rename_i h1
      exact small (by omega)
    · have hp := srB_perm f n (psF f n) (psF_up f n)
      have ht := srB_tot f n (psF f n) (psF_up f n)
      refine ⟨by rw [List.length_map, hp.length_eq, hl], fun x => ?_, fun i j h1 h2 => ?_⟩
      · rw [← mem_psI, ← hps]
        exact (hp.map _).mem_iff
      · rw [List.length_map] at h2
        have := (RbB_iff _ _ _).1 (ht i j h1 h2)
        simp only [gi, List.getD_eq_getElem?_getD, List.getElem?_map, List.getElem?_eq_getElem (show i < (srB f (psF f n)).length by omega), List.getElem?_eq_getElem h2, Option.map_some, Option.getD_some, Int.toNat_natCast] at this ⊢
        rcases this with h | ⟨h1, h2⟩
        · exact .inl h
        · exact .inr ⟨h1, Int.ofNat_lt.2 h2⟩
theorem sortBh_ok (f : List Int) (hf : f.length ≤ 1000000) : ACalls Try.prog 86 [.ifc 22 (.ref 0 0 (psI f).length), .fn 87 bhCaps] (oI (psI f) :: bhRest f (psI f).length) (fun r o => r = .tup [] ∧ o = oI (bhL f) :: bhRest f (psI f).length) := by
  by_cases h : (psI f).length ≤ 1
  · have e : bhL f = psI f := by
      unfold bhL
      split
      · rename_i h0
        unfold psI; rw [h0]; rfl
      · rename_i n hn
        have hl : (psF f n).length = (psI f).length := by rw [← psF_ps f n hn, List.length_map]
        rw [if_pos (by omega)]
    rw [e]
    exact tinyB9_ok _ h _ _ _
  · obtain ⟨n, hn⟩ : ∃ n, f.length = n + 1 := ⟨f.length - 1, by
      have := ixs_len f.length (fun i => decide (0 < gi f i))
      unfold psI at h
      omega⟩
    have hps := psF_ps f n hn
    have hl : (psF f n).length = (psI f).length := by rw [← hps, List.length_map]
    have hle : (psI f).length ≤ f.length := ixs_len _ _
    have := sortB9_ok f n hn (psF f n) (psF_up f n) (by omega) (by omega)
    have e : bhL f = (srB f (psF f n)).map fun i => (i.val : Int) := by
      unfold bhL
      split
      · rename_i h0; omega
      · rename_i n' hn'
        have : n' = n := by omega
        subst this
        rw [if_neg (by omega)]
    rw [encs_fin9, encs_fin9, hps, hl, ← e] at this
    exact this
/-! ascending numbers -/
def ascI (xs : List Int) : List Int := xs.foldl (fun r x => putI x r) []
theorem ascI_snoc (xs : List Int) (x : Int) : ascI (xs ++ [x]) = putI x (ascI xs) := by simp [ascI]
theorem ascI_ok (xs : List Int) : (ascI xs).Pairwise (· < ·) ∧ ∀ z, z ∈ ascI xs ↔ z ∈ xs := by
  refine snoc_ind (M := fun xs => (ascI xs).Pairwise (· < ·) ∧ ∀ z, z ∈ ascI xs ↔ z ∈ xs) ⟨by simp [ascI], fun z => by simp [ascI]⟩ ?_ xs
  intro ys y ⟨h1, h2⟩
  rw [ascI_snoc]
  refine ⟨putI_srt _ _ h1, fun z => ?_⟩
  rw [putI_mem, h2, List.mem_append, List.mem_singleton]
  exact or_comm
end Go.Proofs.Ythnphcinjchloaa
