/- byMetre: what its closure reads, and its sort -/
import Derived.Test.YtilocioajpcoiaaShr2
import Derived.Test.YtilocioajpcoiaaDefO
set_option linter.unusedVariables false
set_option linter.unusedSimpArgs false
namespace Go.Proofs.Ytilocioajpcoiaa
open Go.AG Go.Lib Go.Sort Go.Shelf Go.RowKit

def mtW (g m : Int) : Int := wrap64 (g * m)
set_option maxHeartbeats 4000000 in
theorem mtLess_walk (W : World) (bs os bl ol bo oo blk off c lb lo cl n N : Nat) (g : Int) (ms : Nat → Int) (G : Nat → Nat)
    (hs : W.cell? ⟨bs, os, none⟩ = some (.int .i64 g)) (hl : W.cell? ⟨bl, ol, none⟩ = some (.slice (some ⟨lb, lo, none⟩) N cl))
    (ho : W.cell? ⟨bo, oo, none⟩ = some (.slice (some ⟨blk, off, none⟩) n c))
    (hc : ∀ t, t < n → W.cell? ⟨blk, off + t, none⟩ = some (.int .i64 (G t : Nat))) (hg : ∀ t, t < n → G t < N)
    (hm : ∀ t, t < N → W.cell? ⟨lb, lo + t * 4, none⟩ = some (.int .i64 (ms t)))
    (i j : Nat) (hi : i < n) (hj : j < n) :
    Calls Try.prog 105 #[.int .i64 i, .int .i64 j, .pointer (some ⟨bs, os, none⟩), .pointer (some ⟨bl, ol, none⟩), .pointer (some ⟨bo, oo, none⟩)] W
      fun e w' => e = .returned (.bool (decide (mtW g (ms (G i)) < mtW g (ms (G j))))) ∧ ∃ q, w' = W.drewN q := by
  have ci := hc i hi
  have cj := hc j hj
  have gi := hg i hi
  have gj := hg j hj
  have wi := hm _ gi
  have wj := hm _ gj
  go_enter Try.func105, Try.ntmps105
  go_wp2
  go_quiet (fail)
  go_wp2
  go_ret
  refine ⟨?_, _, rfl⟩
  show Ending.returned (Value.bool (decide (mtW g (ms (G i)) < mtW g (ms (G j))))) = _
  rfl
def ltM (g : Int) (ds : List Df) {n : Nat} (a b : Fin n) : Bool := decide (mtW g (gDf ds a.val).met < mtW g (gDf ds b.val).met)
theorem ltM_swo (g : Int) (ds : List Df) (n : Nat) : SWO (ltM g ds (n := n + 1)) := ⟨fun x => by simp [ltM], fun x y z h1 h2 => by simp [ltM] at *; omega, fun x y z h1 h2 => by simp [ltM] at *; omega⟩
/-- the order that the sort leaves -/
def srtM (g : Int) (ds : List Df) {n : Nat} (xs : List (Fin (n + 1))) : List (Fin (n + 1)) := (insertionSort (ltM g ds) xs.toArray 0 xs.toArray.size).toList
theorem srtM_ok (g : Int) (ds : List Df) {n : Nat} (xs : List (Fin (n + 1))) : (srtM g ds xs).Perm xs ∧ ∀ i j (h : i < j) (hj : j < (srtM g ds xs).length), mtW g (gDf ds ((srtM g ds xs)[i]'(by omega)).val).met ≤ mtW g (gDf ds ((srtM g ds xs)[j]).val).met := by
  obtain ⟨⟨h1, _, h2⟩, h3⟩ := insertionSort_holds (ltM_swo g ds n) xs.toArray 0 xs.toArray.size (Nat.zero_le _) (Nat.le_refl _)
  have hp : (srtM g ds xs).Perm xs := by
    have e1 : (insertionSort (ltM g ds) xs.toArray 0 xs.toArray.size).extract 0 xs.toArray.size = insertionSort (ltM g ds) xs.toArray 0 xs.toArray.size := by
      exact ext_self _ _ h1
    rw [e1] at h2
    simpa [srtM] using h2
  refine ⟨hp, fun i j h hj => ?_⟩
  have hl : (srtM g ds xs).length = xs.toArray.size := by simp [hp.length_eq]
  have := h3 i j (Nat.zero_le _) h (by omega)
  have ej : ∀ t (ht : t < (srtM g ds xs).length), (insertionSort (ltM g ds) xs.toArray 0 xs.toArray.size)[t]! = (srtM g ds xs)[t] := fun t ht => get_bang _ t ht
  rw [ej i (by omega), ej j hj] at this
  simpa [ltM] using this
theorem srtM_len (g : Int) (ds : List Df) {n : Nat} (xs : List (Fin (n + 1))) : (srtM g ds xs).length = xs.length := (srtM_ok g ds xs).1.length_eq
theorem cDf_get (ds : List Df) (t : Nat) (h : t < ds.length) (hx : t * 4 < (cDf ds).length) : (cDf ds)[t * 4] = .sc (.int .i64 (gDf ds t).met) := by
  have h1 := cDf_at ds t h
  have h2 : (cDf ds)[t * 4] = ((cDf (ds.drop t)).take 4)[0]'(by rw [h1]; simp) := by
    simp only [← cDf_drop]
    simp
  rw [h2]
  simp [h1]
def mtRest (g : Int) (ds : List Df) (n : Nat) : Objs := [some ⟨1, [I g]⟩, some ⟨1, [.sl ds.length (cDf ds)]⟩, some ⟨1, [.ref 0 0 n]⟩]
def mtCaps : List V := [.ptr 1 0, .ptr 2 0, .ptr 3 0]
theorem mtLess (g : Int) (ds : List Df) (N : Nat) (hN : ds.length = N + 1) (xs : List (Fin (N + 1))) (hx : 2 ≤ xs.length) (F : Fr) (w : World) (ρ : Nat → Pl) (h : HOk F w ρ (some ⟨1, encs encF xs⟩ :: mtRest g ds xs.length))
    (cs : Array Value) (hs : cs.size = mtCaps.length) (hr : ∀ i (h : i < mtCaps.length), RepC w (F.Y ρ (some ⟨1, encs encF xs⟩ :: mtRest g ds xs.length)) ρ (some ⟨1, encs encF xs⟩ :: mtRest g ds xs.length) (cs.getD i undef) mtCaps[i]) :
    LessReads (α := Fin (N + 1)) Try.prog 105 cs encF (ltM g ds) (ρ 0).blk (ρ 0).base xs.length w := by
  have l0 : Live (some ⟨1, encs encF xs⟩ :: mtRest g ds xs.length) 0 ⟨1, encs encF xs⟩ := rfl
  have l1 : Live (some ⟨1, encs encF xs⟩ :: mtRest g ds xs.length) 1 ⟨1, [I g]⟩ := rfl
  have l2 : Live (some ⟨1, encs encF xs⟩ :: mtRest g ds xs.length) 2 ⟨1, [.sl ds.length (cDf ds)]⟩ := rfl
  have l3 : Live (some ⟨1, encs encF xs⟩ :: mtRest g ds xs.length) 3 ⟨1, [.ref 0 0 xs.length]⟩ := rfl
  have p0 := ptr_of (l := 1) (off := 0) (hr 0 (by simp [mtCaps]))
  have p1 := ptr_of (l := 2) (off := 0) (hr 1 (by simp [mtCaps]))
  have p2 := ptr_of (l := 3) (off := 0) (hr 2 (by simp [mtCaps]))
  have hcs : cs = #[cs.getD 0 undef, cs.getD 1 undef, cs.getD 2 undef] := by
    have hs4 : cs.size = 3 := hs
    apply Array.ext (by simp [hs4])
    intro i h1 h2
    have : i = 0 ∨ i = 1 ∨ i = 2 := by omega
    rcases this with rfl | rfl | rfl <;> simp [Array.getD, h1]
  rw [p0, p1, p2] at hcs
  subst hcs
  obtain ⟨c1, a1, b1⟩ := h.box0 l1
  obtain ⟨c2, a2, b2⟩ := h.box0 l2
  obtain ⟨c3, a3, b3⟩ := h.box0 l3
  rw [sc_of b1] at a1
  have hb := h.blk_lt l0
  have hH := h.holds (by decide) encF l0
  obtain ⟨wb, wo, cw, e2, hwb, hwc⟩ := by
    cases b2 with
    | d hd => exact sl_of hd (by intro e; have := congrArg List.length e; simp [length_cDf, hN] at this)
  subst e2
  obtain ⟨cap, e3⟩ := ref_of b3 (by omega)
  subst e3
  have hne : wb ≠ (ρ 0).blk := fun e => hwb (.inr ⟨0, _, l0, e.symm⟩)
  intro m os dk hd i j hi hj
  have n1 : (ρ 1).blk ≠ (ρ 0).blk := fun e => absurd (h.inj _ _ _ _ l1 l0 e) (by decide)
  have n2 : (ρ 2).blk ≠ (ρ 0).blk := fun e => absurd (h.inj _ _ _ _ l2 l0 e) (by decide)
  have n3 : (ρ 3).blk ≠ (ρ 0).blk := fun e => absurd (h.inj _ _ _ _ l3 l0 e) (by decide)
  refine mtLess_walk _ (ρ 1).blk ((ρ 1).base + 0) (ρ 2).blk ((ρ 2).base + 0) (ρ 3).blk ((ρ 3).base + 0) (ρ 0).blk (ρ 0).base cap wb wo cw xs.length (N + 1) g (fun t => (gDf ds t).met) (fun t => (dk[t]!).val)
    (sortWorld_other _ a1 n1) ?_ (sortWorld_other _ a3 n3) (fun t ht => ?_) (fun t ht => (dk[t]!).isLt) (fun t ht => ?_) i j hi hj
  · rw [hN] at a2; exact sortWorld_other _ a2 n2
  · exact sortWorld_row encF hH hb (by simp [hd]) t (by omega)
  · obtain ⟨c, q1, q2⟩ := hwc (t * 4) (by rw [length_cDf]; omega)
    have : c = .int .i64 (gDf ds t).met := by
      rw [cDf_get ds t (by omega)] at q2
      cases q2
      rfl
    rw [this] at q1
    exact sortWorld_other _ q1 hne
noncomputable def mtT : TypeInfo := (Try.prog.info? 25).get (by kernel_rfl)
noncomputable def mtE : TypeInfo := (Try.prog.info? 2).get (by kernel_rfl)
theorem mtK (n : Nat) (h2 : 2 ≤ n) : Lib.swapperK n mtE 6 = 5 := by
  have a : mtE.hasPointers = false := by kernel_rfl
  have b : mtE.bytes = 8 := by kernel_rfl
  have c : (n == 0) = false := by simp; omega
  have d : (n == 1) = false := by simp; omega
  simp [Lib.swapperK, a, b, c, d]
theorem mtK0 : Lib.swapperK 0 mtE 6 = 1 := by simp [Lib.swapperK]
theorem mtK1 : Lib.swapperK 1 mtE 6 = 2 := by simp [Lib.swapperK]
theorem sortMt_ok (g : Int) (ds : List Df) (N : Nat) (hN : ds.length = N + 1) (xs : List (Fin (N + 1))) (hx : 2 ≤ xs.length) (h20 : xs.length ≤ 20) :
    ACalls Try.prog 84 [.ifc 25 (.ref 0 0 xs.length), .fn 105 mtCaps] (some ⟨1, encs encF xs⟩ :: mtRest g ds xs.length) (fun r o => r = .tup [] ∧ o = some ⟨1, encs encF (srtM g ds xs)⟩ :: mtRest g ds xs.length) := by
  have hb : HasBody Try.prog 84 := ⟨_, Try.func84, by kernel_rfl, rfl⟩
  refine ACalls.stable hb _ _ _ encF (fun x => rfl) (ltM g ds) xs (srtM g ds xs) (srtM_len g ds xs) (fun e => by simp [e] at hx) _ (fun F w ρ h cs hs hr => mtLess g ds N hN xs hx F w ρ h cs hs hr) (fun w blk off cap cs hless hH hblk => ?_)
  have hz : xs.toArray.size = xs.length := by simp
  have h := Any.sort_SliceStable_small Try.laysGt8 25 2 mtT mtE (by kernel_rfl) (by kernel_rfl) (by kernel_rfl) (by kernel_rfl) 6 (fun _ => by kernel_rfl) (by kernel_rfl) (fun _ => by kernel_rfl) encF (fun _ => rfl) (ltM g ds) 105 cs
    (enters_of Try.func105 (by kernel_rfl) rfl) blk off cap xs.toArray (by omega) (by omega) 128 (by rw [mtK _ (by omega)]; kernel_rfl) true
    (fun args W => run_callFunc_extern Try.func128 (by kernel_rfl) (by kernel_rfl) (by kernel_rfl) (e := Extern.ReflectliteSwapper.swap true) (by kernel_rfl) args W) w (by rw [hz]; exact hless) hH hblk
  rw [hz] at h
  refine h.mono ?_
  rintro e w' ⟨e1, n, os, e2⟩
  refine ⟨e1, n, os, ?_⟩
  rw [e2]
  simp [srtM]
theorem tinyMt_ok (n : Nat) (hn : n ≤ 1) (g : FuncId) (caps : List V) (ob : Objs) :
    ACalls Try.prog 84 [.ifc 25 (.ref 0 0 n), .fn g caps] ob (fun r o => r = .tup [] ∧ o = ob) := by
  have hb : HasBody Try.prog 84 := ⟨_, Try.func84, by kernel_rfl, rfl⟩
  refine ACalls.tiny hb _ _ _ n ob (fun w p cap cs => ?_)
  rcases (show n = 0 ∨ n = 1 by omega) with rfl | rfl
  · exact Any.sort_SliceStable_tiny Try.laysGt8 25 2 mtT mtE (by kernel_rfl) (by kernel_rfl) (by kernel_rfl) (by kernel_rfl) 6 (fun _ => by kernel_rfl) p 0 cap (by omega) 124 (by rw [mtK0]; kernel_rfl) (.func g) #[] cs w
  · exact Any.sort_SliceStable_tiny Try.laysGt8 25 2 mtT mtE (by kernel_rfl) (by kernel_rfl) (by kernel_rfl) (by kernel_rfl) 6 (fun _ => by kernel_rfl) p 1 cap (by omega) 125 (by rw [mtK1]; kernel_rfl) (.func g) #[] cs w
/-- an order of indices by metres -/
structure MtO (g : Int) (ds : List Df) (xs ys : List Int) : Prop where
  p : ys.Perm xs
  s : ∀ i j, i < j → j < ys.length → mtW g (gDf ds (gi ys i).toNat).met ≤ mtW g (gDf ds (gi ys j).toNat).met
theorem sortM_ok (g : Int) (ds : List Df) (xs : List Int) (hx : ∀ x ∈ xs, 0 ≤ x ∧ x < ds.length) (h20 : xs.length ≤ 20) :
    ACalls Try.prog 84 [.ifc 25 (.ref 0 0 xs.length), .fn 105 mtCaps] (oI xs :: mtRest g ds xs.length) (fun r o => ∃ ys, r = .tup [] ∧ o = oI ys :: mtRest g ds xs.length ∧ MtO g ds xs ys) := by
  by_cases h : xs.length ≤ 1
  · exact (tinyMt_ok xs.length h _ _ _).mono fun r o ⟨e1, e2⟩ => ⟨xs, e1, e2, .refl _, fun i j h1 h2 => by omega⟩
  · obtain ⟨N, hN⟩ : ∃ N, ds.length = N + 1 := ⟨ds.length - 1, by
      have := hx _ (gi_mem xs 0 (by omega)); omega⟩
    obtain ⟨fs, rfl⟩ : ∃ fs : List (Fin (N + 1)), xs = fs.map fun i => (i.val : Int) := by
      clear h h20
      induction xs with
      | nil => exact ⟨[], rfl⟩
      | cons x r ih =>
        obtain ⟨fs, e⟩ := ih fun y hy => hx y (List.mem_cons_of_mem _ hy)
        have := hx x (List.mem_cons_self ..)
        exact ⟨⟨x.toNat, by omega⟩ :: fs, by rw [List.map_cons, ← e]; congr 1; simp only; omega⟩
    rw [List.length_map] at h h20 ⊢
    have := sortMt_ok g ds N hN fs (by omega) h20
    rw [encs_fin, encs_fin] at this
    refine this.mono fun r o ⟨e1, e2⟩ => ⟨_, e1, e2, (srtM_ok g ds fs).1.map _, fun i j h1 h2 => ?_⟩
    rw [List.length_map] at h2
    have := (srtM_ok g ds fs).2 i j h1 h2
    simp only [gi, List.getD_eq_getElem?_getD, List.getElem?_map, List.getElem?_eq_getElem (show i < (srtM g ds fs).length by omega), List.getElem?_eq_getElem h2, Option.map_some, Option.getD_some, Int.toNat_natCast]
    exact this
end Go.Proofs.Ytilocioajpcoiaa
