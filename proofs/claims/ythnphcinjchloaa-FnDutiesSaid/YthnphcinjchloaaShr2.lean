/- shareOut's call of sort.SliceStable -/
import Derived.Test.YthnphcinjchloaaShr1
import Derived.Test.YthnphcinjchloaaSymZ
set_option linter.unusedVariables false
set_option linter.unusedSimpArgs false
namespace Go.Proofs.Ythnphcinjchloaa
open Go.AG Go.Lib Go.Sort Go.Shelf Go.RowKit

def encF {n : Nat} (k : Fin n) : Value := .int .i64 (k.val : Nat)
def ltS (T S : Int) (ws : List Int) {n : Nat} (a b : Fin n) : Bool := decide (rmW T S (gi ws b.val) < rmW T S (gi ws a.val))
/-- .. and ties by the first places: a total order -/
def RbS (T S : Int) (ws : List Int) {n : Nat} (a b : Fin n) : Bool := ltS T S ws a b || (!ltS T S ws b a && decide (a.val < b.val))
theorem RbS_iff (T S : Int) (ws : List Int) {n : Nat} (a b : Fin n) : RbS T S ws a b = true ↔ rmW T S (gi ws b.val) < rmW T S (gi ws a.val) ∨ rmW T S (gi ws b.val) = rmW T S (gi ws a.val) ∧ a.val < b.val := by
  simp only [RbS, ltS, Bool.or_eq_true, Bool.and_eq_true, Bool.not_eq_true', decide_eq_true_eq, decide_eq_false_iff_not]
  omega
theorem RbS_no (T S : Int) (ws : List Int) {n : Nat} (a b : Fin n) : RbS T S ws a b = false ↔ ¬ (rmW T S (gi ws b.val) < rmW T S (gi ws a.val) ∨ rmW T S (gi ws b.val) = rmW T S (gi ws a.val) ∧ a.val < b.val) := by
  rw [← RbS_iff, Bool.not_eq_true]
theorem RbS_swo (T S : Int) (ws : List Int) (n : Nat) : SWO (RbS T S ws (n := n + 1)) := ⟨fun x => by rw [RbS_no]; omega, fun x y z h1 h2 => by rw [RbS_iff] at *; omega, fun x y z h1 h2 => by rw [RbS_no] at *; omega⟩
theorem ext_self {α : Type} (d : Array α) (n : Nat) (h : d.size = n) : d.extract 0 n = d := by subst h; simp
theorem get_bang {α : Type} [Inhabited α] (d : Array α) (t : Nat) (h : t < d.toList.length) : d[t]! = d.toList[t] := by
  have : t < d.size := by simpa using h
  simp [this]
/-- the order that the sort leaves -/
def srt (T S : Int) (ws : List Int) {n : Nat} (xs : List (Fin (n + 1))) : List (Fin (n + 1)) := (stA (ltS T S ws) xs.toArray.size xs.toArray).toList
theorem org_fin (T S : Int) (ws : List Int) (n : Nat) : Org (ltS T S ws (n := n + 1)) (RbS T S ws) (List.finRange (n + 1)).toArray (List.finRange (n + 1)).toArray.size := by
  intro i j hij hj
  have hj' : j < n + 1 := by simpa using hj
  have ei : (List.finRange (n + 1)).toArray[i]! = ⟨i, by omega⟩ := by
    rw [get_bang _ _ (by simpa using (show i < n + 1 by omega))]; simp
  have ej : (List.finRange (n + 1)).toArray[j]! = ⟨j, hj'⟩ := by
    rw [get_bang _ _ (by simpa using hj')]; simp
  rw [ei, ej]
  constructor
  · have : decide (j < i) = false := decide_eq_false (by omega)
    simp only [RbS, this, Bool.and_false, Bool.or_false]
  · intro h
    rw [RbS_no] at h
    rw [RbS_iff]
    simp only at h ⊢
    omega
theorem srt_perm (T S : Int) (ws : List Int) (n : Nat) : (srt T S ws (List.finRange (n + 1))).Perm (List.finRange (n + 1)) := by
  obtain ⟨⟨h1, _, h2⟩, _⟩ := stA_ok (RbS_swo T S ws n) (org_fin T S ws n) (Nat.le_refl _)
  have e1 := ext_self (stA (ltS T S ws (n := n + 1)) (List.finRange (n + 1)).toArray.size (List.finRange (n + 1)).toArray) _ h1
  have e2 := ext_self (List.finRange (n + 1)).toArray _ rfl
  rw [e1, e2, List.toList_toArray] at h2
  exact h2
theorem srt_len (T S : Int) (ws : List Int) (n : Nat) : (srt T S ws (List.finRange (n + 1))).length = n + 1 := by rw [(srt_perm T S ws n).length_eq, List.length_finRange]
theorem srt_tot (T S : Int) (ws : List Int) (n : Nat) : ∀ i j (h : i < j) (hj : j < (srt T S ws (List.finRange (n + 1))).length), RbS T S ws ((srt T S ws (List.finRange (n + 1)))[i]'(by omega)) (srt T S ws (List.finRange (n + 1)))[j] = true := fun i j h hj => by
  obtain ⟨_, h3⟩ := stA_ok (RbS_swo T S ws n) (org_fin T S ws n) (Nat.le_refl _)
  have hl := srt_len T S ws n
  have := h3 i j (Nat.zero_le _) h (by simp; omega)
  have ej : ∀ t (ht : t < (srt T S ws (List.finRange (n + 1))).length), (stA (ltS T S ws (n := n + 1)) (List.finRange (n + 1)).toArray.size (List.finRange (n + 1)).toArray)[t]! = (srt T S ws (List.finRange (n + 1)))[t] := fun t ht => get_bang _ t ht
  rw [ej i (by omega), ej j hj] at this
  exact this
theorem ref_of {w : World} {Y : Nat → Prop} {ρ : Nat → Pl} {ob : Objs} {v : Value} {l n : Nat} (h : RepC w Y ρ ob v (.ref l 0 n)) (hn : n ≠ 0) : ∃ cap, v = .slice (some ⟨(ρ l).blk, (ρ l).base, none⟩) n cap := by
  cases h with
  | d h => cases h
  | ref ho' hm' hlc hc' hs' => exact ⟨_, rfl⟩
  | ref0 ho' hm' => exact absurd rfl hn
def shRest (T S : Int) (ws : List Int) (n : Nat) : Objs := [some ⟨1, [I T]⟩, some ⟨1, [iS ws]⟩, some ⟨1, [.ref 0 0 n]⟩, some ⟨1, [I S]⟩]
def shCaps : List V := [.ptr 1 0, .ptr 2 0, .ptr 3 0, .ptr 4 0]
theorem shLess (T S : Int) (hS : 0 < S) (ws : List Int) (k : Nat) (hw : ws.length = k + 2) (xs : List (Fin (k + 2))) (hx : xs.length = k + 2) (F : Fr) (w : World) (ρ : Nat → Pl) (h : HOk F w ρ (some ⟨1, encs encF xs⟩ :: shRest T S ws (k + 2)))
    (cs : Array Value) (hs : cs.size = shCaps.length) (hr : ∀ i (h : i < shCaps.length), RepC w (F.Y ρ (some ⟨1, encs encF xs⟩ :: shRest T S ws (k + 2))) ρ (some ⟨1, encs encF xs⟩ :: shRest T S ws (k + 2)) (cs.getD i undef) shCaps[i]) :
    LessReads (α := Fin (k + 2)) Try.prog 141 cs encF (ltS T S ws) (ρ 0).blk (ρ 0).base xs.length w := by
  have l0 : Live (some ⟨1, encs encF xs⟩ :: shRest T S ws (k + 2)) 0 ⟨1, encs encF xs⟩ := rfl
  have l1 : Live (some ⟨1, encs encF xs⟩ :: shRest T S ws (k + 2)) 1 ⟨1, [I T]⟩ := rfl
  have l2 : Live (some ⟨1, encs encF xs⟩ :: shRest T S ws (k + 2)) 2 ⟨1, [iS ws]⟩ := rfl
  have l3 : Live (some ⟨1, encs encF xs⟩ :: shRest T S ws (k + 2)) 3 ⟨1, [.ref 0 0 (k + 2)]⟩ := rfl
  have l4 : Live (some ⟨1, encs encF xs⟩ :: shRest T S ws (k + 2)) 4 ⟨1, [I S]⟩ := rfl
  have p0 := ptr_of (l := 1) (off := 0) (hr 0 (by simp [shCaps]))
  have p1 := ptr_of (l := 2) (off := 0) (hr 1 (by simp [shCaps]))
  have p2 := ptr_of (l := 3) (off := 0) (hr 2 (by simp [shCaps]))
  have p3 := ptr_of (l := 4) (off := 0) (hr 3 (by simp [shCaps]))
  have hcs : cs = #[cs.getD 0 undef, cs.getD 1 undef, cs.getD 2 undef, cs.getD 3 undef] := by
    have hs4 : cs.size = 4 := hs
    apply Array.ext (by simp [hs4])
    intro i h1 h2
    have : i = 0 ∨ i = 1 ∨ i = 2 ∨ i = 3 := by omega
    rcases this with rfl | rfl | rfl | rfl <;> simp [Array.getD, h1]
  rw [p0, p1, p2, p3] at hcs
  subst hcs
  obtain ⟨c1, a1, b1⟩ := h.box0 l1
  obtain ⟨c2, a2, b2⟩ := h.box0 l2
  obtain ⟨c3, a3, b3⟩ := h.box0 l3
  obtain ⟨c4, a4, b4⟩ := h.box0 l4
  rw [sc_of b1] at a1
  rw [sc_of b4] at a4
  have hb := h.blk_lt l0
  have hH := h.holds (by decide) encF l0
  obtain ⟨wb, wo, cw, e2, hwb, hwc⟩ := by
    cases b2 with
    | d hd => exact sl_of hd (by intro e; have := congrArg List.length e; simp [ints, hw] at this)
  subst e2
  obtain ⟨cap, e3⟩ := ref_of b3 (by omega)
  subst e3
  have hne : wb ≠ (ρ 0).blk := fun e => hwb (.inr ⟨0, _, l0, e.symm⟩)
  intro m os dk hd i j hi hj
  rw [hx] at hd hi hj
  have n1 : (ρ 1).blk ≠ (ρ 0).blk := fun e => absurd (h.inj _ _ _ _ l1 l0 e) (by decide)
  have n2 : (ρ 2).blk ≠ (ρ 0).blk := fun e => absurd (h.inj _ _ _ _ l2 l0 e) (by decide)
  have n3 : (ρ 3).blk ≠ (ρ 0).blk := fun e => absurd (h.inj _ _ _ _ l3 l0 e) (by decide)
  have n4 : (ρ 4).blk ≠ (ρ 0).blk := fun e => absurd (h.inj _ _ _ _ l4 l0 e) (by decide)
  refine shLess_walk _ (ρ 1).blk ((ρ 1).base + 0) (ρ 2).blk ((ρ 2).base + 0) (ρ 3).blk ((ρ 3).base + 0) (ρ 4).blk ((ρ 4).base + 0) (ρ 0).blk (ρ 0).base cap wb wo cw (k + 2) T S (gi ws) (fun t => (dk[t]!).val)
    (sortWorld_other _ a1 n1) ?_ (sortWorld_other _ a3 n3) (sortWorld_other _ a4 n4) (fun t ht => ?_) (fun t ht => (dk[t]!).isLt) (fun t ht => ?_) i j hi hj hS
  · rw [hw] at a2; exact sortWorld_other _ a2 n2
  · exact sortWorld_row encF hH hb (by simp [hd, hx]) t (by omega)
  · obtain ⟨c, q1, q2⟩ := hwc t (by simp [ints]; omega)
    have : c = .int .i64 (gi ws t) := by
      simp only [ints, List.getElem_map] at q2
      cases q2
      simp [gi, List.getD, show t < ws.length by omega]
    rw [this] at q1
    exact sortWorld_other _ q1 hne
theorem sortSh_ok (T S : Int) (hS : 0 < S) (ws : List Int) (k : Nat) (hw : ws.length = k + 2) (h20 : k + 2 ≤ 1000000) :
    ACalls Try.prog 86 [.ifc 144 (.ref 0 0 (List.finRange (k + 2)).length), .fn 141 shCaps] (some ⟨1, encs encF (List.finRange (k + 2))⟩ :: shRest T S ws (k + 2)) (fun r o => r = .tup [] ∧ o = some ⟨1, encs encF (srt T S ws (List.finRange (k + 2)))⟩ :: shRest T S ws (k + 2)) := by
  have hb : HasBody Try.prog 86 := ⟨_, Try.func86, by kernel_rfl, rfl⟩
  have hx : (List.finRange (k + 2)).length = k + 2 := by simp
  have hl : (srt T S ws (List.finRange (k + 2))).length = (List.finRange (k + 2)).length := by rw [srt_len, hx]
  generalize hxs : List.finRange (k + 2) = xs at *
  refine ACalls.stable hb _ _ _ encF (fun x => rfl) (ltS T S ws) xs (srt T S ws xs) hl (fun e => by simp [e] at hx) _ (fun F w ρ h cs hs hr => shLess T S hS ws k hw xs hx F w ρ h cs hs hr) (fun w blk off cap cs hless hH hblk => ?_)
  have hz : xs.toArray.size = xs.length := by simp
  have h := stable_any 144 3 shT shE (by kernel_rfl) (by kernel_rfl) (by kernel_rfl) (by kernel_rfl) 2 (fun _ => by kernel_rfl) (by kernel_rfl) (fun _ => by kernel_rfl) encF (fun _ => rfl) (ltS T S ws) 141 cs
    (enters_of Try.func141 (by kernel_rfl) rfl) blk off cap xs.toArray (by omega) (by omega) 161 (by rw [shK _ (by omega)]; kernel_rfl) true
    (fun args W => run_callFunc_extern Try.func161 (by kernel_rfl) (by kernel_rfl) (by kernel_rfl) (e := Extern.ReflectliteSwapper.swap true) (by kernel_rfl) args W) w (by rw [hz]; exact hless) hH hblk
  rw [hz] at h
  refine h.mono ?_
  rintro e w' ⟨e1, n, os, e2⟩
  refine ⟨e1, n, os, ?_⟩
  rw [e2]
  simp [srt]
theorem sortTiny_ok (n : Nat) (hn : n ≤ 1) (g : FuncId) (caps : List V) (ob : Objs) :
    ACalls Try.prog 86 [.ifc 144 (.ref 0 0 n), .fn g caps] ob (fun r o => r = .tup [] ∧ o = ob) := by
  have hb : HasBody Try.prog 86 := ⟨_, Try.func86, by kernel_rfl, rfl⟩
  refine ACalls.tiny hb _ _ _ n ob (fun w p cap cs => ?_)
  rcases (show n = 0 ∨ n = 1 by omega) with rfl | rfl
  · exact Any.sort_SliceStable_tiny Try.laysGt8 144 3 shT shE (by kernel_rfl) (by kernel_rfl) (by kernel_rfl) (by kernel_rfl) 2 (fun _ => by kernel_rfl) p 0 cap (by omega) 157 (by rw [shK0]; kernel_rfl) (.func g) #[] cs w
  · exact Any.sort_SliceStable_tiny Try.laysGt8 144 3 shT shE (by kernel_rfl) (by kernel_rfl) (by kernel_rfl) (by kernel_rfl) 2 (fun _ => by kernel_rfl) p 1 cap (by omega) 158 (by rw [shK1]; kernel_rfl) (.func g) #[] cs w
/-- the positions, and their order by falling remainders -/
def posI (n : Nat) : List Int := (List.range n).map fun i : Nat => (i : Int)
def ordV (T S : Int) (ws : List Int) : List Int := match ws.length with
  | k + 2 => (srt T S ws (List.finRange (k + 2))).map fun i => (i.val : Int)
  | n => posI n
theorem encs_fin {n : Nat} (xs : List (Fin n)) : encs encF xs = ints (xs.map fun i => (i.val : Int)) := by
  simp only [encs, ints, List.map_map]
  rfl
theorem fin_id (n : Nat) : (List.finRange n).map (fun i => (i.val : Int)) = posI n := by
  apply List.ext_getElem (by simp [posI])
  intro i h1 h2
  simp [posI]
theorem ordV_big (T S : Int) (ws : List Int) (k : Nat) (h : ws.length = k + 2) : ordV T S ws = (srt T S ws (List.finRange (k + 2))).map fun i => (i.val : Int) := by
  unfold ordV
  split
  · rename_i k' he
    have : k' = k := by omega
    subst this
    rfl
  · rename_i h2
    exact absurd h (h2 k)
theorem ordV_small (T S : Int) (ws : List Int) (h : ws.length ≤ 1) : ordV T S ws = posI ws.length := by
  simp only [ordV]
  split
  · omega
  · rfl
theorem sortOrd_ok (T S : Int) (hS : 0 < S) (ws : List Int) (h20 : ws.length ≤ 1000000) :
    ACalls Try.prog 86 [.ifc 144 (.ref 0 0 ws.length), .fn 141 shCaps] (oI (posI ws.length) :: shRest T S ws ws.length) (fun r o => r = .tup [] ∧ o = oI (ordV T S ws) :: shRest T S ws ws.length) := by
  by_cases h : ws.length ≤ 1
  · rw [ordV_small T S ws h]
    exact sortTiny_ok ws.length h _ _ _
  · obtain ⟨k, hk⟩ : ∃ k, ws.length = k + 2 := ⟨ws.length - 2, by omega⟩
    have := sortSh_ok T S hS ws k hk (by omega)
    rw [encs_fin, encs_fin, fin_id, List.length_finRange] at this
    rw [ordV_big T S ws k hk, hk]
    exact this
theorem ordV_len (T S : Int) (ws : List Int) : (ordV T S ws).length = ws.length := by
  by_cases h : ws.length ≤ 1
  · rw [ordV_small T S ws h]; simp [posI]
  · obtain ⟨k, hk⟩ : ∃ k, ws.length = k + 2 := ⟨ws.length - 2, by omega⟩
    rw [ordV_big T S ws k hk, hk, List.length_map, srt_len]
/-- by falling remainders, ties by the first places -/
theorem ordV_tot (T S : Int) (ws : List Int) (i j : Nat) (hij : i < j) (hj : j < ws.length) : rmW T S (gi ws (gi (ordV T S ws) j).toNat) < rmW T S (gi ws (gi (ordV T S ws) i).toNat) ∨ rmW T S (gi ws (gi (ordV T S ws) j).toNat) = rmW T S (gi ws (gi (ordV T S ws) i).toNat) ∧ gi (ordV T S ws) i < gi (ordV T S ws) j := by
  obtain ⟨k, hk⟩ : ∃ k, ws.length = k + 2 := ⟨ws.length - 2, by omega⟩
  have hl : (srt T S ws (List.finRange (k + 2))).length = k + 2 := srt_len T S ws (k + 1)
  have := (RbS_iff _ _ _ _ _).1 (srt_tot T S ws (k + 1) i j hij (show j < (srt T S ws (List.finRange (k + 2))).length by omega))
  rw [ordV_big T S ws k hk]
  simp only [gi, List.getD_eq_getElem?_getD, List.getElem?_map, List.getElem?_eq_getElem (show i < (srt T S ws (List.finRange (k + 2))).length by omega), List.getElem?_eq_getElem (show j < (srt T S ws (List.finRange (k + 2))).length by omega), Option.map_some, Option.getD_some, Int.toNat_natCast] at this ⊢
  rcases this with h | ⟨h1, h2⟩
  · exact .inl h
  · exact .inr ⟨h1, Int.ofNat_lt.2 h2⟩
/-- a permutation, by falling remainders -/
theorem ordV_ok (T S : Int) (ws : List Int) : (ordV T S ws).Perm (posI ws.length) ∧ ∀ i j, i < j → j < ws.length → rmW T S (gi ws (gi (ordV T S ws) j).toNat) ≤ rmW T S (gi ws (gi (ordV T S ws) i).toNat) := by
  refine ⟨?_, fun i j h1 h2 => by have := ordV_tot T S ws i j h1 h2; omega⟩
  by_cases h : ws.length ≤ 1
  · rw [ordV_small T S ws h]
  · obtain ⟨k, hk⟩ : ∃ k, ws.length = k + 2 := ⟨ws.length - 2, by omega⟩
    rw [ordV_big T S ws k hk, hk, ← fin_id]
    exact (srt_perm T S ws (k + 1)).map _
end Go.Proofs.Ythnphcinjchloaa
