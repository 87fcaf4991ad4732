/- sort.SliceStable, as contracts of mine: the frame -/
import Derived.Test.YtjgjnedenapemaaGreatDoorSortB
import Derived.Test.YtjgjnedenapemaaGreatDoorStrL
import Derived.Test.YtjgjnedenapemaaGreatDoorShelf
import Derived.Shelf.GgSortMore.Stable
import Derived.Deep.QuietTactic
set_option linter.unusedVariables false
set_option linter.unusedSimpArgs false
namespace Go.AG
open Go Go.RowKit Go.Sort Go.Proofs
variable {α : Type} [Inhabited α]

omit [Inhabited α] in
theorem ptr_of {w : World} {Y : Nat → Prop} {ρ : Nat → Pl} {ob : Objs} {v : Value} {l off : Nat} (h : RepC w Y ρ ob v (.ptr l off)) : v = .pointer (some ⟨(ρ l).blk, (ρ l).base + off, none⟩) := by
  cases h with
  | d h => cases h
  | ptr ho hm => rfl
theorem HOk.box0 {F : Fr} {w : World} {ρ : Nat → Pl} {ob : Objs} (h : HOk F w ρ ob) {l : Nat} {x : V} (ho : Live ob l ⟨1, [x]⟩) : ∃ c, w.cell? ⟨(ρ l).blk, (ρ l).base, none⟩ = some c ∧ RepC w (F.Y ρ ob) ρ ob c x := by
  obtain ⟨_, _, hc⟩ := (h.obj l _ ho).cells (by simp [mapSz])
  obtain ⟨c, c1, c2, _⟩ := hc 0 (by simp)
  exact ⟨c, by simpa using c1, by simpa using c2⟩
theorem sl_of {w : World} {X : Nat → Prop} {v : Value} {n : Nat} {xs : List V} (h : RepD w X v (.sl n xs)) (hx : xs ≠ []) :
    ∃ b o cap, v = .slice (some ⟨b, o, none⟩) n cap ∧ ¬ X b ∧ ∀ i (hi : i < xs.length), ∃ c, w.cell? ⟨b, o + i, none⟩ = some c ∧ RepD w X c xs[i] := by
  cases h with
  | nil => exact absurd rfl hx
  | sl0 a => exact absurd rfl hx
  | sl cs hc hr hX hl => exact ⟨_, _, _, rfl, hX hx, fun i hi => ⟨_, hc i hi, hr i hi⟩⟩
theorem sortWorld_other (enc : α → Value) {w : World} {blk off m : Nat} {dk : Array α} {os : Array Obj} {a : Addr} {c : Value} (h : w.cell? a = some c) (hne : a.block ≠ blk) : (sortWorld enc w blk off m dk os).cell? a = some c := by
  have hlt := World.block_lt_of_cell? w a h
  unfold sortWorld
  rw [cell?_grow _ _ _ (by rw [Go.Sort.size_putRow]; exact hlt), cell?_putRow_other _ _ _ _ _ _ (Or.inl hne)]
  exact h
theorem sortWorld_row (enc : α → Value) {w : World} {blk off m : Nat} {d dk : Array α} {os : Array Obj} (h : Holds enc w blk off d) (hb : blk < w.heap.size) (hs : dk.size = d.size) (t : Nat) (ht : t < dk.size) : (sortWorld enc w blk off m dk os).cell? ⟨blk, off + t, none⟩ = some (enc dk[t]!) := by
  unfold sortWorld
  rw [cell?_grow _ _ _ (by rw [Go.Sort.size_putRow]; exact hb), cell?_putRow enc (Sort.ahead w m) blk off d dk (holds_ahead _ _ _ _ _ _ h) hs t ht]
/-- a library function that sorts a row in an interface value by a closure -/
theorem ACalls.stable {P : Program} {f : FuncId} (hb : HasBody P f) (T : TypeId) (g : FuncId) (caps : List V) (enc : α → Value) (h1 : ∀ x, (enc x).oneCell' = true) (lt : α → α → Bool) (xs ys : List α) (hl : ys.length = xs.length) (hx : xs ≠ []) (rest : Objs)
    (hcl : ∀ (F : Fr) (w : World) (ρ : Nat → Pl), HOk F w ρ (some ⟨1, encs enc xs⟩ :: rest) → ∀ cs : Array Value, cs.size = caps.length →
      (∀ i (h : i < caps.length), RepC w (F.Y ρ (some ⟨1, encs enc xs⟩ :: rest)) ρ (some ⟨1, encs enc xs⟩ :: rest) (cs.getD i undef) caps[i]) → LessReads P g cs enc lt (ρ 0).blk (ρ 0).base xs.length w)
    (hrun : ∀ (w : World) (blk off cap : Nat) (cs : Array Value), LessReads P g cs enc lt blk off xs.length w → Holds enc w blk off xs.toArray → blk < w.heap.size →
      Calls P f #[.iface T (.slice (some ⟨blk, off, none⟩) xs.length cap), .func (.func g) #[] cs] w fun e w' => e = .returned (.tuple #[]) ∧ ∃ n os, w' = Sort.grow (putRow enc (Sort.ahead w n) blk off ys.toArray) os) :
    ACalls P f [.ifc T (.ref 0 0 xs.length), .fn g caps] (some ⟨1, encs enc xs⟩ :: rest) (fun r o => r = .tup [] ∧ o = some ⟨1, encs enc ys⟩ :: rest) := by
  refine ⟨hb, fun w X ρ vs hL hs hH hr => ?_⟩
  have ho : Live (some ⟨1, encs enc xs⟩ :: rest) 0 ⟨1, encs enc xs⟩ := rfl
  have hlt := hH.blk_lt ho
  have h0 := hr 0 (by simp)
  have hc0 := hr 1 (by simp)
  simp only [List.getElem_cons_zero, List.getElem_cons_succ] at h0 hc0
  have hvs : vs = #[vs.getD 0 undef, vs.getD 1 undef] := by
    have : vs.size = 2 := hs
    apply Array.ext (by simp [this])
    intro i h1 h2
    have : i = 0 ∨ i = 1 := by omega
    rcases this with rfl | rfl <;> simp [Array.getD, h1]
  generalize vs.getD 0 undef = v0 at *
  generalize vs.getD 1 undef = v1 at *
  have hpos : xs.length ≠ 0 := fun e => hx (List.eq_nil_of_length_eq_zero e)
  obtain ⟨cap, e0⟩ : ∃ cap, v0 = .iface T (.slice (some ⟨(ρ 0).blk, (ρ 0).base, none⟩) xs.length cap) := by
    cases h0 with
    | d h => cases h
    | ifc h =>
      generalize hn : xs.length = n at *
      cases h with
      | d h => cases h
      | ref ho' hm' hlc hc' hs' => exact ⟨_, rfl⟩
      | ref0 ho' hm' => exact absurd rfl hpos
  obtain ⟨cs, e1, e2, e3⟩ : ∃ cs : Array Value, v1 = .func (.func g) #[] cs ∧ cs.size = caps.length ∧ ∀ i (h : i < caps.length), RepC w (Fr.Y ⟨w, X, ownB ρ (some ⟨1, encs enc xs⟩ :: rest), (some (⟨1, encs enc xs⟩ : Ob) :: rest).length, ρ⟩ ρ (some ⟨1, encs enc xs⟩ :: rest)) ρ (some ⟨1, encs enc xs⟩ :: rest) (cs.getD i undef) caps[i] := by
    cases hc0 with
    | d h => cases h with
      | fn hs hr => exact ⟨_, rfl, hs, fun i hi => .d (hr i hi)⟩
    | fn hs hr => exact ⟨_, rfl, hs, hr⟩
  subst e0 e1
  rw [hvs]
  refine (hrun w _ _ cap cs (hcl _ w ρ hH cs e2 e3) (hH.holds (by decide) enc ho) hlt).mono ?_
  rintro e w' ⟨rfl, n, os, rfl⟩
  obtain ⟨k1, k2⟩ := hH.sorted (by decide) enc h1 hl ho n os
  exact ⟨_, .tup [], _, ρ, rfl, ⟨rfl, rfl⟩, k1, .tup rfl fun i hi => absurd hi (by simp)⟩
/-- .. of no element or one -/
theorem ACalls.tiny {P : Program} {f : FuncId} (hb : HasBody P f) (T : TypeId) (g : FuncId) (caps : List V) (n : Nat) (ob : Objs)
    (hrun : ∀ (w : World) (p : Option Addr) (cap : Nat) (cs : Array Value), Calls P f #[.iface T (.slice p n cap), .func (.func g) #[] cs] w fun e w' => e = .returned (.tuple #[]) ∧ ∃ os, w' = Sort.grow w os) :
    ACalls P f [.ifc T (.ref 0 0 n), .fn g caps] ob (fun r o => r = .tup [] ∧ o = ob) := by
  refine ⟨hb, fun w X ρ vs hL hs hH hr => ?_⟩
  have h0 := hr 0 (by simp)
  have hc0 := hr 1 (by simp)
  simp only [List.getElem_cons_zero, List.getElem_cons_succ] at h0 hc0
  have hvs : vs = #[vs.getD 0 undef, vs.getD 1 undef] := by
    have : vs.size = 2 := hs
    apply Array.ext (by simp [this])
    intro i h1 h2
    have : i = 0 ∨ i = 1 := by omega
    rcases this with rfl | rfl <;> simp [Array.getD, h1]
  generalize vs.getD 0 undef = v0 at *
  generalize vs.getD 1 undef = v1 at *
  obtain ⟨p, cap, e0⟩ : ∃ p cap, v0 = .iface T (.slice p n cap) := by
    cases h0 with
    | d h => cases h
    | ifc h =>
      cases h with
      | d h => cases h
      | ref ho' hm' hlc hc' hs' => exact ⟨_, _, rfl⟩
      | ref0 ho' hm' => exact ⟨_, _, rfl⟩
  obtain ⟨cs, e1⟩ : ∃ cs : Array Value, v1 = .func (.func g) #[] cs := by
    cases hc0 with
    | d h => cases h with
      | fn hs hr => exact ⟨_, rfl⟩
    | fn hs hr => exact ⟨_, rfl⟩
  subst e0 e1
  rw [hvs]
  refine (hrun w p cap cs).mono ?_
  rintro e w' ⟨rfl, os, rfl⟩
  have hbl : Below w.heap.size w (Sort.grow w os) := ⟨rfl, rfl, rfl, by simp [Sort.grow], fun k hk => by rw [heap_grow_old _ _ hk]⟩
  exact ⟨_, .tup [], _, ρ, rfl, ⟨rfl, rfl⟩, hH.grow hbl, .tup rfl fun i hi => absurd hi (by simp)⟩
end Go.AG
