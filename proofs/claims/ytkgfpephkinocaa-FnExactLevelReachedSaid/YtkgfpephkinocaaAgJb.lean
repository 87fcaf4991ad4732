/-
  AG, part Jb: calls that are handed some of the caller's own objects, to be written. Conditions: none.
-/
import Derived.Test.YtkgfpephkinocaaAgJ
set_option linter.unusedSimpArgs false
set_option linter.unusedVariables false
namespace Go.AG
open Go.RowKit

def obAt (ob : Objs) (l : Nat) : Option Ob := match ob[l]? with
  | some (some o) => some o
  | _ => none

theorem obAt_live {ob : Objs} {l : Nat} {o : Ob} : obAt ob l = some o ↔ Live ob l o := by
  unfold obAt Live
  split
  · rename_i o' h; rw [h]; simp
  · rename_i h
    constructor
    · intro h'; cases h'
    · intro h'; exact absurd h' (h o)

def nodupB : List Nat → Bool
  | [] => true
  | x :: r => !(r.elem x) && nodupB r

theorem nodupB_inj {ls : List Nat} (h : nodupB ls = true) {i j : Nat} (hi : i < ls.length) (hj : j < ls.length) (he : ls[i] = ls[j]) : i = j := by
  induction ls generalizing i j with
  | nil => simp at hi
  | cons x r ih =>
    simp only [nodupB, Bool.and_eq_true, Bool.not_eq_true', List.elem_eq_mem, decide_eq_false_iff_not] at h
    cases i with
    | zero => cases j with
      | zero => rfl
      | succ j => simp at he; exact absurd (he ▸ List.getElem_mem (by simpa using hj)) h.1
    | succ i => cases j with
      | zero => simp at he; exact absurd (he ▸ List.getElem_mem (by simpa using hi)) h.1
      | succ j => simp at he; have := ih h.2 (by simpa using hi) (by simpa using hj) he; omega

def liveImm (ob : Objs) : List Nat → Bool
  | [] => true
  | l :: r => (match obAt ob l with | some o => V.immL o.cells | none => false) && liveImm ob r

theorem liveImm_mem {ob : Objs} {ls : List Nat} (h : liveImm ob ls = true) {l : Nat} (hl : l ∈ ls) : ∃ o, Live ob l o ∧ obAt ob l = some o ∧ V.immL o.cells = true := by
  induction ls with
  | nil => simp at hl
  | cons x r ih =>
    simp only [liveImm, Bool.and_eq_true] at h
    rcases List.mem_cons.1 hl with rfl | hl
    · have h1 := h.1
      cases ho : obAt ob l with
      | none => rw [ho] at h1; simp at h1
      | some o =>
        rw [ho] at h1
        exact ⟨o, obAt_live.1 ho, rfl, h1⟩
    · exact ih h.2 hl

/-- the objects that came back have their places and their elements' sizes -/
def ioOk (ob : Objs) : List Nat → Objs → Prop
  | [], _ => True
  | l :: ls, some o' :: r => (match obAt ob l with | some o => o'.esz = o.esz | none => False) ∧ ioOk ob ls r
  | _ :: _, _ => False

theorem ioOk_get {ob : Objs} {ls : List Nat} {ob' : Objs} (h : ioOk ob ls ob') (i : Nat) (hi : i < ls.length) : ∃ o o', Live ob ls[i] o ∧ Live ob' i o' ∧ o'.esz = o.esz := by
  induction ls generalizing ob' i with
  | nil => simp at hi
  | cons l ls ih =>
    cases ob' with
    | nil => exact h.elim
    | cons x r =>
      cases x with
      | none => exact h.elim
      | some o' =>
        obtain ⟨h1, h2⟩ := h
        cases i with
        | zero =>
          cases ho : obAt ob l with
          | none => rw [ho] at h1; exact h1.elim
          | some o => rw [ho] at h1; exact ⟨o, o', obAt_live.1 ho, rfl, h1⟩
        | succ i =>
          obtain ⟨o, o2, g1, g2, g3⟩ := ih h2 i (by simpa using hi)
          exact ⟨o, o2, by simpa using g1, by simpa [Live] using g2, g3⟩

theorem ioOk_len {ob : Objs} {ls : List Nat} {ob' : Objs} (h : ioOk ob ls ob') : ls.length ≤ ob'.length := by
  induction ls generalizing ob' with
  | nil => simp
  | cons l ls ih =>
    cases ob' with
    | nil => exact h.elim
    | cons x r => cases x with
      | none => exact h.elim
      | some o' => have := ih h.2; simp; omega

def putAll (ob : Objs) : List Nat → Objs → Objs
  | l :: ls, o :: r => putAll (ob.set l o) ls r
  | _, _ => ob

theorem length_putAll (ob : Objs) (ls : List Nat) (r : Objs) : (putAll ob ls r).length = ob.length := by
  induction ls generalizing ob r with
  | nil => simp [putAll]
  | cons l ls ih => cases r with
    | nil => simp [putAll]
    | cons o r => simp only [putAll]; rw [ih]; simp

theorem putAll_out {ob : Objs} {ls : List Nat} {r : Objs} {l : Nat} (h : l ∉ ls) : (putAll ob ls r)[l]? = ob[l]? := by
  induction ls generalizing ob r with
  | nil => simp [putAll]
  | cons x ls ih => cases r with
    | nil => simp [putAll]
    | cons o r =>
      simp only [putAll]
      rw [ih (fun h' => h (by simp [h'])), List.getElem?_set, if_neg (fun e => h (by simp [e]))]

theorem putAll_in {ob : Objs} {ls : List Nat} {r : Objs} (hn : nodupB ls = true) (hlen : ls.length ≤ r.length) (hl : ∀ l ∈ ls, l < ob.length) (i : Nat) (hi : i < ls.length) : (putAll ob ls r)[ls[i]]? = r[i]? := by
  induction ls generalizing ob r i with
  | nil => simp at hi
  | cons x ls ih => cases r with
    | nil => simp at hlen
    | cons o r =>
      simp only [nodupB, Bool.and_eq_true, Bool.not_eq_true', List.elem_eq_mem, decide_eq_false_iff_not] at hn
      simp only [putAll]
      cases i with
      | zero =>
        simp only [List.getElem_cons_zero]
        rw [putAll_out hn.1, List.getElem?_set, if_pos rfl, if_pos (hl x (by simp))]
        rfl
      | succ i =>
        simp only [List.getElem_cons_succ, List.getElem?_cons_succ]
        exact ih hn.2 (by simpa using hlen) (fun l h => by simpa using hl l (by simp [h])) i (by simpa using hi)

/-- a callee's number of an object, in its caller's numbers -/
def ioN (ls : List Nat) (n0 : Nat) (l : Nat) : Nat := bif Nat.blt l ls.length then ls.getD l 0 else n0 + (l - ls.length)

theorem ioN_lt {ls : List Nat} {n0 l : Nat} (h : l < ls.length) : ioN ls n0 l = ls[l] := by
  unfold ioN
  have : Nat.blt l ls.length = true := by simp [Nat.blt, Nat.ble_eq]; omega
  simp [this, List.getD, h]
theorem ioN_ge {ls : List Nat} {n0 l : Nat} (h : ls.length ≤ l) : ioN ls n0 l = n0 + (l - ls.length) := by
  unfold ioN
  have : Nat.blt l ls.length = false := by
    cases hb : Nat.blt l ls.length with
    | false => rfl
    | true => simp [Nat.blt, Nat.ble_eq] at hb; omega
  simp [this]

section
variable {P : Program} {F : Fr} {s : AState} {ρ : Nat → Pl} {a : Act} {w : World}

/-- what a callee must not touch: what the caller must not, and the caller's other objects -/
def ioX (F : Fr) (ρ : Nat → Pl) (ob : Objs) (ls : List Nat) (b : Nat) : Prop := F.X b ∨ ∃ l o, Live ob l o ∧ l ∉ ls ∧ (ρ l).blk = b
def ioρ (ρ : Nat → Pl) (ls : List Nat) : Nat → Pl := fun i => ρ (ls.getD i 0)

theorem live_map {ob : Objs} {ls : List Nat} {i : Nat} {o : Ob} : Live (ls.map (obAt ob)) i o ↔ ∃ hi : i < ls.length, Live ob ls[i] o := by
  unfold Live
  rw [List.getElem?_map]
  by_cases hi : i < ls.length
  · simp only [List.getElem?_eq_getElem hi, Option.map_some, Option.some.injEq]
    rw [obAt_live]
    exact ⟨fun h => ⟨hi, h⟩, fun ⟨_, h⟩ => h⟩
  · simp [hi]

theorem Sat.calleeIO (h : Sat F s ρ a w) {ls : List Nat} (hn : nodupB ls = true) (hl : liveImm s.ob ls = true) :
    HOk ⟨w, ioX F ρ s.ob ls, ownB (ioρ ρ ls) (ls.map (obAt s.ob)), (ls.map (obAt s.ob)).length, ioρ ρ ls⟩ w (ioρ ρ ls) (ls.map (obAt s.ob)) where
  os := rfl
  tape := rfl
  output := rfl
  size := Nat.le_refl _
  frame := fun _ _ _ => rfl
  xlt := fun b hb => by
    have hio : ∀ b, ownB (ioρ ρ ls) (ls.map (obAt s.ob)) b → ∃ l o, l ∈ ls ∧ Live s.ob l o ∧ (ρ l).blk = b := by
      rintro b ⟨i, o, ho, he⟩
      obtain ⟨hi, ho⟩ := live_map.1 ho
      refine ⟨ls[i], o, List.getElem_mem hi, ho, ?_⟩
      rw [← he]; simp [ioρ, List.getD, hi]
    rcases hb with hb | ⟨l, o, ho, hnm, rfl⟩
    · refine ⟨Nat.lt_of_lt_of_le (h.heap.xlt b hb).1 h.heap.size, fun hio' => ?_⟩
      obtain ⟨l, o, _, ho, rfl⟩ := hio b hio'
      exact h.heap.notX ho hb
    · refine ⟨h.heap.blk_lt ho, fun hio' => ?_⟩
      obtain ⟨l', o', hm, ho', he⟩ := hio _ hio'
      have := h.heap.inj _ _ _ _ ho' ho he
      exact hnm (this ▸ hm)
  obj := fun i o ho => by
    obtain ⟨hi, ho⟩ := live_map.1 ho
    obtain ⟨hrow, hfit, hcell⟩ := h.heap.obj _ o ho
    obtain ⟨o2, g1, _, g3⟩ := liveImm_mem hl (List.getElem_mem hi)
    have eo : o2 = o := by unfold Live at g1 ho; rw [ho] at g1; cases g1; rfl
    subst eo
    have hρ : ioρ ρ ls i = ρ ls[i] := by simp [ioρ, List.getD, hi]
    rw [hρ]
    refine ⟨hrow, hfit, fun j hj => ?_⟩
    obtain ⟨c, q1, q2, q3⟩ := hcell j hj
    refine ⟨c, q1, .d ((q2.toD ((immL_iff _).1 g3 j hj)).mono (fun _ _ _ h => h) (fun b _ hb => ?_)), q3⟩
    rcases hb with (hb | ⟨l, o, ho, _, he⟩) | ⟨i', o', ho', he⟩
    · exact .inl hb
    · exact .inr ⟨l, o, ho, he⟩
    · obtain ⟨hi', ho'⟩ := live_map.1 ho'
      refine .inr ⟨_, o', ho', ?_⟩
      rw [← he]; simp [ioρ, List.getD, hi']
  fresh := fun i o ho => by
    obtain ⟨hi, ho'⟩ := live_map.1 ho
    exact .inl ⟨⟨i, o, ho, rfl⟩, by simpa using hi⟩
  inj := fun i j o o' ho ho' he => by
    obtain ⟨hi, ho⟩ := live_map.1 ho
    obtain ⟨hj, ho'⟩ := live_map.1 ho'
    simp only [ioρ, List.getD, hi, hj, List.getElem?_eq_getElem, Option.getD_some] at he
    exact nodupB_inj hn hi hj (h.heap.inj _ _ _ _ ho ho' he)
  stay := fun _ _ _ _ => rfl

theorem Sat.argIO (h : Sat F s ρ a w) {ls : List Nat} {v : Value} {x : V} (hr : RepC w (F.Y ρ s.ob) ρ s.ob v x) (hx : ∀ l ∈ x.refs, l ∈ ls) :
    RepC w (Fr.Y ⟨w, ioX F ρ s.ob ls, ownB (ioρ ρ ls) (ls.map (obAt s.ob)), (ls.map (obAt s.ob)).length, ioρ ρ ls⟩ (ioρ ρ ls) (ls.map (obAt s.ob))) (ioρ ρ ls) (ls.map (obAt s.ob)) v (x.ren (ls.idxOf ·)) := by
  refine hr.ren _ (fun b _ hb => ?_) (fun l hl o ho => ?_)
  · rcases hb with (hb | ⟨l, o, ho, _, he⟩) | ⟨i', o', ho', he⟩
    · exact .inl hb
    · exact .inr ⟨l, o, ho, he⟩
    · obtain ⟨hi', ho'⟩ := live_map.1 ho'
      refine .inr ⟨_, o', ho', ?_⟩
      rw [← he]; simp [ioρ, List.getD, hi']
  · have hm := hx l hl
    have hi := List.idxOf_lt_length_iff.2 hm
    have hg : ls[ls.idxOf l] = l := List.getElem_idxOf hi
    refine ⟨o, live_map.2 ⟨hi, by rw [hg]; exact ho⟩, rfl, ?_⟩
    simp only [ioρ, List.getD, List.getElem?_eq_getElem hi, Option.getD_some, hg]

/-- what such a call leaves its caller -/
theorem Sat.calledIO (h : Sat F s ρ a w) {ls : List Nat} (hn : nodupB ls = true) (hl : liveImm s.ob ls = true) {w' : World} {ρ1 : Nat → Pl} {ob1 : Objs} {v : Value} {r : V}
    (hh : HOk ⟨w, ioX F ρ s.ob ls, ownB (ioρ ρ ls) (ls.map (obAt s.ob)), (ls.map (obAt s.ob)).length, ioρ ρ ls⟩ w' ρ1 ob1) (hi : immO ob1 = true)
    (hr : RepC w' (Fr.Y ⟨w, ioX F ρ s.ob ls, ownB (ioρ ρ ls) (ls.map (obAt s.ob)), (ls.map (obAt s.ob)).length, ioρ ρ ls⟩ ρ1 ob1) ρ1 ob1 v r) (hok : ioOk s.ob ls ob1) :
    ∃ ρ2, Sat F { s with ob := putAll s.ob ls ob1 ++ ob1.drop ls.length } ρ2 a w' ∧
      RepC w' (F.Y ρ2 (putAll s.ob ls ob1 ++ ob1.drop ls.length)) ρ2 (putAll s.ob ls ob1 ++ ob1.drop ls.length) v (r.ren (ioN ls s.ob.length)) ∧ Moved ls s ρ w { s with ob := putAll s.ob ls ob1 ++ ob1.drop ls.length } ρ2 w' := by
  let ρ2 : Nat → Pl := fun l => if l < s.ob.length then ρ l else ρ1 (ls.length + (l - s.ob.length))
  have h2a : ∀ l, l < s.ob.length → ρ2 l = ρ l := fun l hl => if_pos hl
  have h2b : ∀ l, s.ob.length ≤ l → ρ2 l = ρ1 (ls.length + (l - s.ob.length)) := fun l hl => if_neg (by omega)
  have hlive : ∀ l ∈ ls, ∃ o, Live s.ob l o := fun l hm => by obtain ⟨o, g, _⟩ := liveImm_mem hl hm; exact ⟨o, g⟩
  have hlt : ∀ l ∈ ls, l < s.ob.length := fun l hm => by obtain ⟨o, g⟩ := hlive l hm; exact live_lt g
  have hρ1 : ∀ i o, i < ls.length → Live ob1 i o → ρ1 i = ρ (ls.getD i 0) := fun i o hi ho => hh.stay i o (by simpa using hi) ho
  have hlen := ioOk_len hok
  have hpl : (putAll s.ob ls ob1).length = s.ob.length := length_putAll _ _ _
  -- the objects behind the call
  have hcase : ∀ {l o}, Live (putAll s.ob ls ob1 ++ ob1.drop ls.length) l o →
      (l < s.ob.length ∧ l ∉ ls ∧ Live s.ob l o) ∨ (∃ i, ∃ hi : i < ls.length, l = ls[i] ∧ Live ob1 i o) ∨ (s.ob.length ≤ l ∧ Live ob1 (ls.length + (l - s.ob.length)) o) := by
    intro l o ho
    rcases live_app.1 ho with ho | ⟨hle, ho⟩
    · have hlt2 := live_lt ho
      rw [hpl] at hlt2
      by_cases hm : l ∈ ls
      · obtain ⟨i, hi, rfl⟩ := List.mem_iff_getElem.1 hm
        unfold Live at ho
        rw [putAll_in hn hlen hlt i hi] at ho
        exact .inr (.inl ⟨i, hi, rfl, ho⟩)
      · unfold Live at ho
        rw [putAll_out hm] at ho
        exact .inl ⟨hlt2, hm, ho⟩
    · rw [hpl] at hle ho
      refine .inr (.inr ⟨hle, ?_⟩)
      unfold Live at ho ⊢
      rwa [List.getElem?_drop] at ho
  have hback : ∀ {l o}, Live s.ob l o → ∃ o', Live (putAll s.ob ls ob1 ++ ob1.drop ls.length) l o' ∧ o'.esz = o.esz := by
    intro l o ho
    have hlt2 := live_lt ho
    by_cases hm : l ∈ ls
    · obtain ⟨i, hi, rfl⟩ := List.mem_iff_getElem.1 hm
      obtain ⟨o1, o', g1, g2, g3⟩ := ioOk_get hok i hi
      have : o1 = o := by unfold Live at g1 ho; rw [ho] at g1; cases g1; rfl
      subst this
      refine ⟨o', live_app.2 (.inl ?_), g3⟩
      unfold Live
      rw [putAll_in hn hlen hlt i hi]; exact g2
    · refine ⟨o, live_app.2 (.inl ?_), rfl⟩
      unfold Live
      rw [putAll_out hm]; exact ho
  have hio : ∀ b, ownB (ioρ ρ ls) (ls.map (obAt s.ob)) b → ∃ l o, l ∈ ls ∧ Live s.ob l o ∧ (ρ l).blk = b := by
    rintro b ⟨i, o, ho, he⟩
    obtain ⟨hi, ho⟩ := live_map.1 ho
    refine ⟨ls[i], o, List.getElem_mem hi, ho, ?_⟩
    rw [← he]; simp [ioρ, List.getD, hi]
  have hfr : ∀ b, b < w.heap.size → (∀ l o, l ∈ ls → Live s.ob l o → (ρ l).blk ≠ b) → w'.heap[b]? = w.heap[b]? := fun b hb hno =>
    hh.frame b hb (fun hb2 => by obtain ⟨l, o, h1, h2, h3⟩ := hio b hb2; exact hno l o h1 h2 h3)
  have hfresh : ∀ j o, ls.length ≤ j → Live ob1 j o → w.heap.size ≤ (ρ1 j).blk := fun j o hj ho => by
    rcases hh.fresh j o ho with ⟨_, h1⟩ | h1
    · simp at h1; omega
    · exact h1
  have hblk : ∀ i (hi : i < ls.length) o, Live ob1 i o → ρ1 i = ρ ls[i] := fun i hi o ho => by rw [hρ1 i o hi ho]; simp [List.getD, hi]
  -- whose blocks are owned behind the call
  have hYn : ∀ b, F.Y ρ2 (putAll s.ob ls ob1 ++ ob1.drop ls.length) b → ioX F ρ s.ob ls b ∨ ownB ρ1 ob1 b := by
    rintro b (hx | ⟨l, o, ho, he⟩)
    · exact .inl (.inl hx)
    · rcases hcase ho with ⟨h1, h2, h3⟩ | ⟨i, hi, rfl, h3⟩ | ⟨h1, h3⟩
      · rw [h2a l h1] at he; exact .inl (.inr ⟨l, o, h3, h2, he⟩)
      · rw [h2a _ (hlt _ (List.getElem_mem hi)), ← hblk i hi o h3] at he
        exact .inr ⟨i, o, h3, he⟩
      · rw [h2b l h1] at he; exact .inr ⟨_, o, h3, he⟩
  have hY : ∀ b, b < w.heap.size → F.Y ρ2 (putAll s.ob ls ob1 ++ ob1.drop ls.length) b → F.Y ρ s.ob b := by
    rintro b hb (hx | ⟨l, o, ho, he⟩)
    · exact .inl hx
    · rcases hcase ho with ⟨h1, h2, h3⟩ | ⟨i, hi, rfl, h3⟩ | ⟨h1, h3⟩
      · rw [h2a l h1] at he; exact .inr ⟨l, o, h3, he⟩
      · obtain ⟨o0, g⟩ := hlive _ (List.getElem_mem hi)
        rw [h2a _ (hlt _ (List.getElem_mem hi))] at he
        exact .inr ⟨_, o0, g, he⟩
      · rw [h2b l h1] at he
        have := hfresh _ o (by omega) h3; omega
  have hτ : ∀ v x, RepC w (F.Y ρ s.ob) ρ s.ob v x → RepC w' (F.Y ρ2 (putAll s.ob ls ob1 ++ ob1.drop ls.length)) ρ2 (putAll s.ob ls ob1 ++ ob1.drop ls.length) v x := by
    intro v x hx
    refine hx.mono' (fun a c hnY hcell => ?_) hY (fun l o ho => ?_)
    · rw [← hcell]
      exact World.cell?_of_block (hfr _ (World.block_lt_of_cell? w a hcell) (fun l o _ ho he => hnY (.inr ⟨l, o, ho, he⟩)))
    · obtain ⟨o', g1, g2⟩ := hback ho
      exact ⟨o', g1, g2, h2a l (live_lt ho)⟩
  have hk : HOk F w' ρ2 (putAll s.ob ls ob1 ++ ob1.drop ls.length) := by
    refine h.heap.step id hh.os hh.tape hh.output hh.size (fun b hb hioF => hfr b (Nat.lt_of_lt_of_le hb h.heap.size) (fun l o _ ho he => ?_)) hτ (fun l o ho => ?_) (fun l l' o o' ho ho' he => ?_)
    · rcases h.heap.fresh l o ho with ⟨h1, _⟩ | h1
      · rw [he] at h1; exact hioF h1
      · rw [he] at h1; omega
    · have mk : ∀ j, Live ob1 j o → ρ2 l = ρ1 j → ((F.io (ρ2 l).blk ∧ l < F.k) ∨ F.W.heap.size ≤ (ρ2 l).blk) → (l < F.k → ρ2 l = F.ρ0 l) →
          (ObOk w' (F.Y ρ2 (putAll s.ob ls ob1 ++ ob1.drop ls.length)) ρ2 (putAll s.ob ls ob1 ++ ob1.drop ls.length) (ρ2 l) o ∧ ((F.io (ρ2 l).blk ∧ l < F.k) ∨ F.W.heap.size ≤ (ρ2 l).blk) ∧ (l < F.k → ρ2 l = F.ρ0 l)) := by
        intro j hj he h1 h2
        refine ⟨?_, h1, h2⟩
        obtain ⟨hrow, hfit, hcell⟩ := hh.obj j o hj
        rw [he]
        refine ⟨hrow, hfit, fun q hq => ?_⟩
        obtain ⟨c, g1, g2, g3⟩ := hcell q hq
        exact ⟨c, g1, .d ((g2.toD ((immL_iff _).1 (immO_live hi hj) q hq)).mono (fun _ _ _ h => h) (fun b _ hb => hYn b hb)), g3⟩
      rcases hcase ho with ⟨h1, h2, h3⟩ | ⟨i, hi', rfl, h3⟩ | ⟨h1, h3⟩
      · refine .inl ⟨o, h3, by simp, h2a l h1, hfr _ (h.heap.blk_lt h3) (fun l' o' hm' ho' he => ?_)⟩
        have := h.heap.inj _ _ _ _ ho' h3 he
        exact h2 (this ▸ hm')
      · obtain ⟨o0, g⟩ := hlive _ (List.getElem_mem hi')
        have e := h2a _ (hlt _ (List.getElem_mem hi'))
        refine .inr (mk i h3 (by rw [e, hblk i hi' o h3]) (by rw [e]; exact h.heap.fresh _ o0 g) (fun hk => by rw [e]; exact h.heap.stay _ o0 hk g))
      · refine .inr (mk _ h3 (h2b l h1) ?_ (fun hk => ?_))
        · rw [h2b l h1]; exact .inr (Nat.le_trans h.heap.size (hfresh _ o (by omega) h3))
        · have := h.kle; omega
    · have old : ∀ {l o}, Live (putAll s.ob ls ob1 ++ ob1.drop ls.length) l o → l < s.ob.length → ∃ o0, Live s.ob l o0 ∧ ρ2 l = ρ l := by
        intro l o ho hl2
        rcases hcase ho with ⟨h1, h2, h3⟩ | ⟨i, hi', rfl, h3⟩ | ⟨h1, h3⟩
        · exact ⟨o, h3, h2a l h1⟩
        · obtain ⟨o0, g⟩ := hlive _ (List.getElem_mem hi')
          exact ⟨o0, g, h2a _ hl2⟩
        · omega
      have new : ∀ {l o}, Live (putAll s.ob ls ob1 ++ ob1.drop ls.length) l o → s.ob.length ≤ l → Live ob1 (ls.length + (l - s.ob.length)) o := by
        intro l o ho hl2
        rcases hcase ho with ⟨h1, h2, h3⟩ | ⟨i, hi', rfl, h3⟩ | ⟨h1, h3⟩
        · omega
        · have := hlt _ (List.getElem_mem hi'); omega
        · exact h3
      by_cases c1 : l < s.ob.length <;> by_cases c2 : l' < s.ob.length
      · obtain ⟨q1, g1, e1⟩ := old ho c1
        obtain ⟨q2, g2, e2⟩ := old ho' c2
        rw [e1, e2] at he
        exact h.heap.inj _ _ _ _ g1 g2 he
      · obtain ⟨q1, g1, e1⟩ := old ho c1
        rw [e1, h2b l' (by omega)] at he
        have := h.heap.blk_lt g1; have := hfresh _ o' (by omega) (new ho' (by omega)); omega
      · obtain ⟨q2, g2, e2⟩ := old ho' c2
        rw [e2, h2b l (by omega)] at he
        have := h.heap.blk_lt g2; have := hfresh _ o (by omega) (new ho (by omega)); omega
      · rw [h2b l (by omega), h2b l' (by omega)] at he
        have := hh.inj _ _ _ _ (new ho (by omega)) (new ho' (by omega)) he
        omega
  refine ⟨ρ2, h.of_heap_id hk (by simp [hpl]; have := h.kle; omega) hτ, ?_, ⟨hh.size, fun b hb hn => hfr b hb (fun l o hm ho he => hn l o hm ho he.symm), fun l o' ho => by
    rcases hcase ho with ⟨h1, h2, h3⟩ | ⟨i, hi, rfl, h3⟩ | ⟨h1, h3⟩
    · exact .inl ⟨o', h3, by rw [h2a l h1]⟩
    · obtain ⟨o0, g⟩ := hlive _ (List.getElem_mem hi)
      exact .inl ⟨o0, g, by rw [h2a _ (hlt _ (List.getElem_mem hi))]⟩
    · exact .inr (by rw [h2b l h1]; exact hfresh _ o' (by omega) h3)⟩⟩
  refine hr.ren _ (fun b _ hb => hYn b hb) (fun j _ o ho => ?_)
  by_cases hj : j < ls.length
  · rw [ioN_lt hj]
    refine ⟨o, live_app.2 (.inl ?_), rfl, ?_⟩
    · unfold Live
      rw [putAll_in hn hlen hlt j hj]; exact ho
    · rw [h2a _ (hlt _ (List.getElem_mem hj)), hblk j hj o ho]
  · rw [ioN_ge (by omega)]
    refine ⟨o, live_app.2 (.inr ⟨by rw [hpl]; omega, ?_⟩), rfl, ?_⟩
    · unfold Live
      rw [List.getElem?_drop, hpl, show ls.length + (s.ob.length + (j - ls.length) - s.ob.length) = j from by omega]; exact ho
    · rw [h2b _ (by omega), show ls.length + (s.ob.length + (j - ls.length) - s.ob.length) = j from by omega]

end
end Go.AG
