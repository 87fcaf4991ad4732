/-
  AG, merged parts E F G. Conditions: none.
-/
import Derived.Test.YtjgjnedenapemaaGreatDoorAgD
import Derived.Laws.Small
import Derived.MapKept
import Derived.Laws.StructEq
/-
  AG, part E: the operations that only read do in the model what they do on abstract values. Conditions: none.
-/
set_option linter.unusedSimpArgs false
set_option linter.unusedVariables false
namespace Go.AG
open Go.RowKit

section
variable {P : Program} {F : Fr} {s : AState} {ρ : Nat → Pl} {a : Act} {w : World} {Z : Nat → Prop}

/-- w' has the cells of w in the blocks that Z tells -/
def Agr (Z : Nat → Prop) (w w' : World) : Prop := (∀ p c, Z p.block → w.cell? p = some c → w'.cell? p = some c) ∧ ∀ b es c, Z b → w.heap[b]? = some (.map es c) → w'.heap[b]? = some (.map es c)

theorem Agr.refl (Z : Nat → Prop) (w : World) : Agr Z w w := ⟨fun _ _ _ h => h, fun _ _ _ _ h => h⟩
theorem agr_blk {Z : Nat → Prop} {w w' : World} (h : ∀ b, b < w.heap.size → Z b → w'.heap[b]? = w.heap[b]?) : Agr Z w w' :=
  ⟨fun p c hz hc => by rw [← hc]; exact World.cell?_of_block (h _ (World.block_lt_of_cell? w p hc) hz), fun b es c hz hc => by
    have hlt : b < w.heap.size := by
      rcases Nat.lt_or_ge b w.heap.size with h' | h'
      · exact h'
      · simp [Array.getElem?_eq_none h'] at hc
    rw [h b hlt hz]; exact hc⟩
/-- a row of cells that reads as a list -/
def Reads (w : World) (Y : Nat → Prop) (ρ : Nat → Pl) (ob : Objs) (b base : Nat) (xs : List V) : Prop :=
  ∃ cs : Nat → Value, ∀ i (h : i < xs.length), w.cell? ⟨b, base + i, none⟩ = some (cs i) ∧ RepC w Y ρ ob (cs i) xs[i]

theorem agr_below {w w' : World} (hb : Below w.heap.size w w') : Agr Z w w' := ⟨fun p _ _ h => (hb.cell (World.block_lt_of_cell? w p h)).trans h, fun b es c _ h => by
  have hlt : b < w.heap.size := by
    rcases Nat.lt_or_ge b w.heap.size with h' | h'
    · exact h'
    · simp [Array.getElem?_eq_none h'] at h
  rw [hb.block b hlt]; exact h⟩

/-- what a quiet step gives -/
def Gives (P : Program) (F : Fr) (s : AState) (ρ : Nat → Pl) (w : World) (Z : Nat → Prop) (m : Sem Value) (K : V → Prop) : Prop :=
  ∃ x v, K x ∧ RepC w (F.Y ρ s.ob) ρ s.ob v x ∧ ∀ w', Agr Z w w' → m.run P w' = .ok v w'

theorem Reads.part {Y : Nat → Prop} {ob : Objs} {b base : Nat} {xs : List V} (h : Reads w Y ρ ob b base xs) {t : TypeId} (ht : (ti P t).ok = true) {off : Nat} {K : V → Prop}
    (hv : vPart (ti P t).desc.agg (ti P t).size xs off K) (hZ : xs ≠ [] → Z b) :
    ∃ x v, K x ∧ RepC w Y ρ ob v x ∧ ∀ w', Agr Z w w' → (loadVar t ⟨b, base + off, none⟩).run P w' = .ok v w' := by
  obtain ⟨cs, hcs⟩ := h
  unfold vPart at hv
  cases hagg : (ti P t).desc.agg with
  | true =>
    rw [hagg] at hv
    obtain ⟨hfit, hk⟩ := hv
    refine ⟨_, .agg ((List.range (ti P t).size).map fun i => cs (off + i)).toArray, hk, .agg (by simp; omega) (fun i hi => ?_), fun w' hb => ?_⟩
    · have hi' : i < (ti P t).size := by simp at hi; omega
      have := (hcs (off + i) (by omega)).2
      simpa [Array.getD, hi'] using this
    · have hl := run_loadCells (P := P) w' ⟨b, base + off, none⟩ (ti P t).size (fun i => cs (off + i)) (fun j hj => by
        rw [Addr.add_lit]
        have := hb.1 _ _ (hZ (fun e => by rw [e] at hfit; simp at hfit; omega)) (hcs (off + j) (by omega)).1
        rwa [show base + off + j = base + (off + j) from by omega])
      simp only [loadVar, Sem.run_bind, run_isAgg_ti ht, Result.andThen_ok, hagg, if_true, run_sizeOf_ti ht, hl, Sem.run_pure]
  | false =>
    rw [hagg] at hv
    unfold vAt at hv
    cases hx : xs[off]? with
    | none => simp [hx] at hv
    | some x =>
      simp only [hx] at hv
      obtain ⟨hlt, he⟩ := List.getElem?_eq_some_iff.1 hx
      obtain ⟨h1, h2⟩ := hcs off hlt
      rw [he] at h2
      refine ⟨x, cs off, hv, h2, fun w' hb => ?_⟩
      simp only [loadVar, Sem.run_bind, run_isAgg_ti ht, Result.andThen_ok, hagg, Bool.false_eq_true, if_false, run_load, hb.1 _ _ (hZ (fun e => by rw [e] at hlt; simp at hlt)) h1]

theorem Sat.obReads (h : Sat F s ρ a w) {l : Nat} {o : Ob} (ho : Live s.ob l o) (hm : o.esz ≠ mapSz) : Reads w (F.Y ρ s.ob) ρ s.ob (ρ l).blk (ρ l).base o.cells := by
  have hc := ((h.heap.obj l o ho).cells hm).cell
  refine ⟨fun i => (w.cell? ⟨(ρ l).blk, (ρ l).base + i, none⟩).getD undef, fun i hi => ?_⟩
  obtain ⟨c, h1, h2, _⟩ := hc i hi
  simp only [h1, Option.getD_some, true_and]
  exact h2

theorem vObj_live {ob : Objs} {l : Nat} {K : Ob → Prop} (h : vObj ob l K) : ∃ o, Live ob l o ∧ K o := by
  unfold vObj at h
  unfold Live
  cases hx : ob[l]? with
  | none => simp [hx] at h
  | some x => cases x with
    | none => simp [hx] at h
    | some o => simp only [hx] at h; exact ⟨o, rfl, h⟩

theorem live_same {ob : Objs} {l : Nat} {o o' : Ob} (h : Live ob l o) (h' : Live ob l o') : o = o' := by
  unfold Live at h h'; rw [h] at h'; cases h'; rfl
theorem sound_load (h : Sat F s ρ a w) (t : TypeId) (x : Operand) (K : V → Prop) (hv : vLoad (ti P t) (s.ev x) s.ob K)
    (hZ : ∀ b, ¬ F.Y ρ s.ob b → Z b) (hZl : ∀ l off o, s.ev x = .ptr l off → Live s.ob l o → Z (ρ l).blk) : Gives P F s ρ w Z (Instr.loadAt t (a.eval x)) K := by
  have hr := h.ev x
  generalize s.ev x = X at *
  generalize a.eval x = v at *
  unfold vLoad at hv
  cases hr with
  | d hd =>
    cases hd with
    | @ip b o off xs cs h1 h2 h3 =>
      obtain ⟨hok, hv⟩ := hv
      obtain ⟨x, v, hk, hr, hrun⟩ := Reads.part (P := P) (w := w) (ρ := ρ) (Y := F.Y ρ s.ob) (ob := s.ob) ⟨cs, fun i hi => ⟨h1 i hi, .d (h2 i hi)⟩⟩ hok hv (fun hne => hZ _ (h3 hne))
      exact ⟨x, v, hk, hr, fun w' hb => by simpa [Instr.loadAt, Instr.sureAddr] using hrun w' hb⟩
    | _ => exact hv.elim
  | @ptr l off o ho hm =>
    obtain ⟨hok, hv⟩ := hv
    obtain ⟨o2, ho2, hv⟩ := vObj_live hv
    obtain ⟨x, v, hk, hr, hrun⟩ := Reads.part (P := P) (h.obReads ho2 (live_same ho ho2 ▸ hm)) hok hv (fun _ => hZl l off o2 rfl ho2)
    exact ⟨x, v, hk, hr, fun w' hb => by simpa [Instr.loadAt, Instr.sureAddr] using hrun w' hb⟩
  | _ => exact hv.elim

theorem run_fieldAt_ti {d : AD} {t : TypeId} (hd : (ti P t).desc = d) {fs : List (Nat × TypeId)} (hs : d = .struct fs) {f o : Nat} {u : TypeId} (hf : fs[f]? = some (o, u)) (hok : (ti P u).ok = true)
    (hne : (ti P u).size ≠ 0) (b p : Nat) (w' : World) : (Instr.fieldAt t (.pointer (some ⟨b, p, none⟩)) f).run P w' = .ok (.pointer (some ⟨b, p + o, none⟩)) w' := by
  subst hs
  obtain ⟨fields, hu, rfl⟩ := ti_struct hd
  rw [List.getElem?_map] at hf
  cases hx : fields.toList[f]? with
  | none => simp [hx] at hf
  | some fd =>
    simp [hx] at hf
    obtain ⟨rfl, rfl⟩ := hf
    have hx2 : fields[f]? = some fd := by simpa using hx
    simp [Instr.fieldAt, run_underlying hu, hx2, Instr.sureAddr, fieldPlace, run_sizeOf_ti hok, hne, Addr.add_lit]

theorem sound_fieldAddr (h : Sat F s ρ a w) (t : TypeId) (x : Operand) (f : Nat) (K : V → Prop) (hv : vFieldAddr P (ti P t).desc (s.ev x) f K) :
    Gives P F s ρ w Z (Instr.fieldAt t (a.eval x) f) K := by
  have hr := h.ev x
  generalize s.ev x = X at *
  generalize a.eval x = v at *
  unfold vFieldAddr at hv
  split at hv
  case h_2 => exact hv.elim
  rename_i fs hd
  split at hv
  case h_2 => exact hv.elim
  rename_i o u hf
  obtain ⟨⟨hok, hne⟩, hv⟩ := hv
  cases hr with
  | d hd' =>
    cases hd' with
    | @ip b o' off xs cs h1 h2 h3 =>
      refine ⟨_, _, hv, .d (.ip cs h1 h2 h3), fun w' hb => ?_⟩
      rw [run_fieldAt_ti hd rfl hf hok hne]
      rw [Nat.add_assoc]
    | _ => exact hv.elim
  | @ptr l off ob ho hm =>
    refine ⟨_, _, hv, .ptr ho hm, fun w' hb => ?_⟩
    rw [run_fieldAt_ti hd rfl hf hok hne, Nat.add_assoc]
  | _ => exact hv.elim

theorem sound_idxAddr (h : Sat F s ρ a w) (t : TypeId) (x i : Operand) (K : V → Prop) (hv : vIdxAddr P (ti P t).desc (s.ev x) (s.ev i) K) :
    Gives P F s ρ w Z (Instr.indexAt t (a.eval x) (a.eval i)) K := by
  have hr := h.ev x
  have hi := h.ev i
  generalize s.ev x = X at *
  generalize a.eval x = v at *
  generalize s.ev i = I at *
  generalize a.eval i = iv at *
  unfold vIdxAddr at hv
  split at hv
  case h_3 => exact hv.elim
  case h_1 e k n hd =>
    have hiv : iv = .int k n := by cases hi with | d hi => cases hi; rfl
    subst hiv
    have hu := ti_slice hd
    cases hr with
    | d hr =>
      cases hr with
      | nil =>
        obtain ⟨⟨_, h0, hn⟩, _⟩ := hv
        omega
      | sl0 =>
        obtain ⟨⟨_, h0, hn⟩, _⟩ := hv
        omega
      | @sl b o len cap xs cs h1 h2 h3 h4 =>
        obtain ⟨⟨hok, h0, hn⟩, hv⟩ := hv
        refine ⟨_, .pointer (some ⟨b, o + n.toNat * (ti P e).size, none⟩), hv, .d (.ip cs h1 h2 h3), fun w' hb => ?_⟩
        simp [Instr.indexAt, run_underlying hu, asIntOf, h0, hn, run_sizeOf_ti hok, Addr.add_lit]
      | _ => exact hv.elim
    | @ref l off len cap o ho hm h1 h2 h3 =>
      obtain ⟨⟨hok, h0, hn⟩, hv⟩ := hv
      refine ⟨_, .pointer (some ⟨(ρ l).blk, (ρ l).base + (off + n.toNat * (ti P e).size), none⟩), hv, .ptr ho hm, fun w' hb => ?_⟩
      simp [Instr.indexAt, run_underlying hu, asIntOf, h0, hn, run_sizeOf_ti hok, Addr.add_lit, Nat.add_assoc]
    | @ref0 l off o p ho hm =>
      obtain ⟨⟨_, h0, hn⟩, _⟩ := hv
      omega
    | _ => exact hv.elim
  case h_2 m e k n hd =>
    have hiv : iv = .int k n := by cases hi with | d hi => cases hi; rfl
    subst hiv
    have hu := ti_array hd
    cases hr with
    | d hr =>
      cases hr with
      | @ip b o off xs cs h1 h2 h3 =>
        obtain ⟨⟨hok, h0, hn⟩, hv⟩ := hv
        refine ⟨_, .pointer (some ⟨b, o + (off + n.toNat * (ti P e).size), none⟩), hv, .d (.ip cs h1 h2 h3), fun w' hb => ?_⟩
        simp [Instr.indexAt, run_underlying hu, asIntOf, Instr.sureAddr, h0, hn, run_sizeOf_ti hok, Addr.add_lit, Nat.add_assoc]
      | _ => exact hv.elim
    | @ptr l off o ho hm =>
      obtain ⟨⟨hok, h0, hn⟩, hv⟩ := hv
      refine ⟨_, .pointer (some ⟨(ρ l).blk, (ρ l).base + (off + n.toNat * (ti P e).size), none⟩), hv, .ptr ho hm, fun w' hb => ?_⟩
      simp [Instr.indexAt, run_underlying hu, asIntOf, Instr.sureAddr, h0, hn, run_sizeOf_ti hok, Addr.add_lit, Nat.add_assoc]
    | _ => exact hv.elim

theorem sound_idx (h : Sat F s ρ a w) (t : TypeId) (x i : Operand) (K : V → Prop) (hv : vIdx P (ti P t).desc (s.ev x) (s.ev i) K) :
    Gives P F s ρ w Z (Instr.index t (a.eval x) (a.eval i)) K := by
  have hr := h.ev x
  have hi := h.ev i
  generalize s.ev x = X at *
  generalize a.eval x = v at *
  generalize s.ev i = I at *
  generalize a.eval i = iv at *
  unfold vIdx at hv
  split at hv
  case h_2 => exact hv.elim
  rename_i str k n hd
  have hiv : iv = .int k n := by cases hi with | d hi => cases hi; rfl
  have hxv : v = .string str := by cases hr with | d hi => cases hi; rfl
  subst hiv hxv
  obtain ⟨⟨h0, hn⟩, hv⟩ := hv
  refine ⟨_, _, hv, .d (.sc _), fun w' hb => ?_⟩
  have hlt : n.toNat < str.size := by omega
  have hg : str[n.toNat]? = some str[n.toNat] := by rw [getElem?_pos]
  have hb2 : byteAt str n.toNat = ((str[n.toNat]).toNat : Int) := by
    unfold byteAt
    have h1 : n.toNat < str.data.toList.length := by simpa using hlt
    rw [List.getD_eq_getElem?_getD, List.getElem?_eq_getElem h1]
    rfl
  simp only [Instr.index, asIntOf, Sem.run_bind, Sem.run_pure, Result.andThen_ok, run_underlying (ti_string hd), h0, if_true, hg, hb2]

theorem sound_bounds {v : Option Value} {X : Option V} (hx : (v = none ∧ X = none) ∨ ∃ u y, v = some u ∧ X = some y ∧ RepC w (F.Y ρ s.ob) ρ s.ob u y) {dflt : Int} {K : Int → Prop} (h : boundV X dflt K) :
    ∃ n, K n ∧ ((v = none ∧ n = dflt) ∨ ∃ k, v = some (.int k n)) := by
  rcases hx with ⟨rfl, rfl⟩ | ⟨u, y, rfl, rfl, hr⟩
  · exact ⟨dflt, h, .inl ⟨rfl, rfl⟩⟩
  · unfold boundV at h
    cases hr with
    | d hr =>
      cases hr with
      | sc => cases u <;> first | exact h.elim | exact ⟨_, h, .inr ⟨_, rfl⟩⟩
      | _ => exact h.elim
    | _ => exact h.elim

theorem opt_ev (h : Sat F s ρ a w) (x : Option Operand) : (x.map a.eval = none ∧ x.map s.ev = none) ∨ ∃ u y, x.map a.eval = some u ∧ x.map s.ev = some y ∧ RepC w (F.Y ρ s.ob) ρ s.ob u y := by
  cases x with
  | none => exact .inl ⟨rfl, rfl⟩
  | some x => exact .inr ⟨_, _, rfl, rfl, h.ev x⟩

theorem run_bounds2 (lo hi : Option Value) (sl : Bool) (len cap : Nat) (l h : Int) (hl : (lo = none ∧ l = 0) ∨ ∃ k, lo = some (.int k l)) (hh : (hi = none ∧ h = len) ∨ ∃ k, hi = some (.int k h))
    (h0 : 0 ≤ l) (h1 : l ≤ h) (h2 : h ≤ len) (hc : len ≤ cap) (w' : World) : (Instr.sliceBounds sl len cap lo hi none).run P w' = .ok (l.toNat, h.toNat, cap) w' := by
  have hhi : h.toNat ≤ cap := by omega
  have e1 : 0 ≤ h ∧ h ≤ (cap : Int) := ⟨by omega, by omega⟩
  have e2 : 0 ≤ l ∧ l ≤ (h.toNat : Int) := ⟨h0, by omega⟩
  rcases hl with ⟨rfl, rfl⟩ | ⟨kl, rfl⟩ <;> rcases hh with ⟨rfl, rfl⟩ | ⟨kh, rfl⟩
  · simp [Instr.sliceBounds]
  · simp only [Instr.sliceBounds, Sem.run_bind, Sem.run_pure, Result.andThen_ok, Instr.sliceBound, asIntOf, e1, and_self, if_true]
    rfl
  · simp only [Instr.sliceBounds, Sem.run_bind, Sem.run_pure, Result.andThen_ok, Instr.sliceBound, asIntOf]
    rw [if_pos (show 0 ≤ l ∧ l ≤ (len : Int) from ⟨h0, by omega⟩)]
    simp
  · simp only [Instr.sliceBounds, Sem.run_bind, Sem.run_pure, Result.andThen_ok, Instr.sliceBound, asIntOf, e1, and_self, if_true, e2]

theorem sound_slice (h : Sat F s ρ a w) (t : TypeId) (x : Operand) (lo hi : Option Operand) (K : V → Prop) (hv : vSlice P s.ob (ti P t).desc (s.ev x) (lo.map s.ev) (hi.map s.ev) K) :
    Gives P F s ρ w Z (Instr.sliceAt t (a.eval x) (lo.map a.eval) (hi.map a.eval) none) K := by
  have hr := h.ev x
  have hlo := opt_ev h lo
  have hhi := opt_ev h hi
  generalize s.ev x = X at *
  generalize a.eval x = v at *
  generalize lo.map s.ev = LO at *
  generalize lo.map a.eval = lov at *
  generalize hi.map s.ev = HI at *
  generalize hi.map a.eval = hiv at *
  unfold vSlice at hv
  split at hv
  case h_3 => exact hv.elim
  case h_1 e hd =>
    have hu := ti_slice hd
    cases hr with
    | d hr =>
      cases hr with
      | nil =>
        obtain ⟨l, hv, hl⟩ := sound_bounds hlo hv
        obtain ⟨hh, hv, hl2⟩ := sound_bounds hhi hv
        obtain ⟨⟨hok, h0, h1, h2⟩, hv⟩ := hv
        have e1 : l = 0 := by omega
        have e2 : hh = 0 := by omega
        subst e1 e2
        refine ⟨_, .slice none 0 0, hv, ?_, fun w' hb => ?_⟩
        · simp only [Int.sub_self, Int.toNat_zero, Nat.zero_mul, List.take_zero]; exact .d .nil
        · simp [Instr.sliceAt, Instr.slice, run_underlying hu, run_bounds2 (P := P) lov hiv true 0 0 0 0 hl hl2 (by omega) (by omega) (by omega) (by omega), run_sizeOf_ti hok]
      | sl0 ad =>
        obtain ⟨l, hv, hl⟩ := sound_bounds hlo hv
        obtain ⟨hh, hv, hl2⟩ := sound_bounds hhi hv
        obtain ⟨⟨hok, h0, h1, h2⟩, hv⟩ := hv
        have e1 : l = 0 := by omega
        have e2 : hh = 0 := by omega
        subst e1 e2
        refine ⟨_, .slice (some ad) 0 0, hv, ?_, fun w' hb => ?_⟩
        · simp only [Int.sub_self, Int.toNat_zero, Nat.zero_mul, List.take_zero]; exact .d (.sl0 ad)
        · simp [Instr.sliceAt, Instr.slice, run_underlying hu, run_bounds2 (P := P) lov hiv true 0 0 0 0 hl hl2 (by omega) (by omega) (by omega) (by omega), run_sizeOf_ti hok]
      | @sl b o len cap xs cs h1' h2' h3' h4' =>
        obtain ⟨l, hv, hl⟩ := sound_bounds hlo hv
        obtain ⟨hh, hv, hl2⟩ := sound_bounds hhi hv
        obtain ⟨⟨hok, h0, h1, h2⟩, hv⟩ := hv
        have hrun : ∀ w', (Instr.sliceAt t (.slice (some ⟨b, o, none⟩) len cap) lov hiv none).run P w' = .ok (.slice (some (if cap = l.toNat then ⟨b, o, none⟩ else ⟨b, o + l.toNat * (ti P e).size, none⟩)) (hh.toNat - l.toNat) (cap - l.toNat)) w' := by
          intro w'
          simp only [Instr.sliceAt, Instr.slice, Sem.run_bind, Sem.run_pure, run_underlying hu, run_bounds2 (P := P) lov hiv true len cap l hh hl hl2 h0 h1 h2 h4', run_sizeOf_ti hok, Addr.add_lit, Result.andThen_ok, Option.map_some]
          split <;> rfl
        refine ⟨_, _, hv, ?_, fun w' hb => hrun w'⟩
        have e1 : (hh - l).toNat = hh.toNat - l.toNat := by omega
        rw [e1]
        split
        · rename_i hcap
          have e0 : hh.toNat - l.toNat = 0 := by omega
          rw [e0]
          simp only [Nat.zero_mul, List.take_zero]
          exact .d (.sl (fun _ => undef) (fun i hi => absurd hi (by simp)) (fun i hi => absurd hi (by simp)) (fun h => absurd rfl h) (by omega))
        · refine .d (.sl (fun i => cs (l.toNat * (ti P e).size + i)) (fun i hi => ?_) (fun i hi => ?_) (fun hne => h3' (fun e => hne (by simp [e]))) (by omega))
          · have hi2 : l.toNat * (ti P e).size + i < xs.length := by simp at hi; omega
            rw [← h1' _ hi2, Nat.add_assoc]
          · have hi2 : l.toNat * (ti P e).size + i < xs.length := by simp at hi; omega
            simpa using h2' _ hi2
      | _ => exact hv.elim
    | @ref o off len cap obj ho hm h1' h2' h3' =>
      obtain ⟨l, hv, hl⟩ := sound_bounds hlo hv
      obtain ⟨hh, hv, hl2⟩ := sound_bounds hhi hv
      obtain ⟨⟨hok, h0, h1, h2⟩, hsz⟩ := hv
      have hrun : ∀ w', (Instr.sliceAt t (.slice (some ⟨(ρ o).blk, (ρ o).base + off, none⟩) len cap) lov hiv none).run P w' = .ok (.slice (some (if cap = l.toNat then ⟨(ρ o).blk, (ρ o).base + off, none⟩ else ⟨(ρ o).blk, (ρ o).base + off + l.toNat * (ti P e).size, none⟩)) (hh.toNat - l.toNat) (cap - l.toNat)) w' := by
        intro w'
        simp only [Instr.sliceAt, Instr.slice, Sem.run_bind, Sem.run_pure, run_underlying hu, run_bounds2 (P := P) lov hiv true len cap l hh hl hl2 h0 h1 h2 h1', run_sizeOf_ti hok, Addr.add_lit, Result.andThen_ok, Option.map_some]
        split <;> rfl
      obtain ⟨o2, ho2, hsz, hv⟩ := vObj_live hsz
      refine ⟨_, _, hv, ?_, fun w' hb => hrun w'⟩
      have eo : o2 = obj := by unfold Live at ho ho2; rw [ho2] at ho; cases ho; rfl
      subst eo
      have e1 : (hh - l).toNat = hh.toNat - l.toNat := by omega
      rw [e1]
      split
      · rename_i hcap
        have e0 : hh.toNat - l.toNat = 0 := by omega
        have e00 : cap - l.toNat = 0 := by omega
        rw [e0, e00]
        exact .ref0 ho hm
      · rw [Nat.add_assoc]
        refine .ref ho hm (by omega) (by omega) ?_
        have hle : l.toNat ≤ cap := by omega
        have : (cap - l.toNat) * o2.esz + l.toNat * o2.esz = cap * o2.esz := by rw [← Nat.add_mul, Nat.sub_add_cancel hle]
        rw [← hsz]
        omega
    | @ref0 o off obj p ho hm =>
      obtain ⟨l, hv, hl⟩ := sound_bounds hlo hv
      obtain ⟨hh, hv, hl2⟩ := sound_bounds hhi hv
      obtain ⟨⟨hok, h0, h1, h2⟩, hsz⟩ := hv
      obtain ⟨o2, ho2, hsz, hv⟩ := vObj_live hsz
      have e1 : l = 0 := by omega
      have e2 : hh = 0 := by omega
      subst e1 e2
      refine ⟨_, .slice (some ⟨(ρ o).blk, p, none⟩) 0 0, hv, .ref0 ho hm, fun w' hb => ?_⟩
      simp [Instr.sliceAt, Instr.slice, run_underlying hu, run_bounds2 (P := P) lov hiv true 0 0 0 0 hl hl2 (by omega) (by omega) (by omega) (by omega), run_sizeOf_ti hok]
    | _ => exact hv.elim
  case h_2 hd =>
    have hu := ti_string hd
    cases hr with
    | d hr =>
      cases hr with
      | sc =>
        cases v with
        | string str =>
          obtain ⟨l, hv, hl⟩ := sound_bounds hlo hv
          obtain ⟨hh, hv, hl2⟩ := sound_bounds hhi hv
          obtain ⟨⟨h0, h1, h2⟩, hv⟩ := hv
          refine ⟨_, _, hv, .d (.sc _), fun w' hb => ?_⟩
          simp only [Instr.sliceAt, Instr.slice, Sem.run_bind, Sem.run_pure, run_underlying hu, run_bounds2 (P := P) lov hiv false str.size str.size l hh hl hl2 h0 h1 h2 (Nat.le_refl _), Result.andThen_ok, Option.isSome_none, Bool.false_eq_true, if_false]
        | _ => exact hv.elim
      | _ => exact hv.elim
    | _ => exact hv.elim

theorem sc_of {v : Value} {x : Value} {Y : Nat → Prop} {ob : Objs} (h : RepC w Y ρ ob v (.sc x)) : v = x := by
  cases h with | d h => cases h; rfl

theorem sbin_sound {d : AD} {t : TypeId} (hd : (ti P t).desc = d) {op : BinOp} {x y c : Value} (h : sbin d op x y = some c) (ox oy : Operand) (w' : World) :
    (do eqGuard op t ox oy x y; binOp op t x y : Sem Value).run P w' = .ok c w' := by
  have key : eqGuard op t ox oy x y = pure () ∧ (binOp op t x y).run P w' = .ok c w' := by
    unfold sbin at h
    split at h
    · split at h
      · cases h
      · rename_i hy
        cases h
        exact ⟨by simp only [go_sem], by simp [binOp, Op.shift, hy]⟩
    · split at h
      · cases h
      · rename_i hy
        cases h
        exact ⟨by simp only [go_sem], by simp [binOp, Op.shift, hy]⟩
    · split at h
      · cases h
      · rename_i hk
        have hk' := Classical.not_not.1 hk
        subst hk'
        refine ⟨by simp only [go_sem], ?_⟩
        split at h
        · cases h; simp only [go_sem, Sem.run_pure]
        · cases h; simp only [go_sem, Sem.run_pure]
        · cases h; simp only [go_sem, Sem.run_pure]
        · split at h
          · cases h
          · rename_i hy; cases h; simp only [go_sem, Sem.run_pure, hy, if_false]
        · split at h
          · cases h
          · rename_i hy; cases h; simp only [go_sem, Sem.run_pure, hy, if_false]
        · cases h; simp only [go_sem, Sem.run_pure]
        · cases h; simp only [go_sem, Sem.run_pure]
        · cases h; simp only [go_sem, Sem.run_pure]
        · cases h; simp only [go_sem, Sem.run_pure]
        · cases h; simp only [go_sem, Sem.run_pure]
        · cases h; simp only [go_sem, Sem.run_pure]
        · cases h; simp only [go_sem, Sem.run_pure]
        · cases h; simp only [go_sem, Sem.run_pure]
        · cases h; simp only [go_sem, Sem.run_pure]
        · cases h
    · split at h
      · rename_i x y hs
        cases h
        refine ⟨by simp only [go_sem], ?_⟩
        have : ¬ (9223372036854775807 < ((x.size : Int) + (y.size : Int))) := by omega
        simp [binOp, Op.stringOp, this]
      · cases h
    · cases h; exact ⟨by simp only [go_sem], by simp only [go_sem, Sem.run_pure]⟩
    · cases h; exact ⟨by simp only [go_sem], by simp only [go_sem, Sem.run_pure]⟩
    · cases h; exact ⟨by simp only [go_sem], by simp only [go_sem, Sem.run_pure]⟩
    · cases h; exact ⟨by simp only [go_sem], by simp only [go_sem, Sem.run_pure]⟩
    · cases h; exact ⟨by simp only [go_sem], by simp only [go_sem, Sem.run_pure]⟩
    · cases h; exact ⟨by simp only [go_sem], by simp only [go_sem, Sem.run_pure]⟩
    · split at h
      · cases h
        refine ⟨by simp only [go_sem], ?_⟩
        exact run_eql_bool _ _ _ _ (ti_bool hd)
      · cases h
    · split at h
      · cases h
        refine ⟨by simp only [go_sem], ?_⟩
        exact run_neq_bool _ _ _ _ (ti_bool hd)
      · cases h
    · cases h
  simp [key.1, key.2]

theorem sound_bin1 (h : Sat F s ρ a w) (op : BinOp) (t : TypeId) (x y : Operand) (K : V → Prop) (hv : vBin (ti P t).desc op (s.ev x) (s.ev y) K) :
    Gives P F s ρ w Z (do eqGuard op t x y (a.eval x) (a.eval y); binOp op t (a.eval x) (a.eval y)) K := by
  have hx := h.ev x
  have hy := h.ev y
  unfold vBin at hv
  split at hv
  case h_2 => exact hv.elim
  rename_i u v e1 e2
  rw [e1] at hx
  rw [e2] at hy
  rw [sc_of hx, sc_of hy]
  split at hv
  case h_2 => exact hv.elim
  rename_i c hc
  exact ⟨_, c, hv, .d (.sc c), fun w' _ => sbin_sound rfl hc x y w'⟩

theorem part_cell {cs : Array Value} {xs : List V} (hs : cs.size = xs.length) (hr : ∀ i (hi : i < xs.length), RepC w (F.Y ρ s.ob) ρ s.ob (cs.getD i undef) xs[i]) {u : TypeId} (hu : (ti P u).desc.agg = false) (hok : (ti P u).ok = true)
    {o : Nat} {K : V → Prop} (hv : vAt xs o K) : ∃ x v, K x ∧ RepC w (F.Y ρ s.ob) ρ s.ob v x ∧ ∀ w', (part u cs o).run P w' = .ok v w' := by
  simp only [vAt] at hv
  cases hg : xs[o]? with
  | none => simp [hg] at hv
  | some q =>
    simp only [hg] at hv
    obtain ⟨hlt, he⟩ := List.getElem?_eq_some_iff.1 hg
    have hq := hr _ hlt
    rw [he] at hq
    have hlt2 : o < cs.size := by omega
    obtain ⟨c, h5, h6⟩ : ∃ c, cs[o]? = some c ∧ cs.getD o undef = c := ⟨cs[o], by simp [hlt2], by simp [Array.getD, hlt2]⟩
    refine ⟨q, c, hv, by rw [← h6]; exact hq, fun w' => ?_⟩
    simp [part, run_isAgg_ti hok, hu, h5]

theorem sound_eqV {u : TypeId} {x y : V} {v1 v2 : Value} (h1 : RepC w (F.Y ρ s.ob) ρ s.ob v1 x) (h2 : RepC w (F.Y ρ s.ob) ρ s.ob v2 y) {K : Bool → Prop} (hv : vEqV (ti P u).desc x y K) (n : Nat) :
    ∃ b, K b ∧ ∀ w', (Op.equalIn (n + 1) u v1 v2).run P w' = .ok b w' := by
  unfold vEqV at hv
  split at hv
  case h_4 => exact hv.elim
  · rename_i k0 k a k' b hd
    obtain ⟨rfl, hv⟩ := hv
    rw [sc_of h1, sc_of h2]
    exact ⟨_, hv, fun w' => run_equalIn_int w' n u k k0 a b (ti_int hd)⟩
  · rename_i a b hd
    rw [sc_of h1, sc_of h2]
    exact ⟨_, hv, fun w' => run_equalIn_bool' w' n u a b (ti_bool hd)⟩
  · rename_i a b hd
    rw [sc_of h1, sc_of h2]
    exact ⟨_, hv, fun w' => run_equalIn_string w' n u a b (ti_string hd)⟩

theorem vEqV_ok {u : TypeId} {x y : V} {K : Bool → Prop} (hv : vEqV (ti P u).desc x y K) : (ti P u).desc.agg = false ∧ (ti P u).ok = true := by
  unfold vEqV at hv
  split at hv
  case h_4 => exact hv.elim
  all_goals
    rename_i hd
    exact ⟨by rw [hd]; rfl, ti_desc (by rw [hd]; simp)⟩
theorem vEqF_some {fs : List (Nat × TypeId)} {o : Nat} {u : TypeId} {xs ys : List V} {K : Bool → Prop} (hv : vEqF P ((o, u) :: fs) xs ys K) : (ti P u).desc.agg = false ∧ (ti P u).ok = true := by
  unfold vEqF vAt at hv
  cases h1 : xs[o]? with
  | none => simp [h1] at hv
  | some x =>
    cases h2 : ys[o]? with
    | none => simp [h1, h2] at hv
    | some y => simp only [h1, h2] at hv; exact vEqV_ok hv

theorem sound_eqF {cs ds : Array Value} {xs ys : List V} (hs : cs.size = xs.length) (hr : ∀ i (hi : i < xs.length), RepC w (F.Y ρ s.ob) ρ s.ob (cs.getD i undef) xs[i])
    (hs2 : ds.size = ys.length) (hr2 : ∀ i (hi : i < ys.length), RepC w (F.Y ρ s.ob) ρ s.ob (ds.getD i undef) ys[i]) (n : Nat) :
    ∀ (fields : List Field) (K : Bool → Prop), (fields.all fun f => f.name != "_") = true → vEqF P (fields.map fun f => (f.offset, f.type)) xs ys K → ∃ b, K b ∧ ∀ w', (Op.eqFields (n + 1) cs ds fields).run P w' = .ok b w'
  | [], K, _, hv => ⟨true, hv, fun w' => by simp [Op.eqFields]⟩
  | f :: fields, K, hn, hv => by
    simp only [List.all_cons, Bool.and_eq_true, bne_iff_ne] at hn
    rw [List.map_cons] at hv
    obtain ⟨hag, hok⟩ := vEqF_some hv
    simp only [vEqF] at hv
    obtain ⟨x, v1, hv, r1, p1⟩ := part_cell (P := P) hs hr hag hok hv
    obtain ⟨y, v2, hv, r2, p2⟩ := part_cell (P := P) hs2 hr2 hag hok hv
    obtain ⟨b, hv, hb⟩ := sound_eqV (P := P) r1 r2 hv n
    obtain ⟨c, hv, hc⟩ := sound_eqF hs hr hs2 hr2 n fields _ hn.2 hv
    refine ⟨_, hv, fun w' => ?_⟩
    simp only [Op.eqFields, hn.1, ne_eq, not_false_eq_true, if_true, Sem.run_bind, p1, p2, hb, Result.andThen_ok]
    cases b with
    | true => simp [hc]
    | false => simp

theorem sound_nilC {u : Value} {w' : World} (t : TypeId) (op : BinOp) (x y : Operand) (b : Bool) (K : V → Prop) (hu : (∃ ad n c, u = .slice (some ad) n c ∧ b = false) ∨ (u = .slice none 0 0 ∧ b = true)) (hv : vNilC (ti P t).desc op b K) :
    ∃ c : Bool, K (.sc (.bool c)) ∧ ∀ w' : World, (do eqGuard op t x y u (.slice none 0 0); binOp op t u (.slice none 0 0) : Sem Value).run P w' = .ok (.bool c) w' := by
  unfold vNilC at hv
  have heq : ∀ e, (ti P t).desc = .slice e → ∀ w' : World, (Op.equal t u (.slice none 0 0)).run P w' = .ok b w' := by
    intro e hd w'
    have key : ∀ d : Nat, (Op.equalIn (d + 1) t u (.slice none 0 0)).run P w' = .ok b w' := by
      intro d
      rcases hu with ⟨ad, n, c, rfl, rfl⟩ | ⟨rfl, rfl⟩
      · simp [Op.equalIn, run_underlying (ti_slice hd)]
      · simp [Op.equalIn, run_underlying (ti_slice hd)]
    exact key 9999
  have hu2 : ∃ p n c, u = .slice p n c := by
    rcases hu with ⟨ad, n, c, rfl, _⟩ | ⟨rfl, _⟩
    · exact ⟨_, _, _, rfl⟩
    · exact ⟨_, _, _, rfl⟩
  obtain ⟨p, n, c, rfl⟩ := hu2
  split at hv
  case h_3 => exact hv.elim
  · rename_i e hd
    refine ⟨_, hv, fun w' => ?_⟩
    have := heq e hd w'
    simp [eqGuard, binOp, this]
  · rename_i e hd
    refine ⟨_, hv, fun w' => ?_⟩
    have := heq e hd w'
    simp [eqGuard, binOp, this]

theorem sound_bin (h : Sat F s ρ a w) (op : BinOp) (t : TypeId) (x y : Operand) (K : V → Prop) (hv : vBin2 P t op (s.ev x) (s.ev y) K) :
    Gives P F s ρ w Z (do eqGuard op t x y (a.eval x) (a.eval y); binOp op t (a.eval x) (a.eval y)) K := by
  unfold vBin2 at hv
  split at hv
  case h_4 => exact sound_bin1 h op t x y K hv
  case h_2 =>
    rename_i l off len e1 e2
    have hx := h.ev x
    have hy := h.ev y
    rw [e1] at hx
    rw [e2] at hy
    rw [sc_of hy]
    have hu : ∃ ad n c, a.eval x = .slice (some ad) n c := by
      generalize a.eval x = u at hx
      cases hx with
      | d hx => cases hx
      | ref => exact ⟨_, _, _, rfl⟩
      | ref0 => exact ⟨_, _, _, rfl⟩
    obtain ⟨ad, n, c, hu⟩ := hu
    rw [hu]
    obtain ⟨b, hk, hr⟩ := sound_nilC (P := P) (w' := w) t op x y false K (.inl ⟨ad, n, c, rfl, rfl⟩) hv
    exact ⟨_, _, hk, .d (.sc _), fun w' _ => hr w'⟩
  case h_3 =>
    rename_i e1 e2
    have hx := h.ev x
    have hy := h.ev y
    rw [e1] at hx
    rw [e2] at hy
    rw [sc_of hx, sc_of hy]
    obtain ⟨b, hk, hr⟩ := sound_nilC (P := P) (w' := w) t op x y true K (.inr ⟨rfl, rfl⟩) hv
    exact ⟨_, _, hk, .d (.sc _), fun w' _ => hr w'⟩
  rename_i xs ys e1 e2
  have hx := h.ev x
  have hy := h.ev y
  rw [e1] at hx
  rw [e2] at hy
  generalize a.eval x = u at *
  generalize a.eval y = v at *
  cases hx with
  | d hx => cases hx
  | @agg cs xs hs hr =>
    cases hy with
    | d hy => cases hy
    | @agg ds ys hs2 hr2 =>
      have hi : ∀ fs, eqInfo P t = some fs → fs = (P.fieldsOf t).toList.map (fun f => (f.offset, f.type)) ∧ (∃ fl, P.underlying t = some (.struct fl)) ∧ ((P.fieldsOf t).toList.all fun f => f.name != "_") = true ∧ P.stoodInHeld t = false ∧ P.eqGuardType P.depth t = false := by
        intro fs hfs
        unfold eqInfo at hfs
        cases hc : eqOk P t with
        | false => rw [hc] at hfs; cases hfs
        | true =>
          rw [hc] at hfs
          simp only [eqOk, Bool.and_eq_true, Bool.not_eq_true'] at hc
          obtain ⟨⟨⟨c1, c3⟩, c4⟩, c5⟩ := hc
          refine ⟨(Option.some.inj hfs).symm, ?_, c3, c4, c5⟩
          generalize P.underlying t = u at c1
          unfold isStr at c1
          split at c1
          · exact ⟨_, rfl⟩
          · cases c1
      unfold vEqS at hv
      split at hv
      case h_3 => exact hv.elim
      · rename_i fs hfs
        obtain ⟨rfl, ⟨fl, hfl⟩, c3, c4, c5⟩ := hi fs hfs
        have hu : P.underlying t = some (.struct (P.fieldsOf t)) := by
          have : P.fieldsOf t = fl := by simp [Program.fieldsOf, hfl]
          rw [this]; exact hfl
        obtain ⟨b, hk, hrun⟩ := sound_eqF (P := P) hs hr hs2 hr2 9998 _ _ c3 hv
        refine ⟨_, .bool b, hk, .d (.sc _), fun w' _ => ?_⟩
        simp only [Sem.run_bind, run_eqGuard_agg w' _ t x y cs ds c5, Result.andThen_ok, run_eql_struct, run_equalIn_agg w' 9999 t cs ds hu c4, hrun]
      · rename_i fs hfs
        obtain ⟨rfl, ⟨fl, hfl⟩, c3, c4, c5⟩ := hi fs hfs
        have hu : P.underlying t = some (.struct (P.fieldsOf t)) := by
          have : P.fieldsOf t = fl := by simp [Program.fieldsOf, hfl]
          rw [this]; exact hfl
        obtain ⟨b, hk, hrun⟩ := sound_eqF (P := P) hs hr hs2 hr2 9998 _ _ c3 hv
        refine ⟨_, .bool (!b), hk, .d (.sc _), fun w' _ => ?_⟩
        simp only [Sem.run_bind, run_eqGuard_agg w' _ t x y cs ds c5, Result.andThen_ok, run_neq_struct, run_equalIn_agg w' 9999 t cs ds hu c4, hrun]

end
end Go.AG

/-
  AG, part F: every operation that only reads, in one theorem. Conditions: none.
-/
set_option linter.unusedSimpArgs false
set_option linter.unusedVariables false
namespace Go.AG
open Go.RowKit

section
variable {P : Program} {F : Fr} {s : AState} {ρ : Nat → Pl} {a : Act} {w : World} {Z : Nat → Prop}

theorem sound_un (h : Sat F s ρ a w) (op : UnOp) (x : Operand) (K : V → Prop) (hv : vUn op (s.ev x) K) : Gives P F s ρ w Z (Op.unary op (a.eval x)) K := by
  have hx := h.ev x
  unfold vUn at hv
  split at hv
  case h_3 => exact hv.elim
  · rename_i b e
    rw [e] at hx
    rw [sc_of hx]
    exact ⟨_, _, hv, .d (.sc _), fun w' _ => rfl⟩
  · rename_i k n e
    rw [e] at hx
    rw [sc_of hx]
    exact ⟨_, _, hv, .d (.sc _), fun w' _ => rfl⟩

theorem byteL_get : ∀ {xs : List V} {ns : List Int}, byteL xs = some ns → xs = ns.map fun n => V.sc (.int .u8 n)
  | [], ns, h => by simp [byteL] at h; subst h; rfl
  | x :: r, ns, h => by
    unfold byteL at h
    split at h
    · rename_i e; cases e
    · rename_i n r' e
      cases e
      obtain ⟨ms, h1, rfl⟩ := Option.map_eq_some_iff.1 h
      rw [byteL_get h1]; rfl
    · cases h

theorem isU8_ti {e : TypeId} (h : isU8 (ti P e).desc = true) : P.underlying e = some (.int .u8) := by
  unfold isU8 at h
  split at h
  · rename_i h2; exact ti_int h2
  · cases h

/-- bytes that lie in a row, made a text -/
theorem Reads.text {Y : Nat → Prop} {ob : Objs} {b base : Nat} {xs : List V} (h : Reads w Y ρ ob b base xs) {t u e : TypeId} (ht : P.underlying t = some (.slice e)) (he : P.underlying e = some (.int .u8)) (hu : P.underlying u = some .string)
    {off len cap : Nat} {ns : List Int} (hb : byteL ((xs.drop off).take len) = some ns) (hn : ns.length = len) (hZ : xs ≠ [] → Z b) :
    ∀ w', Agr Z w w' → (convert t u (.slice (some ⟨b, base + off, none⟩) len cap)).run P w' = .ok (.string (mkS ns)) w' := by
  intro w' hw
  obtain ⟨cs, hcs⟩ := h
  have hx := byteL_get hb
  have hlen : ((xs.drop off).take len).length = len := by rw [hx]; simpa using hn
  have hle : len ≠ 0 → off + len ≤ xs.length := by intro h0; simp only [List.length_take, List.length_drop] at hlen; omega
  refine run_convert_bytes_arg w' t e ht he b (base + off) len cap ns hn (fun i hi => ?_) u hu
  have hle := hle (by omega)
  obtain ⟨h1, h2⟩ := hcs (off + i) (by omega)
  have hxi : xs[off + i]'(by omega) = V.sc (.int .u8 (ns.getD i 0)) := by
    have h3 : ((xs.drop off).take len)[i]? = (ns.map fun n => V.sc (.int .u8 n))[i]? := by rw [hx]
    have hin : i < ns.length := by omega
    simp only [List.getElem?_take, hi, if_true, List.getElem?_drop, List.getElem?_map, List.getElem?_eq_getElem (show off + i < xs.length by omega), List.getElem?_eq_getElem hin, Option.map_some, Option.some.injEq] at h3
    rw [h3]; simp [List.getD, hin]
  rw [hxi] at h2
  have h4 := sc_of h2
  rw [← h4, Nat.add_assoc]
  exact hw.1 _ _ (hZ (fun e0 => by rw [e0] at hle; simp at hle; omega)) h1

theorem sound_conv (h : Sat F s ρ a w) (t u : TypeId) (x : Operand) (K : V → Prop) (hv : vConv P s.ob (ti P t).desc (ti P u).desc (s.ev x) K)
    (hZ : ∀ b, ¬ F.Y ρ s.ob b → Z b) (hZl : ∀ l off len o, s.ev x = .ref l off len → Live s.ob l o → Z (ρ l).blk) : Gives P F s ρ w Z (convert t u (a.eval x)) K := by
  have hx := h.ev x
  unfold vConv at hv
  split at hv
  case h_4 => exact hv.elim
  · rename_i e1 e2 e
    rw [e] at hx
    rw [sc_of hx]
    refine ⟨_, _, hv, .d (.sc _), fun w' _ => ?_⟩
    simp [convert, run_underlying (ti_int e1), run_underlying (ti_int e2), Conv.intToInt]
  · rename_i e1 e2 e
    rw [e] at hx
    rw [sc_of hx]
    refine ⟨_, _, hv, .d (.sc _), fun w' _ => ?_⟩
    simp [convert, run_underlying (ti_string e1), run_underlying (ti_string e2)]
  · rename_i e e1 e2
    have hts := ti_slice e1
    have hus := ti_string e2
    generalize s.ev x = X at *
    generalize a.eval x = v at *
    have fin : ∀ {len : Nat} {o : Option (List Int)}, vByt o len K → ∃ ns, o = some ns ∧ ns.length = len ∧ K (.sc (.string (mkS ns))) := by
      intro len o ho
      unfold vByt at ho
      cases o with
      | none => exact ho.elim
      | some ns => exact ⟨ns, rfl, ho.1, ho.2⟩
    unfold vB2S at hv
    split at hv
    case h_3 => exact hv.elim
    · rename_i len xs
      obtain ⟨he, hv⟩ := hv
      have hes := isU8_ti he
      obtain ⟨ns, h1, h2, hk⟩ := fin hv
      refine ⟨_, .string (mkS ns), hk, .d (.sc _), ?_⟩
      cases hx with
      | d hd =>
        cases hd with
        | nil =>
          intro w' _
          have : ns = [] := List.eq_nil_of_length_eq_zero (by omega)
          subst this
          rw [run_convert_bytes_nil w' t e hts hes _ _ u hus]; rfl
        | sl0 ad =>
          intro w' _
          have : ns = [] := List.eq_nil_of_length_eq_zero (by omega)
          subst this
          rw [run_convert_bytes_string w' t u e _ _ _ hts hes hus, run_bytesToString w' ad 0 0 [] (by simpa using run_loadCells (P := P) w' ad 0 (fun _ => undef) (fun j hj => absurd hj (by omega)))]
          rfl
        | @sl b o _ cap _ cs hc hr hxx hl =>
          exact Reads.text (P := P) (w := w) (ρ := ρ) (Z := Z) (Y := F.Y ρ s.ob) (ob := s.ob) (b := b) (base := o) (off := 0) (xs := xs) ⟨cs, fun i hi => ⟨hc i hi, .d (hr i hi)⟩⟩ hts hes hus (by simpa using h1) h2 (fun hne => hZ _ (hxx hne))
    · rename_i l off len
      obtain ⟨he, hv⟩ := hv
      have hes := isU8_ti he
      obtain ⟨o2, ho2, hv⟩ := vObj_live hv
      obtain ⟨ns, h1, h2, hk⟩ := fin hv
      refine ⟨_, .string (mkS ns), hk, .d (.sc _), ?_⟩
      cases hx with
      | d hd => cases hd
      | @ref _ _ _ cap o ho hm hl hc hs =>
        exact Reads.text (P := P) (w := w) (ρ := ρ) (Z := Z) (h.obReads ho2 (live_same ho ho2 ▸ hm)) hts hes hus h1 h2 (fun _ => hZl l off len o2 rfl ho2)
      | @ref0 _ _ o p ho hm =>
        intro w' _
        have : ns = [] := List.eq_nil_of_length_eq_zero (by omega)
        subst this
        rw [run_convert_bytes_string w' t u e _ _ _ hts hes hus, run_bytesToString w' _ 0 0 [] (by simpa using run_loadCells (P := P) w' _ 0 (fun _ => undef) (fun j hj => absurd hj (by omega)))]
        rfl

theorem sound_len (h : Sat F s ρ a w) (t ty : TypeId) (x : Operand) (K : V → Prop) (hv : vLen (ti P t).desc (s.ev x) K) : Gives P F s ρ w Z (Builtin.len_ #[t] ty #[a.eval x]) K := by
  have hx := h.ev x
  generalize s.ev x = X at *
  generalize a.eval x = v at *
  unfold vLen at hv
  split at hv
  case h_4 => exact hv.elim
  · rename_i e hd
    have hu := ti_slice hd
    cases hx with
    | d hx =>
      cases hx with
      | nil => exact ⟨_, _, hv, .d (.sc _), fun w' _ => by simp [Builtin.len_, run_underlying hu, goInt]⟩
      | sl0 => exact ⟨_, _, hv, .d (.sc _), fun w' _ => by simp [Builtin.len_, run_underlying hu, goInt]⟩
      | sl cs h1 h2 h3 h4 => exact ⟨_, _, hv, .d (.sc _), fun w' _ => by simp [Builtin.len_, run_underlying hu, goInt]⟩
      | sc =>
        cases v <;> first | exact hv.elim | exact ⟨_, _, hv, .d (.sc _), fun w' _ => by simp [Builtin.len_, run_underlying hu, goInt]⟩
      | _ => exact hv.elim
    | ref ho _ h1 h2 h3 => exact ⟨_, _, hv, .d (.sc _), fun w' _ => by simp [Builtin.len_, run_underlying hu, goInt]⟩
    | ref0 ho _ => exact ⟨_, _, hv, .d (.sc _), fun w' _ => by simp [Builtin.len_, run_underlying hu, goInt]⟩
    | _ => exact hv.elim
  · rename_i hd
    have hu := ti_string hd
    cases hx with
    | d hx =>
      cases hx with
      | sc => cases v <;> first | exact hv.elim | exact ⟨_, _, hv, .d (.sc _), fun w' _ => by simp [Builtin.len_, run_underlying hu, goInt]⟩
      | _ => exact hv.elim
    | _ => exact hv.elim
  · rename_i n e hd
    have hu := ti_array hd
    exact ⟨_, _, hv, .d (.sc _), fun w' _ => by simp [Builtin.len_, run_underlying hu, goInt]⟩

theorem sound_pick (h : Sat F s ρ a w) (c x y : Operand) (K : V → Prop) (hv : vPick (s.ev c) (s.ev x) (s.ev y) K) :
    ∃ q v, K q ∧ RepC w (F.Y ρ s.ob) ρ s.ob v q ∧ ∀ w' : World, (do pure (Next.value (if ← asBool (a.eval c) then a.eval x else a.eval y)) : Sem Next).run P w' = .ok (.value v) w' := by
  have hc := h.ev c
  unfold vPick at hv
  split at hv
  case h_3 => exact hv.elim
  · rename_i e
    rw [e] at hc
    rw [sc_of hc]
    exact ⟨_, _, hv, h.ev x, fun w' => by simp [asBool]⟩
  · rename_i e
    rw [e] at hc
    rw [sc_of hc]
    exact ⟨_, _, hv, h.ev y, fun w' => by simp [asBool]⟩

theorem sound_extract (h : Sat F s ρ a w) (x : Operand) (i : Nat) (K : V → Prop) (hv : vExtract (s.ev x) i K) : Gives P F s ρ w Z (Instr.extract (a.eval x) i) K := by
  have hx := h.ev x
  generalize s.ev x = X at *
  generalize a.eval x = v at *
  unfold vExtract at hv
  cases hx with
  | @tup cs xs hs hr =>
    simp only [vAt] at hv
    cases hg : xs[i]? with
    | none => simp [hg] at hv
    | some q =>
      simp only [hg] at hv
      obtain ⟨hlt, he⟩ := List.getElem?_eq_some_iff.1 hg
      have hq := hr i hlt
      rw [he] at hq
      have hlt2 : i < cs.size := by omega
      refine ⟨q, cs.getD i undef, hv, hq, fun w' _ => ?_⟩
      obtain ⟨c, h5, h6⟩ : ∃ c, cs[i]? = some c ∧ cs.getD i undef = c := ⟨cs[i], by simp [hlt2], by simp [Array.getD, hlt2]⟩
      rw [h6]
      simp [Instr.extract, h5]
  | d hx => cases hx <;> exact hv.elim
  | _ => exact hv.elim

theorem sound_field (h : Sat F s ρ a w) (t : TypeId) (x : Operand) (f : Nat) (K : V → Prop) (hv : vField P (ti P t).desc (s.ev x) f K) : Gives P F s ρ w Z (Instr.field t (a.eval x) f) K := by
  have hx := h.ev x
  generalize s.ev x = X at *
  generalize a.eval x = v at *
  unfold vField at hv
  split at hv
  case h_2 => exact hv.elim
  rename_i fs xs hd
  split at hv
  case h_2 => exact hv.elim
  rename_i o u hf
  obtain ⟨hok, hv⟩ := hv
  obtain ⟨fields, hu, rfl⟩ := ti_struct hd
  rw [List.getElem?_map] at hf
  cases hx2 : fields.toList[f]? with
  | none => simp [hx2] at hf
  | some fd =>
    simp [hx2] at hf
    obtain ⟨rfl, rfl⟩ := hf
    have hx3 : fields[f]? = some fd := by simpa using hx2
    cases hx with
    | d hx => cases hx
    | @agg cs xs hs hr =>
      unfold vPart at hv
      cases hagg : (ti P fd.type).desc.agg with
      | true =>
        rw [hagg] at hv
        obtain ⟨hfit, hk⟩ := hv
        refine ⟨_, .agg (cs.extract fd.offset (fd.offset + (ti P fd.type).size)), hk, .agg (by simp; omega) (fun i hi => ?_), fun w' hb => ?_⟩
        · have hi' : i < (ti P fd.type).size := by simp at hi; omega
          have h1 := hr (fd.offset + i) (by omega)
          have h2 : (cs.extract fd.offset (fd.offset + (ti P fd.type).size)).getD i undef = cs.getD (fd.offset + i) undef := by
            have h3 : fd.offset + i < cs.size := by omega
            have h4 : i < min (fd.offset + (ti P fd.type).size) cs.size - fd.offset := by omega
            simp [Array.getD, h3, h4]
          rw [h2]
          simpa using h1
        · simp [Instr.field, run_underlying hu, hx3, asAgg, part, run_isAgg_ti hok, hagg, run_sizeOf_ti hok]
      | false =>
        rw [hagg] at hv
        simp only [vAt] at hv
        cases hg : xs[fd.offset]? with
        | none => simp [hg] at hv
        | some q =>
          simp only [hg] at hv
          obtain ⟨hlt, he⟩ := List.getElem?_eq_some_iff.1 hg
          have hq := hr _ hlt
          rw [he] at hq
          have hlt2 : fd.offset < cs.size := by omega
          refine ⟨q, _, hv, hq, fun w' hb => ?_⟩
          obtain ⟨c, h5, h6⟩ : ∃ c, cs[fd.offset]? = some c ∧ cs.getD fd.offset undef = c := ⟨cs[fd.offset], by simp [hlt2], by simp [Array.getD, hlt2]⟩
          rw [h6]
          simp [Instr.field, run_underlying hu, hx3, asAgg, part, run_isAgg_ti hok, hagg, h5]

theorem sound_fold (f : V → V → (V → Prop) → Prop) (m : Value → Value → Sem Value)
    (hf : ∀ (x y : V) (u v : Value) (K : V → Prop), RepC w (F.Y ρ s.ob) ρ s.ob u x → RepC w (F.Y ρ s.ob) ρ s.ob v y → f x y K → Gives P F s ρ w Z (m u v) K) :
    ∀ (ys : List V) (vs : List Value) (x : V) (u : Value) (K : V → Prop), RepC w (F.Y ρ s.ob) ρ s.ob u x → vs.length = ys.length → (∀ i (h : i < ys.length), RepC w (F.Y ρ s.ob) ρ s.ob (vs.getD i undef) ys[i]) →
      vFold f x ys K → Gives P F s ρ w Z (vs.foldlM m u) K
  | [], [], x, u, K, hu, _, _, hv => ⟨x, u, hv, hu, fun w' _ => by simp⟩
  | y :: ys, v :: vs, x, u, K, hu, hl, hr, hv => by
    obtain ⟨z, c, hz, hc, hrun⟩ := hf x y u v _ hu (hr 0 (by simp)) hv
    obtain ⟨q, e, hq, he, hrun2⟩ := sound_fold f m hf ys vs z c K hc (by simpa using hl) (fun i hi => hr (i + 1) (by simpa using hi)) hz
    exact ⟨q, e, hq, he, fun w' hb => by simp [List.foldlM_cons, hrun w' hb, hrun2 w' hb]⟩
  | [], _ :: _, _, _, _, _, hl, _, _ => by simp at hl
  | _ :: _, [], _, _, _, _, hl, _, _ => by simp at hl

theorem sound_min2 (x y : V) (u v : Value) (K : V → Prop) (hx : RepC w (F.Y ρ s.ob) ρ s.ob u x) (hy : RepC w (F.Y ρ s.ob) ρ s.ob v y) (hv : vMin2 x y K) : Gives P F s ρ w Z (Builtin.min2 u v) K := by
  unfold vMin2 at hv
  split at hv
  case h_2 => exact hv.elim
  rw [sc_of hx, sc_of hy]
  exact ⟨_, _, hv, .d (.sc _), fun w' _ => rfl⟩

theorem sound_max2 (x y : V) (u v : Value) (K : V → Prop) (hx : RepC w (F.Y ρ s.ob) ρ s.ob u x) (hy : RepC w (F.Y ρ s.ob) ρ s.ob v y) (hv : vMax2 x y K) : Gives P F s ρ w Z (Builtin.max2 u v) K := by
  unfold vMax2 at hv
  split at hv
  case h_2 => exact hv.elim
  rw [sc_of hx, sc_of hy]
  exact ⟨_, _, hv, .d (.sc _), fun w' _ => rfl⟩

/-! ### maps -/
theorem mp_of (h : Sat F s ρ a w) {l : Nat} {v : Value} {o : Ob} (hr : RepC w (F.Y ρ s.ob) ρ s.ob v (.mp l)) (ho : Live s.ob l o) :
    ∃ es clock, v = .map (some (ρ l).blk) ∧ w.heap[(ρ l).blk]? = some (.map es clock) ∧ o.cells = mpCells es ∧ o.esz = mapSz := by
  cases hr with
  | d hd => cases hd
  | mp ho' hm =>
    have e := live_same ho' ho
    subst e
    obtain ⟨es, clock, h1, h2⟩ := (h.heap.obj _ _ ho).map hm
    exact ⟨es, clock, rfl, h1, h2, hm⟩
def mfind : List (Int × Value) → Int → Nat → Option (Nat × Value)
  | [], _, _ => none
  | e :: r, k, i => if k = e.1 then some (i, e.2) else mfind r k (i + 1)
theorem mfind_get : ∀ (m : List (Int × Value)) (k : Int) (i : Nat), (mfind m k i).map (·.2) = mget m k
  | [], _, _ => rfl
  | e :: r, k, i => by
    simp only [mfind, mget]
    split
    · rfl
    · exact mfind_get r k (i + 1)
theorem findNow_i64 (k : Int) : ∀ (l : List MapEntry) (m : List (Int × Value)) (i : Nat), l.map (fun e => (e.key, e.val)) = (m.map fun e => (Value.int .i64 e.1, e.2)) → Instr.findNow (.int .i64) (.int .i64 k) l i = some (mfind m k i)
  | [], [], _, _ => rfl
  | [], e :: m, _, h => by simp at h
  | e :: l, [], _, h => by simp at h
  | e :: l, q :: m, i, h => by
    simp only [List.map_cons, List.cons.injEq, Prod.mk.injEq] at h
    have ih := findNow_i64 k l m (i + 1) h.2
    unfold Instr.findNow mfind
    rw [h.1.1]
    simp only [Instr.sameNow, if_true]
    by_cases hk : k = q.1
    · simp [hk, h.1.2]
    · have : (k == q.1) = false := by rw [beq_eq_false_iff_ne]; exact hk
      simp only [this, hk, if_false]
      exact ih
theorem key_i64 {P : Program} {kt : TypeId} (hk : P.underlying kt = some (.int .i64)) (k : Int) (b : Bool) (w : World) : (Instr.checkKey b 10000 kt (.int .i64 k)).run P w = .ok () w :=
  MapKept.run_checkKey hk (by simp [MapKept.IsKey]) b 9999
theorem vZero_of {o : Option Value} {K : Value → Prop} (h : vZero o K) : ∃ z, o = some z ∧ K z := by
  cases o with
  | none => exact h.elim
  | some z => exact ⟨z, rfl, h⟩
theorem run_zero {P : Program} {t : TypeId} {z : Value} (h : zeroOf P t = some z) (w : World) : (zeroValue t).run P w = .ok z w := by
  unfold zeroOf at h
  cases hi : P.info? t with
  | none => simp [hi] at h
  | some i =>
    simp only [hi, Option.bind_some] at h
    simp [zeroValue, typeInfo, hi, h]
def lookW (c : Bool) (o : Option Value) (z : Value) : Value := match c with
  | true => .tuple #[o.getD z, .bool o.isSome]
  | false => o.getD z
theorem sound_look (h : Sat F s ρ a w) (t : TypeId) (x i : Operand) (c : Bool) (K : V → Prop) (hv : vLook P (ti P t).desc (s.ev x) (s.ev i) c s.ob K)
    (hZl : ∀ l o, s.ev x = .mp l → Live s.ob l o → Z (ρ l).blk) : Gives P F s ρ w Z (Instr.lookup t (a.eval x) (a.eval i) c) K := by
  have hx := h.ev x
  have hi := h.ev i
  unfold vLook at hv
  split at hv
  case h_2 => exact hv.elim
  rename_i kt et l k hd e1 e2
  rw [e1] at hx
  rw [e2] at hi
  have hi := sc_of hi
  obtain ⟨hk, hv⟩ := hv
  obtain ⟨z, hz, hv⟩ := vZero_of hv
  obtain ⟨o, ho, hv⟩ := vObj_live hv
  obtain ⟨m, hm, hv⟩ := vMapOf_of hv
  obtain ⟨es, clock, hxv, hb, hc, _⟩ := mp_of h hx ho
  have hes := mpI_es es.toList m (by rw [hm] at hc; simpa [mpI, mpCells] using hc)
  have hf := findNow_i64 k es.toList m 0 hes
  have hkt := ti_i64 hk
  refine ⟨_, lookW c (mget m k) z, hv, ?_, fun w' hw => ?_⟩
  · cases c with
    | false => exact .d (.sc _)
    | true =>
      refine .tup rfl fun i hi => ?_
      have : i = 0 ∨ i = 1 := by simp at hi; omega
      rcases this with rfl | rfl
      · exact .d (.sc _)
      · exact .d (.sc _)
  · have hb' := hw.2 _ _ _ (hZl l o e1 ho) hb
    rw [hxv, hi]
    have hg := mfind_get m k 0
    simp only [Instr.lookup, Sem.run_bind, run_underlying (ti_map hd), Result.andThen_ok, MapKept.run_getObj_map hb', Sem.run_pure, key_i64 hkt, MapKept.run_findKey hkt hf]
    cases hmf : mfind m k 0 with
    | none =>
      rw [hmf] at hg
      simp only [Option.map_none] at hg
      rw [← hg]
      simp only [Sem.run_bind, run_zero hz, Result.andThen_ok, Sem.run_pure]
      cases c <;> rfl
    | some q =>
      rw [hmf] at hg
      simp only [Option.map_some] at hg
      rw [← hg]
      simp only [Sem.run_pure, Result.andThen_ok]
      cases c <;> rfl
theorem sound_lenO (h : Sat F s ρ a w) (t ty : TypeId) (x : Operand) (K : V → Prop) (hv : vLenO s.ob (ti P t).desc (s.ev x) K)
    (hZl : ∀ l o, s.ev x = .mp l → Live s.ob l o → Z (ρ l).blk) : Gives P F s ρ w Z (Builtin.len_ #[t] ty #[a.eval x]) K := by
  unfold vLenO at hv
  split at hv
  case h_2 => exact sound_len h t ty x K hv
  rename_i kt et hd
  split at hv
  case h_2 => exact hv.elim
  rename_i l e1
  have hx := h.ev x
  rw [e1] at hx
  obtain ⟨o, ho, hv⟩ := vObj_live hv
  obtain ⟨m, hm, hv⟩ := vMapOf_of hv
  obtain ⟨es, clock, hxv, hb, hc, _⟩ := mp_of h hx ho
  have hes := mpI_es es.toList m (by rw [hm] at hc; simpa [mpI, mpCells] using hc)
  have hlen : es.size = m.length := by simpa using congrArg List.length hes
  refine ⟨_, _, hv, .d (.sc _), fun w' hw => ?_⟩
  have hb' := hw.2 _ _ _ (hZl l o e1 ho) hb
  rw [hxv]
  simp [Builtin.len_, run_underlying (ti_map hd), MapKept.run_getObj_map hb', goInt, hlen]
theorem sound_ifc (h : Sat F s ρ a w) (t : TypeId) (x : Operand) (K : V → Prop) (hv : vIfc (ti P t).desc t (s.ev x) K) : Gives P F s ρ w Z (Instr.makeInterface t (a.eval x)) K := by
  unfold vIfc at hv
  split at hv
  case h_2 => exact hv.elim
  rename_i e hd
  exact ⟨_, _, hv, .ifc (h.ev x), fun w' _ => by simp [Instr.makeInterface, run_underlying (ti_slice hd)]⟩

/-- the object that an operation reads -/
def rdOf (s : AState) : Op → Option Nat
  | .load _ x => match s.ev x with
    | .ptr l _ => some l
    | _ => none
  | .convert _ _ x => match s.ev x with
    | .ref l _ _ => some l
    | _ => none
  | .lookup _ x _ _ => match s.ev x with
    | .mp l => some l
    | _ => none
  | .call { callee := .builtin .len, args, argTypes := _ } => match args.toList with
    | [x] => match s.ev x with
      | .mp l => some l
      | _ => none
    | _ => none
  | _ => none

theorem qop_soundZ (h : Sat F s ρ a w) (o : Oper) (K : V → Prop) (hq : qop P s o.op K) (hZ : ∀ b, ¬ F.Y ρ s.ob b → Z b) (hZl : ∀ l o', rdOf s o.op = some l → Live s.ob l o' → Z (ρ l).blk) :
    ∃ x v, K x ∧ RepC w (F.Y ρ s.ob) ρ s.ob v x ∧ ∀ w', Agr Z w w' → (execOp a.eval o).run P w' = .ok (.value v) w' := by
  have lift : ∀ {m : Sem Value}, Gives P F s ρ w Z m K → (execOp a.eval o = do pure (.value (← m))) →
      ∃ x v, K x ∧ RepC w (F.Y ρ s.ob) ρ s.ob v x ∧ ∀ w', Agr Z w w' → (execOp a.eval o).run P w' = .ok (.value v) w' := by
    rintro m ⟨x, v, hk, hr, hrun⟩ he
    exact ⟨x, v, hk, hr, fun w' hb => by rw [he]; simp [hrun w' hb]⟩
  unfold qop at hq
  split at hq
  case h_1 x e => exact ⟨_, _, hq, h.ev x, fun w' _ => by simp [execOp, e]⟩
  case h_2 x e => exact ⟨_, _, hq, h.ev x, fun w' _ => by simp [execOp, e]⟩
  case h_3 c x y e =>
    obtain ⟨q, v, hk, hr, hrun⟩ := sound_pick (P := P) h c x y K hq
    exact ⟨q, v, hk, hr, fun w' _ => by unfold execOp; simp only [e]; exact hrun w'⟩
  case h_4 t x e => exact lift (sound_load h t x K hq hZ (fun l off o' e2 => hZl l o' (by rw [e]; simp only [rdOf, e2]))) (by unfold execOp; simp only [e])
  case h_5 x e =>
    have hr := h.ev x
    unfold vNil at hq
    split at hq
    case h_4 => exact hq.elim
    · rename_i xs off e2
      refine ⟨_, a.eval x, hq, by rw [← e2]; exact hr, fun w' _ => ?_⟩
      rw [e2] at hr
      unfold execOp
      simp only [e]
      generalize a.eval x = v at hr ⊢
      cases hr with
      | d hr => cases hr with | ip => rfl
    · rename_i l off e2
      refine ⟨_, a.eval x, hq, by rw [← e2]; exact hr, fun w' _ => ?_⟩
      rw [e2] at hr
      unfold execOp
      simp only [e]
      generalize a.eval x = v at hr ⊢
      cases hr with
      | d hr => cases hr
      | ptr => rfl
    · rename_i f caps e2
      refine ⟨_, a.eval x, hq, by rw [← e2]; exact hr, fun w' _ => ?_⟩
      rw [e2] at hr
      unfold execOp
      simp only [e]
      generalize a.eval x = v at hr ⊢
      cases hr with
      | d hr => cases hr with | fn => rfl
      | fn => rfl
  case h_6 op t x y _ e => exact lift (sound_bin h op t x y K hq) (by unfold execOp; simp only [e])
  case h_7 op t x e => exact lift (sound_un h op x K hq) (by unfold execOp; simp only [e])
  case h_8 t u x e => exact lift (sound_conv h t u x K hq hZ (fun l off len o' e2 => hZl l o' (by rw [e]; simp only [rdOf, e2]))) (by unfold execOp; simp only [e])
  case h_9 t x f e => exact lift (sound_fieldAddr h t x f K hq) (by unfold execOp; simp only [e])
  case h_10 t x f e => exact lift (sound_field h t x f K hq) (by unfold execOp; simp only [e])
  case h_11 t x i e => exact lift (sound_idxAddr h t x i K hq) (by unfold execOp; simp only [e])
  case h_12 t x i e => exact lift (sound_idx h t x i K hq) (by unfold execOp; simp only [e])
  case h_13 t x lo hi e => exact lift (sound_slice h t x lo hi K hq) (by unfold execOp; simp only [e, Option.map_none])
  case h_14 x i e => exact lift (sound_extract h x i K hq) (by unfold execOp; simp only [e])
  case h_15 f first caps e =>
    obtain ⟨h0, hq⟩ := hq
    subst h0
    refine ⟨_, .func (.func f) #[] (caps.map a.eval), hq, .fn (by simp) (fun i hi => ?_), fun w' _ => by simp [execOp, e, Instr.makeFunc]⟩
    have hi' : i < caps.size := by simpa using hi
    have := h.ev caps[i]
    simpa [Array.getD, hi'] using this
  case h_16 args argTypes e =>
    split at hq
    case h_2 => exact hq.elim
    rename_i x t e1 e2
    have e1' : args = #[x] := by apply Array.ext'; simpa using e1
    have e2' : argTypes = #[t] := by apply Array.ext'; simpa using e2
    subst e1' e2'
    refine lift (sound_lenO h t o.type x K hq (fun l o' e3 => hZl l o' (by rw [e]; simp only [rdOf, e3]))) ?_
    unfold execOp
    simp [e, resolve, invoke, builtin]
  case h_17 args argTypes e =>
    split at hq
    case h_2 => exact hq.elim
    rename_i x r e1
    have e1' : args = (x :: r).toArray := by apply Array.ext'; simpa using e1
    subst e1'
    have := sound_fold (P := P) (F := F) (s := s) (ρ := ρ) (w := w) (Z := Z) vMin2 Builtin.min2 (fun x y u v K h1 h2 h3 => sound_min2 x y u v K h1 h2 h3) (r.map s.ev) (r.map a.eval) (s.ev x) (a.eval x) K (h.ev x) (by simp)
      (fun i hi => by simp at hi; simpa [List.getD, hi] using h.ev r[i]) hq
    refine lift this ?_
    unfold execOp
    simp only [e, resolve, invoke, builtin, Builtin.min_]
    simp
  case h_18 args argTypes e =>
    split at hq
    case h_2 => exact hq.elim
    rename_i x r e1
    have e1' : args = (x :: r).toArray := by apply Array.ext'; simpa using e1
    subst e1'
    have := sound_fold (P := P) (F := F) (s := s) (ρ := ρ) (w := w) (Z := Z) vMax2 Builtin.max2 (fun x y u v K h1 h2 h3 => sound_max2 x y u v K h1 h2 h3) (r.map s.ev) (r.map a.eval) (s.ev x) (a.eval x) K (h.ev x) (by simp)
      (fun i hi => by simp at hi; simpa [List.getD, hi] using h.ev r[i]) hq
    refine lift this ?_
    unfold execOp
    simp only [e, resolve, invoke, builtin, Builtin.max_]
    simp
  case h_19 t x e => exact lift (sound_ifc h t x K hq) (by unfold execOp; simp only [e])
  case h_20 t x i c e => exact lift (sound_look h t x i c K hq (fun l o' e3 => hZl l o' (by rw [e]; simp only [rdOf, e3]))) (by unfold execOp; simp only [e])
  case h_21 => exact hq.elim

theorem qop_sound (h : Sat F s ρ a w) (o : Oper) (K : V → Prop) (hq : qop P s o.op K) :
    ∃ x v, K x ∧ RepC w (F.Y ρ s.ob) ρ s.ob v x ∧ ∀ w', Below w.heap.size w w' → (execOp a.eval o).run P w' = .ok (.value v) w' := by
  obtain ⟨x, v, h1, h2, h3⟩ := qop_soundZ (Z := fun _ => True) h o K hq (fun _ _ => trivial) (fun _ _ _ _ => trivial)
  exact ⟨x, v, h1, h2, fun w' hb => h3 w' (agr_below hb)⟩

end
end Go.AG

/-
  AG, part G: the operations that make or write memory. Conditions: none.
-/
set_option linter.unusedSimpArgs false
set_option linter.unusedVariables false
namespace Go.AG
open Go.RowKit

def V.one : V → Bool
  | .sc v => v.oneCell'
  | .sl _ _ => true
  | .ip _ _ => true
  | .fn _ _ => true
  | .ref _ _ _ => true
  | .ptr _ _ => true
  | .agg _ => false
  | .tup _ => false
  | .mp _ => true
  | .ifc _ _ => true
  | .junk => false

def V.oneL : List V → Bool
  | [] => true
  | x :: xs => V.one x && V.oneL xs

theorem oneL_get {xs : List V} (h : V.oneL xs = true) (i : Nat) (hi : i < xs.length) : xs[i].one = true := by
  induction xs generalizing i with
  | nil => simp at hi
  | cons x xs ih =>
    simp only [V.oneL, Bool.and_eq_true] at h
    cases i with
    | zero => exact h.1
    | succ i => exact ih h.2 i (by simpa using hi)

theorem oneL_append (xs ys : List V) : V.oneL (xs ++ ys) = (V.oneL xs && V.oneL ys) := by
  induction xs with
  | nil => simp [V.oneL]
  | cons x xs ih => simp [V.oneL, ih, Bool.and_assoc]

/-- so many times the same cells -/
def reps : Nat → List V → List V
  | 0, _ => []
  | n + 1, zs => zs ++ reps n zs

theorem length_reps (n : Nat) (zs : List V) : (reps n zs).length = n * zs.length := by
  induction n with
  | zero => simp [reps]
  | succ n ih => simp [reps, ih, Nat.add_mul, Nat.add_comm]

theorem reps_get (n : Nat) (zs : List V) (i : Nat) (h : i < n * zs.length) : (reps n zs)[i]? = zs[i % zs.length]? := by
  induction n generalizing i with
  | zero => simp at h
  | succ n ih =>
    simp only [reps]
    rw [List.getElem?_append]
    split
    · rename_i hi; rw [Nat.mod_eq_of_lt hi]
    · rename_i hi
      have hle : zs.length ≤ i := by omega
      rw [ih (i - zs.length) (by rw [Nat.add_mul] at h; omega)]
      rw [← Nat.mod_eq_sub_mod hle]

theorem reps_one (n : Nat) (z : V) : reps n [z] = List.replicate n z := by
  induction n with
  | zero => rfl
  | succ n ih => simp [reps, ih, List.replicate_succ]

def vFill (place : Nat → Option (Nat × Nat)) (cells : List V) : List (Nat × V) → (List V → Prop) → Prop
  | [], K => K cells
  | q :: r, K => match place q.1 with
    | some (off, size) => grd ((vcells q.2).length = size ∧ off + size ≤ cells.length ∧ V.oneL (vcells q.2) = true) (vFill place (wr cells off (vcells q.2)) r K)
    | none => False

/-- the cells of a new or written object -/
def zerosOf (t : TI) : List V := t.zero.map V.sc

section
variable {P : Program} {F : Fr} {s : AState} {ρ : Nat → Pl} {a : Act} {w : World}

theorem one_cell {Y : Nat → Prop} {ob : Objs} {v : Value} {x : V} (h : RepC w Y ρ ob v x) (h1 : x.one = true) : v.oneCell' = true ∧ v.cells = #[v] := by
  cases h with
  | d h => cases h with
    | sc => cases v <;> first | (simp [V.one, Value.oneCell'] at h1; done) | exact ⟨rfl, rfl⟩
    | _ => exact ⟨rfl, rfl⟩
  | agg => simp [V.one] at h1
  | tup => simp [V.one] at h1
  | junk => simp [V.one] at h1
  | _ => exact ⟨rfl, rfl⟩

theorem cells_rep {Y : Nat → Prop} {ob : Objs} {v : Value} {x : V} (h : RepC w Y ρ ob v x) (h1 : V.oneL (vcells x) = true) :
    v.cells.size = (vcells x).length ∧ ∀ i (hi : i < (vcells x).length), RepC w Y ρ ob (v.cells.getD i undef) (vcells x)[i] ∧ (v.cells.getD i undef).oneCell' = true := by
  cases x with
  | agg xs =>
    cases h with
    | d h => cases h
    | @agg cs xs hs hr => exact ⟨hs, fun i hi => ⟨hr i hi, (one_cell (hr i hi) (oneL_get h1 i hi)).1⟩⟩
  | tup xs => simp [vcells, V.oneL, V.one] at h1
  | junk => simp [vcells, V.oneL, V.one] at h1
  | _ =>
    have h2 := one_cell h (oneL_get h1 0 (by simp [vcells]))
    rw [h2.2]
    refine ⟨rfl, fun i hi => ?_⟩
    have : i = 0 := by simp [vcells] at hi; omega
    subst this
    exact ⟨h, h2.1⟩

/-- a list of machine values that reads as a list of abstract cells -/
def RepL (w : World) (Y : Nat → Prop) (ρ : Nat → Pl) (ob : Objs) (cs : Array Value) (xs : List V) : Prop :=
  cs.size = xs.length ∧ ∀ i (hi : i < xs.length), RepC w Y ρ ob (cs.getD i undef) xs[i] ∧ (cs.getD i undef).oneCell' = true

theorem RepL.zeros {Y : Nat → Prop} {ob : Objs} (zs : List Value) (h : zs.all Value.oneCell' = true) : RepL w Y ρ ob zs.toArray (zs.map V.sc) := by
  refine ⟨by simp, fun i hi => ?_⟩
  have hi' : i < zs.length := by simpa using hi
  have : zs.toArray.getD i undef = zs[i] := by simp [Array.getD, hi']
  rw [this]
  exact ⟨by simpa using RepC.d (.sc _), List.all_eq_true.1 h _ (List.getElem_mem hi')⟩

theorem foldl_set (us : List Value) : ∀ (cs : Array Value) (off k : Nat) (i : Nat),
    ((us.zipIdx k).foldl (fun (cs : Array Value) (q : Value × Nat) => cs.setIfInBounds (off + q.2) q.1) cs).size = cs.size ∧
    (off + k + us.length ≤ cs.size → ((us.zipIdx k).foldl (fun (cs : Array Value) (q : Value × Nat) => cs.setIfInBounds (off + q.2) q.1) cs)[i]? = if off + k ≤ i ∧ i < off + k + us.length then us[i - (off + k)]? else cs[i]?) := by
  induction us with
  | nil => intro cs off k i; simp; intro h1 h2; omega
  | cons u us ih =>
    intro cs off k i
    simp only [List.zipIdx_cons, List.foldl_cons]
    obtain ⟨h1, h2⟩ := ih (cs.setIfInBounds (off + k) u) off (k + 1) i
    refine ⟨by rw [h1]; simp, fun hle => ?_⟩
    rw [h2 (by simp at hle ⊢; omega)]
    simp only [List.length_cons] at hle ⊢
    by_cases hi : i = off + k
    · subst hi
      rw [if_neg (by omega), if_pos (by omega)]
      simp [show off + k < cs.size by omega]
    · by_cases hin : off + (k + 1) ≤ i ∧ i < off + (k + 1) + us.length
      · rw [if_pos hin, if_pos (by omega)]
        rw [show i - (off + k) = (i - (off + (k + 1))) + 1 from by omega, List.getElem?_cons_succ]
      · rw [if_neg hin, if_neg (by omega), Array.getElem?_setIfInBounds_ne (by omega)]

theorem RepL.wr {Y : Nat → Prop} {ob : Objs} {cs : Array Value} {xs : List V} (h : RepL w Y ρ ob cs xs) {v : Value} {x : V} (hx : RepC w Y ρ ob v x) (h1 : V.oneL (vcells x) = true) {off : Nat}
    (hfit : off + (vcells x).length ≤ xs.length) : RepL w Y ρ ob (v.cells.zipIdx.foldl (fun cs (c, j) => cs.setIfInBounds (off + j) c) cs) (AG.wr xs off (vcells x)) := by
  obtain ⟨hs, hr⟩ := h
  obtain ⟨hs2, hr2⟩ := cells_rep hx h1
  have hfold : v.cells.zipIdx.foldl (fun cs (c, j) => cs.setIfInBounds (off + j) c) cs = (v.cells.toList.zipIdx 0).foldl (fun (cs : Array Value) (q : Value × Nat) => cs.setIfInBounds (off + q.2) q.1) cs := by
    rw [← Array.foldl_toList]
    simp
  rw [hfold]
  have hl : v.cells.toList.length = (vcells x).length := by simpa using hs2
  refine ⟨by rw [(foldl_set v.cells.toList cs off 0 0).1, length_wr _ _ _ hfit]; exact hs, fun i hi => ?_⟩
  rw [length_wr _ _ _ hfit] at hi
  have hg := (foldl_set v.cells.toList cs off 0 i).2 (by omega)
  have hw := get_wr xs off (vcells x) hfit i
  have hi2 : i < (AG.wr xs off (vcells x)).length := by rw [length_wr _ _ _ hfit]; exact hi
  rw [List.getElem?_eq_getElem hi2] at hw
  have fin : ∀ (c : Value) (y : V), ((v.cells.toList.zipIdx 0).foldl (fun (cs : Array Value) (q : Value × Nat) => cs.setIfInBounds (off + q.2) q.1) cs)[i]? = some c → some (AG.wr xs off (vcells x))[i] = some y → RepC w Y ρ ob c y ∧ c.oneCell' = true →
      RepC w Y ρ ob (((v.cells.toList.zipIdx 0).foldl (fun (cs : Array Value) (q : Value × Nat) => cs.setIfInBounds (off + q.2) q.1) cs).getD i undef) (AG.wr xs off (vcells x))[i] ∧ ((((v.cells.toList.zipIdx 0).foldl (fun (cs : Array Value) (q : Value × Nat) => cs.setIfInBounds (off + q.2) q.1) cs)).getD i undef).oneCell' = true := by
    intro c y hc hy hcy
    rw [Array.getD_eq_getD_getElem?, hc]
    cases hy
    exact hcy
  by_cases hin : off ≤ i ∧ i < off + (vcells x).length
  · rw [if_pos (by omega)] at hg
    rw [if_neg (by omega), if_pos (by omega)] at hw
    have hj : i - off < (vcells x).length := by omega
    have hj2 : i - off < v.cells.toList.length := by omega
    rw [show i - (off + 0) = i - off from by omega, List.getElem?_eq_getElem hj2] at hg
    rw [List.getElem?_eq_getElem hj] at hw
    have h3 := hr2 (i - off) hj
    have h4 : v.cells.getD (i - off) undef = v.cells.toList[i - off] := by
      have : i - off < v.cells.size := by omega
      simp [Array.getD, this]
    rw [h4] at h3
    exact fin _ _ hg hw h3
  · rw [if_neg (by omega)] at hg
    have hw2 : some (AG.wr xs off (vcells x))[i] = xs[i]? := by
      rw [hw]; split
      · rfl
      · rw [if_neg (by omega)]
    rw [List.getElem?_eq_getElem hi] at hw2
    have hi3 : i < cs.size := by omega
    have h3 := hr i hi
    have h4 : cs.getD i undef = cs[i] := by simp [Array.getD, hi3]
    rw [h4] at h3
    rw [Array.getElem?_eq_getElem hi3] at hg
    exact fin _ _ hg hw2 h3

theorem sound_fill (place : Nat → Option (Nat × Nat)) {Y : Nat → Prop} {ob : Objs} : ∀ (parts : List (Nat × V)) (vs : List (Nat × Value)) (cs : Array Value) (xs : List V) (K : List V → Prop),
    RepL w Y ρ ob cs xs → vs.length = parts.length → (∀ i (h : i < parts.length) (h' : i < vs.length), vs[i].1 = parts[i].1 ∧ RepC w Y ρ ob vs[i].2 parts[i].2) → vFill place xs parts K →
    ∃ ys cs', K ys ∧ RepL w Y ρ ob cs' ys ∧ Instr.fill place cs vs = some cs'
  | [], [], cs, xs, K, h, _, _, hv => ⟨xs, cs, hv, h, rfl⟩
  | q :: parts, p :: vs, cs, xs, K, h, hl, hr, hv => by
    obtain ⟨e, hx⟩ := hr 0 (by simp) (by simp)
    simp only [List.getElem_cons_zero] at e hx
    simp only [vFill] at hv
    split at hv
    case h_2 => exact hv.elim
    rename_i off size hp
    obtain ⟨⟨h1, h2, h3⟩, hv⟩ := hv
    obtain ⟨hs2, hr2⟩ := cells_rep hx h3
    have hw := h.wr hx h3 (off := off) (by omega)
    obtain ⟨ys, cs', hk, hy, hf⟩ := sound_fill place parts vs _ _ K hw (by simpa using hl) (fun i h h' => by
      have := hr (i + 1) (by simpa using h) (by simpa using h')
      simpa using this) hv
    refine ⟨ys, cs', hk, hy, ?_⟩
    obtain ⟨i, v⟩ := p
    simp only at e hx hs2
    simp only [Instr.fill, e, hp]
    have hsz := h.1
    rw [if_neg (by simp only [Bool.or_eq_true, bne_iff_ne, ne_eq, decide_eq_true_eq]; omega)]
    exact hf
  | [], _ :: _, _, _, _, _, hl, _, _ => by simp at hl
  | _ :: _, [], _, _, _, _, hl, _, _ => by simp at hl

end
end Go.AG
