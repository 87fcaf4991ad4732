/-
  AG, part E: the operations that only read do in the model what they do on abstract values. Conditions: none.
-/
import Derived.Test.YtkgfpephkinocaaAgD
import Derived.Laws.Small
import Derived.Laws.StructEq
set_option linter.unusedSimpArgs false
set_option linter.unusedVariables false
namespace Go.AG
open Go.RowKit

section
variable {P : Program} {F : Fr} {s : AState} {ρ : Nat → Pl} {a : Act} {w : World} {Z : Nat → Prop}

/-- w' has the cells of w in the blocks that Z tells -/
def Agr (Z : Nat → Prop) (w w' : World) : Prop := ∀ p c, Z p.block → w.cell? p = some c → w'.cell? p = some c

/-- a row of cells that reads as a list -/
def Reads (w : World) (Y : Nat → Prop) (ρ : Nat → Pl) (ob : Objs) (b base : Nat) (xs : List V) : Prop :=
  ∃ cs : Nat → Value, ∀ i (h : i < xs.length), w.cell? ⟨b, base + i, none⟩ = some (cs i) ∧ RepC w Y ρ ob (cs i) xs[i]

theorem agr_below {w w' : World} (hb : Below w.heap.size w w') : Agr Z w w' := fun p _ _ h => (hb.cell (World.block_lt_of_cell? w p h)).trans h

/-- what a quiet step gives -/
def Gives (P : Program) (F : Fr) (s : AState) (ρ : Nat → Pl) (w : World) (Z : Nat → Prop) (m : Sem Value) (K : V → Prop) : Prop :=
  ∃ x v, K x ∧ RepC w (F.Y ρ s.ob) ρ s.ob v x ∧ ∀ w', Agr Z w w' → m.run P w' = .ok v w'

theorem Reads.part {Y : Nat → Prop} {ob : Objs} {b base : Nat} {xs : List V} (h : Reads w Y ρ ob b base xs) {t : TypeId} (ht : (ti P t).ok = true) {off : Nat} {K : V → Prop}
    (hv : vPart (ti P t).desc.agg (ti P t).size xs off K) (hZ : xs ≠ [] → Z b) :
    ∃ x v, K x ∧ RepC w Y ρ ob v x ∧ ∀ w', Agr Z w w' → (loadVar t ⟨b, base + off, none⟩).run P w' = .ok v w' := by
  obtain ⟨cs, hcs⟩ := h
  unfold vPart at hv
  cases hagg : (ti P t).desc.agg with
  | true =>
    rw [hagg] at hv
    obtain ⟨hfit, hk⟩ := hv
    refine ⟨_, .agg ((List.range (ti P t).size).map fun i => cs (off + i)).toArray, hk, .agg (by simp; omega) (fun i hi => ?_), fun w' hb => ?_⟩
    · have hi' : i < (ti P t).size := by simp at hi; omega
      have := (hcs (off + i) (by omega)).2
      simpa [Array.getD, hi'] using this
    · have hl := run_loadCells (P := P) w' ⟨b, base + off, none⟩ (ti P t).size (fun i => cs (off + i)) (fun j hj => by
        rw [Addr.add_lit]
        have := hb _ _ (hZ (fun e => by rw [e] at hfit; simp at hfit; omega)) (hcs (off + j) (by omega)).1
        rwa [show base + off + j = base + (off + j) from by omega])
      simp only [loadVar, Sem.run_bind, run_isAgg_ti ht, Result.andThen_ok, hagg, if_true, run_sizeOf_ti ht, hl, Sem.run_pure]
  | false =>
    rw [hagg] at hv
    unfold vAt at hv
    cases hx : xs[off]? with
    | none => simp [hx] at hv
    | some x =>
      simp only [hx] at hv
      obtain ⟨hlt, he⟩ := List.getElem?_eq_some_iff.1 hx
      obtain ⟨h1, h2⟩ := hcs off hlt
      rw [he] at h2
      refine ⟨x, cs off, hv, h2, fun w' hb => ?_⟩
      simp only [loadVar, Sem.run_bind, run_isAgg_ti ht, Result.andThen_ok, hagg, Bool.false_eq_true, if_false, run_load, hb _ _ (hZ (fun e => by rw [e] at hlt; simp at hlt)) h1]

theorem Sat.obReads (h : Sat F s ρ a w) {l : Nat} {o : Ob} (ho : Live s.ob l o) : Reads w (F.Y ρ s.ob) ρ s.ob (ρ l).blk (ρ l).base o.cells := by
  have hc := (h.heap.obj l o ho).cell
  refine ⟨fun i => (w.cell? ⟨(ρ l).blk, (ρ l).base + i, none⟩).getD undef, fun i hi => ?_⟩
  obtain ⟨c, h1, h2, _⟩ := hc i hi
  simp only [h1, Option.getD_some, true_and]
  exact h2

theorem vObj_live {ob : Objs} {l : Nat} {K : Ob → Prop} (h : vObj ob l K) : ∃ o, Live ob l o ∧ K o := by
  unfold vObj at h
  unfold Live
  cases hx : ob[l]? with
  | none => simp [hx] at h
  | some x => cases x with
    | none => simp [hx] at h
    | some o => simp only [hx] at h; exact ⟨o, rfl, h⟩

theorem sound_load (h : Sat F s ρ a w) (t : TypeId) (x : Operand) (K : V → Prop) (hv : vLoad (ti P t) (s.ev x) s.ob K)
    (hZ : ∀ b, ¬ F.Y ρ s.ob b → Z b) (hZl : ∀ l off o, s.ev x = .ptr l off → Live s.ob l o → Z (ρ l).blk) : Gives P F s ρ w Z (Instr.loadAt t (a.eval x)) K := by
  have hr := h.ev x
  generalize s.ev x = X at *
  generalize a.eval x = v at *
  unfold vLoad at hv
  cases hr with
  | d hd =>
    cases hd with
    | @ip b o off xs cs h1 h2 h3 =>
      obtain ⟨hok, hv⟩ := hv
      obtain ⟨x, v, hk, hr, hrun⟩ := Reads.part (P := P) (w := w) (ρ := ρ) (Y := F.Y ρ s.ob) (ob := s.ob) ⟨cs, fun i hi => ⟨h1 i hi, .d (h2 i hi)⟩⟩ hok hv (fun hne => hZ _ (h3 hne))
      exact ⟨x, v, hk, hr, fun w' hb => by simpa [Instr.loadAt, Instr.sureAddr] using hrun w' hb⟩
    | _ => exact hv.elim
  | @ptr l off o ho =>
    obtain ⟨hok, hv⟩ := hv
    obtain ⟨o2, ho2, hv⟩ := vObj_live hv
    obtain ⟨x, v, hk, hr, hrun⟩ := Reads.part (P := P) (h.obReads ho2) hok hv (fun _ => hZl l off o2 rfl ho2)
    exact ⟨x, v, hk, hr, fun w' hb => by simpa [Instr.loadAt, Instr.sureAddr] using hrun w' hb⟩
  | _ => exact hv.elim

theorem run_fieldAt_ti {d : AD} {t : TypeId} (hd : (ti P t).desc = d) {fs : List (Nat × TypeId)} (hs : d = .struct fs) {f o : Nat} {u : TypeId} (hf : fs[f]? = some (o, u)) (hok : (ti P u).ok = true)
    (hne : (ti P u).size ≠ 0) (b p : Nat) (w' : World) : (Instr.fieldAt t (.pointer (some ⟨b, p, none⟩)) f).run P w' = .ok (.pointer (some ⟨b, p + o, none⟩)) w' := by
  subst hs
  obtain ⟨fields, hu, rfl⟩ := ti_struct hd
  rw [List.getElem?_map] at hf
  cases hx : fields.toList[f]? with
  | none => simp [hx] at hf
  | some fd =>
    simp [hx] at hf
    obtain ⟨rfl, rfl⟩ := hf
    have hx2 : fields[f]? = some fd := by simpa using hx
    simp [Instr.fieldAt, run_underlying hu, hx2, Instr.sureAddr, fieldPlace, run_sizeOf_ti hok, hne, Addr.add_lit]

theorem sound_fieldAddr (h : Sat F s ρ a w) (t : TypeId) (x : Operand) (f : Nat) (K : V → Prop) (hv : vFieldAddr P (ti P t).desc (s.ev x) f K) :
    Gives P F s ρ w Z (Instr.fieldAt t (a.eval x) f) K := by
  have hr := h.ev x
  generalize s.ev x = X at *
  generalize a.eval x = v at *
  unfold vFieldAddr at hv
  split at hv
  case h_2 => exact hv.elim
  rename_i fs hd
  split at hv
  case h_2 => exact hv.elim
  rename_i o u hf
  obtain ⟨⟨hok, hne⟩, hv⟩ := hv
  cases hr with
  | d hd' =>
    cases hd' with
    | @ip b o' off xs cs h1 h2 h3 =>
      refine ⟨_, _, hv, .d (.ip cs h1 h2 h3), fun w' hb => ?_⟩
      rw [run_fieldAt_ti hd rfl hf hok hne]
      rw [Nat.add_assoc]
    | _ => exact hv.elim
  | @ptr l off ob ho =>
    refine ⟨_, _, hv, .ptr ho, fun w' hb => ?_⟩
    rw [run_fieldAt_ti hd rfl hf hok hne, Nat.add_assoc]
  | _ => exact hv.elim

theorem sound_idxAddr (h : Sat F s ρ a w) (t : TypeId) (x i : Operand) (K : V → Prop) (hv : vIdxAddr P (ti P t).desc (s.ev x) (s.ev i) K) :
    Gives P F s ρ w Z (Instr.indexAt t (a.eval x) (a.eval i)) K := by
  have hr := h.ev x
  have hi := h.ev i
  generalize s.ev x = X at *
  generalize a.eval x = v at *
  generalize s.ev i = I at *
  generalize a.eval i = iv at *
  unfold vIdxAddr at hv
  split at hv
  case h_3 => exact hv.elim
  case h_1 e k n hd =>
    have hiv : iv = .int k n := by cases hi with | d hi => cases hi; rfl
    subst hiv
    have hu := ti_slice hd
    cases hr with
    | d hr =>
      cases hr with
      | nil =>
        obtain ⟨⟨_, h0, hn⟩, _⟩ := hv
        omega
      | sl0 =>
        obtain ⟨⟨_, h0, hn⟩, _⟩ := hv
        omega
      | @sl b o len cap xs cs h1 h2 h3 h4 =>
        obtain ⟨⟨hok, h0, hn⟩, hv⟩ := hv
        refine ⟨_, .pointer (some ⟨b, o + n.toNat * (ti P e).size, none⟩), hv, .d (.ip cs h1 h2 h3), fun w' hb => ?_⟩
        simp [Instr.indexAt, run_underlying hu, asIntOf, h0, hn, run_sizeOf_ti hok, Addr.add_lit]
      | _ => exact hv.elim
    | @ref l off len cap o ho h1 h2 h3 =>
      obtain ⟨⟨hok, h0, hn⟩, hv⟩ := hv
      refine ⟨_, .pointer (some ⟨(ρ l).blk, (ρ l).base + (off + n.toNat * (ti P e).size), none⟩), hv, .ptr ho, fun w' hb => ?_⟩
      simp [Instr.indexAt, run_underlying hu, asIntOf, h0, hn, run_sizeOf_ti hok, Addr.add_lit, Nat.add_assoc]
    | @ref0 l off o p ho =>
      obtain ⟨⟨_, h0, hn⟩, _⟩ := hv
      omega
    | _ => exact hv.elim
  case h_2 m e k n hd =>
    have hiv : iv = .int k n := by cases hi with | d hi => cases hi; rfl
    subst hiv
    have hu := ti_array hd
    cases hr with
    | d hr =>
      cases hr with
      | @ip b o off xs cs h1 h2 h3 =>
        obtain ⟨⟨hok, h0, hn⟩, hv⟩ := hv
        refine ⟨_, .pointer (some ⟨b, o + (off + n.toNat * (ti P e).size), none⟩), hv, .d (.ip cs h1 h2 h3), fun w' hb => ?_⟩
        simp [Instr.indexAt, run_underlying hu, asIntOf, Instr.sureAddr, h0, hn, run_sizeOf_ti hok, Addr.add_lit, Nat.add_assoc]
      | _ => exact hv.elim
    | @ptr l off o ho =>
      obtain ⟨⟨hok, h0, hn⟩, hv⟩ := hv
      refine ⟨_, .pointer (some ⟨(ρ l).blk, (ρ l).base + (off + n.toNat * (ti P e).size), none⟩), hv, .ptr ho, fun w' hb => ?_⟩
      simp [Instr.indexAt, run_underlying hu, asIntOf, Instr.sureAddr, h0, hn, run_sizeOf_ti hok, Addr.add_lit, Nat.add_assoc]
    | _ => exact hv.elim

theorem sound_idx (h : Sat F s ρ a w) (t : TypeId) (x i : Operand) (K : V → Prop) (hv : vIdx P (ti P t).desc (s.ev x) (s.ev i) K) :
    Gives P F s ρ w Z (Instr.index t (a.eval x) (a.eval i)) K := by
  have hr := h.ev x
  have hi := h.ev i
  generalize s.ev x = X at *
  generalize a.eval x = v at *
  generalize s.ev i = I at *
  generalize a.eval i = iv at *
  unfold vIdx at hv
  split at hv
  case h_2 => exact hv.elim
  rename_i str k n hd
  have hiv : iv = .int k n := by cases hi with | d hi => cases hi; rfl
  have hxv : v = .string str := by cases hr with | d hi => cases hi; rfl
  subst hiv hxv
  obtain ⟨⟨h0, hn⟩, hv⟩ := hv
  refine ⟨_, _, hv, .d (.sc _), fun w' hb => ?_⟩
  have hlt : n.toNat < str.size := by omega
  have hg : str[n.toNat]? = some str[n.toNat] := by rw [getElem?_pos]
  have hb2 : byteAt str n.toNat = ((str[n.toNat]).toNat : Int) := by
    unfold byteAt
    have h1 : n.toNat < str.data.toList.length := by simpa using hlt
    rw [List.getD_eq_getElem?_getD, List.getElem?_eq_getElem h1]
    rfl
  simp only [Instr.index, asIntOf, Sem.run_bind, Sem.run_pure, Result.andThen_ok, run_underlying (ti_string hd), h0, if_true, hg, hb2]

theorem sound_bounds {v : Option Value} {X : Option V} (hx : (v = none ∧ X = none) ∨ ∃ u y, v = some u ∧ X = some y ∧ RepC w (F.Y ρ s.ob) ρ s.ob u y) {dflt : Int} {K : Int → Prop} (h : boundV X dflt K) :
    ∃ n, K n ∧ ((v = none ∧ n = dflt) ∨ ∃ k, v = some (.int k n)) := by
  rcases hx with ⟨rfl, rfl⟩ | ⟨u, y, rfl, rfl, hr⟩
  · exact ⟨dflt, h, .inl ⟨rfl, rfl⟩⟩
  · unfold boundV at h
    cases hr with
    | d hr =>
      cases hr with
      | sc => cases u <;> first | exact h.elim | exact ⟨_, h, .inr ⟨_, rfl⟩⟩
      | _ => exact h.elim
    | _ => exact h.elim

theorem opt_ev (h : Sat F s ρ a w) (x : Option Operand) : (x.map a.eval = none ∧ x.map s.ev = none) ∨ ∃ u y, x.map a.eval = some u ∧ x.map s.ev = some y ∧ RepC w (F.Y ρ s.ob) ρ s.ob u y := by
  cases x with
  | none => exact .inl ⟨rfl, rfl⟩
  | some x => exact .inr ⟨_, _, rfl, rfl, h.ev x⟩

theorem run_bounds2 (lo hi : Option Value) (sl : Bool) (len cap : Nat) (l h : Int) (hl : (lo = none ∧ l = 0) ∨ ∃ k, lo = some (.int k l)) (hh : (hi = none ∧ h = len) ∨ ∃ k, hi = some (.int k h))
    (h0 : 0 ≤ l) (h1 : l ≤ h) (h2 : h ≤ len) (hc : len ≤ cap) (w' : World) : (Instr.sliceBounds sl len cap lo hi none).run P w' = .ok (l.toNat, h.toNat, cap) w' := by
  have hhi : h.toNat ≤ cap := by omega
  have e1 : 0 ≤ h ∧ h ≤ (cap : Int) := ⟨by omega, by omega⟩
  have e2 : 0 ≤ l ∧ l ≤ (h.toNat : Int) := ⟨h0, by omega⟩
  rcases hl with ⟨rfl, rfl⟩ | ⟨kl, rfl⟩ <;> rcases hh with ⟨rfl, rfl⟩ | ⟨kh, rfl⟩
  · simp [Instr.sliceBounds]
  · simp only [Instr.sliceBounds, Sem.run_bind, Sem.run_pure, Result.andThen_ok, Instr.sliceBound, asIntOf, e1, and_self, if_true]
    rfl
  · simp only [Instr.sliceBounds, Sem.run_bind, Sem.run_pure, Result.andThen_ok, Instr.sliceBound, asIntOf]
    rw [if_pos (show 0 ≤ l ∧ l ≤ (len : Int) from ⟨h0, by omega⟩)]
    simp
  · simp only [Instr.sliceBounds, Sem.run_bind, Sem.run_pure, Result.andThen_ok, Instr.sliceBound, asIntOf, e1, and_self, if_true, e2]

theorem sound_slice (h : Sat F s ρ a w) (t : TypeId) (x : Operand) (lo hi : Option Operand) (K : V → Prop) (hv : vSlice P s.ob (ti P t).desc (s.ev x) (lo.map s.ev) (hi.map s.ev) K) :
    Gives P F s ρ w Z (Instr.sliceAt t (a.eval x) (lo.map a.eval) (hi.map a.eval) none) K := by
  have hr := h.ev x
  have hlo := opt_ev h lo
  have hhi := opt_ev h hi
  generalize s.ev x = X at *
  generalize a.eval x = v at *
  generalize lo.map s.ev = LO at *
  generalize lo.map a.eval = lov at *
  generalize hi.map s.ev = HI at *
  generalize hi.map a.eval = hiv at *
  unfold vSlice at hv
  split at hv
  case h_3 => exact hv.elim
  case h_1 e hd =>
    have hu := ti_slice hd
    cases hr with
    | d hr =>
      cases hr with
      | nil =>
        obtain ⟨l, hv, hl⟩ := sound_bounds hlo hv
        obtain ⟨hh, hv, hl2⟩ := sound_bounds hhi hv
        obtain ⟨⟨hok, h0, h1, h2⟩, hv⟩ := hv
        have e1 : l = 0 := by omega
        have e2 : hh = 0 := by omega
        subst e1 e2
        refine ⟨_, .slice none 0 0, hv, ?_, fun w' hb => ?_⟩
        · simp only [Int.sub_self, Int.toNat_zero, Nat.zero_mul, List.take_zero]; exact .d .nil
        · simp [Instr.sliceAt, Instr.slice, run_underlying hu, run_bounds2 (P := P) lov hiv true 0 0 0 0 hl hl2 (by omega) (by omega) (by omega) (by omega), run_sizeOf_ti hok]
      | sl0 ad =>
        obtain ⟨l, hv, hl⟩ := sound_bounds hlo hv
        obtain ⟨hh, hv, hl2⟩ := sound_bounds hhi hv
        obtain ⟨⟨hok, h0, h1, h2⟩, hv⟩ := hv
        have e1 : l = 0 := by omega
        have e2 : hh = 0 := by omega
        subst e1 e2
        refine ⟨_, .slice (some ad) 0 0, hv, ?_, fun w' hb => ?_⟩
        · simp only [Int.sub_self, Int.toNat_zero, Nat.zero_mul, List.take_zero]; exact .d (.sl0 ad)
        · simp [Instr.sliceAt, Instr.slice, run_underlying hu, run_bounds2 (P := P) lov hiv true 0 0 0 0 hl hl2 (by omega) (by omega) (by omega) (by omega), run_sizeOf_ti hok]
      | @sl b o len cap xs cs h1' h2' h3' h4' =>
        obtain ⟨l, hv, hl⟩ := sound_bounds hlo hv
        obtain ⟨hh, hv, hl2⟩ := sound_bounds hhi hv
        obtain ⟨⟨hok, h0, h1, h2⟩, hv⟩ := hv
        have hrun : ∀ w', (Instr.sliceAt t (.slice (some ⟨b, o, none⟩) len cap) lov hiv none).run P w' = .ok (.slice (some (if cap = l.toNat then ⟨b, o, none⟩ else ⟨b, o + l.toNat * (ti P e).size, none⟩)) (hh.toNat - l.toNat) (cap - l.toNat)) w' := by
          intro w'
          simp only [Instr.sliceAt, Instr.slice, Sem.run_bind, Sem.run_pure, run_underlying hu, run_bounds2 (P := P) lov hiv true len cap l hh hl hl2 h0 h1 h2 h4', run_sizeOf_ti hok, Addr.add_lit, Result.andThen_ok, Option.map_some]
          split <;> rfl
        refine ⟨_, _, hv, ?_, fun w' hb => hrun w'⟩
        have e1 : (hh - l).toNat = hh.toNat - l.toNat := by omega
        rw [e1]
        split
        · rename_i hcap
          have e0 : hh.toNat - l.toNat = 0 := by omega
          rw [e0]
          simp only [Nat.zero_mul, List.take_zero]
          exact .d (.sl (fun _ => undef) (fun i hi => absurd hi (by simp)) (fun i hi => absurd hi (by simp)) (fun h => absurd rfl h) (by omega))
        · refine .d (.sl (fun i => cs (l.toNat * (ti P e).size + i)) (fun i hi => ?_) (fun i hi => ?_) (fun hne => h3' (fun e => hne (by simp [e]))) (by omega))
          · have hi2 : l.toNat * (ti P e).size + i < xs.length := by simp at hi; omega
            rw [← h1' _ hi2, Nat.add_assoc]
          · have hi2 : l.toNat * (ti P e).size + i < xs.length := by simp at hi; omega
            simpa using h2' _ hi2
      | _ => exact hv.elim
    | @ref o off len cap obj ho h1' h2' h3' =>
      obtain ⟨l, hv, hl⟩ := sound_bounds hlo hv
      obtain ⟨hh, hv, hl2⟩ := sound_bounds hhi hv
      obtain ⟨⟨hok, h0, h1, h2⟩, hsz⟩ := hv
      have hrun : ∀ w', (Instr.sliceAt t (.slice (some ⟨(ρ o).blk, (ρ o).base + off, none⟩) len cap) lov hiv none).run P w' = .ok (.slice (some (if cap = l.toNat then ⟨(ρ o).blk, (ρ o).base + off, none⟩ else ⟨(ρ o).blk, (ρ o).base + off + l.toNat * (ti P e).size, none⟩)) (hh.toNat - l.toNat) (cap - l.toNat)) w' := by
        intro w'
        simp only [Instr.sliceAt, Instr.slice, Sem.run_bind, Sem.run_pure, run_underlying hu, run_bounds2 (P := P) lov hiv true len cap l hh hl hl2 h0 h1 h2 h1', run_sizeOf_ti hok, Addr.add_lit, Result.andThen_ok, Option.map_some]
        split <;> rfl
      obtain ⟨o2, ho2, hsz, hv⟩ := vObj_live hsz
      refine ⟨_, _, hv, ?_, fun w' hb => hrun w'⟩
      have eo : o2 = obj := by unfold Live at ho ho2; rw [ho2] at ho; cases ho; rfl
      subst eo
      have e1 : (hh - l).toNat = hh.toNat - l.toNat := by omega
      rw [e1]
      split
      · rename_i hcap
        have e0 : hh.toNat - l.toNat = 0 := by omega
        have e00 : cap - l.toNat = 0 := by omega
        rw [e0, e00]
        exact .ref0 ho
      · rw [Nat.add_assoc]
        refine .ref ho (by omega) (by omega) ?_
        have hle : l.toNat ≤ cap := by omega
        have : (cap - l.toNat) * o2.esz + l.toNat * o2.esz = cap * o2.esz := by rw [← Nat.add_mul, Nat.sub_add_cancel hle]
        rw [← hsz]
        omega
    | @ref0 o off obj p ho =>
      obtain ⟨l, hv, hl⟩ := sound_bounds hlo hv
      obtain ⟨hh, hv, hl2⟩ := sound_bounds hhi hv
      obtain ⟨⟨hok, h0, h1, h2⟩, hsz⟩ := hv
      obtain ⟨o2, ho2, hsz, hv⟩ := vObj_live hsz
      have e1 : l = 0 := by omega
      have e2 : hh = 0 := by omega
      subst e1 e2
      refine ⟨_, .slice (some ⟨(ρ o).blk, p, none⟩) 0 0, hv, .ref0 ho, fun w' hb => ?_⟩
      simp [Instr.sliceAt, Instr.slice, run_underlying hu, run_bounds2 (P := P) lov hiv true 0 0 0 0 hl hl2 (by omega) (by omega) (by omega) (by omega), run_sizeOf_ti hok]
    | _ => exact hv.elim
  case h_2 hd =>
    have hu := ti_string hd
    cases hr with
    | d hr =>
      cases hr with
      | sc =>
        cases v with
        | string str =>
          obtain ⟨l, hv, hl⟩ := sound_bounds hlo hv
          obtain ⟨hh, hv, hl2⟩ := sound_bounds hhi hv
          obtain ⟨⟨h0, h1, h2⟩, hv⟩ := hv
          refine ⟨_, _, hv, .d (.sc _), fun w' hb => ?_⟩
          simp only [Instr.sliceAt, Instr.slice, Sem.run_bind, Sem.run_pure, run_underlying hu, run_bounds2 (P := P) lov hiv false str.size str.size l hh hl hl2 h0 h1 h2 (Nat.le_refl _), Result.andThen_ok, Option.isSome_none, Bool.false_eq_true, if_false]
        | _ => exact hv.elim
      | _ => exact hv.elim
    | _ => exact hv.elim

theorem sc_of {v : Value} {x : Value} {Y : Nat → Prop} {ob : Objs} (h : RepC w Y ρ ob v (.sc x)) : v = x := by
  cases h with | d h => cases h; rfl

theorem sbin_sound {d : AD} {t : TypeId} (hd : (ti P t).desc = d) {op : BinOp} {x y c : Value} (h : sbin d op x y = some c) (ox oy : Operand) (w' : World) :
    (do eqGuard op t ox oy x y; binOp op t x y : Sem Value).run P w' = .ok c w' := by
  have key : eqGuard op t ox oy x y = pure () ∧ (binOp op t x y).run P w' = .ok c w' := by
    unfold sbin at h
    split at h
    · split at h
      · cases h
      · rename_i hy
        cases h
        exact ⟨by simp only [go_sem], by simp [binOp, Op.shift, hy]⟩
    · split at h
      · cases h
      · rename_i hy
        cases h
        exact ⟨by simp only [go_sem], by simp [binOp, Op.shift, hy]⟩
    · split at h
      · cases h
      · rename_i hk
        have hk' := Classical.not_not.1 hk
        subst hk'
        refine ⟨by simp only [go_sem], ?_⟩
        split at h
        · cases h; simp only [go_sem, Sem.run_pure]
        · cases h; simp only [go_sem, Sem.run_pure]
        · cases h; simp only [go_sem, Sem.run_pure]
        · split at h
          · cases h
          · rename_i hy; cases h; simp only [go_sem, Sem.run_pure, hy, if_false]
        · split at h
          · cases h
          · rename_i hy; cases h; simp only [go_sem, Sem.run_pure, hy, if_false]
        · cases h; simp only [go_sem, Sem.run_pure]
        · cases h; simp only [go_sem, Sem.run_pure]
        · cases h; simp only [go_sem, Sem.run_pure]
        · cases h; simp only [go_sem, Sem.run_pure]
        · cases h; simp only [go_sem, Sem.run_pure]
        · cases h; simp only [go_sem, Sem.run_pure]
        · cases h; simp only [go_sem, Sem.run_pure]
        · cases h; simp only [go_sem, Sem.run_pure]
        · cases h; simp only [go_sem, Sem.run_pure]
        · cases h
    · split at h
      · rename_i x y hs
        cases h
        refine ⟨by simp only [go_sem], ?_⟩
        have : ¬ (9223372036854775807 < ((x.size : Int) + (y.size : Int))) := by omega
        simp [binOp, Op.stringOp, this]
      · cases h
    · cases h; exact ⟨by simp only [go_sem], by simp only [go_sem, Sem.run_pure]⟩
    · cases h; exact ⟨by simp only [go_sem], by simp only [go_sem, Sem.run_pure]⟩
    · cases h; exact ⟨by simp only [go_sem], by simp only [go_sem, Sem.run_pure]⟩
    · cases h; exact ⟨by simp only [go_sem], by simp only [go_sem, Sem.run_pure]⟩
    · cases h; exact ⟨by simp only [go_sem], by simp only [go_sem, Sem.run_pure]⟩
    · cases h; exact ⟨by simp only [go_sem], by simp only [go_sem, Sem.run_pure]⟩
    · split at h
      · cases h
        refine ⟨by simp only [go_sem], ?_⟩
        exact run_eql_bool _ _ _ _ (ti_bool hd)
      · cases h
    · split at h
      · cases h
        refine ⟨by simp only [go_sem], ?_⟩
        exact run_neq_bool _ _ _ _ (ti_bool hd)
      · cases h
    · cases h
  simp [key.1, key.2]

theorem sound_bin (h : Sat F s ρ a w) (op : BinOp) (t : TypeId) (x y : Operand) (K : V → Prop) (hv : vBin (ti P t).desc op (s.ev x) (s.ev y) K) :
    Gives P F s ρ w Z (do eqGuard op t x y (a.eval x) (a.eval y); binOp op t (a.eval x) (a.eval y)) K := by
  have hx := h.ev x
  have hy := h.ev y
  unfold vBin at hv
  split at hv
  case h_2 => exact hv.elim
  rename_i u v e1 e2
  rw [e1] at hx
  rw [e2] at hy
  rw [sc_of hx, sc_of hy]
  split at hv
  case h_2 => exact hv.elim
  rename_i c hc
  exact ⟨_, c, hv, .d (.sc c), fun w' _ => sbin_sound rfl hc x y w'⟩

end
end Go.AG
