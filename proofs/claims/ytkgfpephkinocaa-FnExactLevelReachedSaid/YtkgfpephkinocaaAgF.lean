/-
  AG, part F: every operation that only reads, in one theorem. Conditions: none.
-/
import Derived.Test.YtkgfpephkinocaaAgE
set_option linter.unusedSimpArgs false
set_option linter.unusedVariables false
namespace Go.AG
open Go.RowKit

section
variable {P : Program} {F : Fr} {s : AState} {ρ : Nat → Pl} {a : Act} {w : World} {Z : Nat → Prop}

theorem sound_un (h : Sat F s ρ a w) (op : UnOp) (x : Operand) (K : V → Prop) (hv : vUn op (s.ev x) K) : Gives P F s ρ w Z (Op.unary op (a.eval x)) K := by
  have hx := h.ev x
  unfold vUn at hv
  split at hv
  case h_3 => exact hv.elim
  · rename_i b e
    rw [e] at hx
    rw [sc_of hx]
    exact ⟨_, _, hv, .d (.sc _), fun w' _ => rfl⟩
  · rename_i k n e
    rw [e] at hx
    rw [sc_of hx]
    exact ⟨_, _, hv, .d (.sc _), fun w' _ => rfl⟩

theorem sound_conv (h : Sat F s ρ a w) (t u : TypeId) (x : Operand) (K : V → Prop) (hv : vConv (ti P t).desc (ti P u).desc (s.ev x) K) : Gives P F s ρ w Z (convert t u (a.eval x)) K := by
  have hx := h.ev x
  unfold vConv at hv
  split at hv
  case h_3 => exact hv.elim
  · rename_i e1 e2 e
    rw [e] at hx
    rw [sc_of hx]
    refine ⟨_, _, hv, .d (.sc _), fun w' _ => ?_⟩
    simp [convert, run_underlying (ti_int e1), run_underlying (ti_int e2), Conv.intToInt]
  · rename_i e1 e2 e
    rw [e] at hx
    rw [sc_of hx]
    refine ⟨_, _, hv, .d (.sc _), fun w' _ => ?_⟩
    simp [convert, run_underlying (ti_string e1), run_underlying (ti_string e2)]

theorem sound_len (h : Sat F s ρ a w) (t ty : TypeId) (x : Operand) (K : V → Prop) (hv : vLen (ti P t).desc (s.ev x) K) : Gives P F s ρ w Z (Builtin.len_ #[t] ty #[a.eval x]) K := by
  have hx := h.ev x
  generalize s.ev x = X at *
  generalize a.eval x = v at *
  unfold vLen at hv
  split at hv
  case h_4 => exact hv.elim
  · rename_i e hd
    have hu := ti_slice hd
    cases hx with
    | d hx =>
      cases hx with
      | nil => exact ⟨_, _, hv, .d (.sc _), fun w' _ => by simp [Builtin.len_, run_underlying hu, goInt]⟩
      | sl0 => exact ⟨_, _, hv, .d (.sc _), fun w' _ => by simp [Builtin.len_, run_underlying hu, goInt]⟩
      | sl cs h1 h2 h3 h4 => exact ⟨_, _, hv, .d (.sc _), fun w' _ => by simp [Builtin.len_, run_underlying hu, goInt]⟩
      | sc =>
        cases v <;> first | exact hv.elim | exact ⟨_, _, hv, .d (.sc _), fun w' _ => by simp [Builtin.len_, run_underlying hu, goInt]⟩
      | _ => exact hv.elim
    | ref ho h1 h2 h3 => exact ⟨_, _, hv, .d (.sc _), fun w' _ => by simp [Builtin.len_, run_underlying hu, goInt]⟩
    | ref0 ho => exact ⟨_, _, hv, .d (.sc _), fun w' _ => by simp [Builtin.len_, run_underlying hu, goInt]⟩
    | _ => exact hv.elim
  · rename_i hd
    have hu := ti_string hd
    cases hx with
    | d hx =>
      cases hx with
      | sc => cases v <;> first | exact hv.elim | exact ⟨_, _, hv, .d (.sc _), fun w' _ => by simp [Builtin.len_, run_underlying hu, goInt]⟩
      | _ => exact hv.elim
    | _ => exact hv.elim
  · rename_i n e hd
    have hu := ti_array hd
    exact ⟨_, _, hv, .d (.sc _), fun w' _ => by simp [Builtin.len_, run_underlying hu, goInt]⟩

theorem sound_pick (h : Sat F s ρ a w) (c x y : Operand) (K : V → Prop) (hv : vPick (s.ev c) (s.ev x) (s.ev y) K) :
    ∃ q v, K q ∧ RepC w (F.Y ρ s.ob) ρ s.ob v q ∧ ∀ w' : World, (do pure (Next.value (if ← asBool (a.eval c) then a.eval x else a.eval y)) : Sem Next).run P w' = .ok (.value v) w' := by
  have hc := h.ev c
  unfold vPick at hv
  split at hv
  case h_3 => exact hv.elim
  · rename_i e
    rw [e] at hc
    rw [sc_of hc]
    exact ⟨_, _, hv, h.ev x, fun w' => by simp [asBool]⟩
  · rename_i e
    rw [e] at hc
    rw [sc_of hc]
    exact ⟨_, _, hv, h.ev y, fun w' => by simp [asBool]⟩

theorem sound_extract (h : Sat F s ρ a w) (x : Operand) (i : Nat) (K : V → Prop) (hv : vExtract (s.ev x) i K) : Gives P F s ρ w Z (Instr.extract (a.eval x) i) K := by
  have hx := h.ev x
  generalize s.ev x = X at *
  generalize a.eval x = v at *
  unfold vExtract at hv
  cases hx with
  | @tup cs xs hs hr =>
    simp only [vAt] at hv
    cases hg : xs[i]? with
    | none => simp [hg] at hv
    | some q =>
      simp only [hg] at hv
      obtain ⟨hlt, he⟩ := List.getElem?_eq_some_iff.1 hg
      have hq := hr i hlt
      rw [he] at hq
      have hlt2 : i < cs.size := by omega
      refine ⟨q, cs.getD i undef, hv, hq, fun w' _ => ?_⟩
      obtain ⟨c, h5, h6⟩ : ∃ c, cs[i]? = some c ∧ cs.getD i undef = c := ⟨cs[i], by simp [hlt2], by simp [Array.getD, hlt2]⟩
      rw [h6]
      simp [Instr.extract, h5]
  | d hx => cases hx <;> exact hv.elim
  | _ => exact hv.elim

theorem sound_field (h : Sat F s ρ a w) (t : TypeId) (x : Operand) (f : Nat) (K : V → Prop) (hv : vField P (ti P t).desc (s.ev x) f K) : Gives P F s ρ w Z (Instr.field t (a.eval x) f) K := by
  have hx := h.ev x
  generalize s.ev x = X at *
  generalize a.eval x = v at *
  unfold vField at hv
  split at hv
  case h_2 => exact hv.elim
  rename_i fs xs hd
  split at hv
  case h_2 => exact hv.elim
  rename_i o u hf
  obtain ⟨hok, hv⟩ := hv
  obtain ⟨fields, hu, rfl⟩ := ti_struct hd
  rw [List.getElem?_map] at hf
  cases hx2 : fields.toList[f]? with
  | none => simp [hx2] at hf
  | some fd =>
    simp [hx2] at hf
    obtain ⟨rfl, rfl⟩ := hf
    have hx3 : fields[f]? = some fd := by simpa using hx2
    cases hx with
    | d hx => cases hx
    | @agg cs xs hs hr =>
      unfold vPart at hv
      cases hagg : (ti P fd.type).desc.agg with
      | true =>
        rw [hagg] at hv
        obtain ⟨hfit, hk⟩ := hv
        refine ⟨_, .agg (cs.extract fd.offset (fd.offset + (ti P fd.type).size)), hk, .agg (by simp; omega) (fun i hi => ?_), fun w' hb => ?_⟩
        · have hi' : i < (ti P fd.type).size := by simp at hi; omega
          have h1 := hr (fd.offset + i) (by omega)
          have h2 : (cs.extract fd.offset (fd.offset + (ti P fd.type).size)).getD i undef = cs.getD (fd.offset + i) undef := by
            have h3 : fd.offset + i < cs.size := by omega
            have h4 : i < min (fd.offset + (ti P fd.type).size) cs.size - fd.offset := by omega
            simp [Array.getD, h3, h4]
          rw [h2]
          simpa using h1
        · simp [Instr.field, run_underlying hu, hx3, asAgg, part, run_isAgg_ti hok, hagg, run_sizeOf_ti hok]
      | false =>
        rw [hagg] at hv
        simp only [vAt] at hv
        cases hg : xs[fd.offset]? with
        | none => simp [hg] at hv
        | some q =>
          simp only [hg] at hv
          obtain ⟨hlt, he⟩ := List.getElem?_eq_some_iff.1 hg
          have hq := hr _ hlt
          rw [he] at hq
          have hlt2 : fd.offset < cs.size := by omega
          refine ⟨q, _, hv, hq, fun w' hb => ?_⟩
          obtain ⟨c, h5, h6⟩ : ∃ c, cs[fd.offset]? = some c ∧ cs.getD fd.offset undef = c := ⟨cs[fd.offset], by simp [hlt2], by simp [Array.getD, hlt2]⟩
          rw [h6]
          simp [Instr.field, run_underlying hu, hx3, asAgg, part, run_isAgg_ti hok, hagg, h5]

theorem sound_fold (f : V → V → (V → Prop) → Prop) (m : Value → Value → Sem Value)
    (hf : ∀ (x y : V) (u v : Value) (K : V → Prop), RepC w (F.Y ρ s.ob) ρ s.ob u x → RepC w (F.Y ρ s.ob) ρ s.ob v y → f x y K → Gives P F s ρ w Z (m u v) K) :
    ∀ (ys : List V) (vs : List Value) (x : V) (u : Value) (K : V → Prop), RepC w (F.Y ρ s.ob) ρ s.ob u x → vs.length = ys.length → (∀ i (h : i < ys.length), RepC w (F.Y ρ s.ob) ρ s.ob (vs.getD i undef) ys[i]) →
      vFold f x ys K → Gives P F s ρ w Z (vs.foldlM m u) K
  | [], [], x, u, K, hu, _, _, hv => ⟨x, u, hv, hu, fun w' _ => by simp⟩
  | y :: ys, v :: vs, x, u, K, hu, hl, hr, hv => by
    obtain ⟨z, c, hz, hc, hrun⟩ := hf x y u v _ hu (hr 0 (by simp)) hv
    obtain ⟨q, e, hq, he, hrun2⟩ := sound_fold f m hf ys vs z c K hc (by simpa using hl) (fun i hi => hr (i + 1) (by simpa using hi)) hz
    exact ⟨q, e, hq, he, fun w' hb => by simp [List.foldlM_cons, hrun w' hb, hrun2 w' hb]⟩
  | [], _ :: _, _, _, _, _, hl, _, _ => by simp at hl
  | _ :: _, [], _, _, _, _, hl, _, _ => by simp at hl

theorem sound_min2 (x y : V) (u v : Value) (K : V → Prop) (hx : RepC w (F.Y ρ s.ob) ρ s.ob u x) (hy : RepC w (F.Y ρ s.ob) ρ s.ob v y) (hv : vMin2 x y K) : Gives P F s ρ w Z (Builtin.min2 u v) K := by
  unfold vMin2 at hv
  split at hv
  case h_2 => exact hv.elim
  rw [sc_of hx, sc_of hy]
  exact ⟨_, _, hv, .d (.sc _), fun w' _ => rfl⟩

theorem sound_max2 (x y : V) (u v : Value) (K : V → Prop) (hx : RepC w (F.Y ρ s.ob) ρ s.ob u x) (hy : RepC w (F.Y ρ s.ob) ρ s.ob v y) (hv : vMax2 x y K) : Gives P F s ρ w Z (Builtin.max2 u v) K := by
  unfold vMax2 at hv
  split at hv
  case h_2 => exact hv.elim
  rw [sc_of hx, sc_of hy]
  exact ⟨_, _, hv, .d (.sc _), fun w' _ => rfl⟩

/-- the object that an operation reads -/
def rdOf (s : AState) : Op → Option Nat
  | .load _ x => match s.ev x with
    | .ptr l _ => some l
    | _ => none
  | _ => none

theorem qop_soundZ (h : Sat F s ρ a w) (o : Oper) (K : V → Prop) (hq : qop P s o.op K) (hZ : ∀ b, ¬ F.Y ρ s.ob b → Z b) (hZl : ∀ l o', rdOf s o.op = some l → Live s.ob l o' → Z (ρ l).blk) :
    ∃ x v, K x ∧ RepC w (F.Y ρ s.ob) ρ s.ob v x ∧ ∀ w', Agr Z w w' → (execOp a.eval o).run P w' = .ok (.value v) w' := by
  have lift : ∀ {m : Sem Value}, Gives P F s ρ w Z m K → (execOp a.eval o = do pure (.value (← m))) →
      ∃ x v, K x ∧ RepC w (F.Y ρ s.ob) ρ s.ob v x ∧ ∀ w', Agr Z w w' → (execOp a.eval o).run P w' = .ok (.value v) w' := by
    rintro m ⟨x, v, hk, hr, hrun⟩ he
    exact ⟨x, v, hk, hr, fun w' hb => by rw [he]; simp [hrun w' hb]⟩
  unfold qop at hq
  split at hq
  case h_1 x e => exact ⟨_, _, hq, h.ev x, fun w' _ => by simp [execOp, e]⟩
  case h_2 x e => exact ⟨_, _, hq, h.ev x, fun w' _ => by simp [execOp, e]⟩
  case h_3 c x y e =>
    obtain ⟨q, v, hk, hr, hrun⟩ := sound_pick (P := P) h c x y K hq
    exact ⟨q, v, hk, hr, fun w' _ => by unfold execOp; simp only [e]; exact hrun w'⟩
  case h_4 t x e => exact lift (sound_load h t x K hq hZ (fun l off o' e2 => hZl l o' (by rw [e]; simp only [rdOf, e2]))) (by unfold execOp; simp only [e])
  case h_5 x e =>
    have hr := h.ev x
    unfold vNil at hq
    split at hq
    case h_4 => exact hq.elim
    · rename_i xs off e2
      refine ⟨_, a.eval x, hq, by rw [← e2]; exact hr, fun w' _ => ?_⟩
      rw [e2] at hr
      unfold execOp
      simp only [e]
      generalize a.eval x = v at hr ⊢
      cases hr with
      | d hr => cases hr with | ip => rfl
    · rename_i l off e2
      refine ⟨_, a.eval x, hq, by rw [← e2]; exact hr, fun w' _ => ?_⟩
      rw [e2] at hr
      unfold execOp
      simp only [e]
      generalize a.eval x = v at hr ⊢
      cases hr with
      | d hr => cases hr
      | ptr => rfl
    · rename_i f caps e2
      refine ⟨_, a.eval x, hq, by rw [← e2]; exact hr, fun w' _ => ?_⟩
      rw [e2] at hr
      unfold execOp
      simp only [e]
      generalize a.eval x = v at hr ⊢
      cases hr with
      | d hr => cases hr with | fn => rfl
      | fn => rfl
  case h_6 op t x y _ e => exact lift (sound_bin h op t x y K hq) (by unfold execOp; simp only [e])
  case h_7 op t x e => exact lift (sound_un h op x K hq) (by unfold execOp; simp only [e])
  case h_8 t u x e => exact lift (sound_conv h t u x K hq) (by unfold execOp; simp only [e])
  case h_9 t x f e => exact lift (sound_fieldAddr h t x f K hq) (by unfold execOp; simp only [e])
  case h_10 t x f e => exact lift (sound_field h t x f K hq) (by unfold execOp; simp only [e])
  case h_11 t x i e => exact lift (sound_idxAddr h t x i K hq) (by unfold execOp; simp only [e])
  case h_12 t x i e => exact lift (sound_idx h t x i K hq) (by unfold execOp; simp only [e])
  case h_13 t x lo hi e => exact lift (sound_slice h t x lo hi K hq) (by unfold execOp; simp only [e, Option.map_none])
  case h_14 x i e => exact lift (sound_extract h x i K hq) (by unfold execOp; simp only [e])
  case h_15 f first caps e =>
    obtain ⟨h0, hq⟩ := hq
    subst h0
    refine ⟨_, .func (.func f) #[] (caps.map a.eval), hq, .fn (by simp) (fun i hi => ?_), fun w' _ => by simp [execOp, e, Instr.makeFunc]⟩
    have hi' : i < caps.size := by simpa using hi
    have := h.ev caps[i]
    simpa [Array.getD, hi'] using this
  case h_16 args argTypes e =>
    split at hq
    case h_2 => exact hq.elim
    rename_i x t e1 e2
    have e1' : args = #[x] := by apply Array.ext'; simpa using e1
    have e2' : argTypes = #[t] := by apply Array.ext'; simpa using e2
    subst e1' e2'
    refine lift (sound_len h t o.type x K hq) ?_
    unfold execOp
    simp [e, resolve, invoke, builtin]
  case h_17 args argTypes e =>
    split at hq
    case h_2 => exact hq.elim
    rename_i x r e1
    have e1' : args = (x :: r).toArray := by apply Array.ext'; simpa using e1
    subst e1'
    have := sound_fold (P := P) (F := F) (s := s) (ρ := ρ) (w := w) (Z := Z) vMin2 Builtin.min2 (fun x y u v K h1 h2 h3 => sound_min2 x y u v K h1 h2 h3) (r.map s.ev) (r.map a.eval) (s.ev x) (a.eval x) K (h.ev x) (by simp)
      (fun i hi => by simp at hi; simpa [List.getD, hi] using h.ev r[i]) hq
    refine lift this ?_
    unfold execOp
    simp only [e, resolve, invoke, builtin, Builtin.min_]
    simp
  case h_18 args argTypes e =>
    split at hq
    case h_2 => exact hq.elim
    rename_i x r e1
    have e1' : args = (x :: r).toArray := by apply Array.ext'; simpa using e1
    subst e1'
    have := sound_fold (P := P) (F := F) (s := s) (ρ := ρ) (w := w) (Z := Z) vMax2 Builtin.max2 (fun x y u v K h1 h2 h3 => sound_max2 x y u v K h1 h2 h3) (r.map s.ev) (r.map a.eval) (s.ev x) (a.eval x) K (h.ev x) (by simp)
      (fun i hi => by simp at hi; simpa [List.getD, hi] using h.ev r[i]) hq
    refine lift this ?_
    unfold execOp
    simp only [e, resolve, invoke, builtin, Builtin.max_]
    simp
  case h_19 => exact hq.elim

theorem qop_sound (h : Sat F s ρ a w) (o : Oper) (K : V → Prop) (hq : qop P s o.op K) :
    ∃ x v, K x ∧ RepC w (F.Y ρ s.ob) ρ s.ob v x ∧ ∀ w', Below w.heap.size w w' → (execOp a.eval o).run P w' = .ok (.value v) w' := by
  obtain ⟨x, v, h1, h2, h3⟩ := qop_soundZ (Z := fun _ => True) h o K hq (fun _ _ => trivial) (fun _ _ _ _ => trivial)
  exact ⟨x, v, h1, h2, fun w' hb => h3 w' (agr_below hb)⟩

end
end Go.AG
