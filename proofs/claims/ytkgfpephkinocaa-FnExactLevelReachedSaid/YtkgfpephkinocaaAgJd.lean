/-
  AG, part Jd: what is kept of a state, in new numbers: the objects of a result; the objects of some slots. Conditions: none.
-/
import Derived.Test.YtkgfpephkinocaaAgJc
set_option linter.unusedSimpArgs false
set_option linter.unusedVariables false
namespace Go.AG
open Go.RowKit

/-- the objects of a result, the in-out ones apart -/
def rls (k : Nat) (r : V) : List Nat := r.refs.filter fun l => Nat.ble k l

def rnm (k : Nat) (ls : List Nat) (l : Nat) : Nat := bif Nat.blt l k then l else k + ls.idxOf l

def vRet (k : Nat) (ob : Objs) (r : V) (Q : V → Objs → Prop) : Prop :=
  nodupB (rls k r) = true ∧ immO (ob.take k) = true ∧ liveImm ob (rls k r) = true ∧ Q (r.ren (rnm k (rls k r))) (ob.take k ++ (rls k r).map (obAt ob))

section
variable {P : Program} {F : Fr} {s : AState} {ρ : Nat → Pl} {a : Act} {w : World}

/-- what a function hands back, in its caller's numbers -/
theorem Sat.ret (h : Sat F s ρ a w) {r : V} {v : Value} (hr : RepC w (F.Y ρ s.ob) ρ s.ob v r) {Q : V → Objs → Prop} (hv : vRet s.k s.ob r Q) :
    ∃ r' ob' ρ', Q r' ob' ∧ immO ob' = true ∧ HOk F w ρ' ob' ∧ RepC w (F.Y ρ' ob') ρ' ob' v r' := by
  obtain ⟨hnd, him, hli, hQ⟩ := hv
  generalize hls : rls s.k r = ls at *
  have hk : s.k ≤ s.ob.length := by rw [h.k]; exact h.kle
  let ρ' : Nat → Pl := fun i => if i < s.k then ρ i else ρ (ls.getD (i - s.k) 0)
  have htl : (s.ob.take s.k).length = s.k := by simp; omega
  have hlive : ∀ {i o}, Live (s.ob.take s.k ++ ls.map (obAt s.ob)) i o → (i < s.k ∧ Live s.ob i o) ∨ (s.k ≤ i ∧ ∃ hi : i - s.k < ls.length, Live s.ob ls[i - s.k] o) := by
    intro i o ho
    rcases live_app.1 ho with ho | ⟨hle, ho⟩
    · have hi := live_lt ho
      rw [htl] at hi
      refine .inl ⟨hi, ?_⟩
      unfold Live at ho ⊢
      rwa [List.getElem?_take, if_pos hi] at ho
    · rw [htl] at hle ho
      have hi := live_lt ho
      simp at hi
      refine .inr ⟨hle, hi, ?_⟩
      obtain ⟨o2, h1, h2, _⟩ := liveImm_mem hli (List.getElem_mem hi)
      unfold Live at ho
      simp [hi, h2] at ho
      subst ho
      exact h1
  have hplace : ∀ {i o}, Live (s.ob.take s.k ++ ls.map (obAt s.ob)) i o → ∃ j, Live s.ob j o ∧ ρ' i = ρ j ∧ ((i < s.k ∧ j = i) ∨ (s.k ≤ i ∧ ∃ hi : i - s.k < ls.length, j = ls[i - s.k])) := by
    intro i o ho
    rcases hlive ho with ⟨hi, ho⟩ | ⟨hle, hi, ho⟩
    · exact ⟨i, ho, if_pos hi, .inl ⟨hi, rfl⟩⟩
    · refine ⟨_, ho, ?_, .inr ⟨hle, hi, rfl⟩⟩
      show (if i < s.k then ρ i else ρ (ls.getD (i - s.k) 0)) = _
      rw [if_neg (by omega)]
      simp [List.getD, hi]
  have hlsk : ∀ l ∈ ls, s.k ≤ l := by
    intro l hl
    rw [← hls] at hl
    simp only [rls, List.mem_filter] at hl
    exact Nat.le_of_ble_eq_true hl.2
  have hY : ∀ b, F.Y ρ' (s.ob.take s.k ++ ls.map (obAt s.ob)) b → F.Y ρ s.ob b := by
    rintro b (hx | ⟨i, o, ho, he⟩)
    · exact .inl hx
    · obtain ⟨j, h1, h2, _⟩ := hplace ho
      rw [h2] at he
      exact .inr ⟨j, o, h1, he⟩
  have hcimm : ∀ {i o}, Live (s.ob.take s.k ++ ls.map (obAt s.ob)) i o → V.immL o.cells = true := by
    intro i o ho
    rcases live_app.1 ho with ho | ⟨hle, ho⟩
    · exact immO_live him ho
    · have hi := live_lt ho
      simp at hi
      obtain ⟨o2, h1, h2, h3⟩ := liveImm_mem hli (List.getElem_mem hi)
      unfold Live at ho
      simp [hi, h2] at ho
      subst ho
      exact h3
  refine ⟨_, _, ρ', hQ, immO_of fun i o ho => hcimm ho, ?_, ?_⟩
  · refine { os := h.heap.os, tape := h.heap.tape, output := h.heap.output, size := h.heap.size, frame := h.heap.frame, xlt := h.heap.xlt, obj := fun i o ho => ?_, fresh := fun i o ho => ?_, inj := fun i i' o o' ho ho' he => ?_, stay := fun i o hik ho => ?_ }
    · obtain ⟨j, h1, h2, _⟩ := hplace ho
      obtain ⟨hrow, hfit, hcell⟩ := h.heap.obj j o h1
      rw [h2]
      refine ⟨hrow, hfit, fun q hq => ?_⟩
      obtain ⟨c, g1, g2, g3⟩ := hcell q hq
      exact ⟨c, g1, .d ((g2.toD ((immL_iff _).1 (hcimm ho) q hq)).mono (fun _ _ _ h => h) (fun b _ hb => hY b hb)), g3⟩
    · obtain ⟨j, h1, h2, h3⟩ := hplace ho
      rw [h2]
      rcases h3 with ⟨hi, rfl⟩ | ⟨hle, hi, rfl⟩
      · exact h.heap.fresh _ o h1
      · rcases h.heap.fresh _ o h1 with ⟨_, h4⟩ | h4
        · have := hlsk _ (List.getElem_mem hi)
          have := h.k; omega
        · exact .inr h4
    · obtain ⟨j, h1, h2, h3⟩ := hplace ho
      obtain ⟨j', h1', h2', h3'⟩ := hplace ho'
      rw [h2, h2'] at he
      have hjj := h.heap.inj _ _ _ _ h1 h1' he
      rcases h3 with ⟨hi, rfl⟩ | ⟨hle, hi, rfl⟩ <;> rcases h3' with ⟨hi', rfl⟩ | ⟨hle', hi', rfl⟩
      · exact hjj
      · have := hlsk _ (List.getElem_mem hi'); omega
      · have := hlsk _ (List.getElem_mem hi); omega
      · have := nodupB_inj hnd hi hi' hjj; omega
    · rw [← h.k] at hik
      obtain ⟨j, h1, h2, h3⟩ := hplace ho
      rcases h3 with ⟨_, rfl⟩ | ⟨hle, _⟩
      · rw [h2]; exact h.heap.stay _ o (by rw [← h.k]; exact hik) h1
      · omega
  · refine hr.ren _ (fun b _ hb => hY b hb) (fun l hl o ho => ?_)
    by_cases hlk : l < s.k
    · have hg : rnm s.k ls l = l := by
        unfold rnm
        have : Nat.blt l s.k = true := by simp [Nat.blt, Nat.ble_eq]; omega
        simp [this]
      rw [hg]
      refine ⟨o, live_app.2 (.inl ?_), rfl, if_pos hlk⟩
      unfold Live at ho ⊢
      rw [List.getElem?_take, if_pos hlk]; exact ho
    · have hmem : l ∈ ls := by
        rw [← hls]
        simp only [rls, List.mem_filter]
        exact ⟨hl, Nat.ble_eq_true_of_le (by omega)⟩
      have hidx := List.idxOf_lt_length_iff.2 hmem
      have hget : ls[ls.idxOf l] = l := List.getElem_idxOf hidx
      have hg : rnm s.k ls l = s.k + ls.idxOf l := by
        unfold rnm
        have : Nat.blt l s.k = false := by
          cases hb : Nat.blt l s.k with
          | false => rfl
          | true => simp [Nat.blt, Nat.ble_eq] at hb; omega
        simp [this]
      rw [hg]
      obtain ⟨o2, h1, h2, _⟩ := liveImm_mem hli hmem
      have : o2 = o := by unfold Live at h1 ho; rw [ho] at h1; cases h1; rfl
      subst this
      refine ⟨o2, live_app.2 (.inr ⟨by rw [htl]; omega, ?_⟩), rfl, ?_⟩
      · rw [htl, Nat.add_sub_cancel_left]
        unfold Live
        simp [hidx, hget, h2]
      · show (if s.k + ls.idxOf l < s.k then _ else ρ (ls.getD (s.k + ls.idxOf l - s.k) 0)) = _
        rw [if_neg (by omega), Nat.add_sub_cancel_left]
        simp [List.getD, hidx, hget]


theorem lk_zip (xs : List V) (t : Nat) : ∀ (ts : List Nat) (xs : List V), ts.length = xs.length → lk t (ts.zip xs) = .junk ∨ ∃ i, ∃ h : i < ts.length, ∃ h' : i < xs.length, ts[i] = t ∧ lk t (ts.zip xs) = xs[i]
  | [], _, _ => .inl rfl
  | u :: ts, [], h => by cases h
  | u :: ts, x :: xs, h => by
    simp only [List.zip_cons_cons, lk]
    cases hb : Nat.beq u t with
    | true => exact .inr ⟨0, by simp, by simp, Nat.eq_of_beq_eq_true hb, rfl⟩
    | false =>
      rcases lk_zip xs t ts xs (by simpa using h) with h1 | ⟨i, h1, h2, h3, h4⟩
      · exact .inl h1
      · exact .inr ⟨i + 1, by simpa using h1, by simpa using h2, h3, h4⟩

/-- t is s, but for some slots and their objects forgotten, the objects in new numbers -/
def leP (s t : AState) : Prop := s.n = t.n ∧ s.k = t.k ∧ s.k ≤ s.ob.length ∧
  vRet s.k s.ob (.tup (t.sl.map fun q => s.get q.1)) fun r ob => ∃ xs, r = .tup xs ∧ leS ⟨s.n, s.k, (t.sl.map (·.1)).zip xs, ob⟩ t

theorem Sat.leP (h : Sat F s ρ a w) {t : AState} (hl : AG.leP s t) : ∃ ρ', Sat F t ρ' a w := by
  obtain ⟨hn, hk, hkl, hv⟩ := hl
  have hr : RepC w (F.Y ρ s.ob) ρ s.ob (.tuple ((t.sl.map fun q => a.tmps.getD q.1 undef).toArray)) (.tup (t.sl.map fun q => s.get q.1)) := by
    refine .tup (by simp) fun i hi => ?_
    have hi2 : i < t.sl.length := by simpa using hi
    have := h.slot (t.sl[i]).1
    simpa [Array.getD, hi2] using this
  have hlen : (s.ob.take s.k).length = s.k := by simp; omega
  obtain ⟨r', ob', ρ', ⟨⟨xs, rfl, hle⟩, hkb⟩, _, hh, hrep⟩ := h.ret hr (Q := fun r ob => (∃ xs, r = .tup xs ∧ leS ⟨s.n, s.k, (t.sl.map (·.1)).zip xs, ob⟩ t) ∧ s.k ≤ ob.length) ⟨hv.1, hv.2.1, hv.2.2.1, hv.2.2.2, by simp; omega⟩
  refine ⟨ρ', Sat.le (s := ⟨s.n, s.k, (t.sl.map (·.1)).zip xs, ob'⟩) ?_ hle⟩
  cases hrep with
  | d hd => cases hd
  | tup hs hx =>
    refine ⟨hh, h.dfs, h.size, h.k, by rw [← h.k]; exact hkb, fun u => ?_⟩
    have hl2 : (t.sl.map (·.1)).length = xs.length := by simpa using hs
    rcases lk_zip xs u (t.sl.map (·.1)) xs hl2 with h1 | ⟨i, h1, h2, h3, h4⟩
    · show RepC _ _ _ _ _ (lk u _)
      rw [h1]; exact .junk
    · show RepC _ _ _ _ _ (lk u _)
      rw [h4]
      have h1' : i < t.sl.length := by simpa using h1
      have := hx i h2
      have h3' : (t.sl[i]).1 = u := by simpa using h3
      simpa [Array.getD, h1', h3'] using this
end
end Go.AG
