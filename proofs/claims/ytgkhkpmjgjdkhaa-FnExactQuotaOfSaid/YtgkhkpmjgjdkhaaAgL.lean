/-
  AG, part L: a function's contract out of the verification condition of its body. Conditions: none.
-/
import Derived.Test.YtgkhkpmjgjdkhaaAgK
set_option linter.unusedSimpArgs false
set_option linter.unusedVariables false
namespace Go.AG
open Go.RowKit

/-- the results of a function -/
def vRes (P : Program) (s : AState) : List ResultVar → (List V → Prop) → Prop
  | [], K => K []
  | .tmp t :: r, K => vRes P s r fun xs => K (s.get t :: xs)
  | .cell c t :: r, K => vLoad (ti P t) (s.get c) s.ob fun x => vRes P s r fun xs => K (x :: xs)

def oneOrTup : List V → V
  | [x] => x
  | xs => .tup xs

/-- the objects of a result, the in-out ones apart -/
def rls (k : Nat) (r : V) : List Nat := r.refs.filter fun l => Nat.ble k l

def rnm (k : Nat) (ls : List Nat) (l : Nat) : Nat := bif Nat.blt l k then l else k + ls.idxOf l

def vRet (k : Nat) (ob : Objs) (r : V) (Q : V → Objs → Prop) : Prop :=
  nodupB (rls k r) = true ∧ immO (ob.take k) = true ∧ liveImm ob (rls k r) = true ∧ Q (r.ren (rnm k (rls k r))) (ob.take k ++ (rls k r).map (obAt ob))

def retK (P : Program) (rs : List ResultVar) (Q : V → Objs → Prop) (s : AState) : Prop := ∃ s1, Frz s s1 ∧ vRes P s1 rs fun xs => vRet s1.k s1.ob (oneOrTup xs) Q

def retQ (P : Program) (rs : List ResultVar) (Q : V → Objs → Prop) : Exit → AState → Prop
  | .ret => retK P rs Q
  | .normal => retK P rs Q
  | _ => fun _ => False

def argSl (i : Nat) : List V → List (Nat × V)
  | [] => []
  | x :: r => (i, x) :: argSl (i + 1) r

theorem lk_argSl (xs : List V) (i t : Nat) : lk t (argSl i xs) = if i ≤ t then xs.getD (t - i) .junk else .junk := by
  induction xs generalizing i with
  | nil => simp [argSl, lk]
  | cons x r ih =>
    simp only [argSl, lk]
    by_cases h : i = t
    · subst h; simp
    · have : Nat.beq i t = false := by
        cases hb : Nat.beq i t with
        | false => rfl
        | true => exact absurd (Nat.eq_of_beq_eq_true hb) h
      rw [this, cond_false, ih]
      by_cases h2 : i + 1 ≤ t
      · rw [if_pos h2, if_pos (by omega), show t - i = (t - (i + 1)) + 1 from by omega, List.getD_cons_succ]
      · rw [if_neg h2, if_neg (by omega)]

section
variable {P : Program} {F : Fr} {s : AState} {ρ : Nat → Pl} {a : Act} {w : World}

theorem sound_vRes (h : Sat F s ρ a w) : ∀ (rs : List ResultVar) (K : List V → Prop), vRes P s rs K → ∃ xs vs, K xs ∧ vs.length = xs.length ∧ (∀ i (hi : i < xs.length), RepC w (F.Y ρ s.ob) ρ s.ob (vs.getD i undef) xs[i]) ∧
    ∀ f : ResultVar → Sem Value, (∀ t, f (.tmp t) = pure (a.tmps.getD t undef)) → (∀ c t, f (.cell c t) = do loadVar t (← asAddr (a.tmps.getD c undef))) → (rs.mapM f).run P w = .ok vs w
  | [], K, hv => ⟨[], [], hv, rfl, fun i hi => absurd hi (by simp), fun f _ _ => by simp⟩
  | .tmp t :: rs, K, hv => by
    obtain ⟨xs, vs, h1, h2, h3, h4⟩ := sound_vRes h rs _ hv
    refine ⟨_, a.tmps.getD t undef :: vs, h1, by simp [h2], fun i hi => ?_, fun f f1 f2 => ?_⟩
    · cases i with
      | zero => exact h.slot t
      | succ i => exact h3 i (by simpa using hi)
    · rw [List.mapM_cons, f1]
      simp only [Sem.run_bind, Sem.run_pure, Result.andThen_ok, h4 f f1 f2]
  | .cell c t :: rs, K, hv => by
    obtain ⟨x, v, hk, hr, hrun⟩ := sound_load (P := P) h t (.tmp c) _ hv
    obtain ⟨xs, vs, h1, h2, h3, h4⟩ := sound_vRes h rs _ hk
    refine ⟨_, v :: vs, h1, by simp [h2], fun i hi => ?_, fun f f1 f2 => ?_⟩
    · cases i with
      | zero => exact hr
      | succ i => exact h3 i (by simpa using hi)
    · rw [List.mapM_cons, f2]
      have h5 := hrun w (Below.refl _ _)
      have h6 : a.eval (.tmp c) = a.tmps.getD c undef := rfl
      rw [h6] at h5
      have h7 : (do loadVar t (← asAddr (a.tmps.getD c undef)) : Sem Value).run P w = .ok v w := by
        generalize a.tmps.getD c undef = q at h5 ⊢
        cases q with
        | pointer p => cases p with
          | some p => simpa [Instr.loadAt, Instr.sureAddr, asAddr] using h5
          | none => simp [Instr.loadAt, Instr.sureAddr] at h5
        | _ => simp [Instr.loadAt, Instr.sureAddr] at h5
      rw [Sem.run_bind, h7]
      simp only [Sem.run_bind, Sem.run_pure, Result.andThen_ok, h4 f f1 f2]

/-- what a function hands back, in its caller's numbers -/
theorem Sat.ret (h : Sat F s ρ a w) {r : V} {v : Value} (hr : RepC w (F.Y ρ s.ob) ρ s.ob v r) {Q : V → Objs → Prop} (hv : vRet s.k s.ob r Q) :
    ∃ r' ob' ρ', Q r' ob' ∧ immO ob' = true ∧ HOk F w ρ' ob' ∧ RepC w (F.Y ρ' ob') ρ' ob' v r' := by
  obtain ⟨hnd, him, hli, hQ⟩ := hv
  generalize hls : rls s.k r = ls at *
  have hk : s.k ≤ s.ob.length := by rw [h.k]; exact h.kle
  let ρ' : Nat → Pl := fun i => if i < s.k then ρ i else ρ (ls.getD (i - s.k) 0)
  have htl : (s.ob.take s.k).length = s.k := by simp; omega
  have hlive : ∀ {i o}, Live (s.ob.take s.k ++ ls.map (obAt s.ob)) i o → (i < s.k ∧ Live s.ob i o) ∨ (s.k ≤ i ∧ ∃ hi : i - s.k < ls.length, Live s.ob ls[i - s.k] o) := by
    intro i o ho
    rcases live_app.1 ho with ho | ⟨hle, ho⟩
    · have hi := live_lt ho
      rw [htl] at hi
      refine .inl ⟨hi, ?_⟩
      unfold Live at ho ⊢
      rwa [List.getElem?_take, if_pos hi] at ho
    · rw [htl] at hle ho
      have hi := live_lt ho
      simp at hi
      refine .inr ⟨hle, hi, ?_⟩
      obtain ⟨o2, h1, h2, _⟩ := liveImm_mem hli (List.getElem_mem hi)
      unfold Live at ho
      simp [hi, h2] at ho
      subst ho
      exact h1
  have hplace : ∀ {i o}, Live (s.ob.take s.k ++ ls.map (obAt s.ob)) i o → ∃ j, Live s.ob j o ∧ ρ' i = ρ j ∧ ((i < s.k ∧ j = i) ∨ (s.k ≤ i ∧ ∃ hi : i - s.k < ls.length, j = ls[i - s.k])) := by
    intro i o ho
    rcases hlive ho with ⟨hi, ho⟩ | ⟨hle, hi, ho⟩
    · exact ⟨i, ho, if_pos hi, .inl ⟨hi, rfl⟩⟩
    · refine ⟨_, ho, ?_, .inr ⟨hle, hi, rfl⟩⟩
      show (if i < s.k then ρ i else ρ (ls.getD (i - s.k) 0)) = _
      rw [if_neg (by omega)]
      simp [List.getD, hi]
  have hlsk : ∀ l ∈ ls, s.k ≤ l := by
    intro l hl
    rw [← hls] at hl
    simp only [rls, List.mem_filter] at hl
    exact Nat.le_of_ble_eq_true hl.2
  have hY : ∀ b, F.Y ρ' (s.ob.take s.k ++ ls.map (obAt s.ob)) b → F.Y ρ s.ob b := by
    rintro b (hx | ⟨i, o, ho, he⟩)
    · exact .inl hx
    · obtain ⟨j, h1, h2, _⟩ := hplace ho
      rw [h2] at he
      exact .inr ⟨j, o, h1, he⟩
  have hcimm : ∀ {i o}, Live (s.ob.take s.k ++ ls.map (obAt s.ob)) i o → V.immL o.cells = true := by
    intro i o ho
    rcases live_app.1 ho with ho | ⟨hle, ho⟩
    · exact immO_live him ho
    · have hi := live_lt ho
      simp at hi
      obtain ⟨o2, h1, h2, h3⟩ := liveImm_mem hli (List.getElem_mem hi)
      unfold Live at ho
      simp [hi, h2] at ho
      subst ho
      exact h3
  refine ⟨_, _, ρ', hQ, immO_of fun i o ho => hcimm ho, ?_, ?_⟩
  · refine { os := h.heap.os, tape := h.heap.tape, output := h.heap.output, size := h.heap.size, frame := h.heap.frame, xlt := h.heap.xlt, obj := fun i o ho => ?_, fresh := fun i o ho => ?_, inj := fun i i' o o' ho ho' he => ?_, stay := fun i o hik ho => ?_ }
    · obtain ⟨j, h1, h2, _⟩ := hplace ho
      obtain ⟨hrow, hfit, hcell⟩ := h.heap.obj j o h1
      rw [h2]
      refine ⟨hrow, hfit, fun q hq => ?_⟩
      obtain ⟨c, g1, g2, g3⟩ := hcell q hq
      exact ⟨c, g1, .d ((g2.toD ((immL_iff _).1 (hcimm ho) q hq)).mono (fun _ _ _ h => h) (fun b _ hb => hY b hb)), g3⟩
    · obtain ⟨j, h1, h2, h3⟩ := hplace ho
      rw [h2]
      rcases h3 with ⟨hi, rfl⟩ | ⟨hle, hi, rfl⟩
      · exact h.heap.fresh _ o h1
      · rcases h.heap.fresh _ o h1 with ⟨_, h4⟩ | h4
        · have := hlsk _ (List.getElem_mem hi)
          have := h.k; omega
        · exact .inr h4
    · obtain ⟨j, h1, h2, h3⟩ := hplace ho
      obtain ⟨j', h1', h2', h3'⟩ := hplace ho'
      rw [h2, h2'] at he
      have hjj := h.heap.inj _ _ _ _ h1 h1' he
      rcases h3 with ⟨hi, rfl⟩ | ⟨hle, hi, rfl⟩ <;> rcases h3' with ⟨hi', rfl⟩ | ⟨hle', hi', rfl⟩
      · exact hjj
      · have := hlsk _ (List.getElem_mem hi'); omega
      · have := hlsk _ (List.getElem_mem hi); omega
      · have := nodupB_inj hnd hi hi' hjj; omega
    · rw [← h.k] at hik
      obtain ⟨j, h1, h2, h3⟩ := hplace ho
      rcases h3 with ⟨_, rfl⟩ | ⟨hle, _⟩
      · rw [h2]; exact h.heap.stay _ o (by rw [← h.k]; exact hik) h1
      · omega
  · refine hr.ren _ (fun b _ hb => hY b hb) (fun l hl o ho => ?_)
    by_cases hlk : l < s.k
    · have hg : rnm s.k ls l = l := by
        unfold rnm
        have : Nat.blt l s.k = true := by simp [Nat.blt, Nat.ble_eq]; omega
        simp [this]
      rw [hg]
      refine ⟨o, live_app.2 (.inl ?_), rfl, if_pos hlk⟩
      unfold Live at ho ⊢
      rw [List.getElem?_take, if_pos hlk]; exact ho
    · have hmem : l ∈ ls := by
        rw [← hls]
        simp only [rls, List.mem_filter]
        exact ⟨hl, Nat.ble_eq_true_of_le (by omega)⟩
      have hidx := List.idxOf_lt_length_iff.2 hmem
      have hget : ls[ls.idxOf l] = l := List.getElem_idxOf hidx
      have hg : rnm s.k ls l = s.k + ls.idxOf l := by
        unfold rnm
        have : Nat.blt l s.k = false := by
          cases hb : Nat.blt l s.k with
          | false => rfl
          | true => simp [Nat.blt, Nat.ble_eq] at hb; omega
        simp [this]
      rw [hg]
      obtain ⟨o2, h1, h2, _⟩ := liveImm_mem hli hmem
      have : o2 = o := by unfold Live at h1 ho; rw [ho] at h1; cases h1; rfl
      subst this
      refine ⟨o2, live_app.2 (.inr ⟨by rw [htl]; omega, ?_⟩), rfl, ?_⟩
      · rw [htl, Nat.add_sub_cancel_left]
        unfold Live
        simp [hidx, hget, h2]
      · show (if s.k + ls.idxOf l < s.k then _ else ρ (ls.getD (s.k + ls.idxOf l - s.k) 0)) = _
        rw [if_neg (by omega), Nat.add_sub_cancel_left]
        simp [List.getD, hidx, hget]

/-- A FUNCTION's CONTRACT -/
theorem ACalls.of_vc {f : FuncId} {fn : Func} {c : Code} {args : List V} {ob : Objs} {Q : V → Objs → Prop} (hf : P.funcs[f]? = some fn) (hb : fn.body = some c)
    (hn : (fn.name == "runtime.NumGoroutine") = false) (nt : Nat) (hnt : fn.ntmps = nt) (rs : List ResultVar) (hrs : fn.results.toList = rs) (hl : args.length ≤ nt)
    (h : vc P c (retQ P rs Q) ⟨nt, ob.length, argSl 0 args, ob⟩) : ACalls P f args ob Q := by
  subst hnt hrs
  refine ⟨⟨fn, hf, hn, by rw [hb]; rfl⟩, fun w X ρ vs hvs hh har => calls_of_wp hf hb ?_⟩
  have hsat : Sat ⟨w, X, ownB ρ ob, ob.length, ρ⟩ ⟨fn.ntmps, ob.length, argSl 0 args, ob⟩ ρ { tmps := vs ++ Array.replicate (fn.ntmps - vs.size) undef, defers := [] } w := by
    refine ⟨hh, rfl, by simp [hvs]; omega, rfl, Nat.le_refl _, fun t => ?_⟩
    show RepC w _ ρ ob _ (lk t (argSl 0 args))
    rw [lk_argSl, if_pos (Nat.zero_le _), Nat.sub_zero]
    by_cases ht : t < args.length
    · have h1 : args.getD t .junk = args[t] := by simp [List.getD, ht]
      have h2 : (vs ++ Array.replicate (fn.ntmps - vs.size) undef).getD t undef = vs.getD t undef := by
        rw [Array.getD_eq_getD_getElem?, Array.getElem?_append_left (by omega), ← Array.getD_eq_getD_getElem?]
      rw [h1, h2]
      exact har t ht
    · have h1 : args.getD t .junk = .junk := by simp [List.getD, Nat.le_of_not_lt ht]
      rw [h1]
      exact .junk
  refine wp_mono (sound_vc c _ _ ρ _ w h hsat) fun e a' w' hl => ?_
  obtain ⟨s', ρ', h1, h2⟩ := hl
  have key : retK P fn.results.toList Q s' → a'.defers = [] ∧ ∃ v, (results fn a'.tmps).run P w' = .ok v w' ∧
      ∃ v' r ob' ρ', (Ending.returned v) = .returned v' ∧ Q r ob' ∧ immO ob' = true ∧ HOk ⟨w, X, ownB ρ ob, ob.length, ρ⟩ w' ρ' ob' ∧ RepC w' (Fr.Y ⟨w, X, ownB ρ ob, ob.length, ρ⟩ ρ' ob') ρ' ob' v' r := by
    rintro ⟨s1, hfz, hk⟩
    have h3 := h2.frz hfz
    obtain ⟨xs, us, h4, h5, h6, h7⟩ := sound_vRes h3 _ _ hk
    have hres : ∃ v, (results fn a'.tmps).run P w' = .ok v w' ∧ RepC w' (Fr.Y ⟨w, X, ownB ρ ob, ob.length, ρ⟩ ρ' s1.ob) ρ' s1.ob v (oneOrTup xs) := by
      have hrun : (results fn a'.tmps).run P w' = .ok (if h : us.toArray.size = 1 then us.toArray[0] else .tuple us.toArray) w' := by
        unfold results
        rw [Array.mapM_eq_mapM_toList]
        simp only [Sem.run_bind, Sem.run_map]
        rw [h7 _ (fun _ => rfl) (fun _ _ => rfl)]
        rfl
      refine ⟨_, hrun, ?_⟩
      by_cases h1' : us.length = 1
      · obtain ⟨x, rfl⟩ : ∃ x, xs = [x] := List.length_eq_one_iff.1 (by omega)
        obtain ⟨u, rfl⟩ : ∃ u, us = [u] := List.length_eq_one_iff.1 h1'
        simpa [oneOrTup] using h6 0 (by simp)
      · rw [dif_neg (by simpa using h1')]
        have : oneOrTup xs = .tup xs := by
          cases xs with
          | nil => rfl
          | cons x r => cases r with
            | nil => simp at h5; omega
            | cons y r => rfl
        rw [this]
        refine .tup (by simpa using h5) (fun i hi => ?_)
        have := h6 i hi
        have hi2 : i < us.length := by omega
        simpa [Array.getD, List.getD, hi2] using this
    obtain ⟨v, hrun, hrep⟩ := hres
    obtain ⟨r', ob', ρ2, h8, h9, h10, h11⟩ := h3.ret hrep h4
    exact ⟨h2.dfs, v, hrun, v, r', ob', ρ2, rfl, h8, h9, h10, h11⟩
  cases e with
  | normal => exact key h1
  | ret => exact key h1
  | _ => exact h1.elim

end
end Go.AG
