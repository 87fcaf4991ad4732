/- lands: the program's text: a walk over the world, for strings.Builder -/
import Derived.Test.YtfhckmlmfigfjaaGreatDoorLnt8
import Derived.Test.YtfhckmlmfigfjaaGreatDoorJoinC
import Derived.Test.YtfhckmlmfigfjaaGreatDoorShelf
import Derived.Shelf.Strings.BuilderK
import Derived.Deep.QuietTactic
set_option linter.unusedVariables false
set_option linter.unusedSimpArgs false
namespace Go.AG
open Go Go.RowKit Go.Proofs

/-- the other way, for arguments that are rows or structs -/
theorem ACalls.callsG {P : Program} {f : FuncId} {args : List V} {vals : Array Value} {r : V} {v : Value} (h : ACalls P f args [] (fun r' o => r' = r ∧ o = [])) (hr : rigV r = some v) (hs : vals.size = args.length)
    {w : World} {X : Nat → Prop} (hL : Laid P w X) (hX : ∀ b, X b → b < w.heap.size)
    (hv : ∀ (Y : Nat → Prop) (ρ : Nat → Pl), (∀ b, Y b → X b) → ∀ i (hi : i < args.length), RepC w Y ρ [] (vals.getD i undef) args[i]) :
    Calls P f vals w fun e w' => e = .returned v ∧ Below w.heap.size w w' := by
  have hs2 : HOk ⟨w, X, ownB (fun _ => ⟨0, 0, 0⟩) [], 0, fun _ => ⟨0, 0, 0⟩⟩ w (fun _ => ⟨0, 0, 0⟩) [] :=
    { HOk.start w (fun _ => ⟨0, 0, 0⟩) with xlt := fun b hb => ⟨hX b hb, own_nil⟩, obj := fun l o ho => by simp [Live] at ho }
  refine (h.2 w X (fun _ => ⟨0, 0, 0⟩) vals hL hs hs2 (hv _ _ fun b hb => ?_)).mono ?_
  · rcases hb with hb | hb
    · exact hb
    · exact absurd hb own_nil
  · rintro e w' ⟨v', r', ob', ρ', rfl, ⟨rfl, rfl⟩, hh, hrr⟩
    rw [rig_of hrr hr]
    exact ⟨rfl, hh.os, hh.tape, hh.output, hh.size, fun b hb => hh.frame b hb own_nil⟩
end Go.AG
namespace Go.Proofs.YtfhckmlmfigfjaaGreatDoor
open Go.AG Go.Lib Go.RowKit Go.Shelf

theorem join_joB : ∀ (xs : List (List UInt8)), Lib.join xs [32] = joB 32 xs
  | [] => rfl
  | [x] => by rw [Lib.join_one]; rfl
  | x :: y :: r => by
    have ih := join_joB (y :: r)
    rw [joB, ← ih, Lib.join_cons, Lib.join_cons]
    simp [Lib.joinTail]
theorem joT_lnB (r : List Int) : joT r [32] = lnB r := join_joB _
theorem bld_below {T e : TypeId} {B b : Nat} {bs : List Value} {W W' : World} (h : IsBuilderF T e B b bs W) (hb : Below W.heap.size W W') : IsBuilderF T e B b bs W' := by
  have key : ∀ p, BuilderAtF T e B b p bs W → BuilderAtF T e B b p bs W' := by
    intro p h
    have hlt := h.lt
    obtain ⟨hB, v, hv, hown, hne⟩ := h
    exact ⟨hB, v, (hb.block b hlt).trans hv, hown.kept (row := none) ⟨hb.os, hb.tape, hb.output, hb.size, fun k hk _ => hb.block k hk⟩ (Classical.em _), hne⟩
  exact h.elim (fun x => .inl (key _ x)) (fun x => .inr (key _ x))
theorem bld_write (B b : Nat) (bs : List Value) (s : ByteArray) (w : World) (h : IsBuilderF 132 5 B b bs w) (hlen : bs.length + s.size ≤ 140737488355328) (hBw : B ≤ w.heap.size) :
    Calls Tryz.prog 142 #[.pointer (some ⟨b, 0, none⟩), .string s] w fun e w' => e = .returned (.tuple #[.int .i64 s.size, .nilIface]) ∧ (IsBuilderF 132 5 B b (bs ++ strCells s) w' ∧ Below B w w') :=
  (Any.Builder_WriteString_k (ρ := Tryz.lays156_ren) { Tryz.lays156 with } Tryz.Builder_Extra_156 B b bs s w h hlen hBw).mono fun e w' ⟨h1, h2, h3, _⟩ => ⟨h1, .inr h2, h3⟩
theorem repLd (l : Ld) {w : World} {X : Nat → Prop} (b o cap : Nat) (hc : ∀ i, i < l.hs.length → w.cell? ⟨b, o + i, none⟩ = some (.int .i64 (gi l.hs i)))
    (hb : ¬ X b) (hcap : l.hs.length ≤ cap) (Y : Nat → Prop) (ρ : Nat → Pl) (hY : ∀ b, Y b → X b) :
    RepC w Y ρ [] (.agg #[.int .i64 l.rows, .int .i64 l.cols, .slice (some ⟨b, o, none⟩) l.hs.length cap]) (.agg (lC l)) := by
  refine .agg rfl fun i hi => ?_
  match i, hi with
  | 0, _ => exact .d (.sc _)
  | 1, _ => exact .d (.sc _)
  | 2, _ =>
    refine .d (.sl (fun i => .int .i64 (gi l.hs i)) (fun i hi => hc i (by simpa [ints] using hi)) (fun i hi => ?_) (fun _ h => hb (hY b h)) hcap)
    have e : (ints l.hs)[i] = V.sc (.int .i64 (gi l.hs i)) := by
      have hi2 : i < l.hs.length := by simpa [ints] using hi
      simp [ints, gi_lt _ _ hi2]
    rw [e]
    exact .sc _
set_option maxHeartbeats 2000000 in
set_option maxRecDepth 100000 in
theorem landT_walk (r c : Nat) (hs : List Int) (Q : LdQ ⟨r, c, hs⟩) {w : World} {X : Nat → Prop} (hL : Laid Tryz.prog w X) (hX : ∀ b, X b → b < w.heap.size) (b o cap : Nat) (hc : ∀ i, i < hs.length → w.cell? ⟨b, o + i, none⟩ = some (.int .i64 (gi hs i)))
    (hb : ¬ X b) (hcap : hs.length ≤ cap) (hbw : b < w.heap.size) :
    Calls Tryz.prog 45 #[.agg #[.int .i64 r, .int .i64 c, .slice (some ⟨b, o, none⟩) hs.length cap]] w fun e w' => e = .returned (.string (tx (ldT ⟨r, c, hs⟩))) ∧ Below w.heap.size w w' := by
  have hn144 : hs.length ≤ 144 := (okL_F ((okL_iff ⟨r, c, hs⟩).2 Q)).n
  have hval := validL_ok ⟨r, c, hs⟩ (by simp only; omega)
  rw [(okL_iff ⟨r, c, hs⟩).2 Q] at hval
  have hrr : 1 ≤ (r : Int) ∧ (r : Int) ≤ 12 := Q.r
  have hcc : 1 ≤ (c : Int) ∧ (c : Int) ≤ 12 := Q.c
  have hln1 : hs.length ≤ r * c := Nat.le_of_eq Q.n
  have hln2 : r * c ≤ hs.length := Nat.le_of_eq Q.n.symm
  have fin : ∀ k, r ≤ k → k ≤ r → lnE (lnsL k c hs) = ldT ⟨r, c, hs⟩ := fun k h1 h2 => by rw [show k = r by omega]; rfl
  have row : ∀ k, k < r → lnE (lnsL (k + 1) c hs) = lnE (lnsL k c hs) ++ (joT (rwL c hs k) [32] ++ [10]) := fun k _ => by rw [lnsL_snoc, lnE_snoc, joT_lnB]
  have rlen : ∀ k, k < r → (rwL c hs k).length = c := fun k hk => rwL_lenE Q k hk
  go_enter Tryz.func45, Tryz.ntmps45
  go_wp2_with (go_at_fn 53)
  have hb0 : Below w.heap.size w (w.alloc (.cells #[.int .i64 r, .int .i64 c, .slice (some ⟨b, o, none⟩) hs.length cap] 50)) := (Below.refl w.heap.size w).alloc (Nat.le_refl _) _
  refine (hval.callsG rfl rfl (hL.below hX hb0) (fun b hb => Nat.lt_of_lt_of_le (hX b hb) hb0.size) (fun Y ρ hY i hi => ?_)).mono ?_
  · obtain rfl : i = 0 := by simp at hi; omega
    exact (repLd ⟨r, c, hs⟩ b o cap hc hb hcap Y ρ hY).grow hb0
  rintro e w1 ⟨rfl, hb1⟩
  have bx : ∀ i, w1.cell? ⟨w.heap.size, i, none⟩ = (w.alloc (.cells #[.int .i64 r, .int .i64 c, .slice (some ⟨b, o, none⟩) hs.length cap] 50)).cell? ⟨w.heap.size, i, none⟩ := fun i => hb1.cell (by simp)
  have c1 : w1.cell? ⟨w.heap.size, 1, none⟩ = some (.int .i64 c) := by rw [bx]; simp
  have c2 : w1.cell? ⟨w.heap.size, 2, none⟩ = some (.slice (some ⟨b, o, none⟩) hs.length cap) := by rw [bx]; simp
  have hlt : w.heap.size < w1.heap.size := by have := hb1.size; simp at this; omega
  clear bx
  have hbw1 : Below w.heap.size w w1 := hb0.trans (hb1.mono (by simp))
  have c2' : (w1.alloc (.cells #[.pointer none, .slice none 0 0] 132)).cell? ⟨w.heap.size, 2, none⟩ = some (.slice (some ⟨b, o, none⟩) hs.length cap) := by rw [World.cell?_alloc_past _ _ _ hlt]; exact c2
  go_wp2
  have hW2 : IsBuilderF 132 5 w1.heap.size w1.heap.size [] (w1.alloc (.cells #[.pointer none, .slice none 0 0] 132)) := IsBuilderF.of (fresh_isBuilder _ _ w1)
  go_loopw [4] (fun vl wr => ∃ k oo : Nat, vl = .slice (some ⟨b, oo, none⟩) (hs.length - k * c) (cap - k * c) ∧ k ≤ r ∧ (k < r → oo = o + k * c) ∧ Below w1.heap.size w1 wr ∧
    IsBuilderF 132 5 w1.heap.size w1.heap.size (Go.Lib.byteCells (lnE (lnsL k c hs))) wr ∧ w1.heap.size ≤ wr.heap.size) (fun vl _ => match vl with | .slice _ m _ => m | _ => 0)
  case atStart =>
    refine ⟨0, o, by simp, by omega, fun _ => by simp, (Below.refl _ _).alloc (Nat.le_refl _) _, hW2, by simp⟩
  case round =>
    obtain ⟨k, oo, rfl, hk, ho, hBw, hbl, hsz⟩ := hrel
    have cw1 : wr.cell? ⟨w.heap.size, 1, none⟩ = some (.int .i64 c) := by rw [hBw.cell (by exact hlt)]; exact c1
    by_cases hkr : k < r
    · have hkc : k * c + c ≤ hs.length := by
        have : (k + 1) * c ≤ r * c := Nat.mul_le_mul_right _ (by omega)
        rw [Nat.add_mul, Nat.one_mul] at this
        omega
      have ho := ho hkr
      subst ho
      obtain ⟨kc, hkc0⟩ : ∃ kc, k * c = kc := ⟨_, rfl⟩
      rw [hkc0] at hkc ⊢
      have hj := joinNumbers_ok (rwL c hs k) [32] (by rw [rlen k hkr]; omega) (fun x hx => Q.nok x (rwL_mem hx)) (by simp)
      have hgi : ∀ i, i < c → gi (rwL c hs k) i = gi hs (kc + i) := fun i hi => by rw [← hkc0]; exact rwL_gi c hs k i hi
      have hjl : (joT (rwL c hs k) [32]).length ≤ 300 := by rw [joT_lnB]; exact lnB_len (fun x hx => Q.nok x (rwL_mem hx)) (by rw [rlen k hkr]; omega)
      have hTl : (lnE (lnsL k c hs)).length ≤ 4000 := ldT_len Q.nok (by omega) (by omega)
      have hrow := row k hkr
      have hrl := rlen k hkr
      have kc1 : (k + 1) * c ≤ kc + c := by rw [← hkc0, Nat.add_mul, Nat.one_mul]; exact Nat.le_refl _
      have kc2 : kc + c ≤ (k + 1) * c := by rw [← hkc0, Nat.add_mul, Nat.one_mul]; exact Nat.le_refl _
      clear hkc0 row rlen
      generalize rwL c hs k = R at *
      rw [hrl] at hj
      have hRl : R.length ≤ c ∧ c ≤ R.length := by omega
      clear hrl
      go_wp2_with (go_at_fn 143)
      have hwr : Below w.heap.size w wr := hbw1.trans (hBw.mono (Nat.le_of_lt hlt))
      refine (hj.callsG rfl rfl (hL.below hX hwr) (fun b hb => Nat.lt_of_lt_of_le (hX b hb) hwr.size) (fun Y ρ hY i hi => ?_)).mono ?_
      · match i, hi with
        | 0, _ =>
          have e1 : (R.length : Nat) = c := by omega
          refine .d (.sl (fun i => .int .i64 (gi R i)) (fun i hi => ?_) (fun i hi => ?_) (fun _ h => hb (hY b h)) (by omega))
          · have hi2 : i < c := by simpa [ints, e1] using hi
            rw [hwr.cell (by exact hbw), hgi i hi2, Nat.add_assoc]
            exact hc (kc + i) (by omega)
          · have hi2 : i < R.length := by simpa [ints] using hi
            have e : (ints R)[i] = V.sc (.int .i64 (gi R i)) := by simp [ints, gi_lt _ _ hi2]
            rw [e]
            exact .sc _
        | 1, _ => exact .d (.sc _)
      rintro e w2 ⟨rfl, hb2⟩
      have hbl2 := bld_below hbl hb2
      have hw2 := bld_write w1.heap.size w1.heap.size _ (tx (joT R [32]) ++ tx [10]) w2 hbl2 (by rw [Go.Lib.byteCells_length, tx_app, tx_size]; simp; omega) (by have := hb2.size; omega)
      go_wp2_with (go_at_fn 142)
      refine hw2.mono ?_
      rintro e w3 ⟨rfl, hbl3, hb3⟩
      have cw3 : w3.cell? ⟨w.heap.size, 1, none⟩ = some (.int .i64 c) := by rw [hb3.cell (by exact hlt), hb2.cell (by simp only; omega)]; exact cw1
      clear hw2
      have hnx : k + 1 < r → kc + c + c ≤ hs.length := fun h => by
        have : (k + 1 + 1) * c ≤ r * c := Nat.mul_le_mul_right _ (by omega)
        rw [Nat.add_mul (k + 1), Nat.one_mul] at this
        omega
      go_wp2
      case roundEnd =>
        refine ⟨⟨k + 1, if cap - kc = c then o + kc else o + kc + c, ?_, by omega, fun h => ?_, ?_, ?_, ?_⟩, ?_⟩
        · split <;> simp <;> omega
        · have := hnx h
          rw [if_neg (by omega)]
          omega
        · exact (hBw.trans (hb2.mono hsz)).trans hb3
        · rw [hrow]
          have e : Go.Lib.byteCells (lnE (lnsL k c hs) ++ (joT R [32] ++ [10])) = Go.Lib.byteCells (lnE (lnsL k c hs)) ++ strCells (tx (joT R [32]) ++ tx [10]) := by
            rw [tx_app]
            simp [Go.Lib.byteCells, strCells, list_tx]
          rw [e]
          exact hbl3
        · have := hb3.size; have := hb2.size; omega
        · simp only
          omega
    · have hz : hs.length - k * c = 0 := by
        have : r * c ≤ k * c := Nat.mul_le_mul_right _ (by omega)
        omega
      have hstr := Tryz.Builder_String_any_k w1.heap.size w1.heap.size _ wr hbl hsz
      rw [fin k (by omega) hk] at hstr
      rw [hz]
      go_wp2_with (go_at_fn 144)
      refine hstr.mono ?_
      rintro e w2 ⟨rfl, _, hb2, _⟩
      go_wp2
      go_ret
      exact ⟨rfl, hbw1.trans ((hBw.trans hb2).mono (Nat.le_of_lt hlt))⟩
theorem landText_ok (l : Ld) (hl : l.hs.length ≤ 10000000) : ACalls Tryz.prog 45 [.agg (lC l)] [] (fun r o => r = St (tx (if okL l = true then ldT l else [])) ∧ o = []) := by
  cases hk : okL l with
  | false =>
    refine ACalls.of_vc Tryz.func45 rfl (by decide) 25 rfl [.tmp 2] rfl (by simp) ?_
    have h1 := validL_ok l hl
    rw [hk] at h1
    rw [if_neg (by simp)]
    unfold lC at h1 ⊢
    (repeat (first | simp (maxSteps := 2000000) (disch := omega) only [go_sem, ↓reduceIte] | with_reducible refine vIf_t ?_ | with_reducible refine vIf_f ?_))
    (refine vCallX_of ?_; (repeat (first | simp (maxSteps := 2000000) (disch := omega) only [go_sem, ↓reduceIte] | with_reducible refine vIf_t ?_ | with_reducible refine vIf_f ?_)); refine vCall_eq (h1) (by simp (disch := omega) only [go_sem]) rfl (by first | exact Or.inl rfl | exact Or.inr ⟨rfl, rfl⟩ | (apply Or.inr; simp only [go_sem])) ?_; (repeat (first | simp (maxSteps := 2000000) (disch := omega) only [go_sem, ↓reduceIte] | with_reducible refine vIf_t ?_ | with_reducible refine vIf_f ?_)))
    (refine retK_of ?_; (repeat (first | simp (maxSteps := 2000000) (disch := omega) only [go_sem, ↓reduceIte] | with_reducible refine vIf_t ?_ | with_reducible refine vIf_f ?_)))
    try rfl
  | true =>
    rw [if_pos rfl]
    have Q := (okL_iff l).1 hk
    refine ⟨⟨_, Tryz.func45, by kernel_rfl, rfl⟩, fun w X ρ vs hL hs hH hr => ?_⟩
    have hX : ∀ b, X b → b < w.heap.size := fun b hb => (hH.xlt b hb).1
    obtain ⟨rows, cols, hs'⟩ := l
    have hrr := Q.r
    have hcc := Q.c
    simp only at hrr hcc
    obtain ⟨r, rfl⟩ : ∃ r : Nat, rows = r := ⟨rows.toNat, by omega⟩
    obtain ⟨c, rfl⟩ : ∃ c : Nat, cols = c := ⟨cols.toNat, by omega⟩
    have hpos : 1 ≤ hs'.length := by
      have := Q.n
      simp only at this
      rw [this]
      exact Nat.mul_pos (by omega) (by omega)
    have hsz : vs.size = 1 := hs
    have h0 := hr 0 (by simp)
    have hvs : vs = #[vs.getD 0 undef] := by
      apply Array.ext
      · simp [hsz]
      · intro i h1 h2
        have : i = 0 := by simp at h2; omega
        subst this
        simp [Array.getD, h1]
    rw [hvs]
    generalize vs.getD 0 undef = v0 at h0 ⊢
    simp only [List.getElem_cons_zero] at h0
    have fin : ∀ (e : Ending) (w' : World), e = .returned (.string (tx (ldT ⟨r, c, hs'⟩))) ∧ Below w.heap.size w w' → ∃ v r1 ob' ρ', e = .returned v ∧ (r1 = St (tx (ldT ⟨r, c, hs'⟩)) ∧ ob' = []) ∧ HOk ⟨w, X, ownB ρ [], 0, ρ⟩ w' ρ' ob' ∧ RepC w' (Fr.Y ⟨w, X, ownB ρ [], 0, ρ⟩ ρ' ob') ρ' ob' v r1 := by
      rintro e w' ⟨rfl, hb⟩
      exact ⟨_, _, [], ρ, rfl, ⟨rfl, rfl⟩, hH.grow hb, .d (.sc _)⟩
    cases h0 with
    | d h => cases h
    | @agg cs xs hcs hrc =>
      have s3 : cs.size = 3 := hcs
      have e0 := hrc 0 (by simp [lC])
      have e1 := hrc 1 (by simp [lC])
      have e2 := hrc 2 (by simp [lC])
      simp only [lC, List.getElem_cons_zero, List.getElem_cons_succ] at e0 e1 e2
      have f0 := sc_of e0
      have f1 := sc_of e1
      have hcs2 : cs = #[.int .i64 r, .int .i64 c, cs.getD 2 undef] := by
        apply Array.ext
        · simp [s3]
        · intro i h1 h2
          have : i = 0 ∨ i = 1 ∨ i = 2 := by simp at h2; omega
          rcases this with rfl | rfl | rfl
          · rw [← f0]; simp [Array.getD, h1]
          · rw [← f1]; simp [Array.getD, h1]
          · simp [Array.getD, h1]
      rw [hcs2]
      generalize cs.getD 2 undef = v2 at e2
      generalize hxs : ints hs' = xs at e2
      generalize hn : hs'.length = n at e2
      cases e2 with
      | d e2 =>
        cases e2 with
        | nil => omega
        | sl0 a => omega
        | @sl b o len cap xs cs1 hc1 hr1 hx1 hcl =>
          subst hn
          subst hxs
          have hcell : ∀ i, i < hs'.length → w.cell? ⟨b, o + i, none⟩ = some (.int .i64 (gi hs' i)) := fun i hi => by
            have hi2 : i < (ints hs').length := by simpa [ints] using hi
            have h4 := hr1 i hi2
            have e : (ints hs')[i] = V.sc (.int .i64 (gi hs' i)) := by simp [ints, gi_lt _ _ hi]
            rw [e] at h4
            have h5 : cs1 i = .int .i64 (gi hs' i) := sc_of (ob := []) (ρ := ρ) (.d h4)
            rw [hc1 i hi2, h5]
          have hbX : ¬ X b := fun h => hx1 (by intro e; have e2 : hs' = [] := by simpa [ints] using e
                                               rw [e2] at hpos; simp at hpos) (.inl h)
          have hbw : b < w.heap.size := World.block_lt_of_cell? w _ (hcell 0 (by omega))
          exact (landT_walk r c hs' Q hL hX b o cap hcell hbX hcl hbw).mono fin
end Go.Proofs.YtfhckmlmfigfjaaGreatDoor
