/- laws whose rows list variables of the library: where these lie -/
import Derived.Test.YtjgjnedenapemaaGreatDoorAgW
import Derived.Stop.LaidErr
import Derived.Lib.LaidTab
import Derived.Handed
import Derived.SizedLaws
import Derived.Shelf.Vars
set_option linter.unusedVariables false
set_option linter.unusedSimpArgs false
namespace Go.AG
open Go Go.RowKit Go.Lib

/-- the blocks of the listed variables -/
def laidX (P : Program) (b : Nat) : Prop := ∃ q ∈ knownVars, P.globalNamed q.1 = some b
theorem heap_of_var {P : Program} {w : World} {n : String} {g : Nat} {cs : Array Value} (hg : P.globalNamed n = some g) (h : w.var? P n = some cs) : ∃ e fz, w.heap[g]? = some (.cells cs e fz) := by
  simp only [World.var?, hg] at h
  cases hh : w.heap[g]? with
  | none => simp [hh] at h
  | some o =>
    cases o <;> simp [hh] at h
    subst h
    exact ⟨_, _, rfl⟩
theorem Laid.of_vars {P : Program} {w : World} (h : ∀ q ∈ knownVars, ∀ g, P.globalNamed q.1 = some g → ∃ cs, w.var? P q.1 = some cs ∧ q.2 cs) : Laid P w (laidX P) := by
  intro q hq g hg
  obtain ⟨cs, h1, h2⟩ := h q hq g hg
  obtain ⟨e, fz, h3⟩ := heap_of_var hg h1
  exact ⟨⟨q, hq, hg⟩, cs, e, fz, h3, h2⟩
theorem laidX_lt {P : Program} {w : World} (hL : Laid P w (laidX P)) (b : Nat) (hb : laidX P b) : b < w.heap.size := by
  obtain ⟨q, hq, hg⟩ := hb
  obtain ⟨_, cs, e, fz, h, _⟩ := hL q hq b hg
  exact (Array.getElem?_eq_some_iff.1 h).1
theorem known_noU8 {q : String × (Array Value → Prop)} (hq : q ∈ knownVars) {cs : Array Value} (h : q.2 cs) (i : Nat) (n : Int) : cs[i]? ≠ some (.int .u8 n) := by
  simp only [knownVars, List.mem_cons, List.not_mem_nil, or_false] at hq
  rcases hq with rfl | rfl | rfl | rfl
  · simp only at h
    subst h
    intro e
    simp only [List.getElem?_toArray, List.getElem?_map, Option.map_eq_some_iff] at e
    obtain ⟨z, _, e⟩ := e
    cases e
  · obtain ⟨t, p, rfl⟩ := h
    intro e
    cases i with
    | zero => simp at e
    | succ i => simp at e
  · obtain ⟨t, p, rfl⟩ := h
    intro e
    cases i with
    | zero => simp at e
    | succ i => simp at e
  · obtain ⟨m, rfl⟩ := h
    intro e
    cases i with
    | zero => simp at e
    | succ i => simp at e
theorem RepD.bytesX {P : Program} {w : World} {v : Value} {xs : List Int} (hL : Laid P w (laidX P)) (h : RepD w (fun _ => False) v (bS xs)) : RepD w (laidX P) v (bS xs) := by
  unfold bS at *
  generalize hx : (V.sl xs.length (bts xs)) = y at h
  cases h with
  | nil => exact .nil
  | sl0 a => exact .sl0 a
  | @sl b o len cap ys cs hc hr hx' hl =>
    simp only [V.sl.injEq] at hx
    obtain ⟨rfl, rfl⟩ := hx
    refine .sl cs hc (fun i hi => ?_) (fun hne hb => ?_) hl
    · have := hr i hi
      have e : (bts xs)[i] = .sc (.int .u8 (gi xs i)) := by
        have hi2 : i < xs.length := by simpa [bts] using hi
        simp [bts, gi, hi2]
      rw [e] at this ⊢
      generalize cs i = z at this ⊢
      cases this
      exact .sc _
    · obtain ⟨q, hq, hg⟩ := hb
      obtain ⟨_, ds, e, fz, h1, h2⟩ := hL q hq b hg
      have hp : 0 < (bts xs).length := List.length_pos_iff.2 hne
      have h3 := hc 0 hp
      have h4 := hr 0 hp
      have hi2 : 0 < xs.length := by simpa [bts] using hp
      have e2 : (bts xs)[0] = .sc (.int .u8 (gi xs 0)) := by simp [bts, gi, hi2]
      rw [e2] at h4
      generalize hz : cs 0 = z at h3 h4
      cases h4
      simp only [World.cell?, h1] at h3
      exact known_noU8 hq h2 _ _ h3
  | _ => cases hx
/-- a listed variable that holds one number, whichever: from the world's shape -/
theorem var_of_shaped {P : Program} {w : World} {n : String} {g : Nat} {t : TypeId} {zero : Array Value} (hn : P.globalNamed n = some g)
    (h : w.ShapedOpen P) (hg : g < P.globals.size)
    (h0 : ((begin P (fun _ _ => 0) default).world.heap[g]?).bind Obj.row? = some (zero, t)) (hz : zero.size = 1)
    (hb : P.buildable t = true) (hc : P.cellTypes P.depth t = some [t]) (hu : P.underlying t = some (.int .i64)) : ∃ cs, w.var? P n = some cs ∧ ∃ m, cs = #[.int .i64 m] := by
  obtain ⟨m, hm⟩ := Go.Proofs.cell_of_shapedOpen_int h hg h0 hz hb hc hu
  obtain ⟨cs, hh, hs, _⟩ := h.1 g zero t hg h0
  refine ⟨cs, by simp [World.var?, hn, hh], m, ?_⟩
  have h1 : 0 < cs.size := by omega
  have e : cs[0] = .int .i64 m := by simpa [World.cell?, hh, h1] using hm
  apply Array.ext
  · simp; omega
  · intro i hi1 hi2
    have : i = 0 := by simp at hi2; omega
    subst this
    simpa using e
theorem handed_shaped {H : Type} {enc : TypeId × Value → H} {a : Assume} {C : Checked} {os : Os} {f : FuncId} {fn : Func} {s : ChangeSpec} {conds : List PathCond} {apart fresh handsOn again : Bool} {X : World → Array Value → Prop}
    (hX : ∀ (w w' : World) (args : Array Value), w.heap = w'.heap → X w args → X w' args)
    (own : ownKnob C.prog.godebug = none) (started : os.Started) (noInit : C.prog.inits.idxOf? f = none) (hfn : C.prog.funcs[f]? = some fn)
    (witness : ∃ (w : World) (tape : Tape) (i : Input), w.os = os ∧ (w.forCall tape i).Shaped C.prog ∧ i.vars = [] ∧ Input.okWide C.prog (w.forCall tape i) .any w.heap.size f i ∧
      ((s.pre enc C.prog fn conds apart (w.forCall tape i).memory i.args ∧ X (w.forCall tape i).memory i.args) ∧ sizedMet enc C.prog fn (OpenSpec.ofChange s) apart (w.forCall tape i).memory i.args) ∧ a.holds C.prog (lone (Frame.enter C.prog f i.args .normal) [] (w.forCall tape i)))
    (contract : ∀ (W : World) (base : Nat) (args : Array Value) (ds gs : List (DataW H)) (before : List MemPlace),
      (∀ (j : Nat) t v, fn.params[j]? = some t → args[j]? = some v → Value.okWide C.prog W .any base t v) →
      DataW.Whole enc C.prog fn.params.toList s.vars apart W args.toList ds gs before →
      X W args → W.ShapedOpen C.prog →
      Calls C.prog f args W fun e W' => ∃ v, e = .returned v ∧ s.post enc C.prog fn apart fresh handsOn again W args v W') :
    ReturnsInHanded a C os f .any (fun w args => (s.pre enc C.prog fn conds apart w args ∧ X w args) ∧ sizedMet enc C.prog fn (OpenSpec.ofChange s) apart w args) (s.post enc C.prog fn apart fresh handsOn again) := by
  refine returnsInHanded_of_calls own started noInit witness fun w tape i h1 hsh h2 hok hpre hholds => ?_
  obtain ⟨_, _, _, fn2, hfn2, _, _, _, _, hval⟩ := hok
  obtain rfl : fn2 = fn := Option.some.inj (hfn2.symm.trans hfn)
  obtain ⟨⟨⟨ds, gs, before, hw, hc⟩, hx⟩, hz⟩ := hpre
  refine (contract (w.forCall tape i) w.heap.size i.args ds gs before hval (DataW.Whole.of_heap (w' := w.forCall tape i) (by rfl) hw) (hX _ _ _ (by rfl) hx) hsh).mono ?_
  rintro e W' ⟨v, rfl, hp⟩
  exact ChangeSpec.post_blind hp
def ArgsX (w : World) (X : Nat → Prop) : List Value → List V → Prop
  | [], [] => True
  | v :: vs, x :: xs => RepD w X v x ∧ ArgsX w X vs xs
  | _, _ => False
theorem ArgsX.get {w : World} {X : Nat → Prop} : ∀ {vs : List Value} {xs : List V}, ArgsX w X vs xs → vs.length = xs.length ∧ ∀ i (h : i < xs.length), RepD w X (vs.getD i undef) xs[i]
  | [], [], _ => ⟨rfl, fun i h => absurd h (by simp)⟩
  | v :: vs, x :: xs, h => by
    obtain ⟨h1, h2⟩ := ArgsX.get h.2
    refine ⟨by simp [h1], fun i hi => ?_⟩
    cases i with
    | zero => exact h.1
    | succ i => exact h2 i (by simpa using hi)
  | [], _ :: _, h => h.elim
  | _ :: _, [], h => h.elim
theorem walk_ofX {P : Program} {f : FuncId} {args : List V} (h : ACalls P f args [] (fun r o => r = B true ∧ o = [])) {w : World} (hL : Laid P w (laidX P)) {vs : List Value} (ha : ArgsX w (laidX P) vs args) :
    Calls P f vs.toArray w fun e w' => e = .returned (.bool true) ∧ Below w.heap.size w w' := by
  obtain ⟨hs, hr⟩ := ha.get
  have hX := laidX_lt hL
  have hs2 : HOk ⟨w, laidX P, ownB (fun _ => ⟨0, 0, 0⟩) [], 0, fun _ => ⟨0, 0, 0⟩⟩ w (fun _ => ⟨0, 0, 0⟩) [] :=
    { HOk.start w (fun _ => ⟨0, 0, 0⟩) with xlt := fun b hb => ⟨hX b hb, own_nil⟩, obj := fun l o ho => by simp [Live] at ho }
  refine (h.2 w (laidX P) (fun _ => ⟨0, 0, 0⟩) vs.toArray hL (by simpa using hs) hs2 (fun i hi => ?_)).mono ?_
  · have hi2 : i < vs.length := by omega
    have := hr i hi
    have e : vs.toArray.getD i undef = vs.getD i undef := by simp [Array.getD, List.getD, hi2]
    rw [e]
    refine .d (this.mono (fun _ _ _ h => h) fun b _ hb => ?_)
    rcases hb with hb | hb
    · exact hb
    · exact absurd hb own_nil
  · rintro e w' ⟨v, r, ob', ρ', rfl, ⟨rfl, rfl⟩, hh, hr⟩
    rw [sc_of hr]
    exact ⟨rfl, hh.os, hh.tape, hh.output, hh.size, fun b hb => hh.frame b hb own_nil⟩
end Go.AG
