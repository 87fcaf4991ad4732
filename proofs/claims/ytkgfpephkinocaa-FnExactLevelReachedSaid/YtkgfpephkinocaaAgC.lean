/-
  AG, part C: objects that are written, placed anew, frozen, dropped; results renamed. Conditions: none.
-/
import Derived.Test.YtkgfpephkinocaaAgB
set_option linter.unusedSimpArgs false
set_option linter.unusedVariables false
namespace Go.AG
open Go.RowKit

def wr {α : Type} (l : List α) (o : Nat) (xs : List α) : List α := l.take o ++ xs ++ l.drop (o + xs.length)

theorem length_wr {α : Type} (l : List α) (o : Nat) (xs : List α) (h : o + xs.length ≤ l.length) : (wr l o xs).length = l.length := by
  simp [wr]; omega

theorem get_wr {α : Type} (l : List α) (o : Nat) (xs : List α) (h : o + xs.length ≤ l.length) (i : Nat) :
    (wr l o xs)[i]? = if i < o then l[i]? else if i < o + xs.length then xs[i - o]? else l[i]? := by
  unfold wr
  rw [List.append_assoc, List.getElem?_append]
  have h1 : (l.take o).length = o := by simp; omega
  rw [h1]
  split
  · rename_i hi; rw [List.getElem?_take, if_pos hi]
  · rename_i hi
    rw [List.getElem?_append]
    split
    · rename_i h2; rw [if_pos (by omega)]
    · rename_i h2
      rw [if_neg (by omega), List.getElem?_drop]
      congr 1; omega

theorem live_set {ob : Objs} {l : Nat} {o : Option Ob} {i : Nat} {x : Ob} : Live (ob.set l o) i x ↔ ((i = l ∧ l < ob.length ∧ o = some x) ∨ (i ≠ l ∧ Live ob i x)) := by
  unfold Live
  rw [List.getElem?_set]
  by_cases h : l = i
  · subst h
    simp only [if_true]
    by_cases hl : l < ob.length
    · simp [hl]
    · simp [hl]
  · simp [h, Ne.symm h]

/-! ### a store -/

theorem HOk.store {F : Fr} {w : World} {ρ : Nat → Pl} {ob : Objs} (h : HOk F w ρ ob) {l : Nat} {o : Ob} (ho : Live ob l o) (off : Nat) (vs : List Value) (xs : List V)
    (hlen : vs.length = xs.length) (hfit : off + xs.length ≤ o.cells.length)
    (hrep : ∀ i (h : i < xs.length), RepC w (F.Y ρ ob) ρ ob (vs.getD i undef) xs[i]) (h1 : ∀ v ∈ vs, v.oneCell' = true) :
    ∃ w', (∀ P : Program, (storeCells ⟨(ρ l).blk, (ρ l).base + off, none⟩ vs 0).run P w = .ok () w') ∧ HOk F w' ρ (ob.set l (some ⟨o.esz, wr o.cells off xs⟩)) ∧
      (∀ v x, RepC w (F.Y ρ ob) ρ ob v x → RepC w' (F.Y ρ (ob.set l (some ⟨o.esz, wr o.cells off xs⟩))) ρ (ob.set l (some ⟨o.esz, wr o.cells off xs⟩)) v x) ∧
      (∀ b, b ≠ (ρ l).blk → w'.heap[b]? = w.heap[b]?) ∧ w.heap.size ≤ w'.heap.size := by
  obtain ⟨⟨cur, e, hr, hs⟩, hf, hc⟩ := h.obj l o ho
  have hl := live_lt ho
  have hfit2 : (ρ l).base + off + vs.length ≤ cur.size := by omega
  have hY : ∀ b, F.Y ρ (ob.set l (some ⟨o.esz, wr o.cells off xs⟩)) b → F.Y ρ ob b := by
    rintro b (hx | ⟨i, x, hi, he⟩)
    · exact .inl hx
    · rcases live_set.1 hi with ⟨rfl, _, _⟩ | ⟨_, hi⟩
      · exact .inr ⟨_, o, ho, he⟩
      · exact .inr ⟨i, x, hi, he⟩
  have hτ : ∀ v x, RepC w (F.Y ρ ob) ρ ob v x → RepC (w.setRow (ρ l).blk (wr cur.toList ((ρ l).base + off) vs).toArray) (F.Y ρ (ob.set l (some ⟨o.esz, wr o.cells off xs⟩))) ρ (ob.set l (some ⟨o.esz, wr o.cells off xs⟩)) v x := by
    intro v x hx
    refine hx.mono' (fun a c hn hcell => ?_) (fun b _ => hY b) (fun i o2 hi => ?_)
    · have hne : a.block ≠ (ρ l).blk := fun e => hn (.inr ⟨l, o, ho, e.symm⟩)
      rw [← hcell]
      exact World.cell?_of_block (setRow_other w _ _ _ hne)
    · by_cases e : i = l
      · subst e
        have : o2 = o := by unfold Live at hi ho; rw [hi] at ho; cases ho; rfl
        subst this
        exact ⟨_, live_set.2 (.inl ⟨rfl, hl, rfl⟩), rfl, rfl⟩
      · exact ⟨o2, live_set.2 (.inr ⟨e, hi⟩), rfl, rfl⟩
  refine ⟨w.setRow (ρ l).blk (wr cur.toList ((ρ l).base + off) vs).toArray, fun P => ?_, ?_, hτ, fun b hb => setRow_other w _ _ _ hb, by simp⟩
  · have := run_storeCells_at P (ρ l).blk ((ρ l).base + off) e vs 0 cur w hr (by simpa using hfit2) h1
    simpa [wr] using this
  · refine h.step id rfl rfl rfl (by simp) (fun b hb hio => ?_) hτ (fun i o2 hi => ?_) (fun i j o1 o2 hi hj he => ?_)
    · refine setRow_other w _ _ _ (fun e => ?_)
      rcases h.fresh l o ho with ⟨h3, _⟩ | h3
      · exact hio (e ▸ h3)
      · omega
    · rcases live_set.1 hi with ⟨rfl, _, e2⟩ | ⟨hne, hi⟩
      · cases e2
        refine .inr ⟨⟨⟨_, e, setRow_heap w _ cur _ e _ hr, ?_⟩, ?_, fun j hj => ?_⟩, h.fresh _ o ho, fun hk => h.stay _ o hk ho⟩
        · simp only [List.size_toArray]; rw [length_wr _ _ _ (by simpa using hfit2)]; simpa using hs
        · simp only; rw [length_wr _ _ _ hfit]; exact hf
        · simp only at hj
          rw [length_wr _ _ _ hfit] at hj
          have hget := get_wr o.cells off xs hfit j
          have hget2 := get_wr cur.toList ((ρ i).base + off) vs (by simpa using hfit2) ((ρ i).base + j)
          have hcell : ∀ c, (wr cur.toList ((ρ i).base + off) vs)[(ρ i).base + j]? = some c → (w.setRow (ρ i).blk (wr cur.toList ((ρ i).base + off) vs).toArray).cell? ⟨(ρ i).blk, (ρ i).base + j, none⟩ = some c := by
            intro c hc'
            simp only [World.cell?, setRow_heap w _ cur _ e _ hr]
            simpa using hc'
          by_cases hin : off ≤ j ∧ j < off + xs.length
          · rw [if_neg (by omega), if_pos (by omega)] at hget hget2
            have hx : j - off < xs.length := by omega
            have hv : j - off < vs.length := by omega
            rw [show (ρ i).base + j - ((ρ i).base + off) = j - off from by omega, List.getElem?_eq_getElem hv] at hget2
            rw [List.getElem?_eq_getElem hx] at hget
            refine ⟨_, hcell _ hget2, ?_, h1 _ (List.getElem_mem hv)⟩
            have h3 := hrep (j - off) hx
            rw [show vs.getD (j - off) undef = vs[j - off] from by simp [List.getD, hv]] at h3
            have h4 := hτ _ _ h3
            have h5 : (wr o.cells off xs)[j]'(by rw [length_wr _ _ _ hfit]; exact hj) = xs[j - off] := by
              have := hget; rw [List.getElem?_eq_some_iff] at this; exact this.2
            simp only [h5]
            exact h4
          · have hold : (wr o.cells off xs)[j]? = o.cells[j]? := by
              rw [hget]; split
              · rfl
              · rw [if_neg (by omega)]
            have hold2 : (wr cur.toList ((ρ i).base + off) vs)[(ρ i).base + j]? = cur.toList[(ρ i).base + j]? := by
              rw [hget2]; split
              · rfl
              · rw [if_neg (by omega)]
            obtain ⟨c, h2, h3, h4⟩ := hc j hj
            have hcc : cur.toList[(ρ i).base + j]? = some c := by
              simp only [World.cell?, hr] at h2
              simpa using h2
            refine ⟨c, hcell _ (hold2.trans hcc), ?_, h4⟩
            have h5 : (wr o.cells off xs)[j]'(by rw [length_wr _ _ _ hfit]; exact hj) = o.cells[j] := by
              rw [List.getElem?_eq_getElem hj] at hold; rw [List.getElem?_eq_some_iff] at hold; exact hold.2
            simp only [h5]
            exact hτ _ _ h3
      · refine .inl ⟨o2, hi, by simp, rfl, setRow_other w _ _ _ (fun e => hne (h.inj _ _ _ _ hi ho e))⟩
    · have fix : ∀ {i o1}, Live (ob.set l (some ⟨o.esz, wr o.cells off xs⟩)) i o1 → ∃ o2, Live ob i o2 := by
        intro i o1 hi
        rcases live_set.1 hi with ⟨rfl, _, _⟩ | ⟨_, hi⟩
        · exact ⟨o, ho⟩
        · exact ⟨_, hi⟩
      obtain ⟨p1, hp1⟩ := fix hi
      obtain ⟨p2, hp2⟩ := fix hj
      exact h.inj i j p1 p2 hp1 hp2 he

/-! ### an object at a new place (append); the elder references to it are junk -/

def killB (l : Nat) : Nat → Bool := fun i => Nat.beq i l

theorem killB_self (l : Nat) : killB l l = true := by simp [killB]
theorem killB_ne {l i : Nat} (h : i ≠ l) : killB l i = false := by
  cases hb : killB l i with
  | false => rfl
  | true => exact absurd (Nat.eq_of_beq_eq_true hb) h

theorem HOk.place {F : Fr} {w w' : World} {ρ : Nat → Pl} {ob : Objs} (h : HOk F w ρ ob) {l : Nat} (hl : l < ob.length) (hk : F.k ≤ l) (p : Pl) (o' : Ob)
    (hos : w'.os = w.os) (htape : w'.tape = w.tape) (hout : w'.output = w.output) (hsize : w.heap.size ≤ w'.heap.size)
    (hg : (∃ o, Live ob l o ∧ p.blk = (ρ l).blk) ∨ w.heap.size ≤ p.blk)
    (hoth : ∀ b, b < w.heap.size → b ≠ p.blk → w'.heap[b]? = w.heap[b]?)
    (hrow : ∃ cur e, w'.heap[p.blk]? = some (.cells cur e (0, 0)) ∧ cur.size = p.size) (hfit : p.base + o'.cells.length ≤ p.size)
    (hcell : ∀ i (h : i < o'.cells.length), ∃ c x, w'.cell? ⟨p.blk, p.base + i, none⟩ = some c ∧ RepC w (F.Y ρ ob) ρ ob c x ∧ o'.cells[i] = x.kill (killB l) ∧ c.oneCell' = true) :
    HOk F w' (plNew ρ l p) ((trO (V.kill (killB l)) ob).set l (some o')) ∧
    (∀ v x, RepC w (F.Y ρ ob) ρ ob v x → RepC w' (F.Y (plNew ρ l p) ((trO (V.kill (killB l)) ob).set l (some o'))) (plNew ρ l p) ((trO (V.kill (killB l)) ob).set l (some o')) v (x.kill (killB l))) := by
  have hlen : (trO (V.kill (killB l)) ob).length = ob.length := by simp [trO]
  have hfr : F.W.heap.size ≤ p.blk := by
    rcases hg with ⟨o, ho, e⟩ | e
    · rw [e]
      rcases h.fresh l o ho with ⟨_, h3⟩ | h3
      · omega
      · exact h3
    · exact Nat.le_trans h.size e
  have hnew : ∀ {i o2}, Live ((trO (V.kill (killB l)) ob).set l (some o')) i o2 → i ≠ l → ∃ o1, Live ob i o1 ∧ o2 = ⟨o1.esz, o1.cells.map (V.kill (killB l))⟩ := by
    intro i o2 hi hne
    rcases live_set.1 hi with ⟨e, _⟩ | ⟨_, hi⟩
    · exact absurd e hne
    · obtain ⟨o1, h1, h2⟩ := live_trO.1 hi
      exact ⟨o1, h1, h2⟩
  have hτ : ∀ v x, RepC w (F.Y ρ ob) ρ ob v x → RepC w' (F.Y (plNew ρ l p) ((trO (V.kill (killB l)) ob).set l (some o'))) (plNew ρ l p) ((trO (V.kill (killB l)) ob).set l (some o')) v (x.kill (killB l)) := by
    intro v x hx
    refine hx.mono (fun a c hn hc => ?_) (fun b hb => ?_) (killB l) (fun i o hpi hi => ?_)
    · have hlt := World.block_lt_of_cell? w a hc
      have hne : a.block ≠ p.blk := by
        intro e
        rcases hg with ⟨o, ho, e2⟩ | e2
        · exact hn (.inr ⟨l, o, ho, by rw [← e2, e]⟩)
        · omega
      rw [← hc]
      exact World.cell?_of_block (hoth _ hlt hne)
    · rintro (hx | ⟨i, o2, hi, he⟩)
      · exact .inl hx
      · by_cases e : i = l
        · subst e
          rw [plNew_same] at he
          rcases hg with ⟨o, ho, e2⟩ | e2
          · exact .inr ⟨i, o, ho, by rw [← e2, he]⟩
          · omega
        · obtain ⟨o1, h1, _⟩ := hnew hi e
          rw [plNew_other _ _ _ e] at he
          exact .inr ⟨i, o1, h1, he⟩
    · have hne : i ≠ l := fun e => by rw [e, killB_self] at hpi; cases hpi
      exact ⟨_, live_set.2 (.inr ⟨hne, live_trO.2 ⟨o, hi, rfl⟩⟩), rfl, plNew_other _ _ _ hne⟩
  refine ⟨h.step (V.kill (killB l)) hos htape hout hsize (fun b hb _ => hoth b (Nat.lt_of_lt_of_le hb h.size) (by omega)) hτ (fun i o2 hi => ?_) (fun i j o1 o2 hi hj he => ?_), hτ⟩
  · by_cases e : i = l
    · subst e
      have : o2 = o' := by
        rcases live_set.1 hi with ⟨_, _, e2⟩ | ⟨h2, _⟩
        · cases e2; rfl
        · exact absurd rfl h2
      subst this
      rw [plNew_same]
      refine .inr ⟨⟨hrow, hfit, fun j hj => ?_⟩, .inr hfr, fun hk2 => by omega⟩
      obtain ⟨c, x, h1, h2, h3, h4⟩ := hcell j hj
      rw [h3]
      exact ⟨c, h1, hτ _ _ h2, h4⟩
    · obtain ⟨o1, h1, h2⟩ := hnew hi e
      refine .inl ⟨o1, h1, h2, plNew_other _ _ _ e, hoth _ (h.blk_lt h1) (fun e2 => ?_)⟩
      rcases hg with ⟨o, ho, e3⟩ | e3
      · exact e (h.inj i l o1 o h1 ho (e2.trans e3))
      · have := h.blk_lt h1; omega
  · by_cases e1 : i = l <;> by_cases e2 : j = l
    · omega
    · obtain ⟨q, h1, _⟩ := hnew hj e2
      rw [e1, plNew_same, plNew_other _ _ _ e2] at he
      rcases hg with ⟨o, ho, e3⟩ | e3
      · exact absurd (h.inj j l q o h1 ho (he.symm.trans e3)) e2
      · have := h.blk_lt h1; omega
    · obtain ⟨q, h1, _⟩ := hnew hi e1
      rw [e2, plNew_same, plNew_other _ _ _ e1] at he
      rcases hg with ⟨o, ho, e3⟩ | e3
      · exact absurd (h.inj i l q o h1 ho (he.trans e3)) e1
      · have := h.blk_lt h1; omega
    · obtain ⟨q1, h1, _⟩ := hnew hi e1
      obtain ⟨q2, h2, _⟩ := hnew hj e2
      rw [plNew_other _ _ _ e1, plNew_other _ _ _ e2] at he
      exact h.inj i j q1 q2 h1 h2 he

/-! ### an object frozen -/

def oneF (l : Nat) (o : Ob) : Nat → Option Ob := fun i => bif Nat.beq i l then some o else none

theorem oneF_some {l i : Nat} {o x : Ob} (h : oneF l o i = some x) : i = l ∧ x = o := by
  unfold oneF at h
  cases hb : Nat.beq i l with
  | false => simp [hb] at h
  | true => simp [hb] at h; exact ⟨Nat.eq_of_beq_eq_true hb, h.symm⟩

theorem oneF_none {l i : Nat} {o : Ob} (h : oneF l o i = none) : i ≠ l := by
  rintro rfl
  simp [oneF] at h

theorem HOk.freeze {F : Fr} {w : World} {ρ : Nat → Pl} {ob : Objs} (h : HOk F w ρ ob) {l : Nat} {o : Ob} (ho : Live ob l o) (hi : V.immL o.cells = true) :
    HOk F w ρ ((trO (V.frz (oneF l o)) ob).set l none) ∧
    (∀ v x, RepC w (F.Y ρ ob) ρ ob v x → RepC w (F.Y ρ ((trO (V.frz (oneF l o)) ob).set l none)) ρ ((trO (V.frz (oneF l o)) ob).set l none) v (x.frz (oneF l o))) := by
  have hold : ∀ {i o2}, Live ((trO (V.frz (oneF l o)) ob).set l none) i o2 → i ≠ l ∧ ∃ o1, Live ob i o1 ∧ o2 = ⟨o1.esz, o1.cells.map (V.frz (oneF l o))⟩ := by
    intro i o2 hi
    rcases live_set.1 hi with ⟨_, _, e⟩ | ⟨hne, hi⟩
    · cases e
    · exact ⟨hne, live_trO.1 hi⟩
  have hτ : ∀ v x, RepC w (F.Y ρ ob) ρ ob v x → RepC w (F.Y ρ ((trO (V.frz (oneF l o)) ob).set l none)) ρ ((trO (V.frz (oneF l o)) ob).set l none) v (x.frz (oneF l o)) := by
    intro v x hx
    refine hx.frz (oneF l o) (fun i o2 hf => ?_) (fun b hb => ?_) (fun i o2 hf => ?_) (fun i o2 hi2 hf => ?_)
    · obtain ⟨rfl, rfl⟩ := oneF_some hf
      exact ⟨ho, hi, h.obj _ _ ho⟩
    · rintro (hx | ⟨i, o2, hi2, he⟩)
      · exact .inl hx
      · obtain ⟨_, o1, h1, _⟩ := hold hi2
        exact .inr ⟨i, o1, h1, he⟩
    · obtain ⟨rfl, rfl⟩ := oneF_some hf
      rintro (hx | ⟨j, o3, hj, he⟩)
      · exact h.notX ho hx
      · obtain ⟨hne, o1, h1, _⟩ := hold hj
        exact hne (h.inj j i o1 o2 h1 ho he)
    · have hne := oneF_none hf
      exact ⟨_, live_set.2 (.inr ⟨hne, live_trO.2 ⟨o2, hi2, rfl⟩⟩), rfl, rfl⟩
  refine ⟨h.step (V.frz (oneF l o)) rfl rfl rfl (Nat.le_refl _) (fun _ _ _ => rfl) hτ (fun i o2 hi2 => ?_) (fun i j o1 o2 h1 h2 he => ?_), hτ⟩
  · obtain ⟨hne, o1, h1, h2⟩ := hold hi2
    exact .inl ⟨o1, h1, h2, rfl, rfl⟩
  · obtain ⟨_, q1, h1, _⟩ := hold h1
    obtain ⟨_, q2, h2, _⟩ := hold h2
    exact h.inj i j q1 q2 h1 h2 he

/-! ### a weaker state -/

def V.le (x y : V) : Prop := x = y ∨ y = .junk ∨ (x = .sc (.slice none 0 0) ∧ y = .sl 0 [])

theorem V.le_refl (x : V) : V.le x x := .inl rfl

theorem RepC.le {w : World} {Y : Nat → Prop} {ρ : Nat → Pl} {ob : Objs} {v : Value} {x y : V} (h : RepC w Y ρ ob v x) (hl : V.le x y) : RepC w Y ρ ob v y := by
  rcases hl with rfl | rfl | ⟨rfl, rfl⟩
  · exact h
  · exact .junk
  · cases h with
    | d h => cases h with | sc v => exact .d .nil

def fromB (m : Nat) : Nat → Bool := fun i => Nat.ble m i

def leSl (p : Nat → Bool) (s : AState) : List (Nat × V) → Prop
  | [] => True
  | q :: r => V.le ((s.get q.1).kill p) q.2 ∧ leSl p s r

def leOb (p : Nat → Bool) : Objs → Objs → Prop
  | [], _ => True
  | none :: r, none :: r' => leOb p r r'
  | some o :: r, some o' :: r' => (o.esz = o'.esz ∧ V.killL p o'.cells = o.cells) ∧ leOb p r r'
  | _ :: _, _ => False

/-- t is s, some slots and the objects from a number on forgotten -/
def leS (s t : AState) : Prop := s.n = t.n ∧ s.k = t.k ∧ t.k ≤ t.ob.length ∧ leSl (fromB t.ob.length) s t.sl ∧ leOb (fromB t.ob.length) t.ob s.ob

theorem leSl_get {p : Nat → Bool} {s : AState} {sl : List (Nat × V)} (h : leSl p s sl) (t : Nat) : V.le ((s.get t).kill p) (lk t sl) := by
  induction sl with
  | nil => exact .inr (.inl rfl)
  | cons q r ih =>
    obtain ⟨h1, h2⟩ := h
    simp only [lk]
    cases hb : Nat.beq q.1 t with
    | true => have := Nat.eq_of_beq_eq_true hb; subst this; exact h1
    | false => exact ih h2

theorem leOb_live {p : Nat → Bool} {ob ob' : Objs} (h : leOb p ob ob') (l : Nat) :
    (∀ o, Live ob l o → ∃ o', Live ob' l o' ∧ o = ⟨o'.esz, o'.cells.map (V.kill p)⟩) ∧ (l < ob.length → ∀ o', Live ob' l o' → ∃ o, Live ob l o) := by
  induction ob generalizing ob' l with
  | nil => exact ⟨fun o h => by simp [Live] at h, fun h => by simp at h⟩
  | cons x r ih =>
    cases ob' with
    | nil => cases x <;> simp [leOb] at h
    | cons y r' =>
      cases l with
      | zero =>
        cases x <;> cases y <;> simp only [leOb] at h
        · exact ⟨fun o h => by simp [Live] at h, fun _ o h => by simp [Live] at h⟩
        · rename_i o o'
          obtain ⟨⟨h1, h2⟩, _⟩ := h
          rw [killL_eq] at h2
          refine ⟨fun q hq => ⟨o', rfl, ?_⟩, fun _ q hq => ⟨o, rfl⟩⟩
          simp [Live] at hq
          subst hq
          cases o; simp_all
      | succ l =>
        have hr : leOb p r r' := by cases x <;> cases y <;> simp [leOb] at h <;> first | exact h | exact h.2
        have := ih hr l
        simpa [Live] using this

theorem Sat.le {F : Fr} {s t : AState} {ρ : Nat → Pl} {a : Act} {w : World} (h : Sat F s ρ a w) (hl : leS s t) : Sat F t ρ a w := by
  obtain ⟨hn, hk, hkl, hsl, hob⟩ := hl
  have hτ : ∀ v x, RepC w (F.Y ρ s.ob) ρ s.ob v x → RepC w (F.Y ρ t.ob) ρ t.ob v (x.kill (fromB t.ob.length)) := by
    intro v x hx
    refine hx.mono (fun _ _ _ h => h) (fun b hb => ?_) _ (fun l o hp ho => ?_)
    · rintro (hx | ⟨i, o, hi, he⟩)
      · exact .inl hx
      · obtain ⟨o', h1, _⟩ := (leOb_live hob i).1 o hi
        exact .inr ⟨i, o', h1, he⟩
    · have hlt : l < t.ob.length := by
        have : ¬ t.ob.length ≤ l := fun hle => by
          have := Nat.ble_eq_true_of_le hle
          unfold fromB at hp; rw [this] at hp; cases hp
        omega
      obtain ⟨o', h1⟩ := (leOb_live hob l).2 hlt o ho
      obtain ⟨o2, h2, h3⟩ := (leOb_live hob l).1 o' h1
      have : o2 = o := by unfold Live at h2 ho; rw [h2] at ho; cases ho; rfl
      subst this
      exact ⟨o', h1, by rw [h3], rfl⟩
  refine ⟨h.heap.step (V.kill (fromB t.ob.length)) rfl rfl rfl (Nat.le_refl _) (fun _ _ _ => rfl) hτ (fun l o ho => ?_) (fun i j o1 o2 h1 h2 he => ?_), h.dfs, h.size.trans hn, hk.symm.trans h.k, by rw [← h.k, hk]; exact hkl, fun u => ?_⟩
  · obtain ⟨o', h1, h2⟩ := (leOb_live hob l).1 o ho
    exact .inl ⟨o', h1, h2, rfl, rfl⟩
  · obtain ⟨q1, h1, _⟩ := (leOb_live hob i).1 o1 h1
    obtain ⟨q2, h2, _⟩ := (leOb_live hob j).1 o2 h2
    exact h.heap.inj i j q1 q2 h1 h2 he
  · exact (hτ _ _ (h.slot u)).le (leSl_get hsl u)

end Go.AG
