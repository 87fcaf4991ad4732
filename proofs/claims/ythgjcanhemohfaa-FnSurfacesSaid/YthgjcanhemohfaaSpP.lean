/- surfaces of a flooded land: plain law -/
import Derived.Test.YthgjcanhemohfaaPooP
set_option linter.unusedVariables false
set_option linter.unusedSimpArgs false
namespace Go.Proofs.Ythgjcanhemohfaa
open Go.AG

def mxI (a b : Int) : Int := if a < b then b else a
theorem mxI_ge (a b : Int) : a ≤ mxI a b ∧ b ≤ mxI a b ∧ (mxI a b = a ∨ mxI a b = b) := by unfold mxI; split <;> omega
theorem mxI_mono {a b c : Int} (h : a ≤ b) : mxI a c ≤ mxI b c := by unfold mxI; split <;> split <;> omega
structure Sp where
  out : List Int
  op : List Int
  od : List Int
/-- the number of a cell's surface -/
abbrev ga (xs : List Int) (x : Int) : Int := gi xs x.toNat
theorem ga_set_same {xs : List Int} {x n : Int} (h : 0 ≤ x ∧ x < xs.length) : ga (xs.set x.toNat n) x = n := gi_set_same _ _ _ (by omega)
theorem ga_set_ne {xs : List Int} {x y n : Int} (h : 0 ≤ x) (hy : 0 ≤ y) (hn : y ≠ x) : ga (xs.set x.toNat n) y = ga xs y := gi_set_ne _ _ _ _ (by omega)
def bsK (out op : List Int) : Nat → Int
  | 0 => -1
  | i + 1 => if (i : Int) ∈ op ∧ (bsK out op i < 0 ∨ gi out i < ga out (bsK out op i)) then i else bsK out op i
theorem bsK_ok (out op : List Int) : ∀ n, (bsK out op n = -1 ∧ ∀ i : Nat, i < n → ¬ (i : Int) ∈ op) ∨ (∃ b : Nat, bsK out op n = b ∧ b < n ∧ (b : Int) ∈ op ∧ ∀ i : Nat, i < n → (i : Int) ∈ op → gi out b ≤ gi out i)
  | 0 => .inl ⟨rfl, fun i h => by omega⟩
  | n + 1 => by
    simp only [bsK]
    rcases bsK_ok out op n with ⟨h1, h2⟩ | ⟨b, h1, h2, h3, h4⟩
    · by_cases g : (n : Int) ∈ op
      · refine .inr ⟨n, if_pos ⟨g, .inl (by omega)⟩, by omega, g, fun i hi hm => ?_⟩
        by_cases e : i = n
        · subst e; omega
        · exact absurd hm (h2 i (by omega))
      · refine .inl ⟨by rw [if_neg (fun e => g e.1)]; exact h1, fun i hi => ?_⟩
        by_cases e : i = n
        · subst e; exact g
        · exact h2 i (by omega)
    · by_cases g : (n : Int) ∈ op ∧ (bsK out op n < 0 ∨ gi out n < ga out (bsK out op n))
      · refine .inr ⟨n, if_pos g, by omega, g.1, fun i hi hm => ?_⟩
        by_cases e : i = n
        · subst e; omega
        · have := h4 i (by omega) hm
          have g2 := g.2
          rw [h1] at g2
          simp only [ga, Int.toNat_natCast] at g2
          omega
      · refine .inr ⟨b, by rw [if_neg g]; exact h1, by omega, h3, fun i hi hm => ?_⟩
        by_cases e : i = n
        · subst e
          rw [h1] at g
          simp only [ga, Int.toNat_natCast, hm, true_and, not_or] at g
          omega
        · exact h4 i (by omega) hm
theorem bsK_bd (out op : List Int) (n : Nat) : -1 ≤ bsK out op n ∧ bsK out op n < n := by
  rcases bsK_ok out op n with ⟨h, _⟩ | ⟨b, h, h2, _⟩ <;> omega
def spS (l : Ld) (b : Int) (a : Sp) (x : Int) : Sp :=
  if ¬ x ∈ a.od ∧ (¬ x ∈ a.op ∨ mxI (ga a.out b) (ga l.hs x) < ga a.out x) then
    ⟨a.out.set x.toNat (mxI (ga a.out b) (ga l.hs x)), if x ∈ a.op then a.op else a.op ++ [x], a.od⟩ else a
def spT (a : Sp) (b : Int) : Sp := ⟨a.out, a.op.erase b, a.od ++ [b]⟩
def spR (l : Ld) (b : Int) (a : Sp) (xs : List Int) : Sp := xs.foldl (spS l b) a
theorem spR_succ (l : Ld) (b : Int) (a : Sp) (xs : List Int) (k : Nat) (h : k < xs.length) : spR l b a (xs.take (k + 1)) = spS l b (spR l b a (xs.take k)) (gi xs k) := by
  rw [take_succ_gi xs k h, spR, List.foldl_append]; rfl
def spB (l : Ld) (a : Sp) : Int := bsK a.out a.op l.hs.length
def spN (l : Ld) (a : Sp) : Sp := spR l (spB l a) (spT a (spB l a)) (near l (spB l a))
def spP (l : Ld) (a : Sp) (c : Int) : Sp := ⟨a.out.set c.toNat (ga l.hs c), if c ∈ a.op then a.op else a.op ++ [c], []⟩
def spI (l : Ld) (fr : List Int) : Sp := fr.foldl (spP l) ⟨List.replicate l.hs.length 0, [], []⟩
theorem spI_succ (l : Ld) (fr : List Int) (k : Nat) (h : k < fr.length) : spI l (fr.take (k + 1)) = spP l (spI l (fr.take k)) (gi fr k) := by
  rw [take_succ_gi fr k h, spI, List.foldl_append]; rfl
def spK (l : Ld) (fr : List Int) : Nat → Sp
  | 0 => spI l fr
  | k + 1 => if (spK l fr k).op = [] then spK l fr k else spN l (spK l fr k)
def spE (l : Ld) (fr : List Int) : Sp := spK l fr l.hs.length

structure SpOk (l : Ld) (fr : List Int) (Q : Int → Int → Prop) (a : Sp) : Prop where
  len : a.out.length = l.hs.length
  cel : ∀ x ∈ a.op ++ a.od, inC l x
  nd : (a.op ++ a.od).Nodup
  dn : ∀ d ∈ a.od, ∀ o ∈ a.op, ga a.out d ≤ ga a.out o
  up : ∀ x ∈ a.op ++ a.od, ga l.hs x ≤ ga a.out x
  hi : ∀ x ∈ a.op ++ a.od, ga a.out x ≤ 2000
  fo : ∀ o ∈ fr, o ∈ a.op ++ a.od ∧ ga a.out o ≤ ga l.hs o
  rx : ∀ d ∈ a.od, ∀ y ∈ near l d, Q d y → y ∈ a.op ++ a.od ∧ ga a.out y ≤ mxI (ga a.out d) (ga l.hs y)
  on : ∀ x ∈ a.op ++ a.od, x ∈ fr ∨ ∃ b ∈ a.od, x ∈ near l b ∧ ga a.out b ≤ ga a.out x
  mn : ∀ T : Int → Int, (∀ o ∈ fr, T o ≤ ga l.hs o) → (∀ x y, inC l x → y ∈ near l x → T y ≤ mxI (T x) (ga l.hs y)) → ∀ x ∈ a.op ++ a.od, T x ≤ ga a.out x
  so : ∀ i, i + 1 < a.od.length → ga a.out (gi a.od i) ≤ ga a.out (gi a.od (i + 1))
theorem spS_ok {l : Ld} {fr : List Int} {Q : Int → Int → Prop} {a : Sp} (hok : okL l = true) (h : SpOk l fr Q a) (b x : Int) (hb : b ∈ a.od) (hbd : ∀ d ∈ a.od, ga a.out d ≤ ga a.out b) (hx : x ∈ near l b) :
    SpOk l fr (fun d y => Q d y ∨ (d = b ∧ y = x)) (spS l b a x) ∧ (spS l b a x).od = a.od ∧ ∀ d ∈ a.od, ga (spS l b a x).out d = ga a.out d := by
  have hbc : inC l b := h.cel b (List.mem_append.2 (.inr hb))
  have hxc : inC l x := near_in l hok b hbc x hx
  have hxb : 0 ≤ x ∧ x ≤ (l.hs.length : Int) - 1 := hxc
  have hm := mxI_ge (ga a.out b) (ga l.hs x)
  have hhx := okL_h hok x.toNat (by omega)
  unfold spS
  split
  · rename_i g
    obtain ⟨g1, g2⟩ := g
    generalize hmd : mxI (ga a.out b) (ga l.hs x) = m at *
    have hsame : ga (a.out.set x.toNat m) x = m := ga_set_same (by rw [h.len]; omega)
    have hne : ∀ y, inC l y → y ≠ x → ga (a.out.set x.toNat m) y = ga a.out y := fun y hy e => by
      have : 0 ≤ y ∧ y ≤ (l.hs.length : Int) - 1 := hy
      exact ga_set_ne hxb.1 this.1 e
    have hod : ∀ d ∈ a.od, d ≠ x := fun d hd e => g1 (e ▸ hd)
    have hodv : ∀ d ∈ a.od, ga (a.out.set x.toNat m) d = ga a.out d := fun d hd => hne d (h.cel d (List.mem_append.2 (.inr hd))) (hod d hd)
    have hmem : ∀ y, y ∈ (if x ∈ a.op then a.op else a.op ++ [x]) ++ a.od ↔ y ∈ a.op ++ a.od ∨ y = x := fun y => by
      split
      · rename_i e
        constructor
        · exact .inl
        · rintro (h | rfl)
          · exact h
          · exact List.mem_append.2 (.inl e)
      · simp only [List.mem_append, List.mem_singleton]
        constructor
        · rintro ((h | h) | h)
          · exact .inl (.inl h)
          · exact .inr h
          · exact .inl (.inr h)
        · rintro ((h | h) | h)
          · exact .inl (.inl h)
          · exact .inr h
          · exact .inl (.inr h)
    have hmop : ∀ y, y ∈ (if x ∈ a.op then a.op else a.op ++ [x]) → y ∈ a.op ∨ y = x := fun y => by
      split
      · exact .inl
      · simp only [List.mem_append, List.mem_singleton]; exact id
    have hold : x ∈ a.op ++ a.od → m < ga a.out x := fun e => by
      rcases List.mem_append.1 e with e | e
      · rcases g2 with g2 | g2
        · exact absurd e g2
        · exact g2
      · exact absurd e g1
    have hbv := hodv b hb
    refine ⟨⟨by simp [h.len], ?_, ?_, ?_, ?_, ?_, ?_, ?_, ?_, ?_, ?_⟩, rfl, hodv⟩
    · intro y hy
      rcases (hmem y).1 hy with hy | rfl
      · exact h.cel y hy
      · exact hxc
    · show ((if x ∈ a.op then a.op else a.op ++ [x]) ++ a.od).Nodup
      split
      · exact h.nd
      · rename_i e
        rw [List.append_assoc]
        have hp : (a.op ++ ([x] ++ a.od)).Perm ((a.op ++ a.od) ++ [x]) := by
          rw [List.append_assoc]
          exact List.Perm.append_left _ List.perm_append_comm
        rw [hp.nodup_iff]
        exact nodup_snoc h.nd (fun e2 => by rcases List.mem_append.1 e2 with e2 | e2; exact e e2; exact g1 e2)
    · intro d hd o ho
      show ga (a.out.set x.toNat m) d ≤ ga (a.out.set x.toNat m) o
      rw [hodv d hd]
      by_cases e : o = x
      · subst e
        rw [hsame]
        have := hbd d hd
        omega
      · rcases hmop o ho with ho | ho
        · rw [hne o (h.cel o (List.mem_append.2 (.inl ho))) e]
          exact h.dn d hd o ho
        · exact absurd ho e
    · intro y hy
      show ga l.hs y ≤ ga (a.out.set x.toNat m) y
      by_cases e : y = x
      · subst e; rw [hsame]; omega
      · have hy := ((hmem y).1 hy).resolve_right e
        rw [hne y (h.cel y hy) e]; exact h.up y hy
    · intro y hy
      show ga (a.out.set x.toNat m) y ≤ 2000
      by_cases e : y = x
      · subst e
        rw [hsame]
        have := h.hi b (List.mem_append.2 (.inr hb))
        rcases hm.2.2 with e2 | e2
        · omega
        · rw [e2]; exact hhx.2
      · have hy := ((hmem y).1 hy).resolve_right e
        rw [hne y (h.cel y hy) e]; exact h.hi y hy
    · intro o ho
      obtain ⟨h1, h2⟩ := h.fo o ho
      refine ⟨(hmem o).2 (.inl h1), ?_⟩
      show ga (a.out.set x.toNat m) o ≤ ga l.hs o
      by_cases e : o = x
      · subst e
        rw [hsame]
        have := hold h1
        omega
      · rw [hne o (h.cel o h1) e]; exact h2
    · intro d hd y hy hq
      show y ∈ (if x ∈ a.op then a.op else a.op ++ [x]) ++ a.od ∧ ga (a.out.set x.toNat m) y ≤ mxI (ga (a.out.set x.toNat m) d) (ga l.hs y)
      rw [hodv d hd]
      by_cases e : y = x
      · subst e
        refine ⟨(hmem y).2 (.inr rfl), ?_⟩
        rw [hsame]
        rcases hq with hq | ⟨rfl, _⟩
        · obtain ⟨h1, h2⟩ := h.rx d hd y hy hq
          have := hold h1
          omega
        · omega
      · have hq := hq.resolve_right (fun e2 => e e2.2)
        obtain ⟨h1, h2⟩ := h.rx d hd y hy hq
        refine ⟨(hmem y).2 (.inl h1), ?_⟩
        rw [hne y (h.cel y h1) e]; exact h2
    · intro y hy
      by_cases e : y = x
      · subst e
        refine .inr ⟨b, hb, hx, ?_⟩
        show ga (a.out.set y.toNat m) b ≤ ga (a.out.set y.toNat m) y
        rw [hsame, hbv]; omega
      · have hy := ((hmem y).1 hy).resolve_right e
        rcases h.on y hy with h1 | ⟨c, hc, h1, h2⟩
        · exact .inl h1
        · refine .inr ⟨c, hc, h1, ?_⟩
          show ga (a.out.set x.toNat m) c ≤ ga (a.out.set x.toNat m) y
          rw [hodv c hc, hne y (h.cel y hy) e]; exact h2
    · intro T h1 h2 y hy
      show T y ≤ ga (a.out.set x.toNat m) y
      by_cases e : y = x
      · subst e
        have h3 := h2 b y hbc hx
        have h4 := h.mn T h1 h2 b (List.mem_append.2 (.inr hb))
        have h5 := mxI_mono (c := ga l.hs y) h4
        rw [hsame]; omega
      · have hy := ((hmem y).1 hy).resolve_right e
        rw [hne y (h.cel y hy) e]; exact h.mn T h1 h2 y hy
    · intro i hi
      show ga (a.out.set x.toNat m) (gi a.od i) ≤ ga (a.out.set x.toNat m) (gi a.od (i + 1))
      have hi' : i + 1 < a.od.length := hi
      rw [hodv _ (gi_mem _ _ (by omega)), hodv _ (gi_mem _ _ hi')]
      exact h.so i hi'
  · rename_i g
    refine ⟨⟨h.len, h.cel, h.nd, h.dn, h.up, h.hi, h.fo, ?_, h.on, h.mn, h.so⟩, rfl, fun d _ => rfl⟩
    intro d hd y hy hq
    rcases hq with hq | ⟨rfl, rfl⟩
    · exact h.rx d hd y hy hq
    · by_cases e : y ∈ a.od
      · refine ⟨List.mem_append.2 (.inr e), ?_⟩
        have := hbd y e
        omega
      · have e2 : y ∈ a.op ∧ ga a.out y ≤ mxI (ga a.out d) (ga l.hs y) := by
          simp only [e, not_false_eq_true, true_and, not_or, Classical.not_not] at g
          exact ⟨g.1, by omega⟩
        exact ⟨List.mem_append.2 (.inl e2.1), e2.2⟩
theorem spR_ok {l : Ld} {fr : List Int} (hok : okL l = true) (b : Int) : ∀ (xs : List Int) {Q : Int → Int → Prop} {a : Sp}, SpOk l fr Q a → b ∈ a.od → (∀ d ∈ a.od, ga a.out d ≤ ga a.out b) → (∀ x ∈ xs, x ∈ near l b) →
    SpOk l fr (fun d y => Q d y ∨ (d = b ∧ y ∈ xs)) (spR l b a xs) ∧ (spR l b a xs).od = a.od ∧ (∀ d ∈ a.od, ga (spR l b a xs).out d = ga a.out d)
  | [], Q, a, h, hb, hbd, hx => by
    refine ⟨⟨h.len, h.cel, h.nd, h.dn, h.up, h.hi, h.fo, fun d hd y hy hq => ?_, h.on, h.mn, h.so⟩, rfl, fun d _ => rfl⟩
    exact h.rx d hd y hy (hq.resolve_right (fun e => by simp at e))
  | x :: xs, Q, a, h, hb, hbd, hx => by
    obtain ⟨h1, h2, h3⟩ := spS_ok hok h b x hb hbd (hx x (by simp))
    obtain ⟨g1, g2, g3⟩ := spR_ok hok b xs h1 (by rw [h2]; exact hb) (fun d hd => by rw [h2] at hd; rw [h3 d hd, h3 b hb]; exact hbd d hd) (fun y hy => hx y (by simp [hy]))
    refine ⟨⟨g1.len, g1.cel, g1.nd, g1.dn, g1.up, g1.hi, g1.fo, fun d hd y hy hq => ?_, g1.on, g1.mn, g1.so⟩, by rw [← h2]; exact g2, fun d hd => ?_⟩
    · refine g1.rx d hd y hy ?_
      rcases hq with hq | ⟨e, hq⟩
      · exact .inl (.inl hq)
      · rcases List.mem_cons.1 hq with hq | hq
        · exact .inl (.inr ⟨e, hq⟩)
        · exact .inr ⟨e, hq⟩
    · show ga (spR l b (spS l b a x) xs).out d = _
      rw [g3 d (by rw [h2]; exact hd), h3 d hd]
/-- the best open cell -/
theorem spB_ok {l : Ld} {fr : List Int} {Q : Int → Int → Prop} {a : Sp} (h : SpOk l fr Q a) (hne : a.op ≠ []) : spB l a ∈ a.op ∧ ∀ o ∈ a.op, ga a.out (spB l a) ≤ ga a.out o := by
  unfold spB
  have hop : ∀ o ∈ a.op, 0 ≤ o ∧ o ≤ (l.hs.length : Int) - 1 := fun o ho => h.cel o (List.mem_append.2 (.inl ho))
  rcases bsK_ok a.out a.op l.hs.length with ⟨h1, h2⟩ | ⟨b, h1, h2, h3, h4⟩
  · exfalso
    obtain ⟨o, ho⟩ := List.exists_mem_of_ne_nil _ hne
    have := hop o ho
    refine h2 o.toNat (by omega) ?_
    rw [show ((o.toNat : Nat) : Int) = o by omega]; exact ho
  · rw [h1]
    refine ⟨h3, fun o ho => ?_⟩
    have := hop o ho
    have h5 := h4 o.toNat (by omega) (by rw [show ((o.toNat : Nat) : Int) = o by omega]; exact ho)
    simpa [ga] using h5
theorem spB_no {l : Ld} {a : Sp} (h : a.op = []) : spB l a = -1 := by
  unfold spB
  rcases bsK_ok a.out a.op l.hs.length with ⟨h1, _⟩ | ⟨b, _, _, h3, _⟩
  · exact h1
  · rw [h] at h3; simp at h3
theorem spT_ok {l : Ld} {fr : List Int} {a : Sp} (h : SpOk l fr (fun _ _ => True) a) (b : Int) (hb : b ∈ a.op) (hmin : ∀ o ∈ a.op, ga a.out b ≤ ga a.out o) :
    SpOk l fr (fun d _ => d ≠ b) (spT a b) ∧ b ∈ (spT a b).od ∧ ∀ d ∈ (spT a b).od, ga (spT a b).out d ≤ ga (spT a b).out b := by
  have hp : (a.op.erase b ++ (a.od ++ [b])).Perm (a.op ++ a.od) := by
    have h1 : a.op.Perm (b :: a.op.erase b) := List.perm_cons_erase hb
    have h2 : (a.op ++ a.od).Perm ((b :: a.op.erase b) ++ a.od) := h1.append_right _
    have h3 : (a.op.erase b ++ (a.od ++ [b])).Perm (b :: (a.op.erase b ++ a.od)) := by
      rw [← List.append_assoc]; exact List.perm_append_singleton ..
    exact h3.trans h2.symm
  have hmem : ∀ x, x ∈ a.op.erase b ++ (a.od ++ [b]) ↔ x ∈ a.op ++ a.od := fun x => hp.mem_iff
  have hsub : ∀ o ∈ a.op.erase b, o ∈ a.op := fun o ho => List.mem_of_mem_erase ho
  have hod : ∀ d ∈ a.od ++ [b], ga a.out d ≤ ga a.out b := fun d hd => by
    rcases List.mem_append.1 hd with hd | hd
    · exact h.dn d hd b hb
    · rw [List.mem_singleton.1 hd]; exact Int.le_refl _
  refine ⟨⟨h.len, fun x hx => h.cel x ((hmem x).1 hx), hp.nodup_iff.2 h.nd, ?_, fun x hx => h.up x ((hmem x).1 hx), fun x hx => h.hi x ((hmem x).1 hx), fun o ho => ⟨(hmem o).2 (h.fo o ho).1, (h.fo o ho).2⟩, ?_, ?_, fun T h1 h2 x hx => h.mn T h1 h2 x ((hmem x).1 hx), ?_⟩, List.mem_append.2 (.inr (by simp)), hod⟩
  · intro d hd o ho
    have h1 := hod d hd
    have h2 := hmin o (hsub o ho)
    show ga a.out d ≤ ga a.out o
    omega
  · intro d hd y hy hq
    have hd2 : d ∈ a.od := by
      rcases List.mem_append.1 (show d ∈ a.od ++ [b] from hd) with hd | hd
      · exact hd
      · exact absurd (List.mem_singleton.1 hd) hq
    have := h.rx d hd2 y hy trivial
    exact ⟨(hmem y).2 this.1, this.2⟩
  · intro x hx
    rcases h.on x ((hmem x).1 hx) with h1 | ⟨c, hc, h1, h2⟩
    · exact .inl h1
    · exact .inr ⟨c, List.mem_append.2 (.inl hc), h1, h2⟩
  · intro i hi
    have hi : i + 1 < a.od.length + 1 := by simpa [spT] using hi
    show ga a.out (gi (a.od ++ [b]) i) ≤ ga a.out (gi (a.od ++ [b]) (i + 1))
    rw [gi_append_left _ _ _ (by omega)]
    by_cases e : i + 1 < a.od.length
    · rw [gi_append_left _ _ _ e]; exact h.so i e
    · rw [gi_append_right _ _ _ (by omega), show i + 1 - a.od.length = 0 by omega]
      exact h.dn _ (gi_mem _ _ (by omega)) b hb
theorem spN_ok {l : Ld} {fr : List Int} {a : Sp} (hok : okL l = true) (h : SpOk l fr (fun _ _ => True) a) (hne : a.op ≠ []) : SpOk l fr (fun _ _ => True) (spN l a) ∧ (spN l a).od = a.od ++ [spB l a] := by
  obtain ⟨h1, h2⟩ := spB_ok h hne
  obtain ⟨g1, g2, g3⟩ := spT_ok h _ h1 h2
  obtain ⟨k1, k2, k3⟩ := spR_ok hok (spB l a) (near l (spB l a)) g1 g2 g3 (fun x hx => hx)
  unfold spN
  refine ⟨⟨k1.len, k1.cel, k1.nd, k1.dn, k1.up, k1.hi, k1.fo, fun d hd y hy _ => k1.rx d hd y hy ?_, k1.on, k1.mn, k1.so⟩, k2⟩
  by_cases e : d = spB l a
  · exact .inr ⟨e, e ▸ hy⟩
  · exact .inl e
theorem spI_ok {l : Ld} (hok : okL l = true) (fr : List Int) (hfr : ∀ o ∈ fr, inC l o) : SpOk l fr (fun _ _ => True) (spI l fr) ∧ (spI l fr).od = [] := by
  have key : ∀ k, k ≤ fr.length → (spI l (fr.take k)).out.length = l.hs.length ∧ (spI l (fr.take k)).od = [] ∧ (spI l (fr.take k)).op.Nodup ∧ (∀ x, x ∈ (spI l (fr.take k)).op ↔ x ∈ fr.take k) ∧ ∀ x ∈ (spI l (fr.take k)).op, ga (spI l (fr.take k)).out x = ga l.hs x := by
    intro k
    induction k with
    | zero => intro _; simp [spI]
    | succ k ih =>
      intro hk
      obtain ⟨h1, h2, h3, h4, h5⟩ := ih (by omega)
      have hc : inC l (gi fr k) := hfr _ (gi_mem _ _ (by omega))
      have hcb : 0 ≤ gi fr k ∧ gi fr k ≤ (l.hs.length : Int) - 1 := hc
      rw [spI_succ l fr k (by omega), take_succ_gi fr k (by omega)]
      generalize spI l (fr.take k) = a at *
      generalize gi fr k = c at *
      unfold spP
      refine ⟨by simp [h1], rfl, ?_, fun x => ?_, fun x hx => ?_⟩
      · show (if c ∈ a.op then a.op else a.op ++ [c]).Nodup
        split
        · exact h3
        · exact nodup_snoc h3 (by assumption)
      · show x ∈ (if c ∈ a.op then a.op else a.op ++ [c]) ↔ _
        rw [List.mem_append, List.mem_singleton, ← h4 x]
        split
        · rename_i e
          constructor
          · exact .inl
          · rintro (h | rfl)
            · exact h
            · exact e
        · rw [List.mem_append, List.mem_singleton]
      · show ga (a.out.set c.toNat (ga l.hs c)) x = ga l.hs x
        by_cases e : x = c
        · subst e; exact ga_set_same (by omega)
        · have hx2 : x ∈ a.op := by
            have hx : x ∈ (if c ∈ a.op then a.op else a.op ++ [c]) := hx
            split at hx
            · exact hx
            · rw [List.mem_append, List.mem_singleton] at hx
              exact hx.resolve_right e
          have hxc : inC l x := hfr x (List.mem_of_mem_take ((h4 x).1 hx2))
          have hxb : 0 ≤ x ∧ x ≤ (l.hs.length : Int) - 1 := hxc
          rw [ga_set_ne hcb.1 hxb.1 e]; exact h5 x hx2
  obtain ⟨h1, h2, h3, h4, h5⟩ := key fr.length (Nat.le_refl _)
  rw [List.take_length] at h1 h2 h3 h4 h5
  have hm : ∀ x, x ∈ (spI l fr).op ++ (spI l fr).od ↔ x ∈ fr := fun x => by rw [h2, List.append_nil]; exact h4 x
  have hv : ∀ x ∈ fr, ga (spI l fr).out x = ga l.hs x := fun x hx => h5 x ((h4 x).2 hx)
  refine ⟨⟨h1, fun x hx => hfr x ((hm x).1 hx), by rw [h2, List.append_nil]; exact h3, by rw [h2]; simp, fun x hx => by rw [hv x ((hm x).1 hx)]; exact Int.le_refl _, fun x hx => ?_, fun o ho => ⟨(hm o).2 ho, by rw [hv o ho]; exact Int.le_refl _⟩, by rw [h2]; simp, fun x hx => .inl ((hm x).1 hx), fun T g1 g2 x hx => ?_, fun i hi => by rw [h2] at hi; simp at hi⟩, h2⟩
  · have hx := (hm x).1 hx
    have hxb : 0 ≤ x ∧ x ≤ (l.hs.length : Int) - 1 := hfr x hx
    rw [hv x hx]; exact (okL_h hok x.toNat (by omega)).2
  · have hx := (hm x).1 hx
    rw [hv x hx]; exact g1 x hx
theorem spK_ok {l : Ld} (hok : okL l = true) (fr : List Int) (hfr : ∀ o ∈ fr, inC l o) : ∀ k, SpOk l fr (fun _ _ => True) (spK l fr k) ∧ ((spK l fr k).op ≠ [] → (spK l fr k).od.length = k) ∧ (spK l fr k).od.length ≤ k
  | 0 => by
    obtain ⟨h1, h2⟩ := spI_ok hok fr hfr
    exact ⟨h1, fun _ => by show (spI l fr).od.length = 0; rw [h2]; rfl, by show (spI l fr).od.length ≤ 0; rw [h2]; exact Nat.le_refl _⟩
  | k + 1 => by
    obtain ⟨h1, h2, h3⟩ := spK_ok hok fr hfr k
    simp only [spK]
    split
    · rename_i e
      exact ⟨h1, fun h => absurd e h, by omega⟩
    · rename_i e
      obtain ⟨g1, g2⟩ := spN_ok hok h1 e
      refine ⟨g1, fun _ => ?_, ?_⟩
      · rw [g2, List.length_append, h2 e]; rfl
      · rw [g2, List.length_append, h2 e]; simp
theorem spK_len {l : Ld} {fr : List Int} {Q : Int → Int → Prop} {a : Sp} (h : SpOk l fr Q a) : a.op.length + a.od.length ≤ l.hs.length := by
  have := cF_usd l.hs.length (a.op ++ a.od) (fun x hx => by have : 0 ≤ x ∧ x ≤ (l.hs.length : Int) - 1 := h.cel x hx; omega) h.nd
  rw [List.length_append] at this
  omega
theorem spK_end {l : Ld} {fr : List Int} {i : Nat} (h : (spK l fr i).op = []) : ∀ j, i ≤ j → spK l fr j = spK l fr i
  | 0, hj => by obtain rfl : i = 0 := by omega
                rfl
  | j + 1, hj => by
    by_cases e : i = j + 1
    · subst e; rfl
    · have ih := spK_end h j (by omega)
      show (if (spK l fr j).op = [] then _ else _) = _
      rw [ih, if_pos h]
theorem spE_nil {l : Ld} (hok : okL l = true) (fr : List Int) (hfr : ∀ o ∈ fr, inC l o) : (spE l fr).op = [] := by
  obtain ⟨h1, h2, h3⟩ := spK_ok hok fr hfr l.hs.length
  by_cases e : (spK l fr l.hs.length).op = []
  · exact e
  · exfalso
    have h4 := h2 e
    have h5 := spK_len h1
    have h6 := List.length_pos_iff.2 e
    omega
theorem spE_eq {l : Ld} {fr : List Int} {k : Nat} (hk : k ≤ l.hs.length) (h : (spK l fr k).op = []) : spE l fr = spK l fr k := spK_end h _ hk
end Go.Proofs.Ythgjcanhemohfaa
