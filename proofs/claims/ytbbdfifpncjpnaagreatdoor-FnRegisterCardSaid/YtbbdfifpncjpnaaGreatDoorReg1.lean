/- the register: parcels added, sold, split, joined: plain -/
import Derived.Test.YtbbdfifpncjpnaaGreatDoorParcel6
set_option linter.unusedVariables false
set_option linter.unusedSimpArgs false
namespace Go.Proofs.YtbbdfifpncjpnaaGreatDoor
open Go.AG

theorem okP_mk {ds : List Pc} (h1 : ds.length ≤ 60) (h2 : ∀ p ∈ ds, pcB p = true) (h3 : ∀ j, j < ds.length → 0 < j → (gPc ds (j - 1)).id < (gPc ds j).id) : okP ds = true := by
  simp only [okP, Bool.and_eq_true, decide_eq_true_eq, List.all_eq_true]
  exact ⟨decide_eq_true h3, h1, h2⟩
theorem okP_pc {ds : List Pc} (h : okP ds = true) : ∀ p ∈ ds, pcB p = true := by
  simp only [okP, Bool.and_eq_true, List.all_eq_true] at h
  exact h.2.2
theorem okP_adj {ds : List Pc} (h : okP ds = true) : ∀ j, j < ds.length → 0 < j → (gPc ds (j - 1)).id < (gPc ds j).id := by
  simp only [okP, Bool.and_eq_true] at h
  exact of_decide_eq_true h.1
theorem pcB_iff (p : Pc) : pcB p = true ↔ (1 ≤ p.id ∧ p.id ≤ 9999) ∧ (0 ≤ p.owner ∧ p.owner ≤ 39) ∧ (1 ≤ p.area ∧ p.area ≤ 10000000) ∧ (0 ≤ p.cls ∧ p.cls ≤ 3) := by
  simp [pcB, Bool.and_eq_true]
theorem pc_ext {xs ys : List Pc} (hl : xs.length = ys.length) (h : ∀ k, k < xs.length → gPc xs k = gPc ys k) : xs = ys := by
  apply List.ext_getElem hl
  intro i h1 h2
  have := h i h1
  rwa [gPc_lt xs i h1, gPc_lt ys i h2] at this
/-- where a number belongs -/
structure PosP (ds : List Pc) (id : Int) (a : Nat) : Prop where
  le : a ≤ ds.length
  lt : ∀ j, j < a → (gPc ds j).id < id
  ge : a < ds.length → id ≤ (gPc ds a).id
theorem PosP.uniq {ds : List Pc} {id : Int} {a b : Nat} (h : PosP ds id a) (h' : PosP ds id b) : a = b := by
  rcases Nat.lt_trichotomy a b with g | g | g
  · have := h'.lt a g; have := h.ge (by have := h'.le; omega); omega
  · exact g
  · have := h.lt b g; have := h'.ge (by have := h.le; omega); omega
theorem PosP.of {ds ds' : List Pc} {id : Int} {a : Nat} (h : PosP ds id a) (hl : ds'.length = ds.length) (hi : ∀ j, (gPc ds' j).id = (gPc ds j).id) : PosP ds' id a :=
  ⟨by rw [hl]; exact h.le, fun j hj => by rw [hi]; exact h.lt j hj, fun hj => by rw [hi]; exact h.ge (by rw [← hl]; exact hj)⟩
/-- the number is there, at this index -/
theorem pw_at {ds : List Pc} (h : okP ds = true) {k : Nat} (hk : k < ds.length) : pwI ds (gPc ds k).id = k :=
  (okP_at h (a := k) (by omega) (fun j hj => okP_id h j k hj hk) (fun _ => Int.le_refl _)).1 ⟨hk, rfl⟩
theorem pw_cases {ds : List Pc} (h : okP ds = true) (id : Int) : (∃ k : Nat, k < ds.length ∧ pwI ds id = k ∧ (gPc ds k).id = id) ∨ (pwI ds id = -1 ∧ ∀ j, j < ds.length → (gPc ds j).id ≠ id) := by
  rcases fsI_cases (fun p : Pc => decide (p.id = id)) ds with ⟨k, hk, e, hq, _⟩ | ⟨e, hn⟩
  · exact .inl ⟨k, hk, e, by rw [gPc_lt ds k hk]; exact of_decide_eq_true hq⟩
  · exact .inr ⟨e, fun j hj => by rw [gPc_lt ds j hj]; exact of_decide_eq_false (hn j hj)⟩
theorem pw_pos {ds : List Pc} (h : okP ds = true) {id : Int} {a : Nat} (P : PosP ds id a) : (a < ds.length ∧ (gPc ds a).id = id → pwI ds id = a) ∧ (¬ (a < ds.length ∧ (gPc ds a).id = id) → pwI ds id = -1) := okP_at h P.le P.lt P.ge
theorem pos_at {ds : List Pc} (h : okP ds = true) {k : Nat} (hk : k < ds.length) : PosP ds (gPc ds k).id k := ⟨by omega, fun j hj => okP_id h j k hj hk, fun _ => Int.le_refl _⟩
/-! put in -/
def insP (ds : List Pc) (a : Nat) (p : Pc) : List Pc := ds.take a ++ p :: ds.drop a
theorem insP_len (ds : List Pc) (a : Nat) (p : Pc) (h : a ≤ ds.length) : (insP ds a p).length = ds.length + 1 := by
  simp [insP]; omega
theorem insP_get (ds : List Pc) (a : Nat) (p : Pc) (h : a ≤ ds.length) (j : Nat) : gPc (insP ds a p) j = if j < a then gPc ds j else if j = a then p else gPc ds (j - 1) := by
  have hl : (ds.take a).length = a := by simp; omega
  unfold insP gPc
  by_cases h1 : j < a
  · rw [if_pos h1, List.getD_eq_getElem?_getD, List.getElem?_append_left (by omega), List.getElem?_take, if_pos h1, List.getD_eq_getElem?_getD]
  · rw [if_neg h1, List.getD_eq_getElem?_getD, List.getElem?_append_right (by omega), hl]
    by_cases h2 : j = a
    · rw [if_pos h2, h2, Nat.sub_self]; rfl
    · rw [if_neg h2, show j - a = (j - 1 - a) + 1 by omega, List.getElem?_cons_succ, List.getElem?_drop, show a + (j - 1 - a) = j - 1 by omega, List.getD_eq_getElem?_getD]
theorem insP_mem {ds : List Pc} {a : Nat} {p q : Pc} (h : q ∈ insP ds a p) : q = p ∨ q ∈ ds := by
  rcases List.mem_append.1 h with h | h
  · exact .inr (List.mem_of_mem_take h)
  · rcases List.mem_cons.1 h with h | h
    · exact .inl h
    · exact .inr (List.mem_of_mem_drop h)
theorem insP_ok {ds : List Pc} (h : okP ds = true) {p : Pc} {a : Nat} (P : PosP ds p.id a) (hn : pwI ds p.id < 0) (hp : pcB p = true) (hl : ds.length ≤ 59) : okP (insP ds a p) = true := by
  have hle := P.le
  have hne : ¬ (a < ds.length ∧ (gPc ds a).id = p.id) := fun g => by
    have := (pw_pos h P).1 g; omega
  refine okP_mk (by rw [insP_len ds a p hle]; omega) (fun q hq => ?_) (fun j hj h0 => ?_)
  · rcases insP_mem hq with rfl | hq
    · exact hp
    · exact okP_pc h q hq
  · rw [insP_len ds a p hle] at hj
    rw [insP_get ds a p hle, insP_get ds a p hle]
    by_cases h1 : j < a
    · rw [if_pos (by omega), if_pos h1]
      exact okP_adj h j (by omega) h0
    · by_cases h2 : j = a
      · rw [if_neg h1, if_pos h2, if_pos (by omega)]
        exact P.lt (j - 1) (by omega)
      · rw [if_neg h1, if_neg h2, if_neg (show ¬ j - 1 < a by omega)]
        by_cases h3 : j - 1 = a
        · rw [if_pos h3]
          have h4 := P.ge (by omega)
          have h5 : (gPc ds a).id ≠ p.id := fun e => hne ⟨by omega, e⟩
          rw [h3]; omega
        · rw [if_neg h3]
          exact okP_adj h (j - 1) (by omega) (by omega)
/-! one is changed, its number is not -/
theorem set_id (ds : List Pc) (k : Nat) (p : Pc) (hp : p.id = (gPc ds k).id) (hk : k < ds.length) (j : Nat) : (gPc (ds.set k p) j).id = (gPc ds j).id := by
  by_cases e : j = k
  · rw [e, gPc_set_same _ _ _ hk, hp]
  · rw [gPc_set_ne _ _ _ _ (fun g => e g.symm)]
theorem set_ok {ds : List Pc} (h : okP ds = true) {k : Nat} (hk : k < ds.length) {p : Pc} (hp : p.id = (gPc ds k).id) (hb : pcB p = true) : okP (ds.set k p) = true := by
  refine okP_mk (by rw [List.length_set]; exact (okP_all h).1) (fun q hq => ?_) (fun j hj h0 => ?_)
  · rcases List.mem_or_eq_of_mem_set hq with hq | rfl
    · exact okP_pc h q hq
    · exact hb
  · rw [List.length_set] at hj
    rw [set_id ds k p hp hk, set_id ds k p hp hk]
    exact okP_adj h j hj h0
theorem set_pw {ds : List Pc} {k : Nat} (hk : k < ds.length) {p : Pc} (hp : p.id = (gPc ds k).id) (id : Int) : pwI (ds.set k p) id = pwI ds id := by
  rcases fsI_cases (fun p : Pc => decide (p.id = id)) ds with ⟨i, hi, e, hq, hn⟩ | ⟨e, hn⟩
  · unfold pwI
    rw [e]
    refine fsI_yes i (by rw [List.length_set]; exact hi) (decide_eq_true ?_) (fun j hj => decide_eq_false ?_)
    · have := set_id ds k p hp hk i
      rw [gPc_lt _ i (by rw [List.length_set]; exact hi), gPc_lt ds i hi] at this
      rw [this]; exact of_decide_eq_true hq
    · have hjl : j < ds.length := by omega
      have := set_id ds k p hp hk j
      rw [gPc_lt _ j (by rw [List.length_set]; exact hjl), gPc_lt ds j hjl] at this
      rw [this]; exact of_decide_eq_false (hn j hj)
  · unfold pwI
    rw [e]
    refine fsI_no fun j hj => decide_eq_false ?_
    rw [List.length_set] at hj
    have := set_id ds k p hp hk j
    rw [gPc_lt _ j (by rw [List.length_set]; exact hj), gPc_lt ds j hj] at this
    rw [this]; exact of_decide_eq_false (hn j hj)
/-! joined: the one grows, the other goes -/
def joV (ds : List Pc) (i k : Nat) : List Pc := (ds.set i ⟨(gPc ds i).id, (gPc ds i).owner, (gPc ds i).area + (gPc ds k).area, (gPc ds i).cls⟩).eraseIdx k
theorem erase_get (xs : List Pc) (k j : Nat) : gPc (xs.eraseIdx k) j = if j < k then gPc xs j else gPc xs (j + 1) := by
  unfold gPc
  rw [List.getD_eq_getElem?_getD, List.getElem?_eraseIdx]
  split <;> rw [List.getD_eq_getElem?_getD]
theorem joV_len (ds : List Pc) (i k : Nat) (hk : k < ds.length) : (joV ds i k).length = ds.length - 1 := by
  unfold joV
  rw [List.length_eraseIdx_of_lt (by rw [List.length_set]; exact hk), List.length_set]
theorem joV_ok {ds : List Pc} (h : okP ds = true) {i k : Nat} (hi : i < ds.length) (hk : k < ds.length) (hs : (gPc ds i).area + (gPc ds k).area ≤ 10000000) : okP (joV ds i k) = true := by
  have hpi := (pcB_iff _).1 (okP_pc h _ (gPc_mem ds i hi))
  have hpk := (pcB_iff _).1 (okP_pc h _ (gPc_mem ds k hk))
  have h2 : okP (ds.set i ⟨(gPc ds i).id, (gPc ds i).owner, (gPc ds i).area + (gPc ds k).area, (gPc ds i).cls⟩) = true := set_ok h hi rfl ((pcB_iff _).2 ⟨hpi.1, hpi.2.1, by simp only; omega, hpi.2.2.2⟩)
  unfold joV
  generalize hxs : ds.set i ⟨(gPc ds i).id, (gPc ds i).owner, (gPc ds i).area + (gPc ds k).area, (gPc ds i).cls⟩ = xs at *
  have hl : xs.length = ds.length := by rw [← hxs, List.length_set]
  have hle := (okP_all h2).1
  refine okP_mk (by rw [List.length_eraseIdx_of_lt (by omega)]; omega) (fun q hq => okP_pc h2 q (List.mem_of_mem_eraseIdx hq)) (fun j hj h0 => ?_)
  rw [List.length_eraseIdx_of_lt (by omega)] at hj
  rw [erase_get, erase_get]
  have hid := okP_id h2
  by_cases h1 : j < k
  · rw [if_pos h1, if_pos (by omega)]; exact hid _ _ (by omega) (by omega)
  · rw [if_neg h1]
    by_cases h3 : j - 1 < k
    · rw [if_pos h3]; exact hid _ _ (by omega) (by omega)
    · rw [if_neg h3]; exact hid _ _ (by omega) (by omega)
/-! the codes, the values -/
def adC (ds : List Pc) (p : Pc) : Int := if okP ds = true then if pcB p = true then if 0 ≤ pwI ds p.id then 4 else if ds.length = 60 then 5 else 0 else 2 else 1
def paN (ds : List Pc) (id : Int) : Nat := (ds.takeWhile fun p => decide (p.id < id)).length
theorem paN_pos {ds : List Pc} (h : okP ds = true) (id : Int) : PosP ds id (paN ds id) := by
  have hw : ∀ (xs : List Pc), (xs.takeWhile fun p => decide (p.id < id)).length ≤ xs.length ∧ (∀ j (hj : j < (xs.takeWhile fun p => decide (p.id < id)).length), ∀ h2 : j < xs.length, xs[j].id < id) ∧ ∀ h2 : (xs.takeWhile fun p => decide (p.id < id)).length < xs.length, id ≤ xs[(xs.takeWhile fun p => decide (p.id < id)).length].id := by
    intro xs
    induction xs with
    | nil => exact ⟨by simp, fun j hj => by simp at hj, fun h2 => by simp at h2⟩
    | cons x r ih =>
      by_cases hx : x.id < id
      · have e : ((x :: r).takeWhile fun p => decide (p.id < id)) = x :: (r.takeWhile fun p => decide (p.id < id)) := by rw [List.takeWhile_cons, if_pos (decide_eq_true hx)]
        simp only [e, List.length_cons]
        refine ⟨by omega, fun j hj h2 => ?_, fun h2 => by simpa using ih.2.2 (by omega)⟩
        cases j with
        | zero => exact hx
        | succ j => exact ih.2.1 j (by omega) (by simpa using h2)
      · have e : ((x :: r).takeWhile fun p => decide (p.id < id)) = [] := by rw [List.takeWhile_cons, if_neg (by simpa using hx)]
        simp only [e, List.length_nil]
        exact ⟨by omega, fun j hj => by omega, fun _ => by simpa using Int.not_lt.1 hx⟩
  obtain ⟨h1, h2, h3⟩ := hw ds
  exact ⟨h1, fun j hj => by rw [gPc_lt ds j (by unfold paN at hj; omega)]; exact h2 j hj (by unfold paN at hj; omega), fun hj => by rw [gPc_lt ds _ hj]; exact h3 hj⟩
def adL (ds : List Pc) (p : Pc) : List Pc := if adC ds p = 0 then insP ds (paN ds p.id) p else []
def seC (ds : List Pc) (id o : Int) : Int := if okP ds = true then if (1 ≤ id ∧ id ≤ 9999) ∧ (0 ≤ o ∧ o ≤ 39) then if pwI ds id < 0 then 3 else if (gPc ds (pwI ds id).toNat).owner = o then 6 else 0 else 2 else 1
def seV (ds : List Pc) (k : Nat) (o : Int) : List Pc := ds.set k ⟨(gPc ds k).id, o, (gPc ds k).area, (gPc ds k).cls⟩
def seL (ds : List Pc) (id o : Int) : List Pc := if seC ds id o = 0 then seV ds (pwI ds id).toNat o else []
def spC (ds : List Pc) (id area other : Int) : Int := if okP ds = true then if ((1 ≤ id ∧ id ≤ 9999) ∧ (1 ≤ other ∧ other ≤ 9999)) ∧ (1 ≤ area ∧ area ≤ 10000000) then if pwI ds id < 0 then 3 else if 0 ≤ pwI ds other then 4 else if (gPc ds (pwI ds id).toNat).area ≤ area then 6 else if ds.length = 60 then 5 else 0 else 2 else 1
def spV (ds : List Pc) (k : Nat) (area : Int) : List Pc := ds.set k ⟨(gPc ds k).id, (gPc ds k).owner, (gPc ds k).area - area, (gPc ds k).cls⟩
def spW (ds : List Pc) (k : Nat) (area other : Int) : List Pc := insP (spV ds k area) (paN (spV ds k area) other) ⟨other, (gPc ds k).owner, area, (gPc ds k).cls⟩
def splL (ds : List Pc) (id area other : Int) : List Pc := if spC ds id area other = 0 then spW ds (pwI ds id).toNat area other else []
def joC (ds : List Pc) (id other : Int) : Int := if okP ds = true then if (1 ≤ id ∧ id ≤ 9999) ∧ (1 ≤ other ∧ other ≤ 9999) then if pwI ds id < 0 ∨ pwI ds other < 0 then 3 else
  if pwI ds id = pwI ds other ∨ (gPc ds (pwI ds id).toNat).owner ≠ (gPc ds (pwI ds other).toNat).owner ∨ (gPc ds (pwI ds id).toNat).cls ≠ (gPc ds (pwI ds other).toNat).cls then 6 else
  if 10000000 < (gPc ds (pwI ds id).toNat).area + (gPc ds (pwI ds other).toNat).area then 5 else 0 else 2 else 1
def joL (ds : List Pc) (id other : Int) : List Pc := if joC ds id other = 0 then joV ds (pwI ds id).toNat (pwI ds other).toNat else []
/-- two parcels can be joined -/
structure JoO (ds : List Pc) (id other : Int) (i k : Nat) : Prop where
  ok : okP ds = true
  d1 : 1 ≤ id ∧ id ≤ 9999
  d2 : 1 ≤ other ∧ other ≤ 9999
  hi : i < ds.length
  hk : k < ds.length
  ei : pwI ds id = i
  ek : pwI ds other = k
  ne : i ≠ k
  o : (gPc ds i).owner = (gPc ds k).owner
  c : (gPc ds i).cls = (gPc ds k).cls
  s : (gPc ds i).area + (gPc ds k).area ≤ 10000000
theorem joC_0 {ds : List Pc} {id other : Int} : joC ds id other = 0 ↔ ∃ i k, JoO ds id other i k := by
  constructor
  · intro h
    unfold joC at h
    split at h
    case isFalse => omega
    rename_i hok
    split at h
    case isFalse => omega
    rename_i hd
    split at h
    case isTrue => omega
    rename_i hf
    split at h
    case isTrue => omega
    rename_i hn
    split at h
    case isTrue => omega
    rename_i hs
    rcases pw_cases hok id with ⟨i, hi, ei, _⟩ | ⟨e, _⟩
    · rcases pw_cases hok other with ⟨k, hk, ek, _⟩ | ⟨e, _⟩
      · rw [ei, ek] at hn hs
        simp only [Int.toNat_natCast] at hn hs
        refine ⟨i, k, hok, hd.1, hd.2, hi, hk, ei, ek, fun e => hn (.inl (by rw [e])), ?_, ?_, by omega⟩
        · exact Classical.byContradiction fun g => hn (.inr (.inl g))
        · exact Classical.byContradiction fun g => hn (.inr (.inr g))
      · omega
    · omega
  · rintro ⟨i, k, J⟩
    have hne := J.ne
    have hs := J.s
    unfold joC
    rw [if_pos J.ok, if_pos ⟨J.d1, J.d2⟩, J.ei, J.ek]
    simp only [Int.toNat_natCast]
    rw [if_neg (by omega), if_neg, if_neg (by omega)]
    rintro (g | g | g)
    · omega
    · exact g J.o
    · exact g J.c
theorem JoO.l {ds : List Pc} {id other : Int} {i k : Nat} (J : JoO ds id other i k) : joL ds id other = joV ds i k := by
  rw [joL, if_pos (joC_0.2 ⟨i, k, J⟩), J.ei, J.ek]; rfl
/-- what is split can be joined again -/
theorem split_join {ds : List Pc} {id area other : Int} (h : spC ds id area other = 0) : okP (splL ds id area other) = true ∧ joC (splL ds id area other) id other = 0 ∧ joL (splL ds id area other) id other = ds := by
  have e0 : splL ds id area other = spW ds (pwI ds id).toNat area other := by rw [splL, if_pos h]
  unfold spC at h
  split at h
  case isFalse => omega
  rename_i hok
  split at h
  case isFalse => omega
  rename_i hd
  split at h
  case isTrue => omega
  rename_i hf
  split at h
  case isTrue => omega
  rename_i ht
  split at h
  case isTrue => omega
  rename_i ha
  split at h
  case isTrue => omega
  rename_i hl
  have h60 := (okP_all hok).1
  rcases pw_cases hok id with ⟨k, hk, ek, eid⟩ | ⟨e, _⟩
  case inr => omega
  have eo : pwI ds other = -1 := by
    rcases pw_cases hok other with ⟨i, hi, ei, _⟩ | ⟨e, _⟩
    · omega
    · exact e
  rw [ek, Int.toNat_natCast] at ha
  rw [e0, ek, Int.toNat_natCast]
  have hp := (pcB_iff _).1 (okP_pc hok _ (gPc_mem ds k hk))
  unfold spW
  have hb : pcB ⟨(gPc ds k).id, (gPc ds k).owner, (gPc ds k).area - area, (gPc ds k).cls⟩ = true := (pcB_iff _).2 ⟨hp.1, hp.2.1, by simp only; omega, hp.2.2.2⟩
  have ok2 : okP (spV ds k area) = true := set_ok hok hk rfl hb
  have hlen : (spV ds k area).length = ds.length := by rw [spV, List.length_set]
  have P := paN_pos ok2 other
  have epo : pwI (spV ds k area) other = -1 := (set_pw (p := ⟨(gPc ds k).id, (gPc ds k).owner, (gPc ds k).area - area, (gPc ds k).cls⟩) hk rfl other).trans eo
  have gk : gPc (spV ds k area) k = ⟨(gPc ds k).id, (gPc ds k).owner, (gPc ds k).area - area, (gPc ds k).cls⟩ := by rw [spV, gPc_set_same _ _ _ hk]
  have gj : ∀ j, j ≠ k → gPc (spV ds k area) j = gPc ds j := fun j hj => by rw [spV, gPc_set_ne _ _ _ _ (fun e => hj e.symm)]
  generalize spV ds k area = es at *
  generalize hw : paN es other = a at *
  have hbo : pcB ⟨other, (gPc ds k).owner, area, (gPc ds k).cls⟩ = true := (pcB_iff _).2 ⟨hd.1.2, hp.2.1, hd.2, hp.2.2.2⟩
  have ok3 : okP (insP es a ⟨other, (gPc ds k).owner, area, (gPc ds k).cls⟩) = true := insP_ok ok2 P (by simp only; omega) hbo (by omega)
  have hle := P.le
  have hxl := insP_len es a ⟨other, (gPc ds k).owner, area, (gPc ds k).cls⟩ hle
  have hxg := insP_get es a ⟨other, (gPc ds k).owner, area, (gPc ds k).cls⟩ hle
  generalize insP es a ⟨other, (gPc ds k).owner, area, (gPc ds k).cls⟩ = xs at *
  obtain ⟨i, hik⟩ : ∃ i, i = if k < a then k else k + 1 := ⟨_, rfl⟩
  have hia : i ≠ a := by rw [hik]; split <;> omega
  have hil : i < xs.length := by rw [hik]; split <;> omega
  have gi1 : gPc xs i = ⟨(gPc ds k).id, (gPc ds k).owner, (gPc ds k).area - area, (gPc ds k).cls⟩ := by
    rw [hxg, hik]
    by_cases c : k < a
    · rw [if_pos c, if_pos c, gk]
    · rw [if_neg c, if_neg (by omega), if_neg (by omega), Nat.add_sub_cancel, gk]
  have ga1 : gPc xs a = ⟨other, (gPc ds k).owner, area, (gPc ds k).cls⟩ := by rw [hxg, if_neg (by omega), if_pos rfl]
  have J : JoO xs id other i a := by
    refine ⟨ok3, hd.1.1, hd.1.2, hil, by omega, ?_, ?_, hia, by rw [gi1, ga1], by rw [gi1, ga1], ?_⟩
    · have := pw_at ok3 hil
      rwa [gi1, eid] at this
    · have := pw_at ok3 (show a < xs.length by omega)
      rwa [ga1] at this
    · rw [gi1, ga1]
      simp only
      have := hp.2.2.1
      omega
  refine ⟨ok3, joC_0.2 ⟨i, a, J⟩, ?_⟩
  rw [J.l]
  refine pc_ext (by rw [joV_len xs i a (by omega)]; omega) fun j hj => ?_
  rw [joV_len xs i a (by omega)] at hj
  unfold joV
  rw [erase_get, gi1, ga1]
  simp only
  have fin : ∀ m, m < xs.length → m ≠ a → ∀ n, n = (if m < a then m else m - 1) → gPc (xs.set i ⟨(gPc ds k).id, (gPc ds k).owner, (gPc ds k).area - area + area, (gPc ds k).cls⟩) m = gPc ds n := by
    intro m hm hma n hn
    by_cases e : m = i
    · have : n = k := by
        rw [hn, e, hik]
        by_cases c : k < a
        · rw [if_pos c, if_pos c]
        · rw [if_neg c, if_neg (by omega)]; omega
      rw [e, gPc_set_same _ _ _ hil, this, Int.sub_add_cancel]
    · rw [gPc_set_ne _ _ _ _ (fun g => e g.symm), hxg]
      have hnk : n ≠ k := by
        intro g
        apply e
        rw [hik, ← g, hn]
        by_cases c : m < a
        · rw [if_pos c, if_pos c]
        · rw [if_neg c, if_neg (by omega)]; omega
      by_cases c : m < a
      · rw [if_pos c, gj m (by rw [if_pos c] at hn; omega), hn, if_pos c]
      · rw [if_neg c, if_neg hma, gj (m - 1) (by rw [if_neg c] at hn; omega), hn, if_neg c]
  by_cases c : j < a
  · rw [if_pos c]
    exact fin j (by omega) (by omega) j (by rw [if_pos c])
  · rw [if_neg c]
    exact fin (j + 1) (by omega) (by omega) j (by rw [if_neg (by omega)]; omega)
/-! areas: those of classes when sold, those of owners when joined -/
theorem acc_map {α : Type} (key val : α → Int) (n : Nat) : ∀ (ds ds' : List α) (a : List Int), ds.map (fun p => (key p, val p)) = ds'.map (fun p => (key p, val p)) →
    ds.foldl (fun a p => a.set (key p).toNat (IntKind.wrap .i64 (gi a (key p).toNat + val p))) a = ds'.foldl (fun a p => a.set (key p).toNat (IntKind.wrap .i64 (gi a (key p).toNat + val p))) a
  | [], [], _, _ => rfl
  | [], _ :: _, _, h => by simp at h
  | _ :: _, [], _, h => by simp at h
  | x :: r, y :: r', a, h => by
    simp only [List.map_cons, List.cons.injEq, Prod.mk.injEq] at h
    simp only [List.foldl_cons, h.1.1, h.1.2]
    exact acc_map key val n r r' _ h.2
theorem seC_0 {ds : List Pc} {id o : Int} (h : seC ds id o = 0) : okP ds = true ∧ okP (seL ds id o) = true ∧ arC (seL ds id o) = arC ds := by
  have e0 : seL ds id o = seV ds (pwI ds id).toNat o := by rw [seL, if_pos h]
  unfold seC at h
  split at h
  case isFalse => omega
  rename_i hok
  split at h
  case isFalse => omega
  rename_i hd
  split at h
  case isTrue => omega
  rename_i hf
  rcases pw_cases hok id with ⟨k, hk, ek, eid⟩ | ⟨e, _⟩
  case inr => omega
  rw [e0, ek]
  simp only [Int.toNat_natCast]
  have hp := (pcB_iff _).1 (okP_pc hok _ (gPc_mem ds k hk))
  refine ⟨hok, set_ok hok hk rfl ((pcB_iff _).2 ⟨hp.1, hd.2, hp.2.2⟩), ?_⟩
  refine acc_map Pc.cls Pc.area 4 _ _ _ ?_
  unfold seV
  rw [List.map_set]
  refine List.ext_getElem (by simp) fun j h1 h2 => ?_
  rw [List.getElem_set]
  split
  · rename_i e
    subst e
    rw [List.getElem_map, ← gPc_lt ds k hk]
  · rfl
theorem sumI_filter {α : Type} (q : α → Bool) (f : α → Int) : ∀ ds : List α, sumI ((ds.filter q).map f) = sumI (ds.map fun p => if q p = true then f p else 0)
  | [] => rfl
  | x :: r => by
    have ih := sumI_filter q f r
    simp only [List.filter_cons, List.map_cons, sumI_cons]
    by_cases h : q x = true
    · rw [if_pos h, if_pos h, List.map_cons, sumI_cons, ih]
    · rw [if_neg h, if_neg h, ih]; omega
theorem sumI_erase : ∀ (xs : List Int) (k : Nat), k < xs.length → sumI (xs.eraseIdx k) = sumI xs - gi xs k
  | [], k, h => by simp at h
  | x :: r, 0, _ => by
    rw [List.eraseIdx_cons_zero, sumI_cons]
    have : gi (x :: r) 0 = x := rfl
    omega
  | x :: r, k + 1, h => by
    rw [List.eraseIdx_cons_succ, sumI_cons, sumI_cons, sumI_erase r k (by simpa using h)]
    have : gi (x :: r) (k + 1) = gi r k := rfl
    omega
theorem map_erase {α β : Type} (f : α → β) : ∀ (xs : List α) (k : Nat), (xs.eraseIdx k).map f = (xs.map f).eraseIdx k
  | [], _ => rfl
  | _ :: _, 0 => rfl
  | x :: r, k + 1 => by simp only [List.eraseIdx_cons_succ, List.map_cons, map_erase f r k]
theorem gi_mapP (f : Pc → Int) (ds : List Pc) (k : Nat) (h : k < ds.length) : gi (ds.map f) k = f (gPc ds k) := by
  rw [gi_lt _ _ (by simpa using h), List.getElem_map, gPc_lt ds k h]
theorem jo_areas {ds : List Pc} {id other : Int} (h : joC ds id other = 0) : okP ds = true ∧ okP (joL ds id other) = true ∧ arO (joL ds id other) = arO ds := by
  obtain ⟨i, k, J⟩ := joC_0.1 h
  have ok2 := joV_ok J.ok J.hi J.hk J.s
  rw [J.l]
  refine ⟨J.ok, ok2, gi_ext (by rw [arO_len, arO_len]) fun o ho => ?_⟩
  rw [arO_len] at ho
  rw [(arO_val ok2 o ho).1, (arO_val J.ok o ho).1, sumI_filter, sumI_filter]
  have hi := J.hi
  have hk := J.hk
  have ho2 := J.o
  unfold joV
  rw [map_erase, List.map_set, sumI_erase _ k (by simpa using hk), sumI_set _ i _ (by simpa using hi), gi_set_ne _ _ _ _ J.ne, gi_mapP _ ds i hi, gi_mapP _ ds k hk]
  simp only [decide_eq_true_eq]
  rw [ho2]
  split <;> omega
end Go.Proofs.YtbbdfifpncjpnaaGreatDoor
