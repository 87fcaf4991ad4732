/- texts and lists of texts in walks: rules that need no decimals -/
import Derived.Test.YtjgjnedenapemaaGreatDoorSrc2
import Derived.Test.YtjgjnedenapemaaGreatDoorT0
set_option linter.unusedVariables false
set_option linter.unusedSimpArgs false
namespace Go.Proofs.YtjgjnedenapemaaGreatDoor
open Go.AG Go.Lib

abbrev St (s : ByteArray) : V := .sc (.string s)
def strs (xs : List ByteArray) : List V := xs.map fun s => .sc (.string s)
def gs (xs : List ByteArray) (i : Nat) : ByteArray := xs.getD i ⟨#[]⟩
theorem gs_lt (xs : List ByteArray) (i : Nat) (h : i < xs.length) : gs xs i = xs[i] := by simp [gs, h]
theorem gs_take_succ (xs : List ByteArray) (i : Nat) (h : i < xs.length) : xs.take (i + 1) = xs.take i ++ [gs xs i] := by rw [List.take_succ_eq_append_getElem h, gs_lt xs i h]
@[go_sem] theorem length_strs (xs : List ByteArray) : (strs xs).length = xs.length := by simp [strs]
@[go_sem] theorem strs_nil : strs [] = [] := rfl
@[go_sem] theorem strs_append (xs ys : List ByteArray) : strs xs ++ strs ys = strs (xs ++ ys) := by simp [strs]
@[go_sem] theorem strs_snoc (xs : List ByteArray) (s : ByteArray) : strs xs ++ [.sc (.string s)] = strs (xs ++ [s]) := by simp [strs]
theorem strs_one (s : ByteArray) : [V.sc (.string s)] = strs [s] := rfl
@[go_sem] theorem strs_take_all (xs : List ByteArray) (n : Nat) (h : xs.length ≤ n) : (strs xs).take n = strs xs := by rw [List.take_of_length_le (by simpa [strs] using h)]
@[go_sem low] theorem strs_take (xs : List ByteArray) (n : Nat) : (strs xs).take n = strs (xs.take n) := by simp [strs, List.map_take]
@[go_sem] theorem strs_drop (xs : List ByteArray) (n : Nat) : (strs xs).drop n = strs (xs.drop n) := by simp [strs, List.map_drop]
@[go_sem] theorem vAt_strs (xs : List ByteArray) (i : Nat) (K : V → Prop) : vAt (strs xs) i K = grd (i < xs.length) (K (.sc (.string (gs xs i)))) := by
  unfold vAt strs
  rw [List.getElem?_map]
  by_cases h : i < xs.length
  · rw [List.getElem?_eq_getElem h, gs_lt xs i h]; simp [grd, h]
  · rw [List.getElem?_eq_none (by omega)]; simp [grd, h]
@[go_sem] theorem imm_strs (xs : List ByteArray) : V.immL (strs xs) = true := by induction xs with | nil => rfl | cons x xs ih => simpa [strs, V.immL, V.imm] using ih
@[go_sem] theorem one_strs (xs : List ByteArray) : V.oneL (strs xs) = true := by induction xs with | nil => rfl | cons x xs ih => simpa [strs, V.oneL, V.one, Value.oneCell'] using ih
@[go_sem] theorem flat_strs (xs : List ByteArray) : V.flatL (strs xs) = true := by induction xs with | nil => rfl | cons x xs ih => simpa [strs, V.flatL, V.flat] using ih
@[go_sem] theorem noref_strs (xs : List ByteArray) : V.norefL (strs xs) = true := by induction xs with | nil => rfl | cons x xs ih => simpa [strs, V.norefL, V.noref] using ih
@[go_sem] theorem kill_strs (p : Nat → Bool) (xs : List ByteArray) : V.killL p (strs xs) = strs xs := by simp [killL_eq, strs, V.kill]
@[go_sem] theorem frz_strs (f : Nat → Option Ob) (xs : List ByteArray) : V.frzL f (strs xs) = strs xs := by simp [frzL_eq, strs, V.frz]
@[go_sem] theorem ren_strs (g : Nat → Nat) (xs : List ByteArray) : V.renL g (strs xs) = strs xs := by simp [renL_eq, strs, V.ren]

theorem u8_eq (c b : UInt8) : ((c.toNat : Int) == (b.toNat : Int)) = decide (c = b) := by
  by_cases h : c = b
  · subst h; simp
  · rw [decide_eq_false h]
    have : c.toNat ≠ b.toNat := fun e => h (UInt8.toNat_inj.1 e)
    simp
    omega
/-! lists of texts, written out -/
@[go_sem] theorem reps_strs (n : Nat) (z : ByteArray) : reps n [V.sc (.string z)] = strs (List.replicate n z) := by rw [reps_one]; simp [strs]
@[go_sem] theorem wr_strs (xs : List ByteArray) (i : Nat) (s : ByteArray) : wr (strs xs) i [.sc (.string s)] = strs (wr xs i [s]) := by simp [wr, strs, List.map_take, List.map_drop]
@[go_sem] theorem wrS_rep (n : Nat) (z x : ByteArray) : wr (List.replicate (n + 1) z) 0 [x] = x :: List.replicate n z := by simp [wr, List.replicate_succ]
@[go_sem] theorem wrS_succ (x : ByteArray) (xs : List ByteArray) (i : Nat) (ys : List ByteArray) : wr (x :: xs) (i + 1) ys = x :: wr xs i ys := by simp [wr, Nat.add_right_comm]
theorem gs_mem (xs : List ByteArray) (i : Nat) (h : i < xs.length) : gs xs i ∈ xs := by rw [gs_lt xs i h]; exact List.getElem_mem h
theorem text_e {code : List Int} (g : SrOk code) (xs : List ByteArray) (σ : Sr) (hp : σ.pos ≤ 100000000000) (hx : 0 < xs.length ∧ xs.length ≤ 10000000) (n : Nat) (hn : n = xs.length) (cs : List V) (hc : cs = strs xs) :
    ACalls Tryz.prog 88 [.ptr 0 0, .ref 1 0 n] [srO code σ, some ⟨1, cs⟩]
    (fun r o => ∃ s σ', r = St s ∧ o = [srO code σ', some ⟨1, cs⟩] ∧ s ∈ xs ∧ σ'.pos ≤ σ.pos + 2) := by
  refine ACalls.of_vc Tryz.func88 rfl (by decide) 12 rfl [.tmp 4] rfl (by simp) ?_
  subst hn hc
  have hc := pick_e g xs.length σ hp
  (repeat (first | simp (maxSteps := 2000000) (disch := omega) only [go_sem, ↓reduceIte] | with_reducible refine vIf_t ?_ | with_reducible refine vIf_f ?_))
  (refine vCallX_io [0] ?_; (repeat (first | simp (maxSteps := 2000000) (disch := omega) only [go_sem, ↓reduceIte] | with_reducible refine vIf_t ?_ | with_reducible refine vIf_f ?_)); refine vCallIO_ex (hc) (by simp (disch := omega) only [go_sem]) (by simp (disch := omega) only [go_sem]) (by first | rfl | (simp (disch := omega) only [go_sem])) (by first | rfl | (simp (disch := omega) only [go_sem])) (by first | rfl | (simp (disch := omega) only [go_sem])) ?_); rintro _ _ ⟨v, σ', rfl, rfl, h1, h2, h3⟩; (refine ⟨by first | (simp (disch := omega) only [go_sem]) | trivial, ?_⟩; (repeat (first | simp (maxSteps := 2000000) (disch := omega) only [go_sem, ↓reduceIte] | with_reducible refine vIf_t ?_ | with_reducible refine vIf_f ?_)))
  have hlt : v.toNat < xs.length := by omega
  (try (repeat (first | simp (maxSteps := 2000000) (disch := omega) only [go_sem, ↓reduceIte] | with_reducible refine vIf_t ?_ | with_reducible refine vIf_f ?_)))
  (refine retK_of ?_; (repeat (first | simp (maxSteps := 2000000) (disch := omega) only [go_sem, ↓reduceIte] | with_reducible refine vIf_t ?_ | with_reducible refine vIf_f ?_)))
  exact ⟨_, σ', rfl, rfl, gs_mem xs _ hlt, h3⟩
/-- plain letters -/
def Asc (l : List UInt8) : Prop := ∀ c ∈ l, c.toNat < 128
theorem Asc.app {a b : List UInt8} (h : Asc a) (k : Asc b) : Asc (a ++ b) := fun c hc => (List.mem_append.1 hc).elim (h c) (k c)
theorem Asc.take {a : List UInt8} (h : Asc a) (n : Nat) : Asc (a.take n) := fun c hc => h c (List.mem_of_mem_take hc)
theorem Asc.drop {a : List UInt8} (h : Asc a) (n : Nat) : Asc (a.drop n) := fun c hc => h c (List.mem_of_mem_drop hc)
end Go.Proofs.YtjgjnedenapemaaGreatDoor
