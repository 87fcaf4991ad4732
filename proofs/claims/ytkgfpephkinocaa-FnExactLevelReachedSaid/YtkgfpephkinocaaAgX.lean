/-
  AG, part X: the rules by which simp runs a region in the order of its schedule. Conditions: none.
-/
import Derived.Test.YtkgfpephkinocaaAgU
set_option linter.unusedSimpArgs false
set_option linter.unusedVariables false
namespace Go.AG
open Go.RowKit

section
variable {P : Program}
@[go_sem] theorem nthO_zero (o : Oper) (os : List Oper) : nthO (o :: os) 0 = o := rfl
@[go_sem] theorem nthO_succ (o : Oper) (os : List Oper) (n : Nat) : nthO (o :: os) (n + 1) = nthO os n := rfl
@[go_sem] theorem vSch_nil (all : List Oper) (K : AState → Prop) (R : List Nat) (s : AState) : vSch P all K [] R s = K s := rfl
@[go_sem] theorem vSch_plain (all os : List Oper) (d : Option Nat) (op : Op) (t : TypeId) (p : String) (af : Array Edge) (K : AState → Prop) (R : List Nat) (s : AState) :
    vSch P all K (⟨d, op, t, p, af, none⟩ :: os) R s = vsOp P ⟨d, op, t, p, af, none⟩ R (vSch P all K os) s := rfl
/-- an operation under a guard, in a schedule -/
def vsGuard (P : Program) (v : V) (want : Bool) (o : Oper) (all os : List Oper) (K : AState → Prop) (R : List Nat) (s : AState) : Prop :=
  ∃ b, v = gval b ∧ (b = some want → vsOp P o R (vSch P all K os) s) ∧ (b ≠ some want → fin o.dst (vSch P all K os R) s (.sc undef))
@[go_sem] theorem vSch_guard (all os : List Oper) (d : Option Nat) (op : Op) (t : TypeId) (p : String) (af : Array Edge) (j : Nat) (want : Bool) (K : AState → Prop) (R : List Nat) (s : AState) :
    vSch P all K (⟨d, op, t, p, af, some (j, want)⟩ :: os) R s = vsGuard P (gv all s j) want ⟨d, op, t, p, af, some (j, want)⟩ all os K R s := rfl
@[congr] theorem vSch_congr {all os : List Oper} {K : AState → Prop} {R R' : List Nat} {s s' : AState} (hr : R = R') (h : s = s') : vSch P all K os R s = vSch P all K os R' s' := by rw [h, hr]
@[congr] theorem vsOp_congr {o : Oper} {K : List Nat → AState → Prop} {R R' : List Nat} {s s' : AState} (hr : R = R') (h : s = s') : vsOp P o R K s = vsOp P o R' K s' := by rw [h, hr]
@[congr] theorem vsGuard_congr {v v' : V} {want : Bool} {o : Oper} {all os : List Oper} {K : AState → Prop} {R R' : List Nat} {s s' : AState} (hv : v = v') (hr : R = R') (h : s = s') : vsGuard P v want o all os K R s = vsGuard P v' want o all os K R' s' := by rw [h, hr, hv]
section
variable {o : Oper} {all os : List Oper} {K : AState → Prop} {R : List Nat} {s : AState}
@[go_sem] theorem vsGuard_tt : vsGuard P (.sc (.bool true)) true o all os K R s = vsOp P o R (vSch P all K os) s := by
  apply propext
  constructor
  · rintro ⟨r, hb, h1, _⟩; exact h1 (gval_b hb)
  · intro h; exact ⟨some true, rfl, fun _ => h, fun h => absurd rfl h⟩
@[go_sem] theorem vsGuard_tf : vsGuard P (.sc (.bool true)) false o all os K R s = fin o.dst (vSch P all K os R) s (.sc undef) := by
  apply propext
  constructor
  · rintro ⟨r, hb, _, h1⟩; exact h1 (by rw [gval_b hb]; simp)
  · intro h; exact ⟨some true, rfl, (fun h => by cases h), fun _ => h⟩
@[go_sem] theorem vsGuard_ft : vsGuard P (.sc (.bool false)) true o all os K R s = fin o.dst (vSch P all K os R) s (.sc undef) := by
  apply propext
  constructor
  · rintro ⟨r, hb, _, h1⟩; exact h1 (by rw [gval_b hb]; simp)
  · intro h; exact ⟨some false, rfl, (fun h => by cases h), fun _ => h⟩
@[go_sem] theorem vsGuard_ff : vsGuard P (.sc (.bool false)) false o all os K R s = vsOp P o R (vSch P all K os) s := by
  apply propext
  constructor
  · rintro ⟨r, hb, h1, _⟩; exact h1 (gval_b hb)
  · intro h; exact ⟨some false, rfl, fun _ => h, fun h => absurd rfl h⟩
@[go_sem] theorem vsGuard_un (want : Bool) : vsGuard P (.sc undef) want o all os K R s = fin o.dst (vSch P all K os R) s (.sc undef) := by
  apply propext
  constructor
  · rintro ⟨r, hb, _, h1⟩; exact h1 (by rw [gval_u hb]; simp)
  · intro h; exact ⟨none, rfl, (fun h => by cases h), fun _ => h⟩
theorem vsGuard_any {b want : Bool} (h1 : b = want → vsOp P o R (vSch P all K os) s) (h2 : b ≠ want → fin o.dst (vSch P all K os R) s (.sc undef)) : vsGuard P (.sc (.bool b)) want o all os K R s := ⟨some b, rfl, fun h => h1 (by simpa using h), fun h => h2 (by simpa using h)⟩
end

/-- what a load reads of the owned -/
def rdL : V → List Nat
  | .ptr l _ => [l]
  | _ => []
@[go_sem] theorem rdL_ptr (l off : Nat) : rdL (.ptr l off) = [l] := rfl
@[go_sem] theorem rdL_ip (xs : List V) (off : Nat) : rdL (.ip xs off) = [] := rfl
def refL : V → List Nat
  | .ref l _ _ => [l]
  | _ => []
@[go_sem] theorem refL_ref (l off n : Nat) : refL (.ref l off n) = [l] := rfl
@[go_sem] theorem refL_sc (v : Value) : refL (.sc v) = [] := rfl
def disj (xs ys : List Nat) : Prop := ∀ l ∈ xs, l ∉ ys
def notIn (x : Nat) (ys : List Nat) : Prop := x ∉ ys
@[go_sem] theorem disj_nil (ys : List Nat) : disj [] ys = True := by simp [disj]
@[go_sem] theorem disj_cons (x : Nat) (xs ys : List Nat) : disj (x :: xs) ys = (notIn x ys ∧ disj xs ys) := by simp [disj, notIn]
@[go_sem] theorem notIn_nil (x : Nat) : notIn x [] = True := by simp [notIn]
@[go_sem] theorem notIn_cons (x y : Nat) (ys : List Nat) : notIn x (y :: ys) = (x ≠ y ∧ notIn x ys) := by simp [notIn]

section
variable (d : Option Nat) (ty : TypeId) (p : String) (af : Array Edge) (g : Option (Nat × Bool)) (R : List Nat) (K : List Nat → AState → Prop) (s : AState)
@[go_sem] theorem vsOp_move (x : Operand) : vsOp P ⟨d, .move x, ty, p, af, g⟩ R K s = vcOp P ⟨d, .move x, ty, p, af, g⟩ (K R) s := rfl
@[go_sem] theorem vsOp_assign (x : Operand) : vsOp P ⟨d, .assign x, ty, p, af, g⟩ R K s = vcOp P ⟨d, .assign x, ty, p, af, g⟩ (K R) s := rfl
@[go_sem] theorem vsOp_pick (c x y : Operand) : vsOp P ⟨d, .pick c x y, ty, p, af, g⟩ R K s = vcOp P ⟨d, .pick c x y, ty, p, af, g⟩ (K R) s := rfl
@[go_sem] theorem vsOp_nilCheck (x : Operand) : vsOp P ⟨d, .nilCheck x, ty, p, af, g⟩ R K s = vcOp P ⟨d, .nilCheck x, ty, p, af, g⟩ (K R) s := rfl
@[go_sem] theorem vsOp_binOp (op : BinOp) (t u : TypeId) (x y : Operand) : vsOp P ⟨d, .binOp op t x y u, ty, p, af, g⟩ R K s = vcOp P ⟨d, .binOp op t x y u, ty, p, af, g⟩ (K R) s := rfl
@[go_sem] theorem vsOp_unOp (op : UnOp) (t : TypeId) (x : Operand) : vsOp P ⟨d, .unOp op t x, ty, p, af, g⟩ R K s = vcOp P ⟨d, .unOp op t x, ty, p, af, g⟩ (K R) s := rfl
@[go_sem] theorem vsOp_convert (t u : TypeId) (x : Operand) : vsOp P ⟨d, .convert t u x, ty, p, af, g⟩ R K s = vcOp P ⟨d, .convert t u x, ty, p, af, g⟩ (K R) s := rfl
@[go_sem] theorem vsOp_fieldAddr (t : TypeId) (x : Operand) (f : Nat) : vsOp P ⟨d, .fieldAddr t x f, ty, p, af, g⟩ R K s = vcOp P ⟨d, .fieldAddr t x f, ty, p, af, g⟩ (K R) s := rfl
@[go_sem] theorem vsOp_field (t : TypeId) (x : Operand) (f : Nat) : vsOp P ⟨d, .field t x f, ty, p, af, g⟩ R K s = vcOp P ⟨d, .field t x f, ty, p, af, g⟩ (K R) s := rfl
@[go_sem] theorem vsOp_indexAddr (t : TypeId) (x i : Operand) : vsOp P ⟨d, .indexAddr t x i, ty, p, af, g⟩ R K s = vcOp P ⟨d, .indexAddr t x i, ty, p, af, g⟩ (K R) s := rfl
@[go_sem] theorem vsOp_index (t : TypeId) (x i : Operand) : vsOp P ⟨d, .index t x i, ty, p, af, g⟩ R K s = vcOp P ⟨d, .index t x i, ty, p, af, g⟩ (K R) s := rfl
@[go_sem] theorem vsOp_slice (t : TypeId) (x : Operand) (lo hi : Option Operand) : vsOp P ⟨d, .slice t x lo hi none, ty, p, af, g⟩ R K s = vcOp P ⟨d, .slice t x lo hi none, ty, p, af, g⟩ (K R) s := rfl
@[go_sem] theorem vsOp_extract (x : Operand) (i : Nat) : vsOp P ⟨d, .extract x i, ty, p, af, g⟩ R K s = vcOp P ⟨d, .extract x i, ty, p, af, g⟩ (K R) s := rfl
@[go_sem] theorem vsOp_len (x : Operand) (t : TypeId) : vsOp P ⟨d, .call ⟨.builtin .len, #[x], #[t]⟩, ty, p, af, g⟩ R K s = vcOp P ⟨d, .call ⟨.builtin .len, #[x], #[t]⟩, ty, p, af, g⟩ (K R) s := rfl
@[go_sem] theorem vsOp_min (x y : Operand) (ts : Array TypeId) : vsOp P ⟨d, .call ⟨.builtin .min, #[x, y], ts⟩, ty, p, af, g⟩ R K s = vcOp P ⟨d, .call ⟨.builtin .min, #[x, y], ts⟩, ty, p, af, g⟩ (K R) s := rfl
@[go_sem] theorem vsOp_max (x y : Operand) (ts : Array TypeId) : vsOp P ⟨d, .call ⟨.builtin .max, #[x, y], ts⟩, ty, p, af, g⟩ R K s = vcOp P ⟨d, .call ⟨.builtin .max, #[x, y], ts⟩, ty, p, af, g⟩ (K R) s := rfl
@[go_sem] theorem vsOp_makeFunc (f : FuncId) (caps : Array Operand) : vsOp P ⟨d, .makeFunc (.func f) #[] caps, ty, p, af, g⟩ R K s = vcOp P ⟨d, .makeFunc (.func f) #[] caps, ty, p, af, g⟩ (K R) s := by simp [vsOp, rdB, qop, grd, rdOf, vcOp, isMem]
@[go_sem] theorem vsOp_load (t : TypeId) (x : Operand) : vsOp P ⟨d, .load t x, ty, p, af, g⟩ R K s = vLoad (ti P t) (s.ev x) s.ob (fin d (K (rdL (s.ev x) ++ R)) s) := by
  show qop P s (.load t x) (fin d (K ((rdOf s (.load t x)).toList ++ R)) s) = _
  have : (rdOf s (.load t x)).toList = rdL (s.ev x) := by
    simp only [rdOf]; generalize s.ev x = v; cases v <;> rfl
  rw [this]; rfl
@[go_sem] theorem vsOp_alloc (t : TypeId) : vsOp P ⟨d, .alloc t, ty, p, af, g⟩ R K s = vcOp P ⟨d, .alloc t, ty, p, af, g⟩ (K R) s := by simp [vsOp, rdB, vgOp, isMem, wset, vcOp]
@[go_sem] theorem vsOp_box (t : TypeId) (x : Operand) : vsOp P ⟨d, .box t x, ty, p, af, g⟩ R K s = vcOp P ⟨d, .box t x, ty, p, af, g⟩ (K R) s := by simp [vsOp, rdB, vgOp, isMem, wset, vcOp]
@[go_sem] theorem vsOp_buildSlice (t : TypeId) (len : Nat) (parts : Array (Nat × Operand)) : vsOp P ⟨d, .buildSlice t len parts, ty, p, af, g⟩ R K s = vcOp P ⟨d, .buildSlice t len parts, ty, p, af, g⟩ (K R) s := by simp [vsOp, rdB, vgOp, isMem, wset, vcOp]
@[go_sem] theorem vsOp_makeSlice (t : TypeId) (l c : Operand) : vsOp P ⟨d, .makeSlice t l c, ty, p, af, g⟩ R K s = vcOp P ⟨d, .makeSlice t l c, ty, p, af, g⟩ (K R) s := by simp [vsOp, rdB, vgOp, isMem, wset, vcOp]
@[go_sem] theorem vsOp_build (t : TypeId) (parts : Array (Nat × Operand)) : vsOp P ⟨d, .build t parts, ty, p, af, g⟩ R K s = vcOp P ⟨d, .build t parts, ty, p, af, g⟩ (K R) s := by simp [vsOp, rdB, vgOp, isMem, wset, vcOp]
@[go_sem] theorem vsOp_store (t : TypeId) (q x : Operand) : vsOp P ⟨none, .store t q x, ty, p, af, g⟩ R K s = grd (disj (rdL (s.ev q)) R) (vcOp P ⟨none, .store t q x, ty, p, af, g⟩ (K R) s) := by
  have : wset s (.store t q x) = rdL (s.ev q) := by simp only [wset]; generalize s.ev q = v; cases v <;> rfl
  simp only [vsOp, rdB, vgOp, cond_false, this, isMem, true_and, vcOp, grd, disj]
@[go_sem] theorem vsOp_append (t : TypeId) (x y : Operand) : vsOp P ⟨d, .call ⟨.builtin .append, #[x, y], #[t, t]⟩, ty, p, af, g⟩ R K s = grd (disj (refL (s.ev x)) R) (vcOp P ⟨d, .call ⟨.builtin .append, #[x, y], #[t, t]⟩, ty, p, af, g⟩ (K R) s) := by
  have : wset s (.call ⟨.builtin .append, #[x, y], #[t, t]⟩) = refL (s.ev x) := by simp only [wset]; generalize s.ev x = v; cases v <;> rfl
  simp only [vsOp, rdB, vgOp, cond_false, this, isMem, true_and, vcOp, grd, disj]
/-- a call in a schedule -/
def vsCallX (P : Program) (s : AState) (fo : Operand) (args : List Operand) (d : Option Nat) (R : List Nat) (K : AState → Prop) : Prop :=
  ∃ s1, Frz s s1 ∧ (vCall P s1 (s1.ev fo) (args.map s1.ev) d K ∨ ∃ ls, (∀ l ∈ ls, l ∉ R) ∧ vCallIO P s1 ls (s1.ev fo) (args.map s1.ev) d K)
@[go_sem] theorem vsOp_call (f : Operand) (args : Array Operand) (ts : Array TypeId) : vsOp P ⟨d, .call ⟨.value f, args, ts⟩, ty, p, af, g⟩ R K s = vsCallX P s f args.toList d R (K R) := rfl
end
@[congr] theorem vsCallX_congr {s s' : AState} {fo : Operand} {args : List Operand} {d : Option Nat} {R R' : List Nat} {K : AState → Prop} (h : s = s') (hr : R = R') : vsCallX P s fo args d R K = vsCallX P s' fo args d R' K := by rw [h, hr]
theorem vsCallX_of {s : AState} {fo : Operand} {args : List Operand} {d : Option Nat} {R : List Nat} {K : AState → Prop} (h : vCall P s (s.ev fo) (args.map s.ev) d K) : vsCallX P s fo args d R K := ⟨s, .refl s, .inl h⟩
theorem vsCallX_frz {s s1 : AState} {fo : Operand} {args : List Operand} {d : Option Nat} {R : List Nat} {K : AState → Prop} (hf : Frz s s1) (h : vCall P s1 (s1.ev fo) (args.map s1.ev) d K) : vsCallX P s fo args d R K := ⟨s1, hf, .inl h⟩
theorem vsCallX_io {s : AState} {fo : Operand} {args : List Operand} {d : Option Nat} {R : List Nat} {K : AState → Prop} (ls : List Nat) (hd : disj ls R) (h : vCallIO P s ls (s.ev fo) (args.map s.ev) d K) : vsCallX P s fo args d R K := ⟨s, .refl s, .inr ⟨ls, hd, h⟩⟩
end
end Go.AG
