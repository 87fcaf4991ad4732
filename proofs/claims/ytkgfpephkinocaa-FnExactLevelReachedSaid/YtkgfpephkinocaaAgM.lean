/-
  AG, part M: the rules by which simp runs a verification condition. Conditions: none.
-/
import Derived.Test.YtkgfpephkinocaaAgL
set_option linter.unusedSimpArgs false
set_option linter.unusedVariables false
namespace Go.AG
open Go.RowKit

section
variable {P : Program}

/-- a loop, for whom to give its relation -/
def vcLoop (P : Program) (c : Code) (Q : Exit → AState → Prop) (s : AState) : Prop := vc P (.loop c) Q s

@[go_sem] theorem vc_skip (Q : Exit → AState → Prop) (s : AState) : vc P .skip Q s = Q .normal s := rfl
@[go_sem] theorem vc_label (l : Nat) (Q : Exit → AState → Prop) (s : AState) : vc P (.label l) Q s = Q .normal s := rfl
@[go_sem] theorem vc_region (id : Nat) (ops : Array Oper) (Q : Exit → AState → Prop) (s : AState) : vc P (.region id ops false) Q s = vcOps P ops.toList ops.toList (Q .normal) s := rfl
@[go_sem] theorem vc_regionD (id : Nat) (ops : Array Oper) (Q : Exit → AState → Prop) (s : AState) : vc P (.region id ops true) Q s = vDraw P ops (Q .normal) s := rfl
@[go_sem] theorem vc_seq (x y : Code) (Q : Exit → AState → Prop) (s : AState) : vc P (.seq x y) Q s = vc P x (seqK (vc P y Q) Q) s := rfl
/-- a test -/
def vIf (P : Program) (v : V) (x y : Code) (Q : Exit → AState → Prop) (s : AState) : Prop := ∃ b, v = .sc (.bool b) ∧ (((b = true → vc P x Q s) ∧ (b = false → vc P y Q s)) ∨
      ∃ (β : Type) (p : β → Prop) (J : β → AState), (b = true → vc P x (jnN p J Q) s) ∧ (b = false → vc P y (jnN p J Q) s) ∧ ∀ x, p x → Q .normal (J x))
@[go_sem] theorem jnN_ret {β : Type} (p : β → Prop) (J : β → AState) (Q : Exit → AState → Prop) : jnN p J Q .ret = Q .ret := rfl
@[go_sem] theorem jnN_exit {β : Type} (p : β → Prop) (J : β → AState) (Q : Exit → AState → Prop) (i : Nat) : jnN p J Q (.exit i) = Q (.exit i) := rfl
@[go_sem] theorem jnX_ret {β : Type} (i : Nat) (p : β → Prop) (J : β → AState) (Q : Exit → AState → Prop) : jnX i p J Q .ret = Q .ret := rfl
@[go_sem] theorem jnX_normal {β : Type} (i : Nat) (p : β → Prop) (J : β → AState) (Q : Exit → AState → Prop) : jnX i p J Q .normal = Q .normal := rfl
@[go_sem] theorem jnX_other {β : Type} (i j : Nat) (p : β → Prop) (J : β → AState) (Q : Exit → AState → Prop) (h : j ≠ i) : jnX i p J Q (.exit j) = Q (.exit j) := by
  funext s
  have : Nat.beq j i = false := by
    cases hb : Nat.beq j i with
    | false => rfl
    | true => exact absurd (Nat.eq_of_beq_eq_true hb) h
  simp only [jnX, this, cond_false]
theorem jnX_same {β : Type} {i : Nat} {p : β → Prop} {J : β → AState} {Q : Exit → AState → Prop} {s : AState} (x : β) (hp : p x) (h : leS s (J x)) : jnX i p J Q (.exit i) s := by
  simp only [jnX, show Nat.beq i i = true from by simp, cond_true]
  exact ⟨x, hp, s, .refl s, .inl h⟩
theorem jnX_new {β : Type} {i : Nat} {p : β → Prop} {J : β → AState} {Q : Exit → AState → Prop} {s : AState} (x : β) (hp : p x) (h : leP s (J x)) : jnX i p J Q (.exit i) s := by
  simp only [jnX, show Nat.beq i i = true from by simp, cond_true]
  exact ⟨x, hp, s, .refl s, .inr h⟩
theorem jnX_frz {β : Type} {i : Nat} {p : β → Prop} {J : β → AState} {Q : Exit → AState → Prop} {s s1 : AState} (x : β) (hp : p x) (hf : Frz s s1) (h : leP s1 (J x)) : jnX i p J Q (.exit i) s := by
  simp only [jnX, show Nat.beq i i = true from by simp, cond_true]
  exact ⟨x, hp, s1, hf, .inr h⟩
/-- a branch ends in the common state -/
theorem jn_same {β : Type} {p : β → Prop} {J : β → AState} {Q : Exit → AState → Prop} {s : AState} (x : β) (hp : p x) (h : leS s (J x)) : jnN p J Q .normal s := ⟨x, hp, s, .refl s, .inl h⟩
theorem jn_new {β : Type} {p : β → Prop} {J : β → AState} {Q : Exit → AState → Prop} {s : AState} (x : β) (hp : p x) (h : leP s (J x)) : jnN p J Q .normal s := ⟨x, hp, s, .refl s, .inr h⟩
theorem jn_frz {β : Type} {p : β → Prop} {J : β → AState} {Q : Exit → AState → Prop} {s s1 : AState} (x : β) (hp : p x) (hf : Frz s s1) (h : leP s1 (J x)) : jnN p J Q .normal s := ⟨x, hp, s1, hf, .inr h⟩
@[go_sem] theorem vc_cond (c : Operand) (x y : Code) (Q : Exit → AState → Prop) (s : AState) : vc P (.cond c x y) Q s = vIf P (s.ev c) x y Q s := rfl
@[go_sem] theorem vc_block (id : Nat) (c : Code) (Q : Exit → AState → Prop) (s : AState) : vc P (.block id c) Q s = vc P c (blkK id Q) s := rfl
@[go_sem] theorem vc_loop (c : Code) (Q : Exit → AState → Prop) (s : AState) : vc P (.loop c) Q s = vcLoop P c Q s := rfl
@[go_sem] theorem vc_exit (id : Nat) (Q : Exit → AState → Prop) (s : AState) : vc P (.exit id) Q s = Q (.exit id) s := rfl
@[go_sem] theorem vc_ret (Q : Exit → AState → Prop) (s : AState) : vc P .ret Q s = Q .ret s := rfl

@[congr] theorem vc_congr {c : Code} {Q : Exit → AState → Prop} {s s' : AState} (h : s = s') : vc P c Q s = vc P c Q s' := by rw [h]
@[congr] theorem vcLoop_congr {c : Code} {Q : Exit → AState → Prop} {s s' : AState} (h : s = s') : vcLoop P c Q s = vcLoop P c Q s' := by rw [h]
@[congr] theorem vDraw_congr {ops : Array Oper} {K : AState → Prop} {s s' : AState} (h : s = s') : vDraw P ops K s = vDraw P ops K s' := by rw [h]

@[go_sem] theorem seqK_normal (y : AState → Prop) (Q : Exit → AState → Prop) : seqK y Q .normal = y := rfl
@[go_sem] theorem seqK_ret (y : AState → Prop) (Q : Exit → AState → Prop) : seqK y Q .ret = Q .ret := rfl
@[go_sem] theorem seqK_exit (y : AState → Prop) (Q : Exit → AState → Prop) (i : Nat) : seqK y Q (.exit i) = Q (.exit i) := rfl
@[go_sem] theorem blkK_normal (id : Nat) (Q : Exit → AState → Prop) : blkK id Q .normal = Q .normal := rfl
@[go_sem] theorem blkK_ret (id : Nat) (Q : Exit → AState → Prop) : blkK id Q .ret = Q .ret := rfl
@[go_sem] theorem blkK_exit_same (id : Nat) (Q : Exit → AState → Prop) : blkK id Q (.exit id) = Q .normal := by
  funext s
  simp [blkK]
@[go_sem] theorem blkK_exit (id i : Nat) (Q : Exit → AState → Prop) (h : i ≠ id) : blkK id Q (.exit i) = Q (.exit i) := by
  funext s
  have : Nat.beq i id = false := by
    cases hb : Nat.beq i id with
    | false => rfl
    | true => exact absurd (Nat.eq_of_beq_eq_true hb) h
  simp only [blkK, this, cond_false]
@[go_sem] theorem loopK_ret {α : Type} (p : α → Prop) (I : α → AState) (μ : α → Nat) (x : α) (Q : Exit → AState → Prop) : loopK p I μ x Q .ret = Q .ret := rfl
@[go_sem] theorem loopK_exit {α : Type} (p : α → Prop) (I : α → AState) (μ : α → Nat) (x : α) (Q : Exit → AState → Prop) (i : Nat) : loopK p I μ x Q (.exit i) = Q (.exit i) := rfl

/-- the end of a round -/
theorem again_new {α : Type} {p : α → Prop} {I : α → AState} {μ : α → Nat} {x : α} {Q : Exit → AState → Prop} {s : AState} (x' : α) (hp : p x') (h : μ x' < μ x) (hl : leP s (I x')) : loopK p I μ x Q .normal s := ⟨x', hp, h, s, .refl s, .inr hl⟩
theorem again {α : Type} {p : α → Prop} {I : α → AState} {μ : α → Nat} {x : α} {Q : Exit → AState → Prop} {s : AState} (x' : α) (hp : p x') (h : μ x' < μ x) (hl : leS s (I x')) : loopK p I μ x Q .normal s := ⟨x', hp, h, s, .refl s, .inl hl⟩
theorem again_frz {α : Type} {p : α → Prop} {I : α → AState} {μ : α → Nat} {x : α} {Q : Exit → AState → Prop} {s s1 : AState} (x' : α) (hp : p x') (h : μ x' < μ x) (hf : Frz s s1) (hl : leS s1 (I x')) : loopK p I μ x Q .normal s := ⟨x', hp, h, s1, hf, .inl hl⟩
/-- a loop: what holds of the ghost, its relation, its measure, where it begins -/
theorem vcLoop_inv {c : Code} {Q : Exit → AState → Prop} {s : AState} {α : Type} (p : α → Prop) (I : α → AState) (μ : α → Nat) (x0 : α) (hp : p x0) (h0 : leS s (I x0)) (h : ∀ x, p x → vc P c (loopK p I μ x Q) (I x)) : vcLoop P c Q s := ⟨Q, .inl rfl, α, p, I, μ, x0, hp, ⟨s, .refl s, .inl h0⟩, h⟩
theorem vcLoop_inv_frz {c : Code} {Q : Exit → AState → Prop} {s s1 : AState} {α : Type} (p : α → Prop) (I : α → AState) (μ : α → Nat) (x0 : α) (hf : Frz s s1) (hp : p x0) (h0 : leS s1 (I x0)) (h : ∀ x, p x → vc P c (loopK p I μ x Q) (I x)) : vcLoop P c Q s := ⟨Q, .inl rfl, α, p, I, μ, x0, hp, ⟨s1, hf, .inl h0⟩, h⟩
/-- a loop whose ways out by one exit go on from one state (out of a family J) -/
theorem vcLoop_join {c : Code} {Q : Exit → AState → Prop} {s : AState} (i : Nat) {β : Type} (q : β → Prop) (J : β → AState) {α : Type} (p : α → Prop) (I : α → AState) (μ : α → Nat) (x0 : α) (hp : p x0) (h0 : leF s (I x0))
    (h : ∀ x, p x → vc P c (loopK p I μ x (jnX i q J Q)) (I x)) (hJ : ∀ x, q x → Q (.exit i) (J x)) : vcLoop P c Q s := ⟨_, .inr ⟨i, β, q, J, rfl, hJ⟩, α, p, I, μ, x0, hp, h0, h⟩
theorem leF_s {s t : AState} (h : leS s t) : leF s t := ⟨s, .refl s, .inl h⟩
theorem leF_p {s t : AState} (h : leP s t) : leF s t := ⟨s, .refl s, .inr h⟩
theorem leF_f {s s1 t : AState} (hf : Frz s s1) (h : leP s1 t) : leF s t := ⟨s1, hf, .inr h⟩

/-! ### operations -/

@[go_sem] theorem vcOps_nil (all : List Oper) (K : AState → Prop) (s : AState) : vcOps P all [] K s = K s := rfl
@[go_sem] theorem vcOps_plain (all os : List Oper) (d : Option Nat) (op : Op) (t : TypeId) (p : String) (af : Array Edge) (K : AState → Prop) (s : AState) :
    vcOps P all (⟨d, op, t, p, af, none⟩ :: os) K s = vcOp P ⟨d, op, t, p, af, none⟩ (vcOps P all os K) s := rfl
/-- an operation under a guard -/
def vGuard (P : Program) (v : V) (want : Bool) (o : Oper) (all os : List Oper) (K : AState → Prop) (s : AState) : Prop :=
  ∃ b, v = gval b ∧ (b = some want → vcOp P o (vcOps P all os K) s) ∧ (b ≠ some want → fin o.dst (vcOps P all os K) s (.sc undef))
def vqGuard (P : Program) (v : V) (want : Bool) (o : Oper) (all os : List Oper) (K : AState → Prop) (s : AState) : Prop :=
  ∃ b, v = gval b ∧ (b = some want → vqOp P o (vqOps P all os K) s) ∧ (b ≠ some want → fin o.dst (vqOps P all os K) s (.sc undef))
@[go_sem] theorem vcOps_guard (all os : List Oper) (d : Option Nat) (op : Op) (t : TypeId) (p : String) (af : Array Edge) (j : Nat) (want : Bool) (K : AState → Prop) (s : AState) :
    vcOps P all (⟨d, op, t, p, af, some (j, want)⟩ :: os) K s = vGuard P (gv all s j) want ⟨d, op, t, p, af, some (j, want)⟩ all os K s := rfl
@[go_sem] theorem vqOps_nil (all : List Oper) (K : AState → Prop) (s : AState) : vqOps P all [] K s = K s := rfl
@[go_sem] theorem vqOps_plain (all os : List Oper) (d : Option Nat) (op : Op) (t : TypeId) (p : String) (af : Array Edge) (K : AState → Prop) (s : AState) :
    vqOps P all (⟨d, op, t, p, af, none⟩ :: os) K s = vqOp P ⟨d, op, t, p, af, none⟩ (vqOps P all os K) s := rfl
@[go_sem] theorem vqOps_guard (all os : List Oper) (d : Option Nat) (op : Op) (t : TypeId) (p : String) (af : Array Edge) (j : Nat) (want : Bool) (K : AState → Prop) (s : AState) :
    vqOps P all (⟨d, op, t, p, af, some (j, want)⟩ :: os) K s = vqGuard P (gv all s j) want ⟨d, op, t, p, af, some (j, want)⟩ all os K s := rfl
@[congr] theorem vcOps_congr {all os : List Oper} {K : AState → Prop} {s s' : AState} (h : s = s') : vcOps P all os K s = vcOps P all os K s' := by rw [h]
@[congr] theorem vqOps_congr {all os : List Oper} {K : AState → Prop} {s s' : AState} (h : s = s') : vqOps P all os K s = vqOps P all os K s' := by rw [h]
@[congr] theorem vcOp_congr {o : Oper} {K : AState → Prop} {s s' : AState} (h : s = s') : vcOp P o K s = vcOp P o K s' := by rw [h]
@[congr] theorem vqOp_congr {o : Oper} {K : AState → Prop} {s s' : AState} (h : s = s') : vqOp P o K s = vqOp P o K s' := by rw [h]

/-- a guard's temporary, by its number -/
@[go_sem] theorem gv_zero (d : Nat) (op : Op) (t : TypeId) (p : String) (af : Array Edge) (g : Option (Nat × Bool)) (os : List Oper) (s : AState) : gv (⟨some d, op, t, p, af, g⟩ :: os) s 0 = s.get d := rfl
@[go_sem] theorem gv_succ (o : Oper) (os : List Oper) (s : AState) (j : Nat) : gv (o :: os) s (j + 1) = gv os s j := rfl
@[congr] theorem gv_congr {all : List Oper} {s s' : AState} {j : Nat} (h : s = s') : gv all s j = gv all s' j := by rw [h]

section
variable (d : Option Nat) (ty : TypeId) (p : String) (af : Array Edge) (g : Option (Nat × Bool)) (K : AState → Prop) (s : AState)
@[go_sem] theorem vcOp_move (x : Operand) : vcOp P ⟨d, .move x, ty, p, af, g⟩ K s = fin d K s (s.ev x) := rfl
@[go_sem] theorem vcOp_assign (x : Operand) : vcOp P ⟨d, .assign x, ty, p, af, g⟩ K s = fin d K s (s.ev x) := rfl
@[go_sem] theorem vcOp_pick (c x y : Operand) : vcOp P ⟨d, .pick c x y, ty, p, af, g⟩ K s = vPick (s.ev c) (s.ev x) (s.ev y) (fin d K s) := rfl
@[go_sem] theorem vcOp_load (t : TypeId) (x : Operand) : vcOp P ⟨d, .load t x, ty, p, af, g⟩ K s = vLoad (ti P t) (s.ev x) s.ob (fin d K s) := rfl
@[go_sem] theorem vcOp_nilCheck (x : Operand) : vcOp P ⟨d, .nilCheck x, ty, p, af, g⟩ K s = vNil (s.ev x) (fin d K s) := rfl
@[go_sem] theorem vcOp_binOp (op : BinOp) (t u : TypeId) (x y : Operand) : vcOp P ⟨d, .binOp op t x y u, ty, p, af, g⟩ K s = vBin (ti P t).desc op (s.ev x) (s.ev y) (fin d K s) := rfl
@[go_sem] theorem vcOp_unOp (op : UnOp) (t : TypeId) (x : Operand) : vcOp P ⟨d, .unOp op t x, ty, p, af, g⟩ K s = vUn op (s.ev x) (fin d K s) := rfl
@[go_sem] theorem vcOp_convert (t u : TypeId) (x : Operand) : vcOp P ⟨d, .convert t u x, ty, p, af, g⟩ K s = vConv (ti P t).desc (ti P u).desc (s.ev x) (fin d K s) := rfl
@[go_sem] theorem vcOp_fieldAddr (t : TypeId) (x : Operand) (f : Nat) : vcOp P ⟨d, .fieldAddr t x f, ty, p, af, g⟩ K s = vFieldAddr P (ti P t).desc (s.ev x) f (fin d K s) := rfl
@[go_sem] theorem vcOp_field (t : TypeId) (x : Operand) (f : Nat) : vcOp P ⟨d, .field t x f, ty, p, af, g⟩ K s = vField P (ti P t).desc (s.ev x) f (fin d K s) := rfl
@[go_sem] theorem vcOp_indexAddr (t : TypeId) (x i : Operand) : vcOp P ⟨d, .indexAddr t x i, ty, p, af, g⟩ K s = vIdxAddr P (ti P t).desc (s.ev x) (s.ev i) (fin d K s) := rfl
@[go_sem] theorem vcOp_index (t : TypeId) (x i : Operand) : vcOp P ⟨d, .index t x i, ty, p, af, g⟩ K s = vIdx P (ti P t).desc (s.ev x) (s.ev i) (fin d K s) := rfl
@[go_sem] theorem vcOp_slice (t : TypeId) (x : Operand) (lo hi : Option Operand) : vcOp P ⟨d, .slice t x lo hi none, ty, p, af, g⟩ K s = vSlice P s.ob (ti P t).desc (s.ev x) (lo.map s.ev) (hi.map s.ev) (fin d K s) := rfl
@[go_sem] theorem vcOp_extract (x : Operand) (i : Nat) : vcOp P ⟨d, .extract x i, ty, p, af, g⟩ K s = vExtract (s.ev x) i (fin d K s) := rfl
@[go_sem] theorem vcOp_makeFunc (f : FuncId) (caps : Array Operand) : vcOp P ⟨d, .makeFunc (.func f) #[] caps, ty, p, af, g⟩ K s = fin d K s (.fn f (caps.toList.map s.ev)) := by simp [vcOp, isMem, qop, grd]
@[go_sem] theorem vcOp_len (x : Operand) (t : TypeId) : vcOp P ⟨d, .call ⟨.builtin .len, #[x], #[t]⟩, ty, p, af, g⟩ K s = vLen (ti P t).desc (s.ev x) (fin d K s) := rfl
@[go_sem] theorem vcOp_min (x y : Operand) (ts : Array TypeId) : vcOp P ⟨d, .call ⟨.builtin .min, #[x, y], ts⟩, ty, p, af, g⟩ K s = vMin2 (s.ev x) (s.ev y) (fin d K s) := rfl
@[go_sem] theorem vcOp_max (x y : Operand) (ts : Array TypeId) : vcOp P ⟨d, .call ⟨.builtin .max, #[x, y], ts⟩, ty, p, af, g⟩ K s = vMax2 (s.ev x) (s.ev y) (fin d K s) := rfl
@[go_sem] theorem vcOp_alloc (t : TypeId) : vcOp P ⟨d, .alloc t, ty, p, af, g⟩ K s = grd ((ti P t).ok = true ∧ (ti P t).zero ≠ [] ∧ (ti P t).zero.all Value.oneCell' = true ∧ s.k ≤ s.ob.length)
      (fin d K (s.add ⟨(ti P t).size, zerosOf (ti P t)⟩) (.ptr s.ob.length 0)) := rfl
@[go_sem] theorem vcOp_box (t : TypeId) (x : Operand) : vcOp P ⟨d, .box t x, ty, p, af, g⟩ K s = grd (V.oneL (vcells (s.ev x)) = true ∧ s.k ≤ s.ob.length)
      (fin d K (s.add ⟨(vcells (s.ev x)).length, vcells (s.ev x)⟩) (.ptr s.ob.length 0)) := rfl

@[go_sem] theorem vcOp_buildSlice (t : TypeId) (len : Nat) (parts : Array (Nat × Operand)) : vcOp P ⟨d, .buildSlice t len parts, ty, p, af, g⟩ K s = vMkD P (ti P t).desc s len (parts.toList.map fun q => (q.1, s.ev q.2)) d K := rfl
@[go_sem] theorem vcOp_makeSlice (t : TypeId) (l c : Operand) : vcOp P ⟨d, .makeSlice t l c, ty, p, af, g⟩ K s = vMakeD P (ti P t).desc s (s.ev l) (s.ev c) d K := rfl
@[go_sem] theorem vcOp_build (t : TypeId) (parts : Array (Nat × Operand)) : vcOp P ⟨d, .build t parts, ty, p, af, g⟩ K s = vBuildD P (ti P t) s (parts.toList.map fun q => (q.1, s.ev q.2)) d K := rfl
@[go_sem] theorem vcOp_store (t : TypeId) (q x : Operand) : vcOp P ⟨none, .store t q x, ty, p, af, g⟩ K s = vStore s (ti P t) (s.ev q) (s.ev x) K := by simp [vcOp, isMem, mop, grd]
@[go_sem] theorem vcOp_append (t : TypeId) (x y : Operand) : vcOp P ⟨d, .call ⟨.builtin .append, #[x, y], #[t, t]⟩, ty, p, af, g⟩ K s = vAppD P (ti P t).desc s (s.ev x) (s.ev y) d K := by
  simp [vcOp, isMem, mop, grd]
@[go_sem] theorem vcOp_call (f : Operand) (args : Array Operand) (ts : Array TypeId) : vcOp P ⟨d, .call ⟨.value f, args, ts⟩, ty, p, af, g⟩ K s = vCallX P s f args.toList d K := rfl

@[go_sem] theorem vqOp_move (x : Operand) : vqOp P ⟨d, .move x, ty, p, af, g⟩ K s = fin d K s (s.ev x) := rfl
@[go_sem] theorem vqOp_assign (x : Operand) : vqOp P ⟨d, .assign x, ty, p, af, g⟩ K s = fin d K s (s.ev x) := rfl
@[go_sem] theorem vqOp_pick (c x y : Operand) : vqOp P ⟨d, .pick c x y, ty, p, af, g⟩ K s = vPick (s.ev c) (s.ev x) (s.ev y) (fin d K s) := rfl
@[go_sem] theorem vqOp_load (t : TypeId) (x : Operand) : vqOp P ⟨d, .load t x, ty, p, af, g⟩ K s = vLoad (ti P t) (s.ev x) s.ob (fin d K s) := rfl
@[go_sem] theorem vqOp_nilCheck (x : Operand) : vqOp P ⟨d, .nilCheck x, ty, p, af, g⟩ K s = vNil (s.ev x) (fin d K s) := rfl
@[go_sem] theorem vqOp_binOp (op : BinOp) (t u : TypeId) (x y : Operand) : vqOp P ⟨d, .binOp op t x y u, ty, p, af, g⟩ K s = vBin (ti P t).desc op (s.ev x) (s.ev y) (fin d K s) := rfl
@[go_sem] theorem vqOp_unOp (op : UnOp) (t : TypeId) (x : Operand) : vqOp P ⟨d, .unOp op t x, ty, p, af, g⟩ K s = vUn op (s.ev x) (fin d K s) := rfl
@[go_sem] theorem vqOp_convert (t u : TypeId) (x : Operand) : vqOp P ⟨d, .convert t u x, ty, p, af, g⟩ K s = vConv (ti P t).desc (ti P u).desc (s.ev x) (fin d K s) := rfl
@[go_sem] theorem vqOp_fieldAddr (t : TypeId) (x : Operand) (f : Nat) : vqOp P ⟨d, .fieldAddr t x f, ty, p, af, g⟩ K s = vFieldAddr P (ti P t).desc (s.ev x) f (fin d K s) := rfl
@[go_sem] theorem vqOp_field (t : TypeId) (x : Operand) (f : Nat) : vqOp P ⟨d, .field t x f, ty, p, af, g⟩ K s = vField P (ti P t).desc (s.ev x) f (fin d K s) := rfl
@[go_sem] theorem vqOp_indexAddr (t : TypeId) (x i : Operand) : vqOp P ⟨d, .indexAddr t x i, ty, p, af, g⟩ K s = vIdxAddr P (ti P t).desc (s.ev x) (s.ev i) (fin d K s) := rfl
@[go_sem] theorem vqOp_index (t : TypeId) (x i : Operand) : vqOp P ⟨d, .index t x i, ty, p, af, g⟩ K s = vIdx P (ti P t).desc (s.ev x) (s.ev i) (fin d K s) := rfl
@[go_sem] theorem vqOp_slice (t : TypeId) (x : Operand) (lo hi : Option Operand) : vqOp P ⟨d, .slice t x lo hi none, ty, p, af, g⟩ K s = vSlice P s.ob (ti P t).desc (s.ev x) (lo.map s.ev) (hi.map s.ev) (fin d K s) := rfl
@[go_sem] theorem vqOp_extract (x : Operand) (i : Nat) : vqOp P ⟨d, .extract x i, ty, p, af, g⟩ K s = vExtract (s.ev x) i (fin d K s) := rfl
@[go_sem] theorem vqOp_len (x : Operand) (t : TypeId) : vqOp P ⟨d, .call ⟨.builtin .len, #[x], #[t]⟩, ty, p, af, g⟩ K s = vLen (ti P t).desc (s.ev x) (fin d K s) := rfl
@[go_sem] theorem vqOp_min (x y : Operand) (ts : Array TypeId) : vqOp P ⟨d, .call ⟨.builtin .min, #[x, y], ts⟩, ty, p, af, g⟩ K s = vMin2 (s.ev x) (s.ev y) (fin d K s) := rfl
@[go_sem] theorem vqOp_max (x y : Operand) (ts : Array TypeId) : vqOp P ⟨d, .call ⟨.builtin .max, #[x, y], ts⟩, ty, p, af, g⟩ K s = vMax2 (s.ev x) (s.ev y) (fin d K s) := rfl
@[go_sem] theorem vqOp_call (f : Operand) (args : Array Operand) (ts : Array TypeId) : vqOp P ⟨d, .call ⟨.value f, args, ts⟩, ty, p, af, g⟩ K s = vqCall P s (s.ev f) (args.toList.map s.ev) d K := rfl
end

/-! ### states -/

section
variable (n k : Nat) (sl : List (Nat × V)) (ob : Objs)
@[go_sem] theorem ev_tmp (t : Nat) : (⟨n, k, sl, ob⟩ : AState).ev (.tmp t) = lk t sl := rfl
@[go_sem] theorem ev_const (v : Value) (s : AState) : s.ev (.const v) = .sc v := rfl
@[go_sem] theorem ev_func (f : FuncId) (s : AState) : s.ev (.func f) = .fn f [] := rfl
@[go_sem] theorem get_mk (t : Nat) : (⟨n, k, sl, ob⟩ : AState).get t = lk t sl := rfl
@[go_sem] theorem lk_nil (t : Nat) : lk t [] = .junk := rfl
@[go_sem] theorem lk_cons (t u : Nat) (x : V) : lk t ((u, x) :: sl) = if u = t then x else lk t sl := by
  by_cases h : u = t
  · subst h; simp [lk]
  · have : Nat.beq u t = false := by
      cases hb : Nat.beq u t with
      | false => rfl
      | true => exact absurd (Nat.eq_of_beq_eq_true hb) h
    simp [lk, this, h]
@[go_sem] theorem fin_none (K : AState → Prop) (s : AState) (x : V) : fin none K s x = K s := by simp [fin, okD, grd, AState.put]
@[go_sem] theorem fin_some (t : Nat) (K : AState → Prop) (x : V) : fin (some t) K ⟨n, k, sl, ob⟩ x = grd (t < n) (K ⟨n, k, (t, x) :: sl, ob⟩) := rfl
@[go_sem] theorem add_mk (o : Ob) : (⟨n, k, sl, ob⟩ : AState).add o = ⟨n, k, sl, ob ++ [some o]⟩ := rfl
@[go_sem] theorem grown_mk (l esz : Nat) (cells : List V) : (⟨n, k, sl, ob⟩ : AState).grown l esz cells = ⟨n, k, trS (V.kill (killB l)) sl, (trO (V.kill (killB l)) ob).set l (some ⟨esz, V.killL (killB l) cells⟩)⟩ := rfl
@[go_sem] theorem trS_nil (τ : V → V) : trS τ [] = [] := rfl
@[go_sem] theorem trS_cons (τ : V → V) (t : Nat) (x : V) : trS τ ((t, x) :: sl) = (t, τ x) :: trS τ sl := rfl
@[go_sem] theorem trO_nil (τ : V → V) : trO τ [] = [] := rfl
@[go_sem] theorem trO_none (τ : V → V) : trO τ (none :: ob) = none :: trO τ ob := rfl
@[go_sem] theorem trO_kill (p : Nat → Bool) (o : Ob) : trO (V.kill p) (some o :: ob) = some ⟨o.esz, V.killL p o.cells⟩ :: trO (V.kill p) ob := by simp [trO, killL_eq]
@[go_sem] theorem trO_frz (f : Nat → Option Ob) (o : Ob) : trO (V.frz f) (some o :: ob) = some ⟨o.esz, V.frzL f o.cells⟩ :: trO (V.frz f) ob := by simp [trO, frzL_eq]
@[congr] theorem fin_congr {d : Option Nat} {K : AState → Prop} {s s' : AState} {x x' : V} (h : s = s') (hx : x = x') : fin d K s x = fin d K s' x' := by rw [h, hx]
end

@[go_sem high] theorem grd_true (p : Prop) : grd True p = p := by simp [grd]
@[go_sem low] theorem grd_ok {c : Prop} (p : Prop) (h : c) : grd c p = p := by simp [grd, h]
@[congr] theorem grd_congr {c c' p : Prop} (h : c = c') : grd c p = grd c' p := by rw [h]

section
variable {x y : Code} {Q : Exit → AState → Prop} {s : AState}
theorem vIf_t (h : vc P x Q s) : vIf P (.sc (.bool true)) x y Q s := ⟨true, rfl, .inl ⟨fun _ => h, (fun h => by cases h)⟩⟩
theorem vIf_f (h : vc P y Q s) : vIf P (.sc (.bool false)) x y Q s := ⟨false, rfl, .inl ⟨(fun h => by cases h), fun _ => h⟩⟩
/-- both branches, then the rest from a common state -/
theorem vIf_join {b : Bool} {β : Type} (p : β → Prop) (J : β → AState) (h1 : b = true → vc P x (jnN p J Q) s) (h2 : b = false → vc P y (jnN p J Q) s) (h3 : ∀ x, p x → Q .normal (J x)) : vIf P (.sc (.bool b)) x y Q s := ⟨b, rfl, .inr ⟨β, p, J, h1, h2, h3⟩⟩
theorem vIf_join1 {b : Bool} (J : AState) (h1 : b = true → vc P x (jnN (fun _ : Unit => True) (fun _ => J) Q) s) (h2 : b = false → vc P y (jnN (fun _ : Unit => True) (fun _ => J) Q) s) (h3 : Q .normal J) : vIf P (.sc (.bool b)) x y Q s := ⟨b, rfl, .inr ⟨Unit, _, _, h1, h2, fun _ _ => h3⟩⟩
theorem vIf_bool {b : Bool} (h1 : b = true → vc P x Q s) (h2 : b = false → vc P y Q s) : vIf P (.sc (.bool b)) x y Q s := ⟨b, rfl, .inl ⟨h1, h2⟩⟩
theorem vIf_dec {p : Prop} [Decidable p] (h1 : p → vc P x Q s) (h2 : ¬ p → vc P y Q s) : vIf P (.sc (.bool (decide p))) x y Q s := ⟨decide p, rfl, .inl ⟨fun h => h1 (of_decide_eq_true h), fun h => h2 (of_decide_eq_false h)⟩⟩
theorem vIf_ndec {p : Prop} [Decidable p] (h1 : ¬ p → vc P x Q s) (h2 : p → vc P y Q s) : vIf P (.sc (.bool (!decide p))) x y Q s := ⟨!decide p, rfl, .inl ⟨fun h => h1 (by simpa using h), fun h => h2 (by simpa using h)⟩⟩
theorem vIf_beq {a b : Int} (h1 : a = b → vc P x Q s) (h2 : a ≠ b → vc P y Q s) : vIf P (.sc (.bool (a == b))) x y Q s := ⟨a == b, rfl, .inl ⟨fun h => h1 (by simpa using h), fun h => h2 (by simpa using h)⟩⟩
theorem vIf_bne {a b : Int} (h1 : a ≠ b → vc P x Q s) (h2 : a = b → vc P y Q s) : vIf P (.sc (.bool (a != b))) x y Q s := ⟨a != b, rfl, .inl ⟨fun h => h1 (by simpa using h), fun h => h2 (by simpa using h)⟩⟩
theorem vIf_not {b : Bool} (h1 : b = false → vc P x Q s) (h2 : b = true → vc P y Q s) : vIf P (.sc (.bool (!b))) x y Q s := ⟨!b, rfl, .inl ⟨fun h => h1 (by simpa using h), fun h => h2 (by simpa using h)⟩⟩
end

section
variable {o : Oper} {all os : List Oper} {K : AState → Prop} {s : AState}
theorem gval_b {b : Bool} {r : Option Bool} (h : V.sc (.bool b) = gval r) : r = some b := by
  cases r with
  | none => cases h
  | some c => cases h; rfl
theorem gval_u {r : Option Bool} (h : V.sc undef = gval r) : r = none := by
  cases r with
  | none => rfl
  | some c => cases h
@[go_sem] theorem vGuard_tt : vGuard P (.sc (.bool true)) true o all os K s = vcOp P o (vcOps P all os K) s := by
  apply propext
  constructor
  · rintro ⟨r, hb, h1, _⟩; exact h1 (gval_b hb)
  · intro h; exact ⟨some true, rfl, fun _ => h, fun h => absurd rfl h⟩
@[go_sem] theorem vGuard_tf : vGuard P (.sc (.bool true)) false o all os K s = fin o.dst (vcOps P all os K) s (.sc undef) := by
  apply propext
  constructor
  · rintro ⟨r, hb, _, h1⟩; exact h1 (by rw [gval_b hb]; simp)
  · intro h; exact ⟨some true, rfl, (fun h => by cases h), fun _ => h⟩
@[go_sem] theorem vGuard_ft : vGuard P (.sc (.bool false)) true o all os K s = fin o.dst (vcOps P all os K) s (.sc undef) := by
  apply propext
  constructor
  · rintro ⟨r, hb, _, h1⟩; exact h1 (by rw [gval_b hb]; simp)
  · intro h; exact ⟨some false, rfl, (fun h => by cases h), fun _ => h⟩
@[go_sem] theorem vGuard_ff : vGuard P (.sc (.bool false)) false o all os K s = vcOp P o (vcOps P all os K) s := by
  apply propext
  constructor
  · rintro ⟨r, hb, h1, _⟩; exact h1 (gval_b hb)
  · intro h; exact ⟨some false, rfl, fun _ => h, fun h => absurd rfl h⟩
@[go_sem] theorem vGuard_un (want : Bool) : vGuard P (.sc undef) want o all os K s = fin o.dst (vcOps P all os K) s (.sc undef) := by
  apply propext
  constructor
  · rintro ⟨r, hb, _, h1⟩; exact h1 (by rw [gval_u hb]; simp)
  · intro h; exact ⟨none, rfl, (fun h => by cases h), fun _ => h⟩
theorem vGuard_any {b want : Bool} (h1 : b = want → vcOp P o (vcOps P all os K) s) (h2 : b ≠ want → fin o.dst (vcOps P all os K) s (.sc undef)) : vGuard P (.sc (.bool b)) want o all os K s := ⟨some b, rfl, fun h => h1 (by simpa using h), fun h => h2 (by simpa using h)⟩
@[go_sem] theorem vqGuard_tt : vqGuard P (.sc (.bool true)) true o all os K s = vqOp P o (vqOps P all os K) s := by
  apply propext
  constructor
  · rintro ⟨r, hb, h1, _⟩; exact h1 (gval_b hb)
  · intro h; exact ⟨some true, rfl, fun _ => h, fun h => absurd rfl h⟩
@[go_sem] theorem vqGuard_tf : vqGuard P (.sc (.bool true)) false o all os K s = fin o.dst (vqOps P all os K) s (.sc undef) := by
  apply propext
  constructor
  · rintro ⟨r, hb, _, h1⟩; exact h1 (by rw [gval_b hb]; simp)
  · intro h; exact ⟨some true, rfl, (fun h => by cases h), fun _ => h⟩
@[go_sem] theorem vqGuard_ft : vqGuard P (.sc (.bool false)) true o all os K s = fin o.dst (vqOps P all os K) s (.sc undef) := by
  apply propext
  constructor
  · rintro ⟨r, hb, _, h1⟩; exact h1 (by rw [gval_b hb]; simp)
  · intro h; exact ⟨some false, rfl, (fun h => by cases h), fun _ => h⟩
@[go_sem] theorem vqGuard_ff : vqGuard P (.sc (.bool false)) false o all os K s = vqOp P o (vqOps P all os K) s := by
  apply propext
  constructor
  · rintro ⟨r, hb, h1, _⟩; exact h1 (gval_b hb)
  · intro h; exact ⟨some false, rfl, fun _ => h, fun h => absurd rfl h⟩
@[go_sem] theorem vqGuard_un (want : Bool) : vqGuard P (.sc undef) want o all os K s = fin o.dst (vqOps P all os K) s (.sc undef) := by
  apply propext
  constructor
  · rintro ⟨r, hb, _, h1⟩; exact h1 (by rw [gval_u hb]; simp)
  · intro h; exact ⟨none, rfl, (fun h => by cases h), fun _ => h⟩
theorem vqGuard_any {b want : Bool} (h1 : b = want → vqOp P o (vqOps P all os K) s) (h2 : b ≠ want → fin o.dst (vqOps P all os K) s (.sc undef)) : vqGuard P (.sc (.bool b)) want o all os K s := ⟨some b, rfl, fun h => h1 (by simpa using h), fun h => h2 (by simpa using h)⟩
end

/-! ### values -/

section
variable (K : V → Prop)
@[go_sem] theorem vPick_true (x y : V) : vPick (.sc (.bool true)) x y K = K x := rfl
@[go_sem] theorem vPick_false (x y : V) : vPick (.sc (.bool false)) x y K = K y := rfl
@[congr] theorem vPick_congr {c c' x x' y y' : V} {K : V → Prop} (h : c = c') (hx : x = x') (hy : y = y') : vPick c x y K = vPick c' x' y' K := by rw [h, hx, hy]
@[go_sem] theorem vAt_zero (x : V) (xs : List V) : vAt (x :: xs) 0 K = K x := rfl
@[go_sem] theorem vAt_succ (x : V) (xs : List V) (n : Nat) : vAt (x :: xs) (n + 1) K = vAt xs n K := rfl
@[congr] theorem vAt_congr {xs xs' : List V} {n n' : Nat} {K : V → Prop} (h : xs = xs') (hn : n = n') : vAt xs n K = vAt xs' n' K := by rw [h, hn]
@[go_sem] theorem vPart_cell (size : Nat) (xs : List V) (off : Nat) : vPart false size xs off K = vAt xs off K := rfl
@[go_sem] theorem vPart_agg (size : Nat) (xs : List V) (off : Nat) : vPart true size xs off K = grd (off + size ≤ xs.length) (K (.agg ((xs.drop off).take size))) := rfl
@[congr] theorem vPart_congr {a a' : Bool} {z z' : Nat} {xs xs' : List V} {n n' : Nat} {K : V → Prop} (ha : a = a') (hz : z = z') (h : xs = xs') (hn : n = n') : vPart a z xs n K = vPart a' z' xs' n' K := by rw [ha, hz, h, hn]
@[go_sem] theorem vLoad_ip (t : TI) (xs : List V) (off : Nat) (ob : Objs) : vLoad t (.ip xs off) ob K = grd (t.ok = true) (vPart t.desc.agg t.size xs off K) := rfl
@[go_sem] theorem vLoad_ptr (t : TI) (l off : Nat) (ob : Objs) : vLoad t (.ptr l off) ob K = grd (t.ok = true) (vObj ob l fun o => vPart t.desc.agg t.size o.cells off K) := rfl
@[congr] theorem vLoad_congr {t t' : TI} {x x' : V} {ob ob' : Objs} {K : V → Prop} (ht : t = t') (hx : x = x') (ho : ob = ob') : vLoad t x ob K = vLoad t' x' ob' K := by rw [ht, hx, ho]
@[go_sem] theorem vObj_zero (o : Ob) (ob : Objs) (K : Ob → Prop) : vObj (some o :: ob) 0 K = K o := rfl
@[go_sem] theorem vObj_succ (x : Option Ob) (ob : Objs) (l : Nat) (K : Ob → Prop) : vObj (x :: ob) (l + 1) K = vObj ob l K := rfl
@[congr] theorem vObj_congr {ob ob' : Objs} {l l' : Nat} {K : Ob → Prop} (h : ob = ob') (hl : l = l') : vObj ob l K = vObj ob' l' K := by rw [h, hl]
@[go_sem] theorem vNil_ip (xs : List V) (off : Nat) : vNil (.ip xs off) K = K (.ip xs off) := rfl
@[go_sem] theorem vNil_ptr (l off : Nat) : vNil (.ptr l off) K = K (.ptr l off) := rfl
@[go_sem] theorem vNil_fn (f : FuncId) (caps : List V) : vNil (.fn f caps) K = K (.fn f caps) := rfl
@[congr] theorem vNil_congr {x x' : V} {K : V → Prop} (hx : x = x') : vNil x K = vNil x' K := by rw [hx]
/-- the place of a field -/
def vFA (t : TI) (o : Nat) (x : V) (K : V → Prop) : Prop := grd (t.ok = true ∧ t.size ≠ 0) (match x with
  | .ip xs off => K (.ip xs (off + o))
  | .ptr l off => K (.ptr l (off + o))
  | _ => False)
@[go_sem] theorem vFieldAddr_zero (P : Program) (q : Nat × TypeId) (fs : List (Nat × TypeId)) (x : V) : vFieldAddr P (.struct (q :: fs)) x 0 K = vFA (ti P q.2) q.1 x K := rfl
@[go_sem] theorem vFieldAddr_succ (P : Program) (q : Nat × TypeId) (fs : List (Nat × TypeId)) (x : V) (f : Nat) : vFieldAddr P (.struct (q :: fs)) x (f + 1) K = vFieldAddr P (.struct fs) x f K := rfl
@[go_sem] theorem vFA_ip (t : TI) (o : Nat) (xs : List V) (off : Nat) : vFA t o (.ip xs off) K = grd (t.ok = true ∧ t.size ≠ 0) (K (.ip xs (off + o))) := rfl
@[go_sem] theorem vFA_ptr (t : TI) (o : Nat) (l off : Nat) : vFA t o (.ptr l off) K = grd (t.ok = true ∧ t.size ≠ 0) (K (.ptr l (off + o))) := rfl
@[congr] theorem vFA_congr {t t' : TI} {o o' : Nat} {x x' : V} {K : V → Prop} (ht : t = t') (ho : o = o') (hx : x = x') : vFA t o x K = vFA t' o' x' K := by rw [ht, ho, hx]
@[congr] theorem vFieldAddr_congr {P : Program} {d d' : AD} {x x' : V} {f : Nat} {K : V → Prop} (hd : d = d') (hx : x = x') : vFieldAddr P d x f K = vFieldAddr P d' x' f K := by rw [hd, hx]
def vFd (t : TI) (o : Nat) (xs : List V) (K : V → Prop) : Prop := grd (t.ok = true) (vPart t.desc.agg t.size xs o K)
@[go_sem] theorem vField_zero (P : Program) (q : Nat × TypeId) (fs : List (Nat × TypeId)) (xs : List V) : vField P (.struct (q :: fs)) (.agg xs) 0 K = vFd (ti P q.2) q.1 xs K := rfl
@[go_sem] theorem vField_succ (P : Program) (q : Nat × TypeId) (fs : List (Nat × TypeId)) (xs : List V) (f : Nat) : vField P (.struct (q :: fs)) (.agg xs) (f + 1) K = vField P (.struct fs) (.agg xs) f K := rfl
@[go_sem] theorem vFd_mk (t : TI) (o : Nat) (xs : List V) : vFd t o xs K = grd (t.ok = true) (vPart t.desc.agg t.size xs o K) := rfl
@[congr] theorem vFd_congr {t t' : TI} {o o' : Nat} {xs xs' : List V} {K : V → Prop} (ht : t = t') (ho : o = o') (hx : xs = xs') : vFd t o xs K = vFd t' o' xs' K := by rw [ht, ho, hx]
@[congr] theorem vField_congr {P : Program} {d d' : AD} {x x' : V} {f : Nat} {K : V → Prop} (hd : d = d') (hx : x = x') : vField P d x f K = vField P d' x' f K := by rw [hd, hx]
/-- the place of an element, the element's size known -/
def vIA (t : TI) (x : V) (n : Int) (K : V → Prop) : Prop := match x with
  | .sl len xs => grd (t.ok = true ∧ 0 ≤ n ∧ n < len) (K (.ip xs (n.toNat * t.size)))
  | .ref l off len => grd (t.ok = true ∧ 0 ≤ n ∧ n < len) (K (.ptr l (off + n.toNat * t.size)))
  | _ => False
@[go_sem] theorem vIdxAddr_slice (P : Program) (e : TypeId) (x : V) (k : IntKind) (n : Int) : vIdxAddr P (.slice e) x (.sc (.int k n)) K = vIA (ti P e) x n K := rfl
@[go_sem] theorem vIA_sl (t : TI) (len : Nat) (xs : List V) (n : Int) : vIA t (.sl len xs) n K = grd (t.ok = true ∧ 0 ≤ n ∧ n < len) (K (.ip xs (n.toNat * t.size))) := rfl
@[go_sem] theorem vIA_ref (t : TI) (l off len : Nat) (n : Int) : vIA t (.ref l off len) n K = grd (t.ok = true ∧ 0 ≤ n ∧ n < len) (K (.ptr l (off + n.toNat * t.size))) := rfl
@[congr] theorem vIA_congr {t t' : TI} {x x' : V} {n n' : Int} {K : V → Prop} (ht : t = t') (hx : x = x') (hn : n = n') : vIA t x n K = vIA t' x' n' K := by rw [ht, hx, hn]
@[congr] theorem vIdxAddr_congr {P : Program} {d d' : AD} {x x' i i' : V} {K : V → Prop} (hd : d = d') (hx : x = x') (hi : i = i') : vIdxAddr P d x i K = vIdxAddr P d' x' i' K := by rw [hd, hx, hi]
@[go_sem] theorem vIdx_string (P : Program) (s : ByteArray) (k : IntKind) (n : Int) : vIdx P .string (.sc (.string s)) (.sc (.int k n)) K = grd (0 ≤ n ∧ n < (s.size : Int)) (K (.sc (.int .u8 (byteAt s n.toNat)))) := rfl
@[congr] theorem vIdx_congr {P : Program} {d d' : AD} {x x' i i' : V} {K : V → Prop} (hd : d = d') (hx : x = x') (hi : i = i') : vIdx P d x i K = vIdx P d' x' i' K := by rw [hd, hx, hi]
@[go_sem] theorem vExtract_tup (xs : List V) (i : Nat) : vExtract (.tup xs) i K = vAt xs i K := rfl
@[congr] theorem vExtract_congr {x x' : V} {i : Nat} {K : V → Prop} (hx : x = x') : vExtract x i K = vExtract x' i K := by rw [hx]
@[go_sem] theorem vUn_not (b : Bool) : vUn .not (.sc (.bool b)) K = K (.sc (.bool !b)) := rfl
@[go_sem] theorem vUn_neg (k : IntKind) (n : Int) : vUn .neg (.sc (.int k n)) K = K (.sc (.int k (k.wrap (0 - n)))) := rfl
@[congr] theorem vUn_congr {op : UnOp} {x x' : V} {K : V → Prop} (hx : x = x') : vUn op x K = vUn op x' K := by rw [hx]
@[go_sem] theorem vConv_int (k k' k'' : IntKind) (n : Int) : vConv (.int k) (.int k') (.sc (.int k'' n)) K = K (.sc (.int k' (k'.wrap n))) := rfl
@[go_sem] theorem vConv_string (s : ByteArray) : vConv .string .string (.sc (.string s)) K = K (.sc (.string s)) := rfl
@[congr] theorem vConv_congr {d d' e e' : AD} {x x' : V} {K : V → Prop} (hd : d = d') (he : e = e') (hx : x = x') : vConv d e x K = vConv d' e' x' K := by rw [hd, he, hx]
@[go_sem] theorem vLen_sl (e : TypeId) (len : Nat) (xs : List V) : vLen (.slice e) (.sl len xs) K = K (.sc (.int .i64 len)) := rfl
@[go_sem] theorem vLen_ref (e : TypeId) (l off len : Nat) : vLen (.slice e) (.ref l off len) K = K (.sc (.int .i64 len)) := rfl
@[go_sem] theorem vLen_sc (e : TypeId) (a : Option Addr) (n c : Nat) : vLen (.slice e) (.sc (.slice a n c)) K = K (.sc (.int .i64 n)) := rfl
@[go_sem] theorem vLen_string (s : ByteArray) : vLen .string (.sc (.string s)) K = K (.sc (.int .i64 s.size)) := rfl
@[go_sem] theorem vLen_array (n : Nat) (e : TypeId) (x : V) : vLen (.array n e) x K = K (.sc (.int .i64 n)) := rfl
@[congr] theorem vLen_congr {d d' : AD} {x x' : V} {K : V → Prop} (hd : d = d') (hx : x = x') : vLen d x K = vLen d' x' K := by rw [hd, hx]
@[go_sem] theorem vMin2_int (k k' : IntKind) (a b : Int) : vMin2 (.sc (.int k a)) (.sc (.int k' b)) K = K (.sc (.int k (if b < a then b else a))) := rfl
@[go_sem] theorem vMax2_int (k k' : IntKind) (a b : Int) : vMax2 (.sc (.int k a)) (.sc (.int k' b)) K = K (.sc (.int k (if b > a then b else a))) := rfl
@[congr] theorem vMin2_congr {x x' y y' : V} {K : V → Prop} (hx : x = x') (hy : y = y') : vMin2 x y K = vMin2 x' y' K := by rw [hx, hy]
@[congr] theorem vMax2_congr {x x' y y' : V} {K : V → Prop} (hx : x = x') (hy : y = y') : vMax2 x y K = vMax2 x' y' K := by rw [hx, hy]

/-- the operators -/
def vInt (c : Prop) (v : Value) (K : V → Prop) : Prop := grd c (K (.sc v))
variable (dd : AD) (k : IntKind) (a b : Int)
theorem sbin_int (op : BinOp) (h1 : op ≠ .shl) (h2 : op ≠ .shr) (r : Option Value) : True := trivial
@[go_sem] theorem vBin_add : vBin dd .add (.sc (.int k a)) (.sc (.int k b)) K = K (.sc (.int k (k.wrap (a + b)))) := by simp [vBin, sbin]
@[go_sem] theorem vBin_sub : vBin dd .sub (.sc (.int k a)) (.sc (.int k b)) K = K (.sc (.int k (k.wrap (a - b)))) := by simp [vBin, sbin]
@[go_sem] theorem vBin_mul : vBin dd .mul (.sc (.int k a)) (.sc (.int k b)) K = K (.sc (.int k (k.wrap (a * b)))) := by simp [vBin, sbin]
@[go_sem] theorem vBin_quo : vBin dd .quo (.sc (.int k a)) (.sc (.int k b)) K = grd (b ≠ 0) (K (.sc (.int k (k.wrap (a.tdiv b))))) := by
  by_cases h : b = 0 <;> simp [vBin, sbin, h, grd]
@[go_sem] theorem vBin_rem : vBin dd .rem (.sc (.int k a)) (.sc (.int k b)) K = grd (b ≠ 0) (K (.sc (.int k (a.tmod b)))) := by
  by_cases h : b = 0 <;> simp [vBin, sbin, h, grd]
@[go_sem] theorem vBin_and : vBin dd .and (.sc (.int k a)) (.sc (.int k b)) K = K (.sc (.int k (bits .and k a b))) := by simp [vBin, sbin]
@[go_sem] theorem vBin_or : vBin dd .or (.sc (.int k a)) (.sc (.int k b)) K = K (.sc (.int k (bits .or k a b))) := by simp [vBin, sbin]
@[go_sem] theorem vBin_xor : vBin dd .xor (.sc (.int k a)) (.sc (.int k b)) K = K (.sc (.int k (bits .xor k a b))) := by simp [vBin, sbin]
@[go_sem] theorem vBin_shl (k' : IntKind) : vBin dd .shl (.sc (.int k a)) (.sc (.int k' b)) K = grd (0 ≤ b) (K (.sc (.int k (k.wrap (a * 2 ^ (min b.toNat k.bits)))))) := by
  by_cases h : b < 0
  · simp [vBin, sbin, h, grd]; intro h2; omega
  · simp [vBin, sbin, h, grd]; intro _; omega
@[go_sem] theorem vBin_shr (k' : IntKind) : vBin dd .shr (.sc (.int k a)) (.sc (.int k' b)) K = grd (0 ≤ b) (K (.sc (.int k (a.fdiv (2 ^ (min b.toNat k.bits)))))) := by
  by_cases h : b < 0
  · simp [vBin, sbin, h, grd]; intro h2; omega
  · simp [vBin, sbin, h, grd]; intro _; omega
@[go_sem] theorem vBin_eql : vBin dd .eql (.sc (.int k a)) (.sc (.int k b)) K = K (.sc (.bool (a == b))) := by simp [vBin, sbin]
@[go_sem] theorem vBin_neq : vBin dd .neq (.sc (.int k a)) (.sc (.int k b)) K = K (.sc (.bool (a != b))) := by simp [vBin, sbin]
@[go_sem] theorem vBin_lss : vBin dd .lss (.sc (.int k a)) (.sc (.int k b)) K = K (.sc (.bool (decide (a < b)))) := by simp [vBin, sbin]
@[go_sem] theorem vBin_leq : vBin dd .leq (.sc (.int k a)) (.sc (.int k b)) K = K (.sc (.bool (decide (a ≤ b)))) := by simp [vBin, sbin]
@[go_sem] theorem vBin_gtr : vBin dd .gtr (.sc (.int k a)) (.sc (.int k b)) K = K (.sc (.bool (decide (b < a)))) := by simp [vBin, sbin]
@[go_sem] theorem vBin_geq : vBin dd .geq (.sc (.int k a)) (.sc (.int k b)) K = K (.sc (.bool (decide (b ≤ a)))) := by simp [vBin, sbin]
@[go_sem] theorem vBin_eqlb (x y : Bool) : vBin .bool .eql (.sc (.bool x)) (.sc (.bool y)) K = K (.sc (.bool (x == y))) := by simp [vBin, sbin]
@[go_sem] theorem vBin_neqb (x y : Bool) : vBin .bool .neq (.sc (.bool x)) (.sc (.bool y)) K = K (.sc (.bool (!(x == y)))) := by simp [vBin, sbin]
variable (s t : ByteArray)
@[go_sem] theorem vBin_adds : vBin dd .add (.sc (.string s)) (.sc (.string t)) K = grd (s.size + t.size ≤ 9223372036854775807) (K (.sc (.string (s ++ t)))) := by
  by_cases h : s.size + t.size ≤ 9223372036854775807 <;> simp [vBin, sbin, h, grd]
@[go_sem] theorem vBin_eqls : vBin dd .eql (.sc (.string s)) (.sc (.string t)) K = K (.sc (.bool (s.toList == t.toList))) := by simp [vBin, sbin]
@[go_sem] theorem vBin_neqs : vBin dd .neq (.sc (.string s)) (.sc (.string t)) K = K (.sc (.bool (!(s.toList == t.toList)))) := by simp [vBin, sbin]
@[go_sem] theorem vBin_lsss : vBin dd .lss (.sc (.string s)) (.sc (.string t)) K = K (.sc (.bool (Op.bytesLess s.toList t.toList))) := by simp [vBin, sbin]
@[congr] theorem vBin_congr {d d' : AD} {op : BinOp} {x x' y y' : V} {K : V → Prop} (hd : d = d') (hx : x = x') (hy : y = y') : vBin d op x y K = vBin d' op x' y' K := by rw [hd, hx, hy]
end

end
end Go.AG
