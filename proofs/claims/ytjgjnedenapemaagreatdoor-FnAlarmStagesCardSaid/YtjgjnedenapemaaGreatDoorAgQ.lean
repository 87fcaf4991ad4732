/-
  AG, merged parts M N O Q. Conditions: none.
-/
import Derived.Test.YtjgjnedenapemaaGreatDoorAgL
/-
  AG, part M: the rules by which simp runs a verification condition. Conditions: none.
-/
set_option linter.unusedSimpArgs false
set_option linter.unusedVariables false
namespace Go.AG
open Go.RowKit

section
variable {P : Program}

/-- a loop, for whom to give its relation -/
def vcLoop (P : Program) (c : Code) (Q : Exit → AState → Prop) (s : AState) : Prop := vc P (.loop c) Q s

@[go_sem] theorem vc_skip (Q : Exit → AState → Prop) (s : AState) : vc P .skip Q s = Q .normal s := _root_.id rfl
@[go_sem] theorem vc_label (l : Nat) (Q : Exit → AState → Prop) (s : AState) : vc P (.label l) Q s = Q .normal s := _root_.id rfl
@[go_sem] theorem vc_region (id : Nat) (ops : Array Oper) (Q : Exit → AState → Prop) (s : AState) : vc P (.region id ops false) Q s = vcOps P ops.toList ops.toList (Q .normal) s := _root_.id rfl
@[go_sem] theorem vc_regionD (id : Nat) (ops : Array Oper) (Q : Exit → AState → Prop) (s : AState) : vc P (.region id ops true) Q s = vDraw P ops (Q .normal) s := _root_.id rfl
@[go_sem] theorem vc_seq (x y : Code) (Q : Exit → AState → Prop) (s : AState) : vc P (.seq x y) Q s = vc P x (seqK (vc P y Q) Q) s := _root_.id rfl
/-- a test -/
def vIf (P : Program) (v : V) (x y : Code) (Q : Exit → AState → Prop) (s : AState) : Prop := ∃ b, v = .sc (.bool b) ∧ (((b = true → vc P x Q s) ∧ (b = false → vc P y Q s)) ∨
      ∃ (β : Type) (p : β → Prop) (J : β → AState), (b = true → vc P x (jnN p J Q) s) ∧ (b = false → vc P y (jnN p J Q) s) ∧ ∀ x, p x → Q .normal (J x))
@[go_sem] theorem jnN_ret {β : Type} (p : β → Prop) (J : β → AState) (Q : Exit → AState → Prop) : jnN p J Q .ret = Q .ret := _root_.id rfl
@[go_sem] theorem jnN_exit {β : Type} (p : β → Prop) (J : β → AState) (Q : Exit → AState → Prop) (i : Nat) : jnN p J Q (.exit i) = Q (.exit i) := _root_.id rfl
@[go_sem] theorem jnX_ret {β : Type} (i : Nat) (p : β → Prop) (J : β → AState) (Q : Exit → AState → Prop) : jnX i p J Q .ret = Q .ret := _root_.id rfl
@[go_sem] theorem jnX_normal {β : Type} (i : Nat) (p : β → Prop) (J : β → AState) (Q : Exit → AState → Prop) : jnX i p J Q .normal = Q .normal := _root_.id rfl
@[go_sem] theorem jnX_other {β : Type} (i j : Nat) (p : β → Prop) (J : β → AState) (Q : Exit → AState → Prop) (h : j ≠ i) : jnX i p J Q (.exit j) = Q (.exit j) := by
  funext s
  have : Nat.beq j i = false := by
    cases hb : Nat.beq j i with
    | false => rfl
    | true => exact absurd (Nat.eq_of_beq_eq_true hb) h
  simp only [jnX, this, cond_false]
theorem jnX_same {β : Type} {i : Nat} {p : β → Prop} {J : β → AState} {Q : Exit → AState → Prop} {s : AState} (x : β) (hp : p x) (h : leS s (J x)) : jnX i p J Q (.exit i) s := by
  simp only [jnX, show Nat.beq i i = true from by simp, cond_true]
  exact ⟨x, hp, s, .refl s, .inl h⟩
theorem jnX_new {β : Type} {i : Nat} {p : β → Prop} {J : β → AState} {Q : Exit → AState → Prop} {s : AState} (x : β) (hp : p x) (h : leP s (J x)) : jnX i p J Q (.exit i) s := by
  simp only [jnX, show Nat.beq i i = true from by simp, cond_true]
  exact ⟨x, hp, s, .refl s, .inr h⟩
theorem jnX_frz {β : Type} {i : Nat} {p : β → Prop} {J : β → AState} {Q : Exit → AState → Prop} {s s1 : AState} (x : β) (hp : p x) (hf : Frz s s1) (h : leP s1 (J x)) : jnX i p J Q (.exit i) s := by
  simp only [jnX, show Nat.beq i i = true from by simp, cond_true]
  exact ⟨x, hp, s1, hf, .inr h⟩
/-- a branch ends in the common state -/
theorem jn_same {β : Type} {p : β → Prop} {J : β → AState} {Q : Exit → AState → Prop} {s : AState} (x : β) (hp : p x) (h : leS s (J x)) : jnN p J Q .normal s := ⟨x, hp, s, .refl s, .inl h⟩
theorem jn_new {β : Type} {p : β → Prop} {J : β → AState} {Q : Exit → AState → Prop} {s : AState} (x : β) (hp : p x) (h : leP s (J x)) : jnN p J Q .normal s := ⟨x, hp, s, .refl s, .inr h⟩
theorem jn_frz {β : Type} {p : β → Prop} {J : β → AState} {Q : Exit → AState → Prop} {s s1 : AState} (x : β) (hp : p x) (hf : Frz s s1) (h : leP s1 (J x)) : jnN p J Q .normal s := ⟨x, hp, s1, hf, .inr h⟩
@[go_sem] theorem vc_cond (c : Operand) (x y : Code) (Q : Exit → AState → Prop) (s : AState) : vc P (.cond c x y) Q s = vIf P (s.ev c) x y Q s := _root_.id rfl
@[go_sem] theorem vc_block (id : Nat) (c : Code) (Q : Exit → AState → Prop) (s : AState) : vc P (.block id c) Q s = vc P c (blkK id Q) s := _root_.id rfl
@[go_sem] theorem vc_loop (c : Code) (Q : Exit → AState → Prop) (s : AState) : vc P (.loop c) Q s = vcLoop P c Q s := _root_.id rfl
@[go_sem] theorem vc_exit (id : Nat) (Q : Exit → AState → Prop) (s : AState) : vc P (.exit id) Q s = Q (.exit id) s := _root_.id rfl
@[go_sem] theorem vc_ret (Q : Exit → AState → Prop) (s : AState) : vc P .ret Q s = Q .ret s := _root_.id rfl

@[congr] theorem vc_congr {c : Code} {Q : Exit → AState → Prop} {s s' : AState} (h : s = s') : vc P c Q s = vc P c Q s' := by rw [h]
@[congr] theorem vcLoop_congr {c : Code} {Q : Exit → AState → Prop} {s s' : AState} (h : s = s') : vcLoop P c Q s = vcLoop P c Q s' := by rw [h]
@[congr] theorem vDraw_congr {ops : Array Oper} {K : AState → Prop} {s s' : AState} (h : s = s') : vDraw P ops K s = vDraw P ops K s' := by rw [h]

@[go_sem] theorem seqK_normal (y : AState → Prop) (Q : Exit → AState → Prop) : seqK y Q .normal = y := _root_.id rfl
@[go_sem] theorem seqK_ret (y : AState → Prop) (Q : Exit → AState → Prop) : seqK y Q .ret = Q .ret := _root_.id rfl
@[go_sem] theorem seqK_exit (y : AState → Prop) (Q : Exit → AState → Prop) (i : Nat) : seqK y Q (.exit i) = Q (.exit i) := _root_.id rfl
@[go_sem] theorem blkK_normal (id : Nat) (Q : Exit → AState → Prop) : blkK id Q .normal = Q .normal := _root_.id rfl
@[go_sem] theorem blkK_ret (id : Nat) (Q : Exit → AState → Prop) : blkK id Q .ret = Q .ret := _root_.id rfl
@[go_sem] theorem blkK_exit_same (id : Nat) (Q : Exit → AState → Prop) : blkK id Q (.exit id) = Q .normal := by
  funext s
  simp [blkK]
@[go_sem] theorem blkK_exit (id i : Nat) (Q : Exit → AState → Prop) (h : i ≠ id) : blkK id Q (.exit i) = Q (.exit i) := by
  funext s
  have : Nat.beq i id = false := by
    cases hb : Nat.beq i id with
    | false => rfl
    | true => exact absurd (Nat.eq_of_beq_eq_true hb) h
  simp only [blkK, this, cond_false]
@[go_sem] theorem loopK_ret {α : Type} (p : α → Prop) (I : α → AState) (μ : α → Nat) (x : α) (Q : Exit → AState → Prop) : loopK p I μ x Q .ret = Q .ret := _root_.id rfl
@[go_sem] theorem loopK_exit {α : Type} (p : α → Prop) (I : α → AState) (μ : α → Nat) (x : α) (Q : Exit → AState → Prop) (i : Nat) : loopK p I μ x Q (.exit i) = Q (.exit i) := _root_.id rfl

/-- the end of a round -/
theorem again_new {α : Type} {p : α → Prop} {I : α → AState} {μ : α → Nat} {x : α} {Q : Exit → AState → Prop} {s : AState} (x' : α) (hp : p x') (h : μ x' < μ x) (hl : leP s (I x')) : loopK p I μ x Q .normal s := ⟨x', hp, h, s, .refl s, .inr hl⟩
theorem again {α : Type} {p : α → Prop} {I : α → AState} {μ : α → Nat} {x : α} {Q : Exit → AState → Prop} {s : AState} (x' : α) (hp : p x') (h : μ x' < μ x) (hl : leS s (I x')) : loopK p I μ x Q .normal s := ⟨x', hp, h, s, .refl s, .inl hl⟩
theorem again_frz {α : Type} {p : α → Prop} {I : α → AState} {μ : α → Nat} {x : α} {Q : Exit → AState → Prop} {s s1 : AState} (x' : α) (hp : p x') (h : μ x' < μ x) (hf : Frz s s1) (hl : leS s1 (I x')) : loopK p I μ x Q .normal s := ⟨x', hp, h, s1, hf, .inl hl⟩
/-- a loop: what holds of the ghost, its relation, its measure, where it begins -/
theorem vcLoop_inv {c : Code} {Q : Exit → AState → Prop} {s : AState} {α : Type} (p : α → Prop) (I : α → AState) (μ : α → Nat) (x0 : α) (hp : p x0) (h0 : leS s (I x0)) (h : ∀ x, p x → vc P c (loopK p I μ x Q) (I x)) : vcLoop P c Q s := ⟨Q, .inl rfl, α, p, I, μ, x0, hp, ⟨s, .refl s, .inl h0⟩, h⟩
theorem vcLoop_inv_frz {c : Code} {Q : Exit → AState → Prop} {s s1 : AState} {α : Type} (p : α → Prop) (I : α → AState) (μ : α → Nat) (x0 : α) (hf : Frz s s1) (hp : p x0) (h0 : leS s1 (I x0)) (h : ∀ x, p x → vc P c (loopK p I μ x Q) (I x)) : vcLoop P c Q s := ⟨Q, .inl rfl, α, p, I, μ, x0, hp, ⟨s1, hf, .inl h0⟩, h⟩
/-- a loop whose ways out by one exit go on from one state (out of a family J) -/
theorem vcLoop_join {c : Code} {Q : Exit → AState → Prop} {s : AState} (i : Nat) {β : Type} (q : β → Prop) (J : β → AState) {α : Type} (p : α → Prop) (I : α → AState) (μ : α → Nat) (x0 : α) (hp : p x0) (h0 : leF s (I x0))
    (h : ∀ x, p x → vc P c (loopK p I μ x (jnX i q J Q)) (I x)) (hJ : ∀ x, q x → Q (.exit i) (J x)) : vcLoop P c Q s := ⟨_, .inr ⟨i, β, q, J, rfl, hJ⟩, α, p, I, μ, x0, hp, h0, h⟩
theorem leF_s {s t : AState} (h : leS s t) : leF s t := ⟨s, .refl s, .inl h⟩
theorem leF_p {s t : AState} (h : leP s t) : leF s t := ⟨s, .refl s, .inr h⟩
theorem leF_f {s s1 t : AState} (hf : Frz s s1) (h : leP s1 t) : leF s t := ⟨s1, hf, .inr h⟩

/-! ### operations -/

@[go_sem] theorem vcOps_nil (all : List Oper) (K : AState → Prop) (s : AState) : vcOps P all [] K s = K s := _root_.id rfl
@[go_sem] theorem vcOps_plain (all os : List Oper) (d : Option Nat) (op : Op) (t : TypeId) (p : String) (af : Array Edge) (K : AState → Prop) (s : AState) :
    vcOps P all (⟨d, op, t, p, af, none⟩ :: os) K s = vcOp P ⟨d, op, t, p, af, none⟩ (vcOps P all os K) s := _root_.id rfl
/-- an operation under a guard -/
def vGuard (P : Program) (v : V) (want : Bool) (o : Oper) (all os : List Oper) (K : AState → Prop) (s : AState) : Prop :=
  ∃ b, v = gval b ∧ (b = some want → vcOp P o (vcOps P all os K) s) ∧ (b ≠ some want → fin o.dst (vcOps P all os K) s (.sc undef))
def vqGuard (P : Program) (v : V) (want : Bool) (o : Oper) (all os : List Oper) (K : AState → Prop) (s : AState) : Prop :=
  ∃ b, v = gval b ∧ (b = some want → vqOp P o (vqOps P all os K) s) ∧ (b ≠ some want → fin o.dst (vqOps P all os K) s (.sc undef))
@[go_sem] theorem vcOps_guard (all os : List Oper) (d : Option Nat) (op : Op) (t : TypeId) (p : String) (af : Array Edge) (j : Nat) (want : Bool) (K : AState → Prop) (s : AState) :
    vcOps P all (⟨d, op, t, p, af, some (j, want)⟩ :: os) K s = vGuard P (gv all s j) want ⟨d, op, t, p, af, some (j, want)⟩ all os K s := _root_.id rfl
@[go_sem] theorem vqOps_nil (all : List Oper) (K : AState → Prop) (s : AState) : vqOps P all [] K s = K s := _root_.id rfl
@[go_sem] theorem vqOps_plain (all os : List Oper) (d : Option Nat) (op : Op) (t : TypeId) (p : String) (af : Array Edge) (K : AState → Prop) (s : AState) :
    vqOps P all (⟨d, op, t, p, af, none⟩ :: os) K s = vqOp P ⟨d, op, t, p, af, none⟩ (vqOps P all os K) s := _root_.id rfl
@[go_sem] theorem vqOps_guard (all os : List Oper) (d : Option Nat) (op : Op) (t : TypeId) (p : String) (af : Array Edge) (j : Nat) (want : Bool) (K : AState → Prop) (s : AState) :
    vqOps P all (⟨d, op, t, p, af, some (j, want)⟩ :: os) K s = vqGuard P (gv all s j) want ⟨d, op, t, p, af, some (j, want)⟩ all os K s := _root_.id rfl
@[congr] theorem vcOps_congr {all os : List Oper} {K : AState → Prop} {s s' : AState} (h : s = s') : vcOps P all os K s = vcOps P all os K s' := by rw [h]
@[congr] theorem vqOps_congr {all os : List Oper} {K : AState → Prop} {s s' : AState} (h : s = s') : vqOps P all os K s = vqOps P all os K s' := by rw [h]
@[congr] theorem vcOp_congr {o : Oper} {K : AState → Prop} {s s' : AState} (h : s = s') : vcOp P o K s = vcOp P o K s' := by rw [h]
@[congr] theorem vqOp_congr {o : Oper} {K : AState → Prop} {s s' : AState} (h : s = s') : vqOp P o K s = vqOp P o K s' := by rw [h]

/-- a guard's temporary, by its number -/
@[go_sem] theorem gv_zero (d : Nat) (op : Op) (t : TypeId) (p : String) (af : Array Edge) (g : Option (Nat × Bool)) (os : List Oper) (s : AState) : gv (⟨some d, op, t, p, af, g⟩ :: os) s 0 = s.get d := _root_.id rfl
@[go_sem] theorem gv_succ (o : Oper) (os : List Oper) (s : AState) (j : Nat) : gv (o :: os) s (j + 1) = gv os s j := _root_.id rfl
@[congr] theorem gv_congr {all : List Oper} {s s' : AState} {j : Nat} (h : s = s') : gv all s j = gv all s' j := by rw [h]

section
variable (d : Option Nat) (ty : TypeId) (p : String) (af : Array Edge) (g : Option (Nat × Bool)) (K : AState → Prop) (s : AState)
@[go_sem] theorem vcOp_move (x : Operand) : vcOp P ⟨d, .move x, ty, p, af, g⟩ K s = fin d K s (s.ev x) := _root_.id rfl
@[go_sem] theorem vcOp_assign (x : Operand) : vcOp P ⟨d, .assign x, ty, p, af, g⟩ K s = fin d K s (s.ev x) := _root_.id rfl
@[go_sem] theorem vcOp_pick (c x y : Operand) : vcOp P ⟨d, .pick c x y, ty, p, af, g⟩ K s = vPick (s.ev c) (s.ev x) (s.ev y) (fin d K s) := _root_.id rfl
@[go_sem] theorem vcOp_load (t : TypeId) (x : Operand) : vcOp P ⟨d, .load t x, ty, p, af, g⟩ K s = vLoad (ti P t) (s.ev x) s.ob (fin d K s) := _root_.id rfl
@[go_sem] theorem vcOp_nilCheck (x : Operand) : vcOp P ⟨d, .nilCheck x, ty, p, af, g⟩ K s = vNil (s.ev x) (fin d K s) := _root_.id rfl
@[go_sem] theorem vcOp_binOp (op : BinOp) (t u : TypeId) (x y : Operand) : vcOp P ⟨d, .binOp op t x y u, ty, p, af, g⟩ K s = vBin2 P t op (s.ev x) (s.ev y) (fin d K s) := _root_.id rfl
@[go_sem] theorem vcOp_unOp (op : UnOp) (t : TypeId) (x : Operand) : vcOp P ⟨d, .unOp op t x, ty, p, af, g⟩ K s = vUn op (s.ev x) (fin d K s) := _root_.id rfl
@[go_sem] theorem vcOp_convert (t u : TypeId) (x : Operand) : vcOp P ⟨d, .convert t u x, ty, p, af, g⟩ K s = vConv P s.ob (ti P t).desc (ti P u).desc (s.ev x) (fin d K s) := _root_.id rfl
@[go_sem] theorem vcOp_fieldAddr (t : TypeId) (x : Operand) (f : Nat) : vcOp P ⟨d, .fieldAddr t x f, ty, p, af, g⟩ K s = vFieldAddr P (ti P t).desc (s.ev x) f (fin d K s) := _root_.id rfl
@[go_sem] theorem vcOp_field (t : TypeId) (x : Operand) (f : Nat) : vcOp P ⟨d, .field t x f, ty, p, af, g⟩ K s = vField P (ti P t).desc (s.ev x) f (fin d K s) := _root_.id rfl
@[go_sem] theorem vcOp_indexAddr (t : TypeId) (x i : Operand) : vcOp P ⟨d, .indexAddr t x i, ty, p, af, g⟩ K s = vIdxAddr P (ti P t).desc (s.ev x) (s.ev i) (fin d K s) := _root_.id rfl
@[go_sem] theorem vcOp_index (t : TypeId) (x i : Operand) : vcOp P ⟨d, .index t x i, ty, p, af, g⟩ K s = vIdx P (ti P t).desc (s.ev x) (s.ev i) (fin d K s) := _root_.id rfl
@[go_sem] theorem vcOp_slice (t : TypeId) (x : Operand) (lo hi : Option Operand) : vcOp P ⟨d, .slice t x lo hi none, ty, p, af, g⟩ K s = vSlice P s.ob (ti P t).desc (s.ev x) (lo.map s.ev) (hi.map s.ev) (fin d K s) := _root_.id rfl
@[go_sem] theorem vcOp_extract (x : Operand) (i : Nat) : vcOp P ⟨d, .extract x i, ty, p, af, g⟩ K s = vExtract (s.ev x) i (fin d K s) := _root_.id rfl
@[go_sem] theorem vcOp_makeFunc (f : FuncId) (caps : Array Operand) : vcOp P ⟨d, .makeFunc (.func f) #[] caps, ty, p, af, g⟩ K s = fin d K s (.fn f (caps.toList.map s.ev)) := by simp [vcOp, isMem, qop, grd]
@[go_sem] theorem vcOp_len (x : Operand) (t : TypeId) : vcOp P ⟨d, .call ⟨.builtin .len, #[x], #[t]⟩, ty, p, af, g⟩ K s = vLenO s.ob (ti P t).desc (s.ev x) (fin d K s) := _root_.id rfl
@[go_sem] theorem vcOp_makeInterface (t : TypeId) (x : Operand) : vcOp P ⟨d, .makeInterface t x, ty, p, af, g⟩ K s = vIfc (ti P t).desc t (s.ev x) (fin d K s) := _root_.id rfl
@[go_sem] theorem vcOp_lookup (t : TypeId) (x i : Operand) (c : Bool) : vcOp P ⟨d, .lookup t x i c, ty, p, af, g⟩ K s = vLook P (ti P t).desc (s.ev x) (s.ev i) c s.ob (fin d K s) := _root_.id rfl
@[go_sem] theorem vcOp_makeMap (t : TypeId) (r : Option Operand) : vcOp P ⟨d, .makeMap t r, ty, p, af, g⟩ K s = vMkMap (ti P t).desc (r.map s.ev) (grd (s.k ≤ s.ob.length) (fin d K (s.add ⟨4294967291, mpI []⟩) (.mp s.ob.length))) := _root_.id rfl
@[go_sem] theorem vcOp_mapUpdate (t : TypeId) (m k v : Operand) : vcOp P ⟨none, .mapUpdate t m k v, ty, p, af, g⟩ K s = vMapPut P s (ti P t).desc (s.ev m) (s.ev k) (s.ev v) K := by simp [vcOp, isMem, mop, grd]
@[go_sem] theorem vcOp_insert (t : TypeId) (m k v : Operand) : vcOp P ⟨none, .insert t m k v, ty, p, af, g⟩ K s = vMapPut P s (ti P t).desc (s.ev m) (s.ev k) (s.ev v) K := by simp [vcOp, isMem, mop, grd]
@[go_sem] theorem vcOp_delete (m k : Operand) (t u : TypeId) : vcOp P ⟨d, .call ⟨.builtin .delete, #[m, k], #[t, u]⟩, ty, p, af, g⟩ K s = vMapDel P s (ti P t).desc (s.ev m) (s.ev k) (fun s' => fin d K s' (.tup [])) := _root_.id rfl
@[go_sem] theorem vcOp_min (x y : Operand) (ts : Array TypeId) : vcOp P ⟨d, .call ⟨.builtin .min, #[x, y], ts⟩, ty, p, af, g⟩ K s = vMin2 (s.ev x) (s.ev y) (fin d K s) := _root_.id rfl
@[go_sem] theorem vcOp_max (x y : Operand) (ts : Array TypeId) : vcOp P ⟨d, .call ⟨.builtin .max, #[x, y], ts⟩, ty, p, af, g⟩ K s = vMax2 (s.ev x) (s.ev y) (fin d K s) := _root_.id rfl
@[go_sem] theorem vcOp_alloc (t : TypeId) : vcOp P ⟨d, .alloc t, ty, p, af, g⟩ K s = grd ((ti P t).ok = true ∧ (ti P t).zero ≠ [] ∧ (ti P t).zero.all Value.oneCell' = true ∧ s.k ≤ s.ob.length)
      (fin d K (s.add ⟨(ti P t).size, zerosOf (ti P t)⟩) (.ptr s.ob.length 0)) := _root_.id rfl
@[go_sem] theorem vcOp_box (t : TypeId) (x : Operand) : vcOp P ⟨d, .box t x, ty, p, af, g⟩ K s = grd (V.oneL (vcells (s.ev x)) = true ∧ s.k ≤ s.ob.length ∧ (vcells (s.ev x)).length ≠ 4294967291)
      (fin d K (s.add ⟨(vcells (s.ev x)).length, vcells (s.ev x)⟩) (.ptr s.ob.length 0)) := _root_.id rfl

@[go_sem] theorem vcOp_buildSlice (t : TypeId) (len : Nat) (parts : Array (Nat × Operand)) : vcOp P ⟨d, .buildSlice t len parts, ty, p, af, g⟩ K s = vMkD P (ti P t).desc s len (parts.toList.map fun q => (q.1, s.ev q.2)) d K := _root_.id rfl
@[go_sem] theorem vcOp_makeSlice (t : TypeId) (l c : Operand) : vcOp P ⟨d, .makeSlice t l c, ty, p, af, g⟩ K s = vMakeD P (ti P t).desc s (s.ev l) (s.ev c) d K := _root_.id rfl
@[go_sem] theorem vcOp_build (t : TypeId) (parts : Array (Nat × Operand)) : vcOp P ⟨d, .build t parts, ty, p, af, g⟩ K s = vBuildD P (ti P t) s (parts.toList.map fun q => (q.1, s.ev q.2)) d K := _root_.id rfl
@[go_sem] theorem vcOp_store (t : TypeId) (q x : Operand) : vcOp P ⟨none, .store t q x, ty, p, af, g⟩ K s = vStore s (ti P t) (s.ev q) (s.ev x) K := by simp [vcOp, isMem, mop, grd]
@[go_sem] theorem vcOp_append (t : TypeId) (x y : Operand) : vcOp P ⟨d, .call ⟨.builtin .append, #[x, y], #[t, t]⟩, ty, p, af, g⟩ K s = vAppD P (ti P t).desc s (s.ev x) (s.ev y) d K := by
  simp [vcOp, isMem, mop, grd]
@[go_sem] theorem vcOp_appendS (t u : TypeId) (x y : Operand) (h : t ≠ u) : vcOp P ⟨d, .call ⟨.builtin .append, #[x, y], #[t, u]⟩, ty, p, af, g⟩ K s = vAppS P (ti P t).desc (ti P u).desc s (s.ev x) (s.ev y) d K := by
  simp [vcOp, isMem, mop, h]
@[go_sem] theorem vcOp_call (f : Operand) (args : Array Operand) (ts : Array TypeId) : vcOp P ⟨d, .call ⟨.value f, args, ts⟩, ty, p, af, g⟩ K s = vCallX P s f args.toList d K := _root_.id rfl

@[go_sem] theorem vqOp_move (x : Operand) : vqOp P ⟨d, .move x, ty, p, af, g⟩ K s = fin d K s (s.ev x) := _root_.id rfl
@[go_sem] theorem vqOp_assign (x : Operand) : vqOp P ⟨d, .assign x, ty, p, af, g⟩ K s = fin d K s (s.ev x) := _root_.id rfl
@[go_sem] theorem vqOp_pick (c x y : Operand) : vqOp P ⟨d, .pick c x y, ty, p, af, g⟩ K s = vPick (s.ev c) (s.ev x) (s.ev y) (fin d K s) := _root_.id rfl
@[go_sem] theorem vqOp_load (t : TypeId) (x : Operand) : vqOp P ⟨d, .load t x, ty, p, af, g⟩ K s = vLoad (ti P t) (s.ev x) s.ob (fin d K s) := _root_.id rfl
@[go_sem] theorem vqOp_nilCheck (x : Operand) : vqOp P ⟨d, .nilCheck x, ty, p, af, g⟩ K s = vNil (s.ev x) (fin d K s) := _root_.id rfl
@[go_sem] theorem vqOp_binOp (op : BinOp) (t u : TypeId) (x y : Operand) : vqOp P ⟨d, .binOp op t x y u, ty, p, af, g⟩ K s = vBin2 P t op (s.ev x) (s.ev y) (fin d K s) := _root_.id rfl
@[go_sem] theorem vqOp_unOp (op : UnOp) (t : TypeId) (x : Operand) : vqOp P ⟨d, .unOp op t x, ty, p, af, g⟩ K s = vUn op (s.ev x) (fin d K s) := _root_.id rfl
@[go_sem] theorem vqOp_convert (t u : TypeId) (x : Operand) : vqOp P ⟨d, .convert t u x, ty, p, af, g⟩ K s = vConv P s.ob (ti P t).desc (ti P u).desc (s.ev x) (fin d K s) := _root_.id rfl
@[go_sem] theorem vqOp_fieldAddr (t : TypeId) (x : Operand) (f : Nat) : vqOp P ⟨d, .fieldAddr t x f, ty, p, af, g⟩ K s = vFieldAddr P (ti P t).desc (s.ev x) f (fin d K s) := _root_.id rfl
@[go_sem] theorem vqOp_field (t : TypeId) (x : Operand) (f : Nat) : vqOp P ⟨d, .field t x f, ty, p, af, g⟩ K s = vField P (ti P t).desc (s.ev x) f (fin d K s) := _root_.id rfl
@[go_sem] theorem vqOp_indexAddr (t : TypeId) (x i : Operand) : vqOp P ⟨d, .indexAddr t x i, ty, p, af, g⟩ K s = vIdxAddr P (ti P t).desc (s.ev x) (s.ev i) (fin d K s) := _root_.id rfl
@[go_sem] theorem vqOp_index (t : TypeId) (x i : Operand) : vqOp P ⟨d, .index t x i, ty, p, af, g⟩ K s = vIdx P (ti P t).desc (s.ev x) (s.ev i) (fin d K s) := _root_.id rfl
@[go_sem] theorem vqOp_slice (t : TypeId) (x : Operand) (lo hi : Option Operand) : vqOp P ⟨d, .slice t x lo hi none, ty, p, af, g⟩ K s = vSlice P s.ob (ti P t).desc (s.ev x) (lo.map s.ev) (hi.map s.ev) (fin d K s) := _root_.id rfl
@[go_sem] theorem vqOp_extract (x : Operand) (i : Nat) : vqOp P ⟨d, .extract x i, ty, p, af, g⟩ K s = vExtract (s.ev x) i (fin d K s) := _root_.id rfl
@[go_sem] theorem vqOp_len (x : Operand) (t : TypeId) : vqOp P ⟨d, .call ⟨.builtin .len, #[x], #[t]⟩, ty, p, af, g⟩ K s = vLenO s.ob (ti P t).desc (s.ev x) (fin d K s) := _root_.id rfl
@[go_sem] theorem vqOp_makeInterface (t : TypeId) (x : Operand) : vqOp P ⟨d, .makeInterface t x, ty, p, af, g⟩ K s = vIfc (ti P t).desc t (s.ev x) (fin d K s) := _root_.id rfl
@[go_sem] theorem vqOp_lookup (t : TypeId) (x i : Operand) (c : Bool) : vqOp P ⟨d, .lookup t x i c, ty, p, af, g⟩ K s = vLook P (ti P t).desc (s.ev x) (s.ev i) c s.ob (fin d K s) := _root_.id rfl
@[go_sem] theorem vqOp_min (x y : Operand) (ts : Array TypeId) : vqOp P ⟨d, .call ⟨.builtin .min, #[x, y], ts⟩, ty, p, af, g⟩ K s = vMin2 (s.ev x) (s.ev y) (fin d K s) := _root_.id rfl
@[go_sem] theorem vqOp_max (x y : Operand) (ts : Array TypeId) : vqOp P ⟨d, .call ⟨.builtin .max, #[x, y], ts⟩, ty, p, af, g⟩ K s = vMax2 (s.ev x) (s.ev y) (fin d K s) := _root_.id rfl
@[go_sem] theorem vqOp_call (f : Operand) (args : Array Operand) (ts : Array TypeId) : vqOp P ⟨d, .call ⟨.value f, args, ts⟩, ty, p, af, g⟩ K s = vqCall P s (s.ev f) (args.toList.map s.ev) d K := _root_.id rfl
end

/-! ### states -/

section
variable (n k : Nat) (sl : List (Nat × V)) (ob : Objs)
@[go_sem] theorem ev_tmp (t : Nat) : (⟨n, k, sl, ob⟩ : AState).ev (.tmp t) = lk t sl := _root_.id rfl
@[go_sem] theorem ev_const (v : Value) (s : AState) : s.ev (.const v) = .sc v := _root_.id rfl
@[go_sem] theorem ev_func (f : FuncId) (s : AState) : s.ev (.func f) = .fn f [] := _root_.id rfl
@[go_sem] theorem get_mk (t : Nat) : (⟨n, k, sl, ob⟩ : AState).get t = lk t sl := _root_.id rfl
@[go_sem] theorem lk_nil (t : Nat) : lk t [] = .junk := _root_.id rfl
@[go_sem] theorem lk_cons (t u : Nat) (x : V) : lk t ((u, x) :: sl) = if u = t then x else lk t sl := by
  by_cases h : u = t
  · subst h; simp [lk]
  · have : Nat.beq u t = false := by
      cases hb : Nat.beq u t with
      | false => rfl
      | true => exact absurd (Nat.eq_of_beq_eq_true hb) h
    simp [lk, this, h]
@[go_sem] theorem fin_none (K : AState → Prop) (s : AState) (x : V) : fin none K s x = K s := by simp [fin, okD, grd, AState.put]
@[go_sem] theorem fin_some (t : Nat) (K : AState → Prop) (x : V) : fin (some t) K ⟨n, k, sl, ob⟩ x = grd (t < n) (K ⟨n, k, (t, x) :: sl, ob⟩) := _root_.id rfl
@[go_sem] theorem add_mk (o : Ob) : (⟨n, k, sl, ob⟩ : AState).add o = ⟨n, k, sl, ob ++ [some o]⟩ := _root_.id rfl
@[go_sem] theorem grown_mk (l esz : Nat) (cells : List V) : (⟨n, k, sl, ob⟩ : AState).grown l esz cells = ⟨n, k, trS (V.kill (killB l)) sl, (trO (V.kill (killB l)) ob).set l (some ⟨esz, V.killL (killB l) cells⟩)⟩ := _root_.id rfl
@[go_sem] theorem trS_nil (τ : V → V) : trS τ [] = [] := _root_.id rfl
@[go_sem] theorem trS_cons (τ : V → V) (t : Nat) (x : V) : trS τ ((t, x) :: sl) = (t, τ x) :: trS τ sl := _root_.id rfl
@[go_sem] theorem trO_nil (τ : V → V) : trO τ [] = [] := _root_.id rfl
@[go_sem] theorem trO_none (τ : V → V) : trO τ (none :: ob) = none :: trO τ ob := _root_.id rfl
@[go_sem] theorem trO_kill (p : Nat → Bool) (o : Ob) : trO (V.kill p) (some o :: ob) = some ⟨o.esz, V.killL p o.cells⟩ :: trO (V.kill p) ob := by simp [trO, killL_eq]
@[go_sem] theorem trO_frz (f : Nat → Option Ob) (o : Ob) : trO (V.frz f) (some o :: ob) = some ⟨o.esz, V.frzL f o.cells⟩ :: trO (V.frz f) ob := by simp [trO, frzL_eq]
@[congr] theorem fin_congr {d : Option Nat} {K : AState → Prop} {s s' : AState} {x x' : V} (h : s = s') (hx : x = x') : fin d K s x = fin d K s' x' := by rw [h, hx]
end

@[go_sem high] theorem grd_true (p : Prop) : grd True p = p := by simp [grd]
@[go_sem low] theorem grd_ok {c : Prop} (p : Prop) (h : c) : grd c p = p := by simp [grd, h]
@[congr] theorem grd_congr {c c' p : Prop} (h : c = c') : grd c p = grd c' p := by rw [h]

section
variable {x y : Code} {Q : Exit → AState → Prop} {s : AState}
theorem vIf_t (h : vc P x Q s) : vIf P (.sc (.bool true)) x y Q s := ⟨true, rfl, .inl ⟨fun _ => h, (fun h => by cases h)⟩⟩
theorem vIf_f (h : vc P y Q s) : vIf P (.sc (.bool false)) x y Q s := ⟨false, rfl, .inl ⟨(fun h => by cases h), fun _ => h⟩⟩
/-- both branches, then the rest from a common state -/
theorem vIf_join {b : Bool} {β : Type} (p : β → Prop) (J : β → AState) (h1 : b = true → vc P x (jnN p J Q) s) (h2 : b = false → vc P y (jnN p J Q) s) (h3 : ∀ x, p x → Q .normal (J x)) : vIf P (.sc (.bool b)) x y Q s := ⟨b, rfl, .inr ⟨β, p, J, h1, h2, h3⟩⟩
theorem vIf_join1 {b : Bool} (J : AState) (h1 : b = true → vc P x (jnN (fun _ : Unit => True) (fun _ => J) Q) s) (h2 : b = false → vc P y (jnN (fun _ : Unit => True) (fun _ => J) Q) s) (h3 : Q .normal J) : vIf P (.sc (.bool b)) x y Q s := ⟨b, rfl, .inr ⟨Unit, _, _, h1, h2, fun _ _ => h3⟩⟩
theorem vIf_bool {b : Bool} (h1 : b = true → vc P x Q s) (h2 : b = false → vc P y Q s) : vIf P (.sc (.bool b)) x y Q s := ⟨b, rfl, .inl ⟨h1, h2⟩⟩
theorem vIf_dec {p : Prop} [Decidable p] (h1 : p → vc P x Q s) (h2 : ¬ p → vc P y Q s) : vIf P (.sc (.bool (decide p))) x y Q s := ⟨decide p, rfl, .inl ⟨fun h => h1 (of_decide_eq_true h), fun h => h2 (of_decide_eq_false h)⟩⟩
theorem vIf_ndec {p : Prop} [Decidable p] (h1 : ¬ p → vc P x Q s) (h2 : p → vc P y Q s) : vIf P (.sc (.bool (!decide p))) x y Q s := ⟨!decide p, rfl, .inl ⟨fun h => h1 (by simpa using h), fun h => h2 (by simpa using h)⟩⟩
theorem vIf_beq {a b : Int} (h1 : a = b → vc P x Q s) (h2 : a ≠ b → vc P y Q s) : vIf P (.sc (.bool (a == b))) x y Q s := ⟨a == b, rfl, .inl ⟨fun h => h1 (by simpa using h), fun h => h2 (by simpa using h)⟩⟩
theorem vIf_bne {a b : Int} (h1 : a ≠ b → vc P x Q s) (h2 : a = b → vc P y Q s) : vIf P (.sc (.bool (a != b))) x y Q s := ⟨a != b, rfl, .inl ⟨fun h => h1 (by simpa using h), fun h => h2 (by simpa using h)⟩⟩
theorem vIf_not {b : Bool} (h1 : b = false → vc P x Q s) (h2 : b = true → vc P y Q s) : vIf P (.sc (.bool (!b))) x y Q s := ⟨!b, rfl, .inl ⟨fun h => h1 (by simpa using h), fun h => h2 (by simpa using h)⟩⟩
end

section
variable {o : Oper} {all os : List Oper} {K : AState → Prop} {s : AState}
theorem gval_b {b : Bool} {r : Option Bool} (h : V.sc (.bool b) = gval r) : r = some b := by
  cases r with
  | none => cases h
  | some c => cases h; rfl
theorem gval_u {r : Option Bool} (h : V.sc undef = gval r) : r = none := by
  cases r with
  | none => rfl
  | some c => cases h
@[go_sem] theorem vGuard_tt : vGuard P (.sc (.bool true)) true o all os K s = vcOp P o (vcOps P all os K) s := by
  apply propext
  constructor
  · rintro ⟨r, hb, h1, _⟩; exact h1 (gval_b hb)
  · intro h; exact ⟨some true, rfl, fun _ => h, fun h => absurd rfl h⟩
@[go_sem] theorem vGuard_tf : vGuard P (.sc (.bool true)) false o all os K s = fin o.dst (vcOps P all os K) s (.sc undef) := by
  apply propext
  constructor
  · rintro ⟨r, hb, _, h1⟩; exact h1 (by rw [gval_b hb]; simp)
  · intro h; exact ⟨some true, rfl, (fun h => by cases h), fun _ => h⟩
@[go_sem] theorem vGuard_ft : vGuard P (.sc (.bool false)) true o all os K s = fin o.dst (vcOps P all os K) s (.sc undef) := by
  apply propext
  constructor
  · rintro ⟨r, hb, _, h1⟩; exact h1 (by rw [gval_b hb]; simp)
  · intro h; exact ⟨some false, rfl, (fun h => by cases h), fun _ => h⟩
@[go_sem] theorem vGuard_ff : vGuard P (.sc (.bool false)) false o all os K s = vcOp P o (vcOps P all os K) s := by
  apply propext
  constructor
  · rintro ⟨r, hb, h1, _⟩; exact h1 (gval_b hb)
  · intro h; exact ⟨some false, rfl, fun _ => h, fun h => absurd rfl h⟩
@[go_sem] theorem vGuard_un (want : Bool) : vGuard P (.sc undef) want o all os K s = fin o.dst (vcOps P all os K) s (.sc undef) := by
  apply propext
  constructor
  · rintro ⟨r, hb, _, h1⟩; exact h1 (by rw [gval_u hb]; simp)
  · intro h; exact ⟨none, rfl, (fun h => by cases h), fun _ => h⟩
theorem vGuard_any {b want : Bool} (h1 : b = want → vcOp P o (vcOps P all os K) s) (h2 : b ≠ want → fin o.dst (vcOps P all os K) s (.sc undef)) : vGuard P (.sc (.bool b)) want o all os K s := ⟨some b, rfl, fun h => h1 (by simpa using h), fun h => h2 (by simpa using h)⟩
@[go_sem] theorem vqGuard_tt : vqGuard P (.sc (.bool true)) true o all os K s = vqOp P o (vqOps P all os K) s := by
  apply propext
  constructor
  · rintro ⟨r, hb, h1, _⟩; exact h1 (gval_b hb)
  · intro h; exact ⟨some true, rfl, fun _ => h, fun h => absurd rfl h⟩
@[go_sem] theorem vqGuard_tf : vqGuard P (.sc (.bool true)) false o all os K s = fin o.dst (vqOps P all os K) s (.sc undef) := by
  apply propext
  constructor
  · rintro ⟨r, hb, _, h1⟩; exact h1 (by rw [gval_b hb]; simp)
  · intro h; exact ⟨some true, rfl, (fun h => by cases h), fun _ => h⟩
@[go_sem] theorem vqGuard_ft : vqGuard P (.sc (.bool false)) true o all os K s = fin o.dst (vqOps P all os K) s (.sc undef) := by
  apply propext
  constructor
  · rintro ⟨r, hb, _, h1⟩; exact h1 (by rw [gval_b hb]; simp)
  · intro h; exact ⟨some false, rfl, (fun h => by cases h), fun _ => h⟩
@[go_sem] theorem vqGuard_ff : vqGuard P (.sc (.bool false)) false o all os K s = vqOp P o (vqOps P all os K) s := by
  apply propext
  constructor
  · rintro ⟨r, hb, h1, _⟩; exact h1 (gval_b hb)
  · intro h; exact ⟨some false, rfl, fun _ => h, fun h => absurd rfl h⟩
@[go_sem] theorem vqGuard_un (want : Bool) : vqGuard P (.sc undef) want o all os K s = fin o.dst (vqOps P all os K) s (.sc undef) := by
  apply propext
  constructor
  · rintro ⟨r, hb, _, h1⟩; exact h1 (by rw [gval_u hb]; simp)
  · intro h; exact ⟨none, rfl, (fun h => by cases h), fun _ => h⟩
theorem vqGuard_any {b want : Bool} (h1 : b = want → vqOp P o (vqOps P all os K) s) (h2 : b ≠ want → fin o.dst (vqOps P all os K) s (.sc undef)) : vqGuard P (.sc (.bool b)) want o all os K s := ⟨some b, rfl, fun h => h1 (by simpa using h), fun h => h2 (by simpa using h)⟩
end

/-! ### values -/

section
variable (K : V → Prop)
@[go_sem] theorem vPick_true (x y : V) : vPick (.sc (.bool true)) x y K = K x := _root_.id rfl
@[go_sem] theorem vPick_false (x y : V) : vPick (.sc (.bool false)) x y K = K y := _root_.id rfl
@[congr] theorem vPick_congr {c c' x x' y y' : V} {K : V → Prop} (h : c = c') (hx : x = x') (hy : y = y') : vPick c x y K = vPick c' x' y' K := by rw [h, hx, hy]
@[go_sem] theorem vAt_zero (x : V) (xs : List V) : vAt (x :: xs) 0 K = K x := _root_.id rfl
@[go_sem] theorem vAt_succ (x : V) (xs : List V) (n : Nat) : vAt (x :: xs) (n + 1) K = vAt xs n K := _root_.id rfl
@[congr] theorem vAt_congr {xs xs' : List V} {n n' : Nat} {K : V → Prop} (h : xs = xs') (hn : n = n') : vAt xs n K = vAt xs' n' K := by rw [h, hn]
@[go_sem] theorem vPart_cell (size : Nat) (xs : List V) (off : Nat) : vPart false size xs off K = vAt xs off K := _root_.id rfl
@[go_sem] theorem vPart_agg (size : Nat) (xs : List V) (off : Nat) : vPart true size xs off K = grd (off + size ≤ xs.length) (K (.agg ((xs.drop off).take size))) := _root_.id rfl
@[congr] theorem vPart_congr {a a' : Bool} {z z' : Nat} {xs xs' : List V} {n n' : Nat} {K : V → Prop} (ha : a = a') (hz : z = z') (h : xs = xs') (hn : n = n') : vPart a z xs n K = vPart a' z' xs' n' K := by rw [ha, hz, h, hn]
@[go_sem] theorem vLoad_ip (t : TI) (xs : List V) (off : Nat) (ob : Objs) : vLoad t (.ip xs off) ob K = grd (t.ok = true) (vPart t.desc.agg t.size xs off K) := _root_.id rfl
@[go_sem] theorem vLoad_ptr (t : TI) (l off : Nat) (ob : Objs) : vLoad t (.ptr l off) ob K = grd (t.ok = true) (vObj ob l fun o => vPart t.desc.agg t.size o.cells off K) := _root_.id rfl
@[congr] theorem vLoad_congr {t t' : TI} {x x' : V} {ob ob' : Objs} {K : V → Prop} (ht : t = t') (hx : x = x') (ho : ob = ob') : vLoad t x ob K = vLoad t' x' ob' K := by rw [ht, hx, ho]
@[go_sem] theorem vObj_zero (o : Ob) (ob : Objs) (K : Ob → Prop) : vObj (some o :: ob) 0 K = K o := _root_.id rfl
@[go_sem] theorem vObj_succ (x : Option Ob) (ob : Objs) (l : Nat) (K : Ob → Prop) : vObj (x :: ob) (l + 1) K = vObj ob l K := _root_.id rfl
@[congr] theorem vObj_congr {ob ob' : Objs} {l l' : Nat} {K : Ob → Prop} (h : ob = ob') (hl : l = l') : vObj ob l K = vObj ob' l' K := by rw [h, hl]
@[go_sem] theorem vNil_ip (xs : List V) (off : Nat) : vNil (.ip xs off) K = K (.ip xs off) := _root_.id rfl
@[go_sem] theorem vNil_ptr (l off : Nat) : vNil (.ptr l off) K = K (.ptr l off) := _root_.id rfl
@[go_sem] theorem vNil_fn (f : FuncId) (caps : List V) : vNil (.fn f caps) K = K (.fn f caps) := _root_.id rfl
@[congr] theorem vNil_congr {x x' : V} {K : V → Prop} (hx : x = x') : vNil x K = vNil x' K := by rw [hx]
/-- the place of a field -/
def vFA (t : TI) (o : Nat) (x : V) (K : V → Prop) : Prop := grd (t.ok = true ∧ t.size ≠ 0) (match x with
  | .ip xs off => K (.ip xs (off + o))
  | .ptr l off => K (.ptr l (off + o))
  | _ => False)
@[go_sem] theorem vFieldAddr_zero (P : Program) (q : Nat × TypeId) (fs : List (Nat × TypeId)) (x : V) : vFieldAddr P (.struct (q :: fs)) x 0 K = vFA (ti P q.2) q.1 x K := _root_.id rfl
@[go_sem] theorem vFieldAddr_succ (P : Program) (q : Nat × TypeId) (fs : List (Nat × TypeId)) (x : V) (f : Nat) : vFieldAddr P (.struct (q :: fs)) x (f + 1) K = vFieldAddr P (.struct fs) x f K := _root_.id rfl
@[go_sem] theorem vFA_ip (t : TI) (o : Nat) (xs : List V) (off : Nat) : vFA t o (.ip xs off) K = grd (t.ok = true ∧ t.size ≠ 0) (K (.ip xs (off + o))) := _root_.id rfl
@[go_sem] theorem vFA_ptr (t : TI) (o : Nat) (l off : Nat) : vFA t o (.ptr l off) K = grd (t.ok = true ∧ t.size ≠ 0) (K (.ptr l (off + o))) := _root_.id rfl
@[congr] theorem vFA_congr {t t' : TI} {o o' : Nat} {x x' : V} {K : V → Prop} (ht : t = t') (ho : o = o') (hx : x = x') : vFA t o x K = vFA t' o' x' K := by rw [ht, ho, hx]
@[congr] theorem vFieldAddr_congr {P : Program} {d d' : AD} {x x' : V} {f : Nat} {K : V → Prop} (hd : d = d') (hx : x = x') : vFieldAddr P d x f K = vFieldAddr P d' x' f K := by rw [hd, hx]
def vFd (t : TI) (o : Nat) (xs : List V) (K : V → Prop) : Prop := grd (t.ok = true) (vPart t.desc.agg t.size xs o K)
@[go_sem] theorem vField_zero (P : Program) (q : Nat × TypeId) (fs : List (Nat × TypeId)) (xs : List V) : vField P (.struct (q :: fs)) (.agg xs) 0 K = vFd (ti P q.2) q.1 xs K := _root_.id rfl
@[go_sem] theorem vField_succ (P : Program) (q : Nat × TypeId) (fs : List (Nat × TypeId)) (xs : List V) (f : Nat) : vField P (.struct (q :: fs)) (.agg xs) (f + 1) K = vField P (.struct fs) (.agg xs) f K := _root_.id rfl
@[go_sem] theorem vFd_mk (t : TI) (o : Nat) (xs : List V) : vFd t o xs K = grd (t.ok = true) (vPart t.desc.agg t.size xs o K) := _root_.id rfl
@[congr] theorem vFd_congr {t t' : TI} {o o' : Nat} {xs xs' : List V} {K : V → Prop} (ht : t = t') (ho : o = o') (hx : xs = xs') : vFd t o xs K = vFd t' o' xs' K := by rw [ht, ho, hx]
@[congr] theorem vField_congr {P : Program} {d d' : AD} {x x' : V} {f : Nat} {K : V → Prop} (hd : d = d') (hx : x = x') : vField P d x f K = vField P d' x' f K := by rw [hd, hx]
/-- the place of an element, the element's size known -/
def vIA (t : TI) (x : V) (n : Int) (K : V → Prop) : Prop := match x with
  | .sl len xs => grd (t.ok = true ∧ 0 ≤ n ∧ n < len) (K (.ip xs (n.toNat * t.size)))
  | .ref l off len => grd (t.ok = true ∧ 0 ≤ n ∧ n < len) (K (.ptr l (off + n.toNat * t.size)))
  | _ => False
@[go_sem] theorem vIdxAddr_slice (P : Program) (e : TypeId) (x : V) (k : IntKind) (n : Int) : vIdxAddr P (.slice e) x (.sc (.int k n)) K = vIA (ti P e) x n K := _root_.id rfl
@[go_sem] theorem vIA_sl (t : TI) (len : Nat) (xs : List V) (n : Int) : vIA t (.sl len xs) n K = grd (t.ok = true ∧ 0 ≤ n ∧ n < len) (K (.ip xs (n.toNat * t.size))) := _root_.id rfl
@[go_sem] theorem vIA_ref (t : TI) (l off len : Nat) (n : Int) : vIA t (.ref l off len) n K = grd (t.ok = true ∧ 0 ≤ n ∧ n < len) (K (.ptr l (off + n.toNat * t.size))) := _root_.id rfl
@[congr] theorem vIA_congr {t t' : TI} {x x' : V} {n n' : Int} {K : V → Prop} (ht : t = t') (hx : x = x') (hn : n = n') : vIA t x n K = vIA t' x' n' K := by rw [ht, hx, hn]
@[congr] theorem vIdxAddr_congr {P : Program} {d d' : AD} {x x' i i' : V} {K : V → Prop} (hd : d = d') (hx : x = x') (hi : i = i') : vIdxAddr P d x i K = vIdxAddr P d' x' i' K := by rw [hd, hx, hi]
@[go_sem] theorem vIdx_string (P : Program) (s : ByteArray) (k : IntKind) (n : Int) : vIdx P .string (.sc (.string s)) (.sc (.int k n)) K = grd (0 ≤ n ∧ n < (s.size : Int)) (K (.sc (.int .u8 (byteAt s n.toNat)))) := _root_.id rfl
@[congr] theorem vIdx_congr {P : Program} {d d' : AD} {x x' i i' : V} {K : V → Prop} (hd : d = d') (hx : x = x') (hi : i = i') : vIdx P d x i K = vIdx P d' x' i' K := by rw [hd, hx, hi]
@[go_sem] theorem vExtract_tup (xs : List V) (i : Nat) : vExtract (.tup xs) i K = vAt xs i K := _root_.id rfl
@[congr] theorem vExtract_congr {x x' : V} {i : Nat} {K : V → Prop} (hx : x = x') : vExtract x i K = vExtract x' i K := by rw [hx]
@[go_sem] theorem vUn_not (b : Bool) : vUn .not (.sc (.bool b)) K = K (.sc (.bool !b)) := _root_.id rfl
@[go_sem] theorem vUn_neg (k : IntKind) (n : Int) : vUn .neg (.sc (.int k n)) K = K (.sc (.int k (k.wrap (0 - n)))) := _root_.id rfl
@[congr] theorem vUn_congr {op : UnOp} {x x' : V} {K : V → Prop} (hx : x = x') : vUn op x K = vUn op x' K := by rw [hx]
@[go_sem] theorem vConv_int {P : Program} {ob : Objs} (k k' k'' : IntKind) (n : Int) : vConv P ob (.int k) (.int k') (.sc (.int k'' n)) K = K (.sc (.int k' (k'.wrap n))) := _root_.id rfl
@[go_sem] theorem vConv_b2s {P : Program} {ob : Objs} (e : TypeId) (x : V) : vConv P ob (.slice e) .string x K = vB2S P ob e x K := _root_.id rfl
@[go_sem] theorem vB2S_sl {P : Program} {ob : Objs} (e : TypeId) (len : Nat) (xs : List V) : vB2S P ob e (.sl len xs) K = grd (isU8 (ti P e).desc = true) (vByt (byteL (xs.take len)) len K) := _root_.id rfl
@[go_sem] theorem vB2S_ref {P : Program} {ob : Objs} (e : TypeId) (l off len : Nat) : vB2S P ob e (.ref l off len) K = grd (isU8 (ti P e).desc = true) (vObj ob l fun o => vByt (byteL ((o.cells.drop off).take len)) len K) := _root_.id rfl
@[go_sem] theorem isU8_u8 : isU8 (.int .u8) = true := _root_.id rfl
@[go_sem] theorem vByt_some (ns : List Int) (len : Nat) : vByt (some ns) len K = grd (ns.length = len) (K (.sc (.string (mkS ns)))) := _root_.id rfl
@[congr] theorem vB2S_congr {P : Program} {ob : Objs} {e : TypeId} {x x' : V} {K : V → Prop} (hx : x = x') : vB2S P ob e x K = vB2S P ob e x' K := by rw [hx]
@[congr] theorem vByt_congr {o o' : Option (List Int)} {len : Nat} {K : V → Prop} (h : o = o') : vByt o len K = vByt o' len K := by rw [h]
@[go_sem] theorem vConv_string {P : Program} {ob : Objs} (s : ByteArray) : vConv P ob .string .string (.sc (.string s)) K = K (.sc (.string s)) := _root_.id rfl
@[congr] theorem vConv_congr {P : Program} {ob : Objs} {d d' e e' : AD} {x x' : V} {K : V → Prop} (hd : d = d') (he : e = e') (hx : x = x') : vConv P ob d e x K = vConv P ob d' e' x' K := by rw [hd, he, hx]
@[go_sem] theorem vLen_sl (e : TypeId) (len : Nat) (xs : List V) : vLen (.slice e) (.sl len xs) K = K (.sc (.int .i64 len)) := _root_.id rfl
@[go_sem] theorem vLen_ref (e : TypeId) (l off len : Nat) : vLen (.slice e) (.ref l off len) K = K (.sc (.int .i64 len)) := _root_.id rfl
@[go_sem] theorem vLen_sc (e : TypeId) (a : Option Addr) (n c : Nat) : vLen (.slice e) (.sc (.slice a n c)) K = K (.sc (.int .i64 n)) := _root_.id rfl
@[go_sem] theorem vLen_string (s : ByteArray) : vLen .string (.sc (.string s)) K = K (.sc (.int .i64 s.size)) := _root_.id rfl
@[go_sem] theorem vLen_array (n : Nat) (e : TypeId) (x : V) : vLen (.array n e) x K = K (.sc (.int .i64 n)) := _root_.id rfl
@[go_sem] theorem vLenO_slice (ob : Objs) (e : TypeId) (x : V) : vLenO ob (.slice e) x K = vLen (.slice e) x K := _root_.id rfl
@[go_sem] theorem vLenO_string (ob : Objs) (x : V) : vLenO ob .string x K = vLen .string x K := _root_.id rfl
@[go_sem] theorem vLenO_array (ob : Objs) (n : Nat) (e : TypeId) (x : V) : vLenO ob (.array n e) x K = vLen (.array n e) x K := _root_.id rfl
@[go_sem] theorem vLenO_map (ob : Objs) (k e : TypeId) (l : Nat) : vLenO ob (.map k e) (.mp l) K = vObj ob l fun o => vMapOf o.cells fun m => K (.sc (.int .i64 m.length)) := _root_.id rfl
@[congr] theorem vLenO_congr {ob ob' : Objs} {d d' : AD} {x x' : V} {K : V → Prop} (ho : ob = ob') (hd : d = d') (hx : x = x') : vLenO ob d x K = vLenO ob' d' x' K := by rw [ho, hd, hx]
@[go_sem] theorem vMapOf_mpI (m : List (Int × Value)) (K : List (Int × Value) → Prop) : vMapOf (mpI m) K = K m := by simp only [vMapOf, mapOf_mpI]
@[congr] theorem vMapOf_congr {c c' : List V} {K : List (Int × Value) → Prop} (h : c = c') : vMapOf c K = vMapOf c' K := by rw [h]
@[go_sem] theorem vZero_some (z : Value) (K : Value → Prop) : vZero (some z) K = K z := _root_.id rfl
@[congr] theorem vZero_congr {o o' : Option Value} {K : Value → Prop} (h : o = o') : vZero o K = vZero o' K := by rw [h]
@[go_sem] theorem isI64_i64 : isI64 (.int .i64) = true := _root_.id rfl
@[go_sem] theorem lookV_t (o : Option Value) (z : Value) : lookV true o z = .tup [.sc (o.getD z), .sc (.bool o.isSome)] := _root_.id rfl
@[go_sem] theorem lookV_f (o : Option Value) (z : Value) : lookV false o z = .sc (o.getD z) := _root_.id rfl
@[go_sem] theorem vLook_mp {P : Program} (kt et : TypeId) (l : Nat) (k : Int) (c : Bool) (ob : Objs) : vLook P (.map kt et) (.mp l) (.sc (.int .i64 k)) c ob K = grd (isI64 (ti P kt).desc = true) (vZero (zeroOf P et) fun z => vObj ob l fun o => vMapOf o.cells fun m => K (lookV c (mget m k) z)) := _root_.id rfl
@[congr] theorem vLook_congr {P : Program} {d d' : AD} {x x' i i' : V} {c : Bool} {ob ob' : Objs} {K : V → Prop} (hd : d = d') (hx : x = x') (hi : i = i') (ho : ob = ob') : vLook P d x i c ob K = vLook P d' x' i' c ob' K := by rw [hd, hx, hi, ho]
@[go_sem] theorem vIfc_slice (e t : TypeId) (x : V) : vIfc (.slice e) t x K = K (.ifc t x) := _root_.id rfl
@[congr] theorem vIfc_congr {d d' : AD} {t : TypeId} {x x' : V} {K : V → Prop} (hd : d = d') (hx : x = x') : vIfc d t x K = vIfc d' t x' K := by rw [hd, hx]
@[go_sem] theorem vMkMap_none (k e : TypeId) (K : Prop) : vMkMap (.map k e) none K = K := _root_.id rfl
@[go_sem] theorem vMkMap_some (k e : TypeId) (j : IntKind) (n : Int) (K : Prop) : vMkMap (.map k e) (some (.sc (.int j n))) K = K := _root_.id rfl
@[congr] theorem vMkMap_congr {d d' : AD} {r r' : Option V} {K : Prop} (hd : d = d') (hr : r = r') : vMkMap d r K = vMkMap d' r' K := by rw [hd, hr]
@[go_sem] theorem vMapPut_mp {P : Program} (s : AState) (kt et : TypeId) (l : Nat) (k : Int) (v : Value) (K : AState → Prop) : vMapPut P s (.map kt et) (.mp l) (.sc (.int .i64 k)) (.sc v) K = grd (isI64 (ti P kt).desc = true) (vObj s.ob l fun o => vMapOf o.cells fun mm => K { s with ob := s.ob.set l (some ⟨o.esz, mpI (mput mm k v)⟩) }) := _root_.id rfl
@[congr] theorem vMapPut_congr {P : Program} {s s' : AState} {d d' : AD} {m m' k k' v v' : V} {K : AState → Prop} (hs : s = s') (hd : d = d') (hm : m = m') (hk : k = k') (hv : v = v') : vMapPut P s d m k v K = vMapPut P s' d' m' k' v' K := by rw [hs, hd, hm, hk, hv]
@[go_sem] theorem vMapDel_mp {P : Program} (s : AState) (kt et : TypeId) (l : Nat) (k : Int) (K : AState → Prop) : vMapDel P s (.map kt et) (.mp l) (.sc (.int .i64 k)) K = grd (isI64 (ti P kt).desc = true) (vObj s.ob l fun o => vMapOf o.cells fun mm => K { s with ob := s.ob.set l (some ⟨o.esz, mpI (mdel mm k)⟩) }) := _root_.id rfl
@[congr] theorem vMapDel_congr {P : Program} {s s' : AState} {d d' : AD} {m m' k k' : V} {K : AState → Prop} (hs : s = s') (hd : d = d') (hm : m = m') (hk : k = k') : vMapDel P s d m k K = vMapDel P s' d' m' k' K := by rw [hs, hd, hm, hk]
@[congr] theorem vLen_congr {d d' : AD} {x x' : V} {K : V → Prop} (hd : d = d') (hx : x = x') : vLen d x K = vLen d' x' K := by rw [hd, hx]
@[go_sem] theorem vMin2_int (k k' : IntKind) (a b : Int) : vMin2 (.sc (.int k a)) (.sc (.int k' b)) K = K (.sc (.int k (if b < a then b else a))) := _root_.id rfl
@[go_sem] theorem vMax2_int (k k' : IntKind) (a b : Int) : vMax2 (.sc (.int k a)) (.sc (.int k' b)) K = K (.sc (.int k (if b > a then b else a))) := _root_.id rfl
@[congr] theorem vMin2_congr {x x' y y' : V} {K : V → Prop} (hx : x = x') (hy : y = y') : vMin2 x y K = vMin2 x' y' K := by rw [hx, hy]
@[congr] theorem vMax2_congr {x x' y y' : V} {K : V → Prop} (hx : x = x') (hy : y = y') : vMax2 x y K = vMax2 x' y' K := by rw [hx, hy]

/-- the operators -/
def vInt (c : Prop) (v : Value) (K : V → Prop) : Prop := grd c (K (.sc v))
variable (dd : AD) (k : IntKind) (a b : Int)
theorem sbin_int (op : BinOp) (h1 : op ≠ .shl) (h2 : op ≠ .shr) (r : Option Value) : True := trivial
@[go_sem] theorem vBin_add : vBin dd .add (.sc (.int k a)) (.sc (.int k b)) K = K (.sc (.int k (k.wrap (a + b)))) := by simp [vBin, sbin]
@[go_sem] theorem vBin_sub : vBin dd .sub (.sc (.int k a)) (.sc (.int k b)) K = K (.sc (.int k (k.wrap (a - b)))) := by simp [vBin, sbin]
@[go_sem] theorem vBin_mul : vBin dd .mul (.sc (.int k a)) (.sc (.int k b)) K = K (.sc (.int k (k.wrap (a * b)))) := by simp [vBin, sbin]
@[go_sem] theorem vBin_quo : vBin dd .quo (.sc (.int k a)) (.sc (.int k b)) K = grd (b ≠ 0) (K (.sc (.int k (k.wrap (a.tdiv b))))) := by
  by_cases h : b = 0 <;> simp [vBin, sbin, h, grd]
@[go_sem] theorem vBin_rem : vBin dd .rem (.sc (.int k a)) (.sc (.int k b)) K = grd (b ≠ 0) (K (.sc (.int k (a.tmod b)))) := by
  by_cases h : b = 0 <;> simp [vBin, sbin, h, grd]
@[go_sem] theorem vBin_and : vBin dd .and (.sc (.int k a)) (.sc (.int k b)) K = K (.sc (.int k (bits .and k a b))) := by simp [vBin, sbin]
@[go_sem] theorem vBin_or : vBin dd .or (.sc (.int k a)) (.sc (.int k b)) K = K (.sc (.int k (bits .or k a b))) := by simp [vBin, sbin]
@[go_sem] theorem vBin_xor : vBin dd .xor (.sc (.int k a)) (.sc (.int k b)) K = K (.sc (.int k (bits .xor k a b))) := by simp [vBin, sbin]
@[go_sem] theorem vBin_shl (k' : IntKind) : vBin dd .shl (.sc (.int k a)) (.sc (.int k' b)) K = grd (0 ≤ b) (K (.sc (.int k (k.wrap (a * 2 ^ (min b.toNat k.bits)))))) := by
  by_cases h : b < 0
  · simp [vBin, sbin, h, grd]; intro h2; omega
  · simp [vBin, sbin, h, grd]; intro _; omega
@[go_sem] theorem vBin_shr (k' : IntKind) : vBin dd .shr (.sc (.int k a)) (.sc (.int k' b)) K = grd (0 ≤ b) (K (.sc (.int k (a.fdiv (2 ^ (min b.toNat k.bits)))))) := by
  by_cases h : b < 0
  · simp [vBin, sbin, h, grd]; intro h2; omega
  · simp [vBin, sbin, h, grd]; intro _; omega
@[go_sem] theorem vBin_eql : vBin dd .eql (.sc (.int k a)) (.sc (.int k b)) K = K (.sc (.bool (a == b))) := by simp [vBin, sbin]
@[go_sem] theorem vBin_neq : vBin dd .neq (.sc (.int k a)) (.sc (.int k b)) K = K (.sc (.bool (a != b))) := by simp [vBin, sbin]
@[go_sem] theorem vBin_lss : vBin dd .lss (.sc (.int k a)) (.sc (.int k b)) K = K (.sc (.bool (decide (a < b)))) := by simp [vBin, sbin]
@[go_sem] theorem vBin_leq : vBin dd .leq (.sc (.int k a)) (.sc (.int k b)) K = K (.sc (.bool (decide (a ≤ b)))) := by simp [vBin, sbin]
@[go_sem] theorem vBin_gtr : vBin dd .gtr (.sc (.int k a)) (.sc (.int k b)) K = K (.sc (.bool (decide (b < a)))) := by simp [vBin, sbin]
@[go_sem] theorem vBin_geq : vBin dd .geq (.sc (.int k a)) (.sc (.int k b)) K = K (.sc (.bool (decide (b ≤ a)))) := by simp [vBin, sbin]
@[go_sem] theorem vBin_eqlb (x y : Bool) : vBin .bool .eql (.sc (.bool x)) (.sc (.bool y)) K = K (.sc (.bool (x == y))) := by simp [vBin, sbin]
@[go_sem] theorem vBin_neqb (x y : Bool) : vBin .bool .neq (.sc (.bool x)) (.sc (.bool y)) K = K (.sc (.bool (!(x == y)))) := by simp [vBin, sbin]
variable (s t : ByteArray)
@[go_sem] theorem vBin_adds : vBin dd .add (.sc (.string s)) (.sc (.string t)) K = grd (s.size + t.size ≤ 9223372036854775807) (K (.sc (.string (s ++ t)))) := by
  by_cases h : s.size + t.size ≤ 9223372036854775807 <;> simp [vBin, sbin, h, grd]
@[go_sem] theorem vBin_eqls : vBin dd .eql (.sc (.string s)) (.sc (.string t)) K = K (.sc (.bool (s.toList == t.toList))) := by simp [vBin, sbin]
@[go_sem] theorem vBin_neqs : vBin dd .neq (.sc (.string s)) (.sc (.string t)) K = K (.sc (.bool (!(s.toList == t.toList)))) := by simp [vBin, sbin]
@[go_sem] theorem vBin_lsss : vBin dd .lss (.sc (.string s)) (.sc (.string t)) K = K (.sc (.bool (Op.bytesLess s.toList t.toList))) := by simp [vBin, sbin]
@[go_sem] theorem vBin2_int (t : TypeId) (op : BinOp) (k k' : IntKind) (a b : Int) : vBin2 P t op (.sc (.int k a)) (.sc (.int k' b)) K = vBin (ti P t).desc op (.sc (.int k a)) (.sc (.int k' b)) K := _root_.id rfl
@[go_sem] theorem vBin2_bool (t : TypeId) (op : BinOp) (a b : Bool) : vBin2 P t op (.sc (.bool a)) (.sc (.bool b)) K = vBin (ti P t).desc op (.sc (.bool a)) (.sc (.bool b)) K := _root_.id rfl
@[go_sem] theorem vBin2_str (t : TypeId) (op : BinOp) (a b : ByteArray) : vBin2 P t op (.sc (.string a)) (.sc (.string b)) K = vBin (ti P t).desc op (.sc (.string a)) (.sc (.string b)) K := _root_.id rfl
@[go_sem] theorem vBin2_refnil (t : TypeId) (op : BinOp) (l off len : Nat) : vBin2 P t op (.ref l off len) (.sc (.slice none 0 0)) K = vNilC (ti P t).desc op false K := _root_.id rfl
@[go_sem] theorem vBin2_nilnil (t : TypeId) (op : BinOp) : vBin2 P t op (.sc (.slice none 0 0)) (.sc (.slice none 0 0)) K = vNilC (ti P t).desc op true K := _root_.id rfl
@[go_sem] theorem vNilC_eql (e : TypeId) (b : Bool) : vNilC (.slice e) .eql b K = K (.sc (.bool b)) := _root_.id rfl
@[go_sem] theorem vNilC_neq (e : TypeId) (b : Bool) : vNilC (.slice e) .neq b K = K (.sc (.bool !b)) := _root_.id rfl
@[congr] theorem vNilC_congr {d d' : AD} {op : BinOp} {b b' : Bool} {K : V → Prop} (hd : d = d') (hb : b = b') : vNilC d op b K = vNilC d' op b' K := by rw [hd, hb]
@[go_sem] theorem vBin2_agg (t : TypeId) (op : BinOp) (xs ys : List V) : vBin2 P t op (.agg xs) (.agg ys) K = vEqS P (eqInfo P t) op xs ys K := _root_.id rfl
@[congr] theorem vBin2_congr {t : TypeId} {op : BinOp} {x x' y y' : V} {K : V → Prop} (hx : x = x') (hy : y = y') : vBin2 P t op x y K = vBin2 P t op x' y' K := by rw [hx, hy]
@[go_sem] theorem vEqS_eql (fs : List (Nat × TypeId)) (xs ys : List V) : vEqS P (some fs) .eql xs ys K = vEqF P fs xs ys (fun b => K (.sc (.bool b))) := _root_.id rfl
@[go_sem] theorem vEqS_neq (fs : List (Nat × TypeId)) (xs ys : List V) : vEqS P (some fs) .neq xs ys K = vEqF P fs xs ys (fun b => K (.sc (.bool !b))) := _root_.id rfl
@[go_sem] theorem vEqF_nil (xs ys : List V) (K : Bool → Prop) : vEqF P [] xs ys K = K true := _root_.id rfl
@[go_sem] theorem vEqF_cons (o : Nat) (u : TypeId) (fs : List (Nat × TypeId)) (xs ys : List V) (K : Bool → Prop) : vEqF P ((o, u) :: fs) xs ys K = vAt xs o fun x => vAt ys o fun y => vEqV (ti P u).desc x y fun b => vEqF P fs xs ys fun c => K (b && c) := _root_.id rfl
@[go_sem] theorem vEqV_int (k0 k : IntKind) (a b : Int) (K : Bool → Prop) : vEqV (.int k0) (.sc (.int k a)) (.sc (.int k b)) K = K (a == b) := by simp [vEqV, grd]
@[go_sem] theorem vEqV_bool (a b : Bool) (K : Bool → Prop) : vEqV .bool (.sc (.bool a)) (.sc (.bool b)) K = K (a == b) := _root_.id rfl
@[go_sem] theorem vEqV_string (a b : ByteArray) (K : Bool → Prop) : vEqV .string (.sc (.string a)) (.sc (.string b)) K = K (a.toList == b.toList) := _root_.id rfl
@[congr] theorem vBin_congr {d d' : AD} {op : BinOp} {x x' y y' : V} {K : V → Prop} (hd : d = d') (hx : x = x') (hy : y = y') : vBin d op x y K = vBin d' op x' y' K := by rw [hd, hx, hy]
end

end
end Go.AG

/-
  AG, part N: more rules for simp: lists of numbers, objects, weaker states, calls. Conditions: none.
-/
set_option linter.unusedSimpArgs false
set_option linter.unusedVariables false
namespace Go.AG
open Go.RowKit

attribute [go_sem] argSl if_true if_false decide_true decide_false beq_self_eq_true bne_self_eq_false List.length_append List.length_take List.length_drop List.length_replicate List.length_set List.length_map List.idxOf_cons_self V.kill V.killL V.frz V.frzL V.imm V.immL V.one V.oneL V.flat V.flatL V.noref V.norefL V.ren V.renL V.refs V.refsL vcells zerosOf AD.agg
  cond_true cond_false List.length_cons List.length_nil List.map_cons List.map_nil List.cons_append List.nil_append List.append_nil List.append_assoc
  Option.map_some Option.map_none Int.toNat_natCast Nat.mul_one Nat.one_mul Nat.zero_add Nat.add_zero Nat.zero_mul Nat.mul_zero Int.toNat_zero true_and and_true
  not_false_eq_true ne_eq reduceCtorEq List.set_cons_zero List.set_cons_succ gt_iff_lt ge_iff_le and_self List.drop_zero List.take_zero Nat.zero_le Int.zero_add Int.add_zero Int.sub_zero
  Bool.and_true Bool.true_and Bool.and_self Bool.false_and Bool.and_false Bool.not_true Bool.not_false List.all_cons List.all_nil Value.oneCell' List.drop_succ_cons List.take_succ_cons List.take_nil List.drop_nil

@[go_sem] theorem idx_cons (a b : Nat) (l : List Nat) : (b :: l).idxOf a = if b = a then 0 else l.idxOf a + 1 := by
  by_cases h : b = a
  · subst h; simp
  · have : (b == a) = false := by simpa using h
    simp [List.idxOf_cons, h, this]
@[go_sem] theorem cast_succ (k : Nat) : ((k + 1 : Nat) : Int) = (k : Int) + 1 := _root_.id rfl
@[go_sem] theorem cast_zero : ((0 : Nat) : Int) = 0 := _root_.id rfl
@[go_sem] theorem toList_arr {α : Type} (xs : List α) : xs.toArray.toList = xs := _root_.id rfl
@[go_sem] theorem all_arr0 : (#[] : Array Operand).toList = [] := _root_.id rfl

/-- a list of numbers, as cells -/
def ints (xs : List Int) : List V := xs.map fun n => .sc (.int .i64 n)
/-- the number at a place; 0 beyond the end -/
def gi (xs : List Int) (i : Nat) : Int := xs.getD i 0
/-- a list of numbers, as a value -/
def iS (xs : List Int) : V := .sl xs.length (ints xs)
/-- an owned list of numbers -/
def oI (xs : List Int) : Option Ob := some ⟨1, ints xs⟩
attribute [go_sem] iS oI
/-- numbers -/
abbrev I (n : Int) : V := .sc (.int .i64 n)
abbrev B (b : Bool) : V := .sc (.bool b)
abbrev nilS : V := .sc (.slice none 0 0)

@[go_sem] theorem length_ints (xs : List Int) : (ints xs).length = xs.length := by simp [ints]
@[go_sem] theorem ints_nil : ints [] = [] := _root_.id rfl
@[go_sem] theorem ints_append (xs ys : List Int) : ints xs ++ ints ys = ints (xs ++ ys) := by simp [ints]
@[go_sem] theorem ints_snoc (xs : List Int) (n : Int) : ints xs ++ [.sc (.int .i64 n)] = ints (xs ++ [n]) := by simp [ints]
theorem ints_one (n : Int) : [V.sc (.int .i64 n)] = ints [n] := rfl
theorem ints_cons (n : Int) (xs : List Int) : V.sc (.int .i64 n) :: ints xs = ints (n :: xs) := rfl
@[go_sem] theorem ints_take_all (xs : List Int) (n : Nat) (h : xs.length ≤ n) : (ints xs).take n = ints xs := by rw [List.take_of_length_le (by simpa [ints] using h)]
@[go_sem low] theorem ints_take (xs : List Int) (n : Nat) : (ints xs).take n = ints (xs.take n) := by simp [ints, List.map_take]
@[go_sem] theorem ints_drop (xs : List Int) (n : Nat) : (ints xs).drop n = ints (xs.drop n) := by simp [ints, List.map_drop]
@[go_sem] theorem ints_replicate (n : Nat) (z : Int) : List.replicate n (V.sc (.int .i64 z)) = ints (List.replicate n z) := by simp [ints]
@[go_sem] theorem reps_ints (n : Nat) (z : Int) : reps n [.sc (.int .i64 z)] = ints (List.replicate n z) := by rw [reps_one, ints_replicate]
@[go_sem] theorem reps_zero (zs : List V) : reps 0 zs = [] := _root_.id rfl
@[go_sem low] theorem reps_one' (n : Nat) (z : V) : reps n [z] = List.replicate n z := reps_one n z
@[go_sem] theorem ints_inj (xs ys : List Int) : (ints xs = ints ys) = (xs = ys) := by
  apply propext
  constructor
  · intro h
    induction xs generalizing ys with
    | nil => cases ys with
      | nil => rfl
      | cons y ys => simp [ints] at h
    | cons x xs ih => cases ys with
      | nil => simp [ints] at h
      | cons y ys =>
        simp only [ints, List.map_cons, List.cons.injEq, V.sc.injEq, Value.int.injEq, true_and] at h
        rw [h.1, ih ys h.2]
  · intro h; rw [h]
@[go_sem] theorem nil_ints (ys : List Int) : (([] : List V) = ints ys) = (([] : List Int) = ys) := ints_inj [] ys
@[go_sem] theorem ints_nil' (ys : List Int) : (ints ys = []) = (ys = []) := by rw [← ints_inj ys []]; rfl
@[go_sem] theorem wr_ints (xs : List Int) (i : Nat) (n : Int) : wr (ints xs) i [.sc (.int .i64 n)] = ints (wr xs i [n]) := by simp [wr, ints, List.map_take, List.map_drop]
theorem wr_set {α : Type} (xs : List α) (i : Nat) (n : α) (h : i < xs.length) : wr xs i [n] = xs.set i n := by
  apply List.ext_getElem?
  intro j
  rw [get_wr _ _ _ (by simp; omega), List.getElem?_set]
  by_cases hj : i = j
  · subst hj; simp [h]
  · rw [if_neg hj]
    split
    · rfl
    · rw [if_neg (by simp; omega)]
@[go_sem] theorem wr_set' (xs : List Int) (i : Nat) (n : Int) (h : i < xs.length) : wr xs i [n] = xs.set i n := wr_set xs i n h
@[go_sem] theorem length_wr1 (xs : List Int) (i : Nat) (n : Int) (h : i < xs.length) : (wr xs i [n]).length = xs.length := by rw [wr_set xs i n h, List.length_set]
@[go_sem] theorem wr_zero (x : V) (xs : List V) (y : V) : wr (x :: xs) 0 [y] = y :: xs := by simp [wr]
@[go_sem] theorem wr_succ (x : V) (xs : List V) (n : Nat) (y : V) : wr (x :: xs) (n + 1) [y] = x :: wr xs n [y] := by simp [wr, Nat.add_right_comm]
@[go_sem] theorem vAt_ints (xs : List Int) (i : Nat) (K : V → Prop) : vAt (ints xs) i K = grd (i < xs.length) (K (.sc (.int .i64 (gi xs i)))) := by
  by_cases h : i < xs.length <;> simp [vAt, ints, gi, h, grd]
@[go_sem] theorem imm_ints (xs : List Int) : V.immL (ints xs) = true := by induction xs with | nil => rfl | cons x xs ih => simpa [ints, V.immL, V.imm] using ih
@[go_sem] theorem one_ints (xs : List Int) : V.oneL (ints xs) = true := by induction xs with | nil => rfl | cons x xs ih => simpa [ints, V.oneL, V.one, Value.oneCell'] using ih
@[go_sem] theorem flat_ints (xs : List Int) : V.flatL (ints xs) = true := by induction xs with | nil => rfl | cons x xs ih => simpa [ints, V.flatL, V.flat] using ih
@[go_sem] theorem noref_ints (xs : List Int) : V.norefL (ints xs) = true := by induction xs with | nil => rfl | cons x xs ih => simpa [ints, V.norefL, V.noref] using ih
@[go_sem] theorem kill_ints (p : Nat → Bool) (xs : List Int) : V.killL p (ints xs) = ints xs := by simp [killL_eq, ints, V.kill]
@[go_sem] theorem frz_ints (f : Nat → Option Ob) (xs : List Int) : V.frzL f (ints xs) = ints xs := by simp [frzL_eq, ints, V.frz]
@[go_sem] theorem ren_ints (g : Nat → Nat) (xs : List Int) : V.renL g (ints xs) = ints xs := by simp [renL_eq, ints, V.ren]
theorem kill_append (p : Nat → Bool) (xs ys : List V) : V.killL p (xs ++ ys) = V.killL p xs ++ V.killL p ys := by simp [killL_eq]
theorem frz_append (f : Nat → Option Ob) (xs ys : List V) : V.frzL f (xs ++ ys) = V.frzL f xs ++ V.frzL f ys := by simp [frzL_eq]
theorem mpI_tr (τ : V → V) (hj : τ .junk = .junk) (hs : ∀ v, τ (.sc v) = .sc v) (m : List (Int × Value)) : (mpI m).map τ = mpI m := by
  unfold mpI
  rw [List.map_cons, hj]
  congr 1
  induction m with
  | nil => rfl
  | cons e r ih => simp [hs, ih]
@[go_sem] theorem kill_mpI (q : Nat → Bool) (m : List (Int × Value)) : V.killL q (mpI m) = mpI m := by rw [killL_eq]; exact mpI_tr _ rfl (fun _ => rfl) m
@[go_sem] theorem frz_mpI (f : Nat → Option Ob) (m : List (Int × Value)) : V.frzL f (mpI m) = mpI m := by rw [frzL_eq]; exact mpI_tr _ rfl (fun _ => rfl) m
@[go_sem] theorem ren_mpI (g : Nat → Nat) (m : List (Int × Value)) : V.renL g (mpI m) = mpI m := by rw [renL_eq]; exact mpI_tr _ rfl (fun _ => rfl) m
@[go_sem] theorem imm_mpI (m : List (Int × Value)) : V.immL (mpI m) = false := by simp [mpI, V.immL, V.imm]
@[go_sem] theorem noref_mpI (m : List (Int × Value)) : V.norefL (mpI m) = true := by
  unfold mpI
  simp only [V.norefL, V.noref, Bool.true_and]
  induction m with
  | nil => rfl
  | cons e r ih => simpa [V.norefL, V.noref] using ih
@[go_sem] theorem flat_mpI (m : List (Int × Value)) : V.flatL (mpI m) = true := by
  unfold mpI
  simp only [V.flatL, V.flat, Bool.true_and]
  induction m with
  | nil => rfl
  | cons e r ih => simpa [V.flatL, V.flat] using ih
attribute [go_sem] kill_append frz_append immL_append oneL_append

mutual
theorem kill_noref (p : Nat → Bool) (x : V) (h : x.noref = true) : x.kill p = x := by
  cases x with
  | fn g caps => simp only [V.noref] at h; simp only [V.kill]; rw [killL_noref p caps h]
  | agg xs => simp only [V.noref] at h; simp only [V.kill]; rw [killL_noref p xs h]
  | tup xs => simp only [V.noref] at h; simp only [V.kill]; rw [killL_noref p xs h]
  | mp => simp [V.noref] at h
  | ifc t x => simp only [V.noref] at h; simp only [V.kill]; rw [kill_noref p x h]
  | ref => simp [V.noref] at h
  | ptr => simp [V.noref] at h
  | _ => rfl
theorem killL_noref (p : Nat → Bool) (xs : List V) (h : V.norefL xs = true) : V.killL p xs = xs := by
  cases xs with
  | nil => rfl
  | cons x xs =>
    simp only [V.norefL, Bool.and_eq_true] at h
    simp only [V.killL]
    rw [kill_noref p x h.1, killL_noref p xs h.2]
end

/-! ### memory -/

section
variable {P : Program} (K : V → Prop)
@[go_sem] theorem vFill_nil (pl : Nat → Option (Nat × Nat)) (cells : List V) (K : List V → Prop) : vFill pl cells [] K = K cells := _root_.id rfl
def vFill1 (at_ : Option (Nat × Nat)) (cells : List V) (x : V) (K : List V → Prop) : Prop := match at_ with
  | some (off, size) => grd ((vcells x).length = size ∧ off + size ≤ cells.length ∧ V.oneL (vcells x) = true) (K (wr cells off (vcells x)))
  | none => False
@[go_sem] theorem vFill_cons (pl : Nat → Option (Nat × Nat)) (cells : List V) (i : Nat) (x : V) (r : List (Nat × V)) (K : List V → Prop) : vFill pl cells ((i, x) :: r) K = vFill1 (pl i) cells x (fun cs => vFill pl cs r K) := _root_.id rfl
@[go_sem] theorem vFill1_mk (off size : Nat) (cells : List V) (x : V) (K : List V → Prop) : vFill1 (some (off, size)) cells x K = grd ((vcells x).length = size ∧ off + size ≤ cells.length ∧ V.oneL (vcells x) = true) (K (wr cells off (vcells x))) := _root_.id rfl
@[congr] theorem vFill1_congr {a a' : Option (Nat × Nat)} {c c' : List V} {x x' : V} {K : List V → Prop} (ha : a = a') (hc : c = c') (hx : x = x') : vFill1 a c x K = vFill1 a' c' x' K := by rw [ha, hc, hx]
@[congr] theorem vFill_congr {pl : Nat → Option (Nat × Nat)} {c c' : List V} {r r' : List (Nat × V)} {K : List V → Prop} (hc : c = c') (hr : r = r') : vFill pl c r K = vFill pl c' r' K := by rw [hc, hr]
@[go_sem] theorem vMkD_slice (e : TypeId) (s : AState) (len : Nat) (parts : List (Nat × V)) (d : Option Nat) (K : AState → Prop) : vMkD P (.slice e) s len parts d K = vMkRow (ti P e) s len parts d K := _root_.id rfl
@[congr] theorem vMkD_congr {a a' : AD} {s s' : AState} {len : Nat} {ps ps' : List (Nat × V)} {d : Option Nat} {K : AState → Prop} (ha : a = a') (hs : s = s') (hp : ps = ps') : vMkD P a s len ps d K = vMkD P a' s' len ps' d K := by rw [ha, hs, hp]
@[go_sem] theorem vMkRow_mk (ok : Bool) (ad : AD) (size bytes : Nat) (zero : List Value) (s : AState) (len : Nat) (parts : List (Nat × V)) (d : Option Nat) (K : AState → Prop) :
    vMkRow ⟨ok, ad, size, bytes, zero⟩ s len parts d K = grd (ok = true ∧ zero.length = size ∧ 0 < size ∧ zero.all Value.oneCell' = true ∧ len * size ≤ 16777216 ∧ s.k ≤ s.ob.length)
    (vFill (fun i => some (i * size, size)) (reps len (zero.map V.sc)) parts fun cells => fin d K (s.add ⟨size, cells⟩) (.ref s.ob.length 0 len)) := _root_.id rfl
@[congr] theorem vMkRow_congr {t t' : TI} {s s' : AState} {len : Nat} {ps ps' : List (Nat × V)} {d : Option Nat} {K : AState → Prop} (ht : t = t') (hs : s = s') (hp : ps = ps') : vMkRow t s len ps d K = vMkRow t' s' len ps' d K := by rw [ht, hs, hp]
@[go_sem] theorem vMakeD_slice (e : TypeId) (s : AState) (l c : V) (d : Option Nat) (K : AState → Prop) : vMakeD P (.slice e) s l c d K = vMake (ti P e) s l c d K := _root_.id rfl
@[congr] theorem vMakeD_congr {a a' : AD} {s s' : AState} {l l' c c' : V} {d : Option Nat} {K : AState → Prop} (ha : a = a') (hs : s = s') (hl : l = l') (hc : c = c') : vMakeD P a s l c d K = vMakeD P a' s' l' c' d K := by rw [ha, hs, hl, hc]
@[go_sem] theorem vMake_mk (ok : Bool) (ad : AD) (size bytes : Nat) (zero : List Value) (s : AState) (kl kc : IntKind) (l c : Int) (d : Option Nat) (K : AState → Prop) :
    vMake ⟨ok, ad, size, bytes, zero⟩ s (.sc (.int kl l)) (.sc (.int kc c)) d K = grd (ok = true ∧ zero.length = size ∧ 0 < size ∧ zero.all Value.oneCell' = true ∧ s.k ≤ s.ob.length)
        (grd (0 ≤ l ∧ l ≤ c ∧ (bytes : Int) * c ≤ 140737488355328 ∧ c ≤ 9223372036854775807) (fin d K (s.add ⟨size, reps l.toNat (zero.map V.sc)⟩) (.ref s.ob.length 0 l.toNat))) := _root_.id rfl
@[congr] theorem vMake_congr {t t' : TI} {s s' : AState} {l l' c c' : V} {d : Option Nat} {K : AState → Prop} (ht : t = t') (hs : s = s') (hl : l = l') (hc : c = c') : vMake t s l c d K = vMake t' s' l' c' d K := by rw [ht, hs, hl, hc]
@[go_sem] theorem vAppD_slice (e : TypeId) (s : AState) (x y : V) (d : Option Nat) (K : AState → Prop) : vAppD P (.slice e) s x y d K = vAppend (ti P e) s x y d K := _root_.id rfl
@[congr] theorem vAppD_congr {a a' : AD} {s s' : AState} {l l' c c' : V} {d : Option Nat} {K : AState → Prop} (ha : a = a') (hs : s = s') (hl : l = l') (hc : c = c') : vAppD P a s l c d K = vAppD P a' s' l' c' d K := by rw [ha, hs, hl, hc]
@[go_sem] theorem vAppend_mk (t : TI) (s : AState) (x y : V) (d : Option Nat) (K : AState → Prop) : vAppend t s x y d K = grd (t.ok = true ∧ t.zero.length = t.size ∧ 0 < t.size) (vNews s.ob t.size y fun m news => vApp t s x m news d K) := _root_.id rfl
@[congr] theorem vAppend_congr {t t' : TI} {s s' : AState} {l l' c c' : V} {d : Option Nat} {K : AState → Prop} (ht : t = t') (hs : s = s') (hl : l = l') (hc : c = c') : vAppend t s l c d K = vAppend t' s' l' c' d K := by rw [ht, hs, hl, hc]
@[go_sem] theorem vAppS_mk (e : TypeId) (s : AState) (x y : V) (d : Option Nat) (K : AState → Prop) : vAppS P (.slice e) .string s x y d K = vAppT (ti P e) s x y d K := _root_.id rfl
@[congr] theorem vAppS_congr {a a' u u' : AD} {s s' : AState} {l l' c c' : V} {d : Option Nat} {K : AState → Prop} (ha : a = a') (hu : u = u') (hs : s = s') (hl : l = l') (hc : c = c') : vAppS P a u s l c d K = vAppS P a' u' s' l' c' d K := by rw [ha, hu, hs, hl, hc]
@[go_sem] theorem vAppT_mk (t : TI) (s : AState) (x : V) (z : ByteArray) (d : Option Nat) (K : AState → Prop) : vAppT t s x (.sc (.string z)) d K = grd (t.ok = true ∧ t.zero.length = t.size ∧ t.size = 1) (vApp t s x z.size (strB z) d K) := _root_.id rfl
@[congr] theorem vAppT_congr {t t' : TI} {s s' : AState} {l l' c c' : V} {d : Option Nat} {K : AState → Prop} (ht : t = t') (hs : s = s') (hl : l = l') (hc : c = c') : vAppT t s l c d K = vAppT t' s' l' c' d K := by rw [ht, hs, hl, hc]
attribute [go_sem] length_strB oneL_strB
@[go_sem] theorem vNews_sl (ob : Objs) (size m : Nat) (xs : List V) (K : Nat → List V → Prop) : vNews ob size (.sl m xs) K = grd (xs.length = m * size ∧ V.oneL xs = true) (K m xs) := _root_.id rfl
@[go_sem] theorem vNews_ref (ob : Objs) (size l off m : Nat) (K : Nat → List V → Prop) : vNews ob size (.ref l off m) K = vObj ob l fun o => grd (o.esz = size ∧ off + m * size ≤ o.cells.length) (K m ((o.cells.drop off).take (m * size))) := _root_.id rfl
@[go_sem] theorem vNews_nil (ob : Objs) (size : Nat) (K : Nat → List V → Prop) : vNews ob size (.sc (.slice none 0 0)) K = K 0 [] := _root_.id rfl
@[congr] theorem vNews_congr {ob ob' : Objs} {z z' : Nat} {y y' : V} {K : Nat → List V → Prop} (ho : ob = ob') (hz : z = z') (hy : y = y') : vNews ob z y K = vNews ob' z' y' K := by rw [ho, hz, hy]
@[go_sem] theorem vApp_ref (t : TI) (s : AState) (l off len m : Nat) (news : List V) (d : Option Nat) (K : AState → Prop) : vApp t s (.ref l off len) m news d K = grd (s.k ≤ l) (vObj s.ob l fun o =>
        grd (o.esz = t.size ∧ off + len * t.size ≤ o.cells.length) (grd ((len + m) * t.bytes ≤ 140737488355328 ∧ len + m ≤ 9223372036854775807)
          (fin d K (s.grown l t.size ((o.cells.drop off).take (len * t.size) ++ news)) (.ref l 0 (len + m))))) := _root_.id rfl
@[go_sem] theorem vApp_nil (t : TI) (s : AState) (m : Nat) (news : List V) (d : Option Nat) (K : AState → Prop) : vApp t s (.sc (.slice none 0 0)) m news d K = grd (s.k ≤ s.ob.length ∧ 1 ≤ m) (grd (m * t.bytes ≤ 140737488355328 ∧ m ≤ 9223372036854775807)
          (fin d K (s.add ⟨t.size, news⟩) (.ref s.ob.length 0 m))) := _root_.id rfl
@[congr] theorem vApp_congr {t t' : TI} {s s' : AState} {x x' : V} {m m' : Nat} {ns ns' : List V} {d : Option Nat} {K : AState → Prop} (ht : t = t') (hs : s = s') (hx : x = x') (hm : m = m') (hn : ns = ns') : vApp t s x m ns d K = vApp t' s' x' m' ns' d K := by rw [ht, hs, hx, hm, hn]
@[go_sem] theorem vStore_ptr (n k : Nat) (sl : List (Nat × V)) (ob : Objs) (t : TI) (l off : Nat) (x : V) (K : AState → Prop) : vStore ⟨n, k, sl, ob⟩ t (.ptr l off) x K = vObj ob l fun o =>
    grd (t.ok = true ∧ (vcells x).length = t.size ∧ V.oneL (vcells x) = true ∧ off + (vcells x).length ≤ o.cells.length) (K ⟨n, k, sl, ob.set l (some ⟨o.esz, wr o.cells off (vcells x)⟩)⟩) := _root_.id rfl
@[congr] theorem vStore_congr {s s' : AState} {t t' : TI} {q q' x x' : V} {K : AState → Prop} (hs : s = s') (ht : t = t') (hq : q = q') (hx : x = x') : vStore s t q x K = vStore s' t' q' x' K := by rw [hs, ht, hq, hx]
/-- a slice's part -/
def vSl (t : TI) (ob : Objs) (x : V) (lo hi : Option V) (K : V → Prop) : Prop := match x with
    | .sl len xs => boundV lo 0 fun l => boundV hi len fun h => grd (t.ok = true ∧ 0 ≤ l ∧ l ≤ h ∧ h ≤ len) (K (.sl (h - l).toNat ((xs.drop (l.toNat * t.size)).take ((h - l).toNat * t.size))))
    | .ref o off len => boundV lo 0 fun l => boundV hi len fun h => grd (t.ok = true ∧ 0 ≤ l ∧ l ≤ h ∧ h ≤ len) (vObj ob o fun q => grd (q.esz = t.size) (K (.ref o (off + l.toNat * t.size) (h - l).toNat)))
    | _ => False
@[go_sem] theorem vSlice_slice (e : TypeId) (ob : Objs) (x : V) (lo hi : Option V) : vSlice P ob (.slice e) x lo hi K = vSl (ti P e) ob x lo hi K := _root_.id rfl
@[go_sem] theorem vSl_sl (t : TI) (ob : Objs) (len : Nat) (xs : List V) (lo hi : Option V) : vSl t ob (.sl len xs) lo hi K = boundV lo 0 fun l => boundV hi len fun h => grd (t.ok = true ∧ 0 ≤ l ∧ l ≤ h ∧ h ≤ len) (K (.sl (h - l).toNat ((xs.drop (l.toNat * t.size)).take ((h - l).toNat * t.size)))) := _root_.id rfl
@[go_sem] theorem vSl_ref (t : TI) (ob : Objs) (o off len : Nat) (lo hi : Option V) : vSl t ob (.ref o off len) lo hi K = boundV lo 0 fun l => boundV hi len fun h => grd (t.ok = true ∧ 0 ≤ l ∧ l ≤ h ∧ h ≤ len) (vObj ob o fun q => grd (q.esz = t.size) (K (.ref o (off + l.toNat * t.size) (h - l).toNat))) := _root_.id rfl
@[congr] theorem vSl_congr {t t' : TI} {ob ob' : Objs} {x x' : V} {lo lo' hi hi' : Option V} {K : V → Prop} (ht : t = t') (ho : ob = ob') (hx : x = x') (hl : lo = lo') (hh : hi = hi') : vSl t ob x lo hi K = vSl t' ob' x' lo' hi' K := by rw [ht, ho, hx, hl, hh]
@[go_sem] theorem vSlice_string (ob : Objs) (s : ByteArray) (lo hi : Option V) : vSlice P ob .string (.sc (.string s)) lo hi K = boundV lo 0 fun l => boundV hi s.size fun h => grd (0 ≤ l ∧ l ≤ h ∧ h ≤ s.size) (K (.sc (.string (s.extract l.toNat h.toNat)))) := _root_.id rfl
@[congr] theorem vSlice_congr {ob ob' : Objs} {a a' : AD} {x x' : V} {lo lo' hi hi' : Option V} {K : V → Prop} (ha : a = a') (ho : ob = ob') (hx : x = x') (hl : lo = lo') (hh : hi = hi') : vSlice P ob a x lo hi K = vSlice P ob' a' x' lo' hi' K := by rw [ha, ho, hx, hl, hh]
@[go_sem] theorem boundV_none (dflt : Int) (K : Int → Prop) : boundV none dflt K = K dflt := _root_.id rfl
@[go_sem] theorem boundV_some (k : IntKind) (n dflt : Int) (K : Int → Prop) : boundV (some (.sc (.int k n))) dflt K = K n := _root_.id rfl
@[congr] theorem boundV_congr {x x' : Option V} {d d' : Int} {K : Int → Prop} (hx : x = x') (hd : d = d') : boundV x d K = boundV x' d' K := by rw [hx, hd]
end

/-! ### weaker states -/

section
variable (n k : Nat) (sl : List (Nat × V)) (ob : Objs)
@[go_sem] theorem leS_mk (n' k' : Nat) (sl' : List (Nat × V)) (ob' : Objs) : leS ⟨n, k, sl, ob⟩ ⟨n', k', sl', ob'⟩ = (n = n' ∧ k = k' ∧ k' ≤ ob'.length ∧ leSl (fromB ob'.length) ⟨n, k, sl, ob⟩ sl' ∧ leOb (fromB ob'.length) ob' ob) := _root_.id rfl
@[go_sem] theorem leSl_nil (p : Nat → Bool) (s : AState) : leSl p s [] = True := _root_.id rfl
@[go_sem] theorem leSl_cons (p : Nat → Bool) (s : AState) (t : Nat) (x : V) (r : List (Nat × V)) : leSl p s ((t, x) :: r) = (V.le ((s.get t).kill p) x ∧ leSl p s r) := _root_.id rfl
@[go_sem] theorem leOb_nil (p : Nat → Bool) (ob : Objs) : leOb p [] ob = True := by cases ob <;> rfl
@[go_sem] theorem leOb_none (p : Nat → Bool) (r r' : Objs) : leOb p (none :: r) (none :: r') = leOb p r r' := _root_.id rfl
@[go_sem] theorem leOb_some (p : Nat → Bool) (o o' : Ob) (r r' : Objs) : leOb p (some o :: r) (some o' :: r') = ((o.esz = o'.esz ∧ V.killL p o'.cells = o.cells) ∧ leOb p r r') := _root_.id rfl
@[go_sem] theorem fromB_dec (m i : Nat) : fromB m i = decide (m ≤ i) := by
  unfold fromB
  cases h : Nat.ble m i with
  | true => simp [Nat.le_of_ble_eq_true h]
  | false =>
    have : ¬ m ≤ i := fun hle => by have := Nat.ble_eq_true_of_le hle; rw [h] at this; cases this
    simp [this]
@[go_sem] theorem killB_dec (l i : Nat) : killB l i = decide (i = l) := by
  by_cases h : i = l
  · subst h; simp [killB]
  · rw [killB_ne h]; simp [h]
@[go_sem] theorem oneF_dec (l i : Nat) (o : Ob) : oneF l o i = if i = l then some o else none := by
  unfold oneF
  by_cases h : i = l
  · subst h; simp
  · have : Nat.beq i l = false := by
      cases hb : Nat.beq i l with
      | false => rfl
      | true => exact absurd (Nat.eq_of_beq_eq_true hb) h
    simp [this, h]
@[go_sem] theorem viewF_zero (o : Ob) (r : Objs) : viewF (some o :: r) 0 = bif V.immL o.cells then some o else none := _root_.id rfl
@[go_sem] theorem viewF_none (r : Objs) : viewF (none :: r) 0 = none := _root_.id rfl
@[go_sem] theorem viewF_succ (x : Option Ob) (r : Objs) (i : Nat) : viewF (x :: r) (i + 1) = viewF r i := _root_.id rfl
@[go_sem] theorem le_self (x : V) : V.le x x = True := by simp [V.le]
@[go_sem] theorem le_junk (x : V) : V.le x .junk = True := by simp [V.le]
@[go_sem] theorem le_nil : V.le (.sc (.slice none 0 0)) (.sl 0 []) = True := by simp [V.le]
@[go_sem] theorem le_int (k k' : IntKind) (a b : Int) : V.le (.sc (.int k a)) (.sc (.int k' b)) = (k = k' ∧ a = b) := by simp [V.le]
@[go_sem] theorem le_bool (a b : Bool) : V.le (.sc (.bool a)) (.sc (.bool b)) = (a = b) := by simp [V.le]
@[go_sem] theorem le_ref (l o n l' o' n' : Nat) : V.le (.ref l o n) (.ref l' o' n') = (l = l' ∧ o = o' ∧ n = n') := by simp [V.le]
@[go_sem] theorem le_ptr (l o l' o' : Nat) : V.le (.ptr l o) (.ptr l' o') = (l = l' ∧ o = o') := by simp [V.le]
@[go_sem] theorem le_sl (n m : Nat) (xs ys : List V) : V.le (.sl n xs) (.sl m ys) = (n = m ∧ xs = ys) := by simp [V.le]
end

/-! ### calls and results -/

section
variable {P : Program}
theorem vCallX_of {s : AState} {fo : Operand} {args : List Operand} {d : Option Nat} {K : AState → Prop} (h : vCall P s (s.ev fo) (args.map s.ev) d K) : vCallX P s fo args d K := ⟨s, .refl s, .inl h⟩
theorem vCallX_frz {s s1 : AState} {fo : Operand} {args : List Operand} {d : Option Nat} {K : AState → Prop} (hf : Frz s s1) (h : vCall P s1 (s1.ev fo) (args.map s1.ev) d K) : vCallX P s fo args d K := ⟨s1, hf, .inl h⟩
@[congr] theorem vCallX_congr {s s' : AState} {fo : Operand} {args : List Operand} {d : Option Nat} {K : AState → Prop} (h : s = s') : vCallX P s fo args d K = vCallX P s' fo args d K := by rw [h]
@[congr] theorem vCall_congr {s s' : AState} {f f' : V} {args args' : List V} {d : Option Nat} {K : AState → Prop} (h : s = s') (hf : f = f') (ha : args = args') : vCall P s f args d K = vCall P s' f' args' d K := by rw [h, hf, ha]
@[congr] theorem vqCall_congr {s s' : AState} {f f' : V} {args args' : List V} {d : Option Nat} {K : AState → Prop} (h : s = s') (hf : f = f') (ha : args = args') : vqCall P s f args d K = vqCall P s' f' args' d K := by rw [h, hf, ha]

/-- a call whose result is known -/
theorem vCall_eq {n k : Nat} {sl : List (Nat × V)} {ob : Objs} {f : FuncId} {caps args args' : List V} {d : Option Nat} {K : AState → Prop} {R : V} {O : Objs} (h : ACalls P f args' [] (fun r o => r = R ∧ o = O))
    (ha : V.frzL (viewF ob) (args ++ caps) = args') (hn : V.norefL args' = true) (hf : V.norefL (args ++ caps) = true ∨ (R.flat = true ∧ flatO O = true)) (hk : fin d K ⟨n, k, sl, ob ++ renO (fun l => l + ob.length) O⟩ (R.ren fun l => l + ob.length)) :
    vCall P ⟨n, k, sl, ob⟩ (.fn f caps) args d K := by
  subst ha
  exact ⟨_, h, hn, fun r ob' ⟨hr, ho⟩ => by subst hr ho; exact ⟨hf, hk⟩⟩
/-- a call of whose result something is known -/
theorem vCall_ex {n k : Nat} {sl : List (Nat × V)} {ob : Objs} {f : FuncId} {caps args args' : List V} {d : Option Nat} {K : AState → Prop} {Q : V → Objs → Prop} (h : ACalls P f args' [] Q)
    (ha : V.frzL (viewF ob) (args ++ caps) = args') (hn : V.norefL args' = true) (hk : ∀ R O, Q R O → (V.norefL (args ++ caps) = true ∨ (R.flat = true ∧ flatO O = true)) ∧ fin d K ⟨n, k, sl, ob ++ renO (fun l => l + ob.length) O⟩ (R.ren fun l => l + ob.length)) :
    vCall P ⟨n, k, sl, ob⟩ (.fn f caps) args d K := by
  subst ha
  exact ⟨_, h, hn, hk⟩
theorem vCallX_io {s : AState} {fo : Operand} {args : List Operand} {d : Option Nat} {K : AState → Prop} (ls : List Nat) (h : vCallIO P s ls (s.ev fo) (args.map s.ev) d K) : vCallX P s fo args d K := ⟨s, .refl s, .inr (.inl ⟨ls, h⟩)⟩
@[congr] theorem vCallIO_congr {s s' : AState} {ls : List Nat} {f f' : V} {args args' : List V} {d : Option Nat} {K : AState → Prop} (h : s = s') (hf : f = f') (ha : args = args') : vCallIO P s ls f args d K = vCallIO P s' ls f' args' d K := by rw [h, hf, ha]
/-- a call that writes some objects, its result known -/
theorem vCallIO_eq {n k : Nat} {sl : List (Nat × V)} {ob obc : Objs} {ls : List Nat} {f : FuncId} {caps args args' : List V} {d : Option Nat} {K : AState → Prop} {R : V} {O : Objs} (h : ACalls P f args' obc (fun r o => r = R ∧ o = O))
    (ha : V.renL (ls.idxOf ·) (args ++ caps) = args') (ho : ioOb ob ls = obc) (hn : nodupB ls = true) (hl : liveClo ob ls ls = true) (hr : (V.refsL (args ++ caps)).all (fun l => ls.elem l) = true) (hok : ioOk ob ls O)
    (hk : fin d K ⟨n, k, sl, putAll ob ls (renO (ioN ls ob.length) O) ++ (renO (ioN ls ob.length) O).drop ls.length⟩ (R.ren (ioN ls ob.length))) : vCallIO P ⟨n, k, sl, ob⟩ ls (.fn f caps) args d K := by
  subst ha ho
  exact ⟨hn, hl, fun l hl => by simpa using List.all_eq_true.1 hr l hl, _, h, fun r ob' ⟨h1, h2⟩ => by subst h1 h2; exact ⟨hok, hk⟩⟩
/-- a call that writes some objects, of whose result something is known -/
theorem vCallIO_ex {n k : Nat} {sl : List (Nat × V)} {ob obc : Objs} {ls : List Nat} {f : FuncId} {caps args args' : List V} {d : Option Nat} {K : AState → Prop} {Q : V → Objs → Prop} (h : ACalls P f args' obc Q)
    (ha : V.renL (ls.idxOf ·) (args ++ caps) = args') (ho : ioOb ob ls = obc) (hn : nodupB ls = true) (hl : liveClo ob ls ls = true) (hr : (V.refsL (args ++ caps)).all (fun l => ls.elem l) = true)
    (hk : ∀ R O, Q R O → ioOk ob ls O ∧ fin d K ⟨n, k, sl, putAll ob ls (renO (ioN ls ob.length) O) ++ (renO (ioN ls ob.length) O).drop ls.length⟩ (R.ren (ioN ls ob.length))) : vCallIO P ⟨n, k, sl, ob⟩ ls (.fn f caps) args d K := by
  subst ha ho
  exact ⟨hn, hl, fun l hl => by simpa using List.all_eq_true.1 hr l hl, _, h, fun r ob' hq => hk r ob' hq⟩
theorem vCallX_m {s : AState} {fo : Operand} {args : List Operand} {d : Option Nat} {K : AState → Prop} (la lb : List Nat) (h : vCallM P s la lb (s.ev fo) (args.map s.ev) d K) : vCallX P s fo args d K := ⟨s, .refl s, .inr (.inr ⟨la, lb, h⟩)⟩
@[congr] theorem vCallM_congr {s s' : AState} {la lb : List Nat} {f f' : V} {args args' : List V} {d : Option Nat} {K : AState → Prop} (h : s = s') (hf : f = f') (ha : args = args') : vCallM P s la lb f args d K = vCallM P s' la lb f' args' d K := by rw [h, hf, ha]
/-- a call that is handed objects for good, its result known -/
theorem vCallM_eq {n k m : Nat} {sl : List (Nat × V)} {ob obc : Objs} {la lb ls : List Nat} {f : FuncId} {caps args args' : List V} {d : Option Nat} {K : AState → Prop} {R : V} {O : Objs} (h : ACallsM P f args' m obc (fun r o => r = R ∧ o = O))
    (hm : la.length = m) (hls : la ++ lb = ls) (ha : V.renL (ls.idxOf ·) (args ++ caps) = args') (ho : ioOb ob ls = obc) (hn : nodupB ls = true) (hl : liveClo ob ls ls = true) (hr : (V.refsL (args ++ caps)).all (fun l => ls.elem l) = true) (hok : ioOk ob la O)
    (hk : fin d K ⟨n, k, trS (V.kill fun l => elemN l lb) sl, obM ob la lb (renO (ioN la ob.length) O)⟩ (R.ren (ioN la ob.length))) : vCallM P ⟨n, k, sl, ob⟩ la lb (.fn f caps) args d K := by
  subst hm hls ha ho
  exact ⟨hn, hl, fun l hl => by have := List.all_eq_true.1 hr l hl; simpa only [List.elem_eq_mem, decide_eq_true_eq] using this, _, h, fun r ob' ⟨h1, h2⟩ => by subst h1 h2; exact ⟨hok, hk⟩⟩
theorem vCallM_ex {n k m : Nat} {sl : List (Nat × V)} {ob obc : Objs} {la lb ls : List Nat} {f : FuncId} {caps args args' : List V} {d : Option Nat} {K : AState → Prop} {Q : V → Objs → Prop} (h : ACallsM P f args' m obc Q)
    (hm : la.length = m) (hls : la ++ lb = ls) (ha : V.renL (ls.idxOf ·) (args ++ caps) = args') (ho : ioOb ob ls = obc) (hn : nodupB ls = true) (hl : liveClo ob ls ls = true) (hr : (V.refsL (args ++ caps)).all (fun l => ls.elem l) = true)
    (hk : ∀ R O, Q R O → ioOk ob la O ∧ fin d K ⟨n, k, trS (V.kill fun l => elemN l lb) sl, obM ob la lb (renO (ioN la ob.length) O)⟩ (R.ren (ioN la ob.length))) : vCallM P ⟨n, k, sl, ob⟩ la lb (.fn f caps) args d K := by
  subst hm hls ha ho
  exact ⟨hn, hl, fun l hl => by have := List.all_eq_true.1 hr l hl; simpa only [List.elem_eq_mem, decide_eq_true_eq] using this, _, h, fun r ob' hq => hk r ob' hq⟩
/-- a call in an open region -/
theorem vqCall_eq {s : AState} {f : FuncId} {caps args args' : List V} {d : Option Nat} {K : AState → Prop} {v : Value} {O : Objs} (h : ACalls P f args' [] (fun r o => r = .sc v ∧ o = O))
    (ha : V.frzL (viewF s.ob) (args ++ caps) = args') (hn : V.norefL args' = true) (hk : fin d K s (.sc v)) : vqCall P s (.fn f caps) args d K := by
  subst ha
  exact ⟨v, h.mono fun _ _ h => h.1, hn, hk⟩
theorem vDraw_of {ops : Array Oper} {K : AState → Prop} {s : AState} (h1 : P.follows .mixedOrders = true) (h2 : Region.lexB .any ops = true) (h : vqOps P ops.toList ops.toList K s) : vDraw P ops K s := ⟨h1, .inl ⟨h2, h⟩⟩
theorem vDraw_tail {ops : Array Oper} {K : AState → Prop} {s : AState} (n : Nat) (h1 : P.follows .mixedOrders = true) (h2 : Region.lexTailB .any ops n = true) (h : vqOps P ops.toList (ops.toList.take n) (vcOps P ops.toList (ops.toList.drop n) K) s) : vDraw P ops K s := ⟨h1, .inr (.inl ⟨n, h2, h⟩)⟩
theorem vDraw_sch {ops : Array Oper} {K : AState → Prop} {s : AState} (n : Nat) (sch : List (Nat × Bool)) (h1 : P.follows .mixedOrders = true) (h2 : schOk .any ops n sch = true) (h : vSch P ops.toList (vcOps P ops.toList (ops.toList.drop n) K) (sch.map fun q => (nthO ops.toList q.1, q.2)) [] s) : vDraw P ops K s := ⟨h1, .inr (.inr (.inl ⟨n, sch, h2, h⟩))⟩
theorem vDraw_tr {ops : Array Oper} {K : AState → Prop} {s : AState} (n : Nat) (t : Tr Nat) {β : Type} (p : β → Prop) (J : β → AState) (h1 : P.follows .mixedOrders = true) (h2 : trOk .any ops n t = true) (h : vTr P ops.toList (fun s => ∃ x, p x ∧ leF s (J x)) (t.map (nthO ops.toList)) [] s) (h3 : ∀ x, p x → vcOps P ops.toList (ops.toList.drop n) K (J x)) : vDraw P ops K s := ⟨h1, .inr (.inr (.inr ⟨n, t, β, p, J, h2, h, h3⟩))⟩

@[go_sem] theorem retQ_ret (rs : List ResultVar) (Q : V → Objs → Prop) : retQ P rs Q .ret = retK P rs Q := _root_.id rfl
@[go_sem] theorem retQ_normal (rs : List ResultVar) (Q : V → Objs → Prop) : retQ P rs Q .normal = retK P rs Q := _root_.id rfl
@[congr] theorem retK_congr {rs : List ResultVar} {Q : V → Objs → Prop} {s s' : AState} (h : s = s') : retK P rs Q s = retK P rs Q s' := by rw [h]
theorem retK_of {rs : List ResultVar} {Q : V → Objs → Prop} {s : AState} (h : vRes P s rs fun xs => vRet s.k s.ob (oneOrTup xs) Q) : retK P rs Q s := ⟨s, .refl s, h⟩
theorem retK_frz {rs : List ResultVar} {Q : V → Objs → Prop} {s s1 : AState} (hf : Frz s s1) (h : vRes P s1 rs fun xs => vRet s1.k s1.ob (oneOrTup xs) Q) : retK P rs Q s := ⟨s1, hf, h⟩
@[go_sem] theorem vRes_nil (s : AState) (K : List V → Prop) : vRes P s [] K = K [] := _root_.id rfl
@[go_sem] theorem vRes_tmp (s : AState) (t : Tmp) (r : List ResultVar) (K : List V → Prop) : vRes P s (.tmp t :: r) K = vRes P s r fun xs => K (s.get t :: xs) := _root_.id rfl
@[go_sem] theorem vRes_cell (s : AState) (c : Tmp) (t : TypeId) (r : List ResultVar) (K : List V → Prop) : vRes P s (.cell c t :: r) K = vLoad (ti P t) (s.get c) s.ob fun x => vRes P s r fun xs => K (x :: xs) := _root_.id rfl
@[go_sem] theorem oneOrTup_one (x : V) : oneOrTup [x] = x := _root_.id rfl
@[go_sem] theorem oneOrTup_two (x y : V) (r : List V) : oneOrTup (x :: y :: r) = .tup (x :: y :: r) := _root_.id rfl
attribute [go_sem] vRet vRet1 vRet2 vRet3 nodupB flatO rnm List.filter_cons List.filter_nil List.elem_nil ioOb refsQ
@[go_sem] theorem elemN_nil (x : Nat) : elemN x [] = false := _root_.id rfl
@[go_sem] theorem elemN_cons (x y : Nat) (r : List Nat) : elemN x (y :: r) = (decide (x = y) || elemN x r) := by
  have : Nat.beq x y = decide (x = y) := by
    cases h : Nat.beq x y with
    | true => simp [Nat.eq_of_beq_eq_true h]
    | false => have : x ≠ y := fun e => by subst e; simp at h
               simp [this]
  simp [elemN, this]
attribute [go_sem] Bool.true_or Bool.false_or Bool.or_true Bool.or_false
@[go_sem] theorem subB_nil (ys : List Nat) : subB [] ys = true := _root_.id rfl
@[go_sem] theorem subB_cons (x : Nat) (r ys : List Nat) : subB (x :: r) ys = (elemN x ys && subB r ys) := _root_.id rfl
@[go_sem] theorem subK_nil (k : Nat) (ls : List Nat) : subK k ls [] = true := _root_.id rfl
@[go_sem] theorem subK_cons (k : Nat) (ls : List Nat) (x : Nat) (r : List Nat) : subK k ls (x :: r) = ((Nat.blt x k || elemN x ls) && subK k ls r) := _root_.id rfl
@[go_sem] theorem addN_nil (k : Nat) (acc : List Nat) : addN k acc [] = acc := _root_.id rfl
@[go_sem] theorem addN_cons (k : Nat) (acc : List Nat) (x : Nat) (r : List Nat) : addN k acc (x :: r) = addN k (bif Nat.ble k x && !(elemN x acc) then acc ++ [x] else acc) r := _root_.id rfl
@[congr] theorem addN_congr {k : Nat} {acc acc' xs xs' : List Nat} (h1 : acc = acc') (h2 : xs = xs') : addN k acc xs = addN k acc' xs' := by rw [h1, h2]
@[go_sem] theorem refsIo_zero (ob : Objs) : refsIo ob 0 = [] := _root_.id rfl
@[go_sem] theorem refsIo_succ (ob : Objs) (k : Nat) : refsIo ob (k + 1) = refsIo ob k ++ refsAt ob k := _root_.id rfl
@[go_sem] theorem refsOf_nil (ob : Objs) : refsOf ob [] = [] := _root_.id rfl
@[go_sem] theorem refsOf_cons (ob : Objs) (l : Nat) (r : List Nat) : refsOf ob (l :: r) = refsAt ob l ++ refsOf ob r := _root_.id rfl
@[go_sem] theorem refsAt_some (o : Ob) (r : Objs) : refsAt (some o :: r) 0 = refsQ o.cells := _root_.id rfl
@[go_sem] theorem refsAt_none (r : Objs) : refsAt (none :: r) 0 = [] := _root_.id rfl
@[go_sem] theorem refsAt_succ (x : Option Ob) (r : Objs) (l : Nat) : refsAt (x :: r) (l + 1) = refsAt r l := _root_.id rfl
@[go_sem] theorem liveB_nil (ob : Objs) : liveB ob [] = true := _root_.id rfl
def liveA (ob : Objs) (l : Nat) : Bool := match obAt ob l with | some _ => true | none => false
@[go_sem] theorem liveB_cons (ob : Objs) (l : Nat) (r : List Nat) : liveB ob (l :: r) = (liveA ob l && liveB ob r) := _root_.id rfl
@[go_sem] theorem liveA_some (o : Ob) (r : Objs) : liveA (some o :: r) 0 = true := _root_.id rfl
@[go_sem] theorem liveA_succ (x : Option Ob) (r : Objs) (l : Nat) : liveA (x :: r) (l + 1) = liveA r l := _root_.id rfl
@[go_sem] theorem liveClo_nil (ob : Objs) (all : List Nat) : liveClo ob all [] = true := _root_.id rfl
def liveC (ob : Objs) (all : List Nat) (l : Nat) : Bool := match obAt ob l with | some o => subB (refsQ o.cells) all | none => false
@[go_sem] theorem liveClo_cons (ob : Objs) (all : List Nat) (l : Nat) (r : List Nat) : liveClo ob all (l :: r) = (liveC ob all l && liveClo ob all r) := _root_.id rfl
@[go_sem] theorem liveC_some (all : List Nat) (o : Ob) (r : Objs) : liveC (some o :: r) all 0 = subB (refsQ o.cells) all := _root_.id rfl
@[go_sem] theorem liveC_succ (all : List Nat) (x : Option Ob) (r : Objs) (l : Nat) : liveC (x :: r) all (l + 1) = liveC r all l := _root_.id rfl
@[go_sem] theorem renO_nil (g : Nat → Nat) : renO g [] = [] := _root_.id rfl
@[go_sem] theorem renO_some (g : Nat → Nat) (e : Nat) (cs : List V) (r : Objs) : renO g (some ⟨e, cs⟩ :: r) = some ⟨e, V.renL g cs⟩ :: renO g r := _root_.id rfl
@[go_sem] theorem renO_none (g : Nat → Nat) (r : Objs) : renO g (none :: r) = none :: renO g r := _root_.id rfl
@[go_sem] theorem obAt_zero (o : Ob) (r : Objs) : obAt (some o :: r) 0 = some o := _root_.id rfl
@[go_sem] theorem obAt_succ (x : Option Ob) (r : Objs) (i : Nat) : obAt (x :: r) (i + 1) = obAt r i := _root_.id rfl
@[go_sem] theorem ble_dec (a b : Nat) : Nat.ble a b = decide (a ≤ b) := by
  cases h : Nat.ble a b with
  | true => simp [Nat.le_of_ble_eq_true h]
  | false =>
    have : ¬ a ≤ b := fun hle => by have := Nat.ble_eq_true_of_le hle; rw [h] at this; cases this
    simp [this]
attribute [go_sem] goneAll obM putAll ioOk ioN List.getD_cons_zero List.getD_cons_succ
@[go_sem] theorem blt_dec (a b : Nat) : Nat.blt a b = decide (a < b) := by
  unfold Nat.blt
  rw [ble_dec]
  rfl
end

/-! ### arithmetic -/

@[go_sem] theorem wrap_i64_id (x : Int) (h : -9223372036854775808 ≤ x ∧ x ≤ 9223372036854775807) : IntKind.wrap .i64 x = x := by
  rw [IntKind.wrap_i64]
  omega
@[go_sem low] theorem dec_t (p : Prop) [Decidable p] (h : p) : decide p = true := decide_eq_true h
@[go_sem low] theorem dec_f (p : Prop) [Decidable p] (h : ¬ p) : decide p = false := decide_eq_false h
@[go_sem low] theorem beq_t (x y : Int) (h : x = y) : (x == y) = true := by simp [h]
@[go_sem low] theorem beq_f (x y : Int) (h : x ≠ y) : (x == y) = false := by simp [h]
@[go_sem low] theorem bne_t (x y : Int) (h : x ≠ y) : (x != y) = true := by simp [h]
@[go_sem low] theorem bne_f (x y : Int) (h : x = y) : (x != y) = false := by simp [h]

end Go.AG

/-
  AG, part O: loops with a condition beside their relation; plain lemmas on lists of numbers. Conditions: none.
-/
set_option linter.unusedSimpArgs false
set_option linter.unusedVariables false
namespace Go.AG
open Go.RowKit

/-! ### lists of numbers -/

theorem gi_lt (xs : List Int) (i : Nat) (h : i < xs.length) : gi xs i = xs[i] := by simp [gi, h]
theorem gi_mem (xs : List Int) (i : Nat) (h : i < xs.length) : gi xs i ∈ xs := by rw [gi_lt xs i h]; exact List.getElem_mem h
theorem take_succ_gi (xs : List Int) (i : Nat) (h : i < xs.length) : xs.take (i + 1) = xs.take i ++ [gi xs i] := by
  rw [List.take_succ_eq_append_getElem h, gi_lt xs i h]
theorem gi_append_left (xs ys : List Int) (i : Nat) (h : i < xs.length) : gi (xs ++ ys) i = gi xs i := by
  simp [gi, List.getElem?_append_left h]
theorem gi_append_right (xs ys : List Int) (i : Nat) (h : xs.length ≤ i) : gi (xs ++ ys) i = gi ys (i - xs.length) := by
  simp [gi, List.getElem?_append_right h]
theorem gi_set_same (xs : List Int) (i : Nat) (n : Int) (h : i < xs.length) : gi (xs.set i n) i = n := by simp [gi, h]
theorem gi_set_ne (xs : List Int) (i j : Nat) (n : Int) (h : i ≠ j) : gi (xs.set i n) j = gi xs j := by simp [gi, h]
theorem gi_ext {xs ys : List Int} (hl : xs.length = ys.length) (h : ∀ i, i < xs.length → gi xs i = gi ys i) : xs = ys := by
  apply List.ext_getElem hl
  intro i h1 h2
  have := h i h1
  rwa [gi_lt xs i h1, gi_lt ys i h2] at this

theorem snoc_ind {α : Type} {M : List α → Prop} (h0 : M []) (h1 : ∀ xs x, M xs → M (xs ++ [x])) (xs : List α) : M xs := by
  have : ∀ ys : List α, M ys.reverse := by
    intro ys
    induction ys with
    | nil => exact h0
    | cons y ys ih => rw [List.reverse_cons]; exact h1 _ _ ih
  have h := this xs.reverse
  rwa [List.reverse_reverse] at h

/-- a sum as Go has it -/
def wsum (xs : List Int) : Int := xs.foldl (fun a x => IntKind.wrap .i64 (a + x)) 0
theorem wsum_snoc (xs : List Int) (x : Int) : wsum (xs ++ [x]) = IntKind.wrap .i64 (wsum xs + x) := by simp [wsum]
theorem wsum_nil : wsum [] = 0 := rfl
/-- the sum itself -/
def sumI (xs : List Int) : Int := xs.foldr (· + ·) 0
theorem sumI_nil : sumI [] = 0 := rfl
theorem sumI_cons (x : Int) (xs : List Int) : sumI (x :: xs) = x + sumI xs := rfl
theorem sumI_append (xs ys : List Int) : sumI (xs ++ ys) = sumI xs + sumI ys := by
  induction xs with
  | nil => simp [sumI_nil]
  | cons x xs ih => simp [sumI_cons, ih]; omega
theorem wsum_eq (xs : List Int) (b : Int) (hb : 0 ≤ b) (h : ∀ x ∈ xs, -b ≤ x ∧ x ≤ b) (hl : b * xs.length ≤ 9223372036854775807) : wsum xs = sumI xs ∧ -(b * xs.length) ≤ sumI xs ∧ sumI xs ≤ b * xs.length := by
  revert h hl
  refine snoc_ind (M := fun xs => (∀ x ∈ xs, -b ≤ x ∧ x ≤ b) → b * xs.length ≤ 9223372036854775807 → wsum xs = sumI xs ∧ -(b * xs.length) ≤ sumI xs ∧ sumI xs ≤ b * xs.length) ?_ ?_ xs
  · intro _ _; exact ⟨rfl, by simp [sumI_nil], by simp [sumI_nil]⟩
  · intro xs x ih h hl
    have hx := h x (by simp)
    have e1 : b * ((xs ++ [x]).length : Int) = b * xs.length + b := by simp [Int.mul_add]
    rw [e1] at hl ⊢
    have := ih (fun y hy => h y (by simp [hy])) (by omega)
    have e2 : sumI (xs ++ [x]) = sumI xs + x := by rw [sumI_append, sumI_cons, sumI_nil]; omega
    rw [wsum_snoc, e2, this.1]
    rw [wrap_i64_id _ (by omega)]
    omega

theorem set_fill (xs : List Int) (k : Nat) (z : Int) (h : k < xs.length) : (xs.take k ++ List.replicate (xs.length - k) z).set k (gi xs k) = xs.take (k + 1) ++ List.replicate (xs.length - (k + 1)) z := by
  have e : xs.length - k = (xs.length - (k + 1)) + 1 := by omega
  rw [e, List.replicate_succ, take_succ_gi xs k h, List.set_append_right _ _ (by simp; omega)]
  simp [Nat.min_eq_left (Nat.le_of_lt h)]
theorem take_all (xs : List Int) (k : Nat) (h : xs.length ≤ k) : xs.take k = xs := List.take_of_length_le h

theorem all_snoc (q : Int → Bool) (xs : List Int) (k : Nat) (h : k < xs.length) (he : (xs.take k).all q = true) (hq : q (gi xs k) = true) : (xs.take (k + 1)).all q = true := by
  rw [take_succ_gi xs k h, List.all_append, he]; simp [hq]
theorem all_no (q : Int → Bool) (xs : List Int) (k : Nat) (h : k < xs.length) (hq : q (gi xs k) = false) : xs.all q = false := by
  rw [List.all_eq_false]
  exact ⟨gi xs k, gi_mem xs k h, by simp [hq]⟩

end Go.AG

/-
  AG, part Q: from a contract to what a law's frame asks of the walk. Conditions: none.
-/
set_option linter.unusedSimpArgs false
set_option linter.unusedVariables false
namespace Go.AG
open Go.RowKit

theorem HOk.start (w : World) (ρ : Nat → Pl) : HOk ⟨w, fun _ => False, ownB ρ [], 0, ρ⟩ w ρ [] where
  os := rfl
  tape := rfl
  output := rfl
  size := Nat.le_refl _
  frame := fun _ _ _ => rfl
  xlt := fun _ h => h.elim
  obj := fun l o ho => by simp [Live] at ho
  fresh := fun l o ho => by simp [Live] at ho
  inj := fun l _ o _ ho => by simp [Live] at ho
  stay := fun l o _ ho => by simp [Live] at ho

/-- a list of machine values that reads as a list of abstract ones, nobody owning anything -/
def Args (w : World) : List Value → List V → Prop
  | [], [] => True
  | v :: vs, x :: xs => RepC w (fun _ => False) (fun _ => ⟨0, 0, 0⟩) [] v x ∧ Args w vs xs
  | _, _ => False

theorem Args.get {w : World} : ∀ {vs : List Value} {xs : List V}, Args w vs xs → vs.length = xs.length ∧ ∀ i (h : i < xs.length), RepC w (fun _ => False) (fun _ => ⟨0, 0, 0⟩) [] (vs.getD i undef) xs[i]
  | [], [], _ => ⟨rfl, fun i h => absurd h (by simp)⟩
  | v :: vs, x :: xs, h => by
    obtain ⟨h1, h2⟩ := Args.get h.2
    refine ⟨by simp [h1], fun i hi => ?_⟩
    cases i with
    | zero => exact h.1
    | succ i => exact h2 i (by simpa using hi)
  | [], _ :: _, h => h.elim
  | _ :: _, [], h => h.elim

theorem walk_of {P : Program} (hno : (knownVars.all fun q => (P.globalNamed q.1).isNone) = true) {f : FuncId} {args : List V} (h : ACalls P f args [] (fun r o => r = B true ∧ o = [])) {w : World} {vs : List Value} (ha : Args w vs args) :
    Calls P f vs.toArray w fun e w' => e = .returned (.bool true) ∧ Below w.heap.size w w' := by
  obtain ⟨hs, hr⟩ := ha.get
  refine (h.2 w (fun _ => False) (fun _ => ⟨0, 0, 0⟩) vs.toArray (Laid.none hno) (by simpa using hs) (HOk.start w _) (fun i hi => ?_)).mono ?_
  · have hi2 : i < vs.length := by omega
    have := hr i hi
    have e : vs.toArray.getD i undef = vs.getD i undef := by simp [Array.getD, List.getD, hi2]
    rw [e]
    refine this.mono' (fun _ _ _ h => h) (fun b _ hb => ?_) (fun l o ho => by simp [Live] at ho)
    rcases hb with hb | hb
    · exact hb
    · exact own_nil hb
  · rintro e w' ⟨v, r, ob', ρ', rfl, ⟨rfl, rfl⟩, hh, hr⟩
    rw [sc_of hr]
    exact ⟨rfl, hh.os, hh.tape, hh.output, hh.size, fun b hb => hh.frame b hb own_nil⟩

theorem row_rep {k : IntKind} {w : World} {a : Option Addr} {len cap : Nat} {zs : List Int} (h : (a = none ∧ len = 0 ∧ cap = 0 ∧ zs = []) ∨
    ∃ x, a = some x ∧ len ≤ cap ∧ cap ≤ maxLen ∧ zs.length = cap ∧ (∀ i, i < zs.length → w.cell? (x.add i) = some (.int k (zs.getD i 0))) ∧ ∀ n ∈ zs, (Lit.int k n).wf = true) :
    RepD w (fun _ => False) (.slice a len cap) (.sl len ((zs.take len).map fun n => V.sc (.int k n))) := by
  rcases h with ⟨rfl, rfl, rfl, rfl⟩ | ⟨x, rfl, hl, hm, hz, hc, _⟩
  · exact .nil
  · by_cases hcap : cap = 0
    · subst hcap
      have h0 : len = 0 := by omega
      subst h0
      have : zs = [] := List.eq_nil_of_length_eq_zero hz
      subst this
      exact .sl0 x
    have hspot : x.spot = none := by
      have := hc 0 (by omega)
      simp only [Addr.add_zero'] at this
      cases hs : x.spot with
      | none => rfl
      | some q => simp [World.cell?, hs] at this; split at this <;> simp at this
    obtain ⟨b, o, sp⟩ := x
    simp only at hspot
    subst hspot
    refine .sl (fun i => .int k (zs.getD i 0)) (fun i hi => ?_) (fun i hi => ?_) (fun _ h => h) hl
    · have hi2 : i < zs.length := by simp at hi; omega
      have := hc i hi2
      rwa [Addr.add_lit] at this
    · have hi2 : i < zs.length := by simp at hi; omega
      have : ((zs.take len).map fun n => V.sc (.int k n))[i] = V.sc (.int k (zs.getD i 0)) := by simp [hi2]
      rw [this]
      exact .sc _

theorem row_len {k : IntKind} {w : World} {a : Option Addr} {len cap : Nat} {zs : List Int} (h : (a = none ∧ len = 0 ∧ cap = 0 ∧ zs = []) ∨
    ∃ x, a = some x ∧ len ≤ cap ∧ cap ≤ maxLen ∧ zs.length = cap ∧ (∀ i, i < zs.length → w.cell? (x.add i) = some (.int k (zs.getD i 0))) ∧ ∀ n ∈ zs, (Lit.int k n).wf = true) : (zs.take len).length = len := by
  rcases h with ⟨rfl, rfl, rfl, rfl⟩ | ⟨x, rfl, hl, hm, hz, hc, _⟩
  · rfl
  · simp; omega
theorem row_iS {w : World} {a : Option Addr} {len cap : Nat} {zs : List Int} (h : (a = none ∧ len = 0 ∧ cap = 0 ∧ zs = []) ∨
    ∃ x, a = some x ∧ len ≤ cap ∧ cap ≤ maxLen ∧ zs.length = cap ∧ (∀ i, i < zs.length → w.cell? (x.add i) = some (.int .i64 (zs.getD i 0))) ∧ ∀ n ∈ zs, (Lit.int .i64 n).wf = true) :
    RepD w (fun _ => False) (.slice a len cap) (iS (zs.take len)) := by
  have h1 := row_rep h
  have h2 := row_len h
  unfold iS
  rw [h2]
  exact h1

attribute [go_sem] Nat.reduceEqDiff Nat.reduceAdd Nat.reduceMul Nat.reduceSub Int.reduceToNat Int.reduceAdd Int.reduceSub Int.reduceMul Int.reduceNeg
end Go.AG
