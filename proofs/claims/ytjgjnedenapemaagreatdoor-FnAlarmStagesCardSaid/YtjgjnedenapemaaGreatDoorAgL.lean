/-
  AG, merged parts K L. Conditions: none.
-/
import Derived.Test.YtjgjnedenapemaaGreatDoorAgJe
import Derived.Deep.LoopGhost
/-
  AG, part K: the verification condition of a piece of code, and that it is enough. Conditions: none.
-/
set_option linter.unusedSimpArgs false
set_option linter.unusedVariables false
namespace Go.AG
open Go.RowKit

def keepL (s : AState) : List Nat → List (Nat × V)
  | [] => []
  | t :: r => (t, s.get t) :: keepL s r
/-- all slots but some forgotten -/
def AState.keep (s : AState) (ks : List Nat) : AState := { s with sl := keepL s ks }
theorem lk_keepL (s : AState) (t : Nat) (ks : List Nat) : lk t (keepL s ks) = s.get t ∨ lk t (keepL s ks) = .junk := by
  induction ks with
  | nil => exact .inr rfl
  | cons u r ih =>
    simp only [keepL, lk]
    cases hb : Nat.beq u t with
    | true => left; rw [Nat.eq_of_beq_eq_true hb]; rfl
    | false => exact ih
theorem Sat.keep {F : Fr} {s : AState} {ρ : Nat → Pl} {a : Act} {w : World} (h : Sat F s ρ a w) (ks : List Nat) : Sat F (s.keep ks) ρ a w where
  heap := h.heap
  dfs := h.dfs
  size := h.size
  k := h.k
  kle := h.kle
  slot := fun t => by
    show RepC _ _ _ _ _ (lk t (keepL s ks))
    rcases lk_keepL s t ks with e | e
    · rw [e]; exact h.slot t
    · rw [e]; exact .junk

/-- some owned objects are frozen: their holders see them as plain lists from here on; some slots are forgotten -/
inductive Frz : AState → AState → Prop
  | refl (s : AState) : Frz s s
  | keep {s t : AState} (ks : List Nat) (h : Frz (s.keep ks) t) : Frz s t
  | step {s t : AState} (l : Nat) (o : Ob) (ho : Live s.ob l o) (hi : V.immL o.cells = true)
      (h : Frz { s with sl := trS (V.frz (oneF l o)) s.sl, ob := (trO (V.frz (oneF l o)) s.ob).set l none } t) : Frz s t

theorem Sat.frz {F : Fr} {s t : AState} {ρ : Nat → Pl} {a : Act} {w : World} (h : Sat F s ρ a w) (hf : Frz s t) : Sat F t ρ a w := by
  induction hf with
  | refl => exact h
  | keep ks _ ih => exact ih (h.keep ks)
  | @step s t l o ho hi _ ih =>
    obtain ⟨h1, h2⟩ := h.heap.freeze ho hi
    exact ih (h.of_heap (V.frz (oneF l o)) rfl h1 (by simpa [trO] using h.kle) h2)

/-- t is s, some objects frozen, some slots and objects forgotten -/
def leF (s t : AState) : Prop := ∃ s1, Frz s s1 ∧ (leS s1 t ∨ leP s1 t)

theorem Sat.leF {F : Fr} {s t : AState} {ρ : Nat → Pl} {a : Act} {w : World} (h : Sat F s ρ a w) (hl : AG.leF s t) : ∃ ρ', Sat F t ρ' a w := by
  obtain ⟨s1, h1, h2 | h2⟩ := hl
  · exact ⟨ρ, (h.frz h1).le h2⟩
  · exact (h.frz h1).leP h2

/-- a pure call -/
def vCall (P : Program) (s : AState) (fv : V) (args : List V) (d : Option Nat) (K : AState → Prop) : Prop := match fv with
  | .fn f caps => ∃ Q, ACalls P f (V.frzL (viewF s.ob) (args ++ caps)) [] Q ∧ V.norefL (V.frzL (viewF s.ob) (args ++ caps)) = true ∧
      ∀ r ob', Q r ob' → (V.norefL (args ++ caps) = true ∨ (r.flat = true ∧ flatO ob' = true)) ∧ fin d K { s with ob := s.ob ++ renO (fun l => l + s.ob.length) ob' } (r.ren fun l => l + s.ob.length)
  | _ => False

/-- a call that is handed the objects ls, to be written -/
def vCallIO (P : Program) (s : AState) (ls : List Nat) (fv : V) (args : List V) (d : Option Nat) (K : AState → Prop) : Prop := match fv with
  | .fn f caps => nodupB ls = true ∧ liveClo s.ob ls ls = true ∧ (∀ l ∈ V.refsL (args ++ caps), l ∈ ls) ∧ ∃ Q, ACalls P f (V.renL (ls.idxOf ·) (args ++ caps)) (ioOb s.ob ls) Q ∧
      ∀ r ob', Q r ob' → ioOk s.ob ls ob' ∧ fin d K { s with ob := putAll s.ob ls (renO (ioN ls s.ob.length) ob') ++ (renO (ioN ls s.ob.length) ob').drop ls.length } (r.ren (ioN ls s.ob.length))
  | _ => False

/-- a call that is handed the objects la, to be written, and the objects lb, for good -/
def vCallM (P : Program) (s : AState) (la lb : List Nat) (fv : V) (args : List V) (d : Option Nat) (K : AState → Prop) : Prop := match fv with
  | .fn f caps => nodupB (la ++ lb) = true ∧ liveClo s.ob (la ++ lb) (la ++ lb) = true ∧ (∀ l ∈ V.refsL (args ++ caps), l ∈ la ++ lb) ∧ ∃ Q, ACallsM P f (V.renL ((la ++ lb).idxOf ·) (args ++ caps)) la.length (ioOb s.ob (la ++ lb)) Q ∧
      ∀ r ob', Q r ob' → ioOk s.ob la ob' ∧ fin d K { s with sl := trS (V.kill fun l => elemN l lb) s.sl, ob := obM s.ob la lb (renO (ioN la s.ob.length) ob') } (r.ren (ioN la s.ob.length))
  | _ => False

/-- a call, some objects frozen ahead of it -/
def vCallX (P : Program) (s : AState) (fo : Operand) (args : List Operand) (d : Option Nat) (K : AState → Prop) : Prop :=
  ∃ s1, Frz s s1 ∧ (vCall P s1 (s1.ev fo) (args.map s1.ev) d K ∨ (∃ ls, vCallIO P s1 ls (s1.ev fo) (args.map s1.ev) d K) ∨ ∃ la lb, vCallM P s1 la lb (s1.ev fo) (args.map s1.ev) d K)

/-- a call in a region whose order is open: it hands back a known scalar -/
def vqCall (P : Program) (s : AState) (fv : V) (args : List V) (d : Option Nat) (K : AState → Prop) : Prop := match fv with
  | .fn f caps => ∃ v, ACalls P f (V.frzL (viewF s.ob) (args ++ caps)) [] (fun r _ => r = .sc v) ∧ V.norefL (V.frzL (viewF s.ob) (args ++ caps)) = true ∧ fin d K s (.sc v)
  | _ => False

def isMem : Op → Bool
  | .alloc _ => true
  | .box _ _ => true
  | .build _ _ => true
  | .buildSlice _ _ _ => true
  | .makeSlice _ _ _ => true
  | .store _ _ _ => true
  | .call { callee := .builtin .append, .. } => true
  | .call { callee := .builtin .delete, .. } => true
  | .makeMap _ _ => true
  | .mapUpdate _ _ _ _ => true
  | .insert _ _ _ _ => true
  | _ => false

def vcOp (P : Program) (o : Oper) (K : AState → Prop) (s : AState) : Prop :=
  match o.op with
  | .call { callee := .value f, args, argTypes := _ } => vCallX P s f args.toList o.dst K
  | op => match isMem op with
    | true => mop P s o K
    | false => qop P s op (fin o.dst K s)

/-- what a guard's slot holds: a Boolean, or nothing where its own operation was passed over -/
def gval : Option Bool → V
  | some b => .sc (.bool b)
  | none => .sc undef

/-- a guard's value -/
def gv (all : List Oper) (s : AState) (j : Nat) : V := match (all[j]?).bind (·.dst) with
  | some t => s.get t
  | none => .junk

def vcOps (P : Program) (all : List Oper) : List Oper → (AState → Prop) → AState → Prop
  | [], K, s => K s
  | o :: os, K, s => match o.guard with
    | none => vcOp P o (vcOps P all os K) s
    | some (j, want) => ∃ b, gv all s j = gval b ∧ (b = some want → vcOp P o (vcOps P all os K) s) ∧ (b ≠ some want → fin o.dst (vcOps P all os K) s (.sc undef))

def vqOp (P : Program) (o : Oper) (K : AState → Prop) (s : AState) : Prop :=
  match o.op with
  | .call { callee := .value f, args, argTypes := _ } => vqCall P s (s.ev f) (args.toList.map s.ev) o.dst K
  | op => qop P s op (fin o.dst K s)

def vqOps (P : Program) (all : List Oper) : List Oper → (AState → Prop) → AState → Prop
  | [], K, s => K s
  | o :: os, K, s => match o.guard with
    | none => vqOp P o (vqOps P all os K) s
    | some (j, want) => ∃ b, gv all s j = gval b ∧ (b = some want → vqOp P o (vqOps P all os K) s) ∧ (b ≠ some want → fin o.dst (vqOps P all os K) s (.sc undef))

/-- an operation that is no read; R: the objects read so far, which it may not write -/
def vgOp (P : Program) (o : Oper) (R : List Nat) (K : AState → Prop) (s : AState) : Prop :=
  match o.op with
  | .call { callee := .value f, args, argTypes := _ } => ∃ s1, Frz s s1 ∧ (vCall P s1 (s1.ev f) (args.toList.map s1.ev) o.dst K ∨ ∃ ls, (∀ l ∈ ls, l ∉ R) ∧ vCallIO P s1 ls (s1.ev f) (args.toList.map s1.ev) o.dst K)
  | op => isMem op = true ∧ (∀ l ∈ wset s op, l ∉ R) ∧ mop P s o K

def vsOp (P : Program) (o : Oper) (R : List Nat) (K : List Nat → AState → Prop) (s : AState) : Prop :=
  bif rdB o.op then qop P s o.op (fin o.dst (K ((rdOf s o.op).toList ++ R)) s) else vgOp P o R (K R) s

/-- a head in the order of its schedule; true: a read that comes up alone -/
def vSch (P : Program) (all : List Oper) (K : AState → Prop) : List (Oper × Bool) → List Nat → AState → Prop
  | [], _, s => K s
  | (o, false) :: r, R, s => match o.guard with
    | none => vsOp P o R (vSch P all K r) s
    | some (j, want) => ∃ b, gv all s j = gval b ∧ (b = some want → vsOp P o R (vSch P all K r) s) ∧ (b ≠ some want → fin o.dst (vSch P all K r R) s (.sc undef))
  | (o, true) :: r, R, s => match o.guard with
    | none => qop P s o.op (fin o.dst (vSch P all K r R) s)
    | some _ => False

def nthO : List Oper → Nat → Oper
  | [], _ => default
  | o :: _, 0 => o
  | _ :: os, n + 1 => nthO os n

/-- an operation with its guard -/
def vOG (P : Program) (all : List Oper) (o : Oper) (KK : List Nat → AState → Prop) (R : List Nat) (s : AState) : Prop := match o.guard with
  | none => vsOp P o R KK s
  | some (j, want) => ∃ b, gv all s j = gval b ∧ (b = some want → vsOp P o R KK s) ∧ (b ≠ some want → fin o.dst (KK R) s (.sc undef))
/-- a head in all orders -/
def vTr (P : Program) (all : List Oper) (K : AState → Prop) : Tr Oper → List Nat → AState → Prop
  | .done, _, s => K s
  | .stop, _, _ => True
  | .rd o t, R, s => vOG P all o (vTr P all K t) R s
  | .alt o t r, R, s => vOG P all o (vTr P all K t) R s ∧ vTr P all K r R s

def vDraw (P : Program) (ops : Array Oper) (K : AState → Prop) (s : AState) : Prop :=
  P.follows .mixedOrders = true ∧ ((Region.lexB .any ops = true ∧ vqOps P ops.toList ops.toList K s) ∨
    (∃ n, Region.lexTailB .any ops n = true ∧ vqOps P ops.toList (ops.toList.take n) (vcOps P ops.toList (ops.toList.drop n) K) s) ∨
    (∃ n sch, schOk .any ops n sch = true ∧ vSch P ops.toList (vcOps P ops.toList (ops.toList.drop n) K) (sch.map fun q => (nthO ops.toList q.1, q.2)) [] s) ∨
    ∃ (n : Nat) (t : Tr Nat) (β : Type) (p : β → Prop) (J : β → AState), trOk .any ops n t = true ∧ vTr P ops.toList (fun s => ∃ x, p x ∧ leF s (J x)) (t.map (nthO ops.toList)) [] s ∧
      ∀ x, p x → vcOps P ops.toList (ops.toList.drop n) K (J x))

def seqK (y : AState → Prop) (Q : Exit → AState → Prop) : Exit → AState → Prop
  | .normal => y
  | e => Q e

def blkK (id : Nat) (Q : Exit → AState → Prop) : Exit → AState → Prop
  | .exit i => fun s => bif Nat.beq i id then Q .normal s else Q (.exit i) s
  | e => Q e

def loopK {α : Type} (p : α → Prop) (I : α → AState) (μ : α → Nat) (x : α) (Q : Exit → AState → Prop) : Exit → AState → Prop
  | .normal => fun s => ∃ x', p x' ∧ μ x' < μ x ∧ leF s (I x')
  | e => Q e

/-- branches that end alike go on from one state (out of a family J) -/
def jnN {β : Type} (p : β → Prop) (J : β → AState) (Q : Exit → AState → Prop) : Exit → AState → Prop
  | .normal => fun s => ∃ x, p x ∧ leF s (J x)
  | e => Q e
def jnX {β : Type} (i : Nat) (p : β → Prop) (J : β → AState) (Q : Exit → AState → Prop) : Exit → AState → Prop
  | .exit j => fun s => bif Nat.beq j i then ∃ x, p x ∧ leF s (J x) else Q (.exit j) s
  | e => Q e

/-- THE VERIFICATION CONDITION -/
def vc (P : Program) : Code → (Exit → AState → Prop) → AState → Prop
  | .skip, Q, s => Q .normal s
  | .label _, Q, s => Q .normal s
  | .region _ ops draw, Q, s => match draw with
    | false => vcOps P ops.toList ops.toList (Q .normal) s
    | true => vDraw P ops (Q .normal) s
  | .seq x y, Q, s => vc P x (seqK (vc P y Q) Q) s
  | .cond c x y, Q, s => ∃ b, s.ev c = .sc (.bool b) ∧ (((b = true → vc P x Q s) ∧ (b = false → vc P y Q s)) ∨
      ∃ (β : Type) (p : β → Prop) (J : β → AState), (b = true → vc P x (jnN p J Q) s) ∧ (b = false → vc P y (jnN p J Q) s) ∧ ∀ x, p x → Q .normal (J x))
  | .block id c, Q, s => vc P c (blkK id Q) s
  | .loop c, Q, s => ∃ Q', (Q' = Q ∨ ∃ (i : Nat) (β : Type) (p : β → Prop) (J : β → AState), Q' = jnX i p J Q ∧ ∀ x, p x → Q (.exit i) (J x)) ∧
      ∃ (α : Type) (p : α → Prop) (I : α → AState) (μ : α → Nat) (x0 : α), p x0 ∧ leF s (I x0) ∧ ∀ x, p x → vc P c (loopK p I μ x Q') (I x)
  | .exit id, Q, s => Q (.exit id) s
  | .ret, Q, s => Q .ret s
  | _, _, _ => False

section
variable {P : Program} {F : Fr}

theorem sound_mop {s : AState} {ρ : Nat → Pl} {a : Act} {w : World} (h : Sat F s ρ a w) (o : Oper) (K : AState → Prop) (hm : mop P s o K) : Does P F s ρ a w o K := by
  have hm' := hm
  unfold mop at hm
  split at hm
  case h_1 t e => exact does_alloc h o t e K hm'
  case h_2 t x e => exact does_box h o t x e K hm'
  case h_3 t len parts e => exact does_buildSlice h o t len parts e K hm'
  case h_4 t l c e => exact does_makeSlice h o t l c e K hm'
  case h_5 t parts e => exact does_build h o t parts e K hm'
  case h_6 t p x e => exact does_store h o t p x e K hm'
  case h_7 args argTypes e =>
    split at hm
    case h_2 => exact hm.elim
    rename_i x y t u e1 e2
    have e1' : args = #[x, y] := by apply Array.ext'; simpa using e1
    have e2' : argTypes = #[t, u] := by apply Array.ext'; simpa using e2
    subst e1' e2'
    split at hm
    case isFalse => exact does_appendS h o x y t u e K hm
    rename_i etu
    subst etu
    unfold vAppD at hm
    split at hm
    case h_2 => exact hm.elim
    rename_i e3 hd
    exact does_append h o x y t e3 e hd K hm
  case h_8 t r e => exact does_makeMap h o t r e K hm'
  case h_9 t m k v e => exact does_mapUpdate h o t m k v e K hm'
  case h_10 t m k v e => exact does_insert h o t m k v e K hm'
  case h_11 args argTypes e =>
    split at hm
    case h_2 => exact hm.elim
    rename_i m k t u e1 e2
    have e1' : args = #[m, k] := by apply Array.ext'; simpa using e1
    have e2' : argTypes = #[t, u] := by apply Array.ext'; simpa using e2
    subst e1' e2'
    exact does_delete h o t u m k e K hm
  case h_12 => exact hm.elim

end

section
variable {P : Program} {F : Fr} [hL : Nonempty (PLift (Laid P F.W F.X))]

/-- a condition on abstract states, as one on frames and worlds -/
def lift (F : Fr) (Q : Exit → AState → Prop) (e : Exit) (a : Act) (w : World) : Prop := ∃ s ρ, Q e s ∧ Sat F s ρ a w

theorem frz_args {s : AState} {ρ : Nat → Pl} {a : Act} {w : World} (h : Sat F s ρ a w) {X : Nat → Prop} (hX : ∀ b, X b → F.Y ρ s.ob b) (hX2 : ∀ l o, viewF s.ob l = some o → ¬ X (ρ l).blk)
    (hok : ∀ l o, viewF s.ob l = some o → True) {v : Value} {x : V} (hr : RepC w (F.Y ρ s.ob) ρ s.ob v x) (hn : (x.frz (viewF s.ob)).noref = true) :
    RepC w X ρ [] v (x.frz (viewF s.ob)) := by
  have h1 : RepC w X ρ s.ob v (x.frz (viewF s.ob)) := hr.frz (viewF s.ob) (fun l o hf => ⟨(viewF_some hf).1, (viewF_some hf).2, h.heap.obj l o (viewF_some hf).1⟩) (fun b _ hb => hX b hb) hX2
    (fun l o ho _ => ⟨o, ho, rfl, rfl⟩)
  exact h1.unref hn

mutual
theorem frz_noref (f : Nat → Option Ob) (x : V) (h : x.noref = true) : x.frz f = x := by
  cases x with
  | fn g caps => simp only [V.noref] at h; simp only [V.frz]; rw [frzL_noref f caps h]
  | agg xs => simp only [V.noref] at h; simp only [V.frz]; rw [frzL_noref f xs h]
  | tup xs => simp only [V.noref] at h; simp only [V.frz]; rw [frzL_noref f xs h]
  | ifc t x => simp only [V.noref] at h; simp only [V.frz]; rw [frz_noref f x h]
  | ref => simp [V.noref] at h
  | ptr => simp [V.noref] at h
  | _ => rfl
theorem frzL_noref (f : Nat → Option Ob) (xs : List V) (h : V.norefL xs = true) : V.frzL f xs = xs := by
  cases xs with
  | nil => rfl
  | cons x xs =>
    simp only [V.norefL, Bool.and_eq_true] at h
    simp only [V.frzL]
    rw [frz_noref f x h.1, frzL_noref f xs h.2]
end

theorem exec_call {a : Act} {w : World} {o : Oper} {fo : Operand} {args : Array Operand} {at_ : Array TypeId} (he : o.op = .call { callee := .value fo, args := args, argTypes := at_ }) {f : FuncId} {cs : Array Value}
    (hf : a.eval fo = .func (.func f) #[] cs) (hb : HasBody P f) : (execOp a.eval o).run P w = .ok (.enter f (args.map a.eval ++ cs)) w := by
  obtain ⟨fn, h1, h2, h3⟩ := hb
  unfold execOp
  simp only [he, resolve, hf, Deferred.ofValue, invoke, callFunc]
  have h2' : ¬ fn.name = "runtime.NumGoroutine" := by simpa using h2
  have h3' : ¬ fn.body = none := by intro e; rw [e] at h3; simp at h3
  simp [h1, h2', h3']

theorem fn_value {w : World} {Y : Nat → Prop} {ρ : Nat → Pl} {ob : Objs} {v : Value} {f : FuncId} {caps : List V} (h : RepC w Y ρ ob v (.fn f caps)) :
    ∃ cs : Array Value, v = .func (.func f) #[] cs ∧ cs.size = caps.length ∧ ∀ i (hi : i < caps.length), RepC w Y ρ ob (cs.getD i undef) caps[i] := by
  cases h with
  | d h => cases h with | @fn f cs caps hs hr => exact ⟨cs, rfl, hs, fun i hi => .d (hr i hi)⟩
  | @fn f cs caps hs hr => exact ⟨cs, rfl, hs, hr⟩

theorem args_rep {s : AState} {ρ : Nat → Pl} {a : Act} {w : World} (h : Sat F s ρ a w) (args : Array Operand) (cs : Array Value) (caps : List V) (hs : cs.size = caps.length)
    (hr : ∀ i (hi : i < caps.length), RepC w (F.Y ρ s.ob) ρ s.ob (cs.getD i undef) caps[i]) : (args.map a.eval ++ cs).size = (args.toList.map s.ev ++ caps).length ∧
    ∀ i (hi : i < (args.toList.map s.ev ++ caps).length), RepC w (F.Y ρ s.ob) ρ s.ob ((args.map a.eval ++ cs).getD i undef) (args.toList.map s.ev ++ caps)[i] := by
  refine ⟨by simp [hs], fun i hi => ?_⟩
  by_cases hlt : i < args.size
  · rw [List.getElem_append_left (by simpa using hlt)]
    rw [Array.getD_eq_getD_getElem?, Array.getElem?_append_left (by simpa using hlt)]
    simp only [Array.getElem?_map, Array.getElem?_eq_getElem hlt, Option.map_some, Option.getD_some, List.getElem_map]
    exact h.ev _
  · have hi2 : i - args.size < caps.length := by simp at hi; omega
    rw [List.getElem_append_right (by simpa using Nat.le_of_not_lt hlt)]
    rw [Array.getD_eq_getD_getElem?, Array.getElem?_append_right (by simpa using Nat.le_of_not_lt hlt)]
    have := hr _ hi2
    rw [Array.getD_eq_getD_getElem?] at this
    simpa using this

theorem sound_vCall {s : AState} {ρ : Nat → Pl} {a : Act} {w : World} (h : Sat F s ρ a w) {o : Oper} {fo : Operand} {args : Array Operand} {at_ : Array TypeId}
    (he : o.op = .call { callee := .value fo, args := args, argTypes := at_ }) {K : AState → Prop} (hv : vCall P s (s.ev fo) (args.toList.map s.ev) o.dst K) {next : Act → World → Prop} {Q : Exit → Act → World → Prop}
    (hK : ∀ s' ρ' a' w', K s' → Sat F s' ρ' a' w' → Moved [] s ρ w s' ρ' w' → next a' w') : o.wp P a w next Q := by
  have hf := h.ev fo
  unfold vCall at hv
  split at hv
  case h_2 => exact hv.elim
  rename_i f caps e1
  rw [e1] at hf
  obtain ⟨cs, hfv, hcs, hcr⟩ := fn_value hf
  obtain ⟨QQ, hcall, hnr, hrest⟩ := hv
  obtain ⟨hb, hcall⟩ := hcall
  obtain ⟨hsz, har⟩ := args_rep h args cs caps hcs hcr
  unfold Oper.wp
  rw [exec_call he hfv hb, Oper.upon_enter]
  by_cases hn : V.norefL (args.toList.map s.ev ++ caps) = true
  · -- nothing of the caller's own is handed over
    have hfz := frzL_noref (viewF s.ob) _ hn
    rw [hfz] at hcall hnr
    refine (hcall w (F.Y ρ s.ob) ρ _ (h.heap.laid (laidOut hL) fun _ h => .inl h) hsz (h.callee _ (fun _ h => h)) (fun i hi => ?_)).mono ?_
    · refine (RepC.unref (ρ' := ρ) (ob' := []) (har i hi) (norefL_get hn i hi)).mono' (fun _ _ _ h => h) (fun b _ hb => ?_) (fun l o ho => by simp [Live] at ho)
      rcases hb with hb | hb
      · exact hb
      · exact absurd hb own_nil
    · rintro e w' ⟨v, r, ob', ρ', rfl, hQ, hh, hr⟩
      obtain ⟨_, hfin⟩ := hrest r ob' hQ
      obtain ⟨ρ2, hs2, hr2, hm⟩ := h.called hh hr (.inl fun b hb => hb)
      obtain ⟨h1, h2⟩ := fin_sat hs2 hfin hr2
      exact hK _ _ _ _ h1 h2 (hm.put _ _)
  · refine (hcall w F.X ρ _ (h.heap.laid (laidOut hL) fun _ h => h) (by rw [frzL_eq]; simpa using hsz) (h.callee _ (fun _ h => .inl h)) (fun i hi => ?_)).mono ?_
    · have hi2 : i < (args.toList.map s.ev ++ caps).length := by rw [frzL_eq] at hi; simpa using hi
      have hg : (V.frzL (viewF s.ob) (args.toList.map s.ev ++ caps))[i] = ((args.toList.map s.ev ++ caps)[i]).frz (viewF s.ob) := by simp only [frzL_eq, List.getElem_map]
      have hnr2 := norefL_get hnr i hi
      rw [hg] at hnr2 ⊢
      refine (frz_args h (X := F.X) (fun b hb => .inl hb) (fun l o hf => h.heap.notX (viewF_some hf).1) (fun _ _ _ => trivial) (har i hi2) hnr2).mono' (fun _ _ _ h => h) (fun b _ hb => ?_) (fun l o ho => by simp [Live] at ho)
      rcases hb with hb | hb
      · exact hb
      · exact absurd hb own_nil
    · rintro e w' ⟨v, r, ob', ρ', rfl, hQ, hh, hr⟩
      obtain ⟨hor, hfin⟩ := hrest r ob' hQ
      obtain ⟨ρ2, hs2, hr2, hm⟩ := h.called hh hr (.inr (hor.resolve_left hn))
      obtain ⟨h1, h2⟩ := fin_sat hs2 hfin hr2
      exact hK _ _ _ _ h1 h2 (hm.put _ _)

theorem refsL_get {xs : List V} {i : Nat} (hi : i < xs.length) {l : Nat} (h : l ∈ xs[i].refs) : l ∈ V.refsL xs := mem_refsL i hi h

theorem sound_vCallIO {s : AState} {ρ : Nat → Pl} {a : Act} {w : World} (h : Sat F s ρ a w) {o : Oper} {fo : Operand} {args : Array Operand} {at_ : Array TypeId}
    (he : o.op = .call { callee := .value fo, args := args, argTypes := at_ }) {ls : List Nat} {K : AState → Prop} (hv : vCallIO P s ls (s.ev fo) (args.toList.map s.ev) o.dst K) {next : Act → World → Prop} {Q : Exit → Act → World → Prop}
    (hK : ∀ s' ρ' a' w', K s' → Sat F s' ρ' a' w' → Moved ls s ρ w s' ρ' w' → next a' w') : o.wp P a w next Q := by
  have hf := h.ev fo
  unfold vCallIO at hv
  split at hv
  case h_2 => exact hv.elim
  rename_i f caps e1
  rw [e1] at hf
  obtain ⟨cs, hfv, hcs, hcr⟩ := fn_value hf
  obtain ⟨hn, hl, hrefs, QQ, ⟨hb, hcall⟩, hrest⟩ := hv
  obtain ⟨hsz, har⟩ := args_rep h args cs caps hcs hcr
  unfold Oper.wp
  rw [exec_call he hfv hb, Oper.upon_enter]
  refine (hcall w (ioX F ρ s.ob ls) (ioρ ρ ls) _ (h.heap.laid (laidOut hL) fun _ h => .inl h) (by rw [renL_eq]; simpa using hsz) (h.calleeIO hn hl) (fun i hi => ?_)).mono ?_
  · have hi2 : i < (args.toList.map s.ev ++ caps).length := by rw [renL_eq] at hi; simpa using hi
    have hg : (V.renL (ls.idxOf ·) (args.toList.map s.ev ++ caps))[i] = ((args.toList.map s.ev ++ caps)[i]).ren (ls.idxOf ·) := by simp only [renL_eq, List.getElem_map]
    rw [hg]
    exact h.argIO (har i hi2) (fun l hl2 => hrefs l (mem_refsL i hi2 hl2))
  · rintro e w' ⟨v, r, ob', ρ', rfl, hQ, hh, hr⟩
    obtain ⟨hok, hfin⟩ := hrest r ob' hQ
    obtain ⟨ρ2, hs2, hr2, hm⟩ := h.calledIO hn hl hh hr hok
    obtain ⟨h1, h2⟩ := fin_sat hs2 hfin hr2
    exact hK _ _ _ _ h1 h2 (hm.put _ _)

theorem sound_vCallM {s : AState} {ρ : Nat → Pl} {a : Act} {w : World} (h : Sat F s ρ a w) {o : Oper} {fo : Operand} {args : Array Operand} {at_ : Array TypeId}
    (he : o.op = .call { callee := .value fo, args := args, argTypes := at_ }) {la lb : List Nat} {K : AState → Prop} (hv : vCallM P s la lb (s.ev fo) (args.toList.map s.ev) o.dst K) {next : Act → World → Prop} {Q : Exit → Act → World → Prop}
    (hK : ∀ s' ρ' a' w', K s' → Sat F s' ρ' a' w' → next a' w') : o.wp P a w next Q := by
  have hf := h.ev fo
  unfold vCallM at hv
  split at hv
  case h_2 => exact hv.elim
  rename_i f caps e1
  rw [e1] at hf
  obtain ⟨cs, hfv, hcs, hcr⟩ := fn_value hf
  obtain ⟨hn, hl, hrefs, QQ, ⟨hb, hcall⟩, hrest⟩ := hv
  obtain ⟨hsz, har⟩ := args_rep h args cs caps hcs hcr
  unfold Oper.wp
  rw [exec_call he hfv hb, Oper.upon_enter]
  refine (hcall w (ioX F ρ s.ob (la ++ lb)) (ioρ ρ (la ++ lb)) _ (h.heap.laid (laidOut hL) fun _ h => .inl h) (by rw [renL_eq]; simpa using hsz) (h.calleeM hn hl _) (fun i hi => ?_)).mono ?_
  · have hi2 : i < (args.toList.map s.ev ++ caps).length := by rw [renL_eq] at hi; simpa using hi
    have hg : (V.renL ((la ++ lb).idxOf ·) (args.toList.map s.ev ++ caps))[i] = ((args.toList.map s.ev ++ caps)[i]).ren ((la ++ lb).idxOf ·) := by simp only [renL_eq, List.getElem_map]
    rw [hg]
    exact h.argIO (har i hi2) (fun l hl2 => hrefs l (mem_refsL i hi2 hl2))
  · rintro e w' ⟨v, r, ob', ρ', rfl, hQ, hh, hr⟩
    obtain ⟨hok, hfin⟩ := hrest r ob' hQ
    obtain ⟨ρ2, hs2, hr2⟩ := h.calledM hn hl hh hr hok
    obtain ⟨h1, h2⟩ := fin_sat hs2 hfin hr2
    exact hK _ _ _ _ h1 h2

theorem sound_vcOp {s : AState} {ρ : Nat → Pl} {a : Act} {w : World} (h : Sat F s ρ a w) (o : Oper) {K : AState → Prop} (hv : vcOp P o K s) {next : Act → World → Prop} {Q : Exit → Act → World → Prop}
    (hK : ∀ s' ρ' a' w', K s' → Sat F s' ρ' a' w' → next a' w') : o.wp P a w next Q := by
  unfold vcOp at hv
  split at hv
  · rename_i f args at_ e
    obtain ⟨s1, hf, hv | ⟨ls, hv⟩ | ⟨la, lb, hv⟩⟩ := hv
    · exact sound_vCall (h.frz hf) e hv (fun s' ρ' a' w' h1 h2 _ => hK s' ρ' a' w' h1 h2)
    · exact sound_vCallIO (h.frz hf) e hv (fun s' ρ' a' w' h1 h2 _ => hK s' ρ' a' w' h1 h2)
    · exact sound_vCallM (h.frz hf) e hv (fun s' ρ' a' w' h1 h2 => hK s' ρ' a' w' h1 h2)
  · split at hv
    · obtain ⟨s', ρ', w', v, h1, h2, h3, _⟩ := sound_mop h o K hv
      unfold Oper.wp
      rcases h3 with h3 | ⟨h3, rfl⟩
      · rw [h3, Oper.upon_value]; exact hK _ _ _ _ h1 h2
      · rw [h3, Oper.upon_skip]; exact hK _ _ _ _ h1 h2
    · obtain ⟨x, v, h1, h2, h3⟩ := qop_sound h o _ hv
      obtain ⟨h4, h5⟩ := fin_sat h h1 h2
      unfold Oper.wp
      rw [h3 w (Below.refl _ _), Oper.upon_value]
      exact hK _ _ _ _ h4 h5

theorem wanted_gv {s : AState} {ρ : Nat → Pl} {a : Act} {w : World} (h : Sat F s ρ a w) {ops : Array Oper} {o : Oper} {j : Nat} {want : Bool} {b : Option Bool} (hg : o.guard = some (j, want)) (hv : gv ops.toList s j = gval b) :
    Region.wanted o (yielded ops a.tmps) = (b == some want) := by
  unfold gv at hv
  split at hv
  case h_2 => cases b <;> cases hv
  rename_i t ht
  have hr := h.slot t
  rw [hv] at hr
  have ht2 : (ops[j]?).bind (·.dst) = some t := by simpa using ht
  unfold Region.wanted
  rw [hg]
  cases b with
  | none =>
    have hval := sc_of hr
    have h0 : a.tmps[t]? = some undef ∨ a.tmps[t]? = none := by
      rcases Nat.lt_or_ge t a.tmps.size with h1 | h1
      · refine .inl ?_
        simp [Array.getD, h1] at hval
        simp [h1, hval]
      · exact .inr (by simp [h1])
    simp only [yielded, ht2, Option.bind_some]
    rcases h0 with h0 | h0 <;> rw [h0] <;> rfl
  | some b =>
    have hval := sc_of hr
    have hlt : t < a.tmps.size := by
      rcases Nat.lt_or_ge t a.tmps.size with h1 | h1
      · exact h1
      · simp [Array.getD, Nat.not_lt.2 h1, undef] at hval
    have hval2 : a.tmps[t]? = some (.bool b) := by
      simp [Array.getD, hlt] at hval
      simp [hlt, hval]
    simp only [yielded, ht2, Option.bind_some, hval2]

theorem sound_vcOps {ops : Array Oper} {K : AState → Prop} {Q : Exit → Act → World → Prop} (hK : ∀ s ρ a w, K s → Sat F s ρ a w → Q .normal a w) : ∀ (l : List Oper) (s : AState) (ρ : Nat → Pl) (a : Act) (w : World),
    Sat F s ρ a w → vcOps P ops.toList l K s → wpList P ops Q l a w
  | [], s, ρ, a, w, h, hv => hK s ρ a w hv h
  | o :: l, s, ρ, a, w, h, hv => by
    have hnext : ∀ s' ρ' a' w', vcOps P ops.toList l K s' → Sat F s' ρ' a' w' → wpList P ops Q l a' w' := fun s' ρ' a' w' h1 h2 => sound_vcOps hK l s' ρ' a' w' h2 h1
    unfold vcOps at hv
    unfold wpList
    split at hv
    · rename_i hg
      have : Region.wanted o (yielded ops a.tmps) = true := by simp [Region.wanted, hg]
      rw [if_pos this]
      exact .inl (sound_vcOp h o hv hnext)
    · rename_i j want hg
      obtain ⟨b, hb, h1, h2⟩ := hv
      have hw := wanted_gv h hg hb
      by_cases hbw : b = some want
      · rw [if_pos (by rw [hw, hbw]; simp)]
        exact .inl (sound_vcOp h o (h1 hbw) hnext)
      · rw [if_neg (by rw [hw]; simpa using hbw)]
        obtain ⟨h3, h4⟩ := fin_sat h (h2 hbw) (v := undef) (.d (.sc undef))
        exact hnext _ _ _ _ h3 h4

/-! ### a region whose order is open -/

theorem sound_vqOp {s : AState} {ρ : Nat → Pl} {a : Act} {w : World} (h : Sat F s ρ a w) (o : Oper) {K : AState → Prop} (hv : vqOp P o K s) :
    ∃ v s', (∀ w', Below w.heap.size w w' → o.quietAt P a (fun w'' => Below w.heap.size w w'') w' v) ∧ K s' ∧ Sat F s' ρ (a.put o.dst v) w := by
  unfold vqOp at hv
  split at hv
  · rename_i fo args at_ e
    have hf := h.ev fo
    unfold vqCall at hv
    split at hv
    case h_2 => exact hv.elim
    rename_i f caps e1
    rw [e1] at hf
    obtain ⟨cs, hfv, hcs, hcr⟩ := fn_value hf
    obtain ⟨v, ⟨hb, hcall⟩, hnr, hfin⟩ := hv
    obtain ⟨h1, h2⟩ := fin_sat h hfin (v := v) (.d (.sc v))
    refine ⟨v, _, fun w' hbel => ?_, h1, h2⟩
    have hg := h.grow hbel
    obtain ⟨hsz, har⟩ := args_rep hg args cs caps hcs (fun i hi => (hcr i hi).grow hbel)
    unfold Oper.quietAt
    rw [exec_call e hfv hb]
    refine ⟨rfl, (hcall w' F.X ρ _ (hg.heap.laid (laidOut hL) fun _ h => h) (by rw [frzL_eq]; simpa using hsz) (hg.callee _ (fun _ h => .inl h)) (fun i hi => ?_)).mono ?_⟩
    · have hi2 : i < (args.toList.map s.ev ++ caps).length := by rw [frzL_eq] at hi; simpa using hi
      have hgt : (V.frzL (viewF s.ob) (args.toList.map s.ev ++ caps))[i] = ((args.toList.map s.ev ++ caps)[i]).frz (viewF s.ob) := by simp only [frzL_eq, List.getElem_map]
      have hnr2 := norefL_get hnr i hi
      rw [hgt] at hnr2 ⊢
      refine (frz_args hg (X := F.X) (fun b hb => .inl hb) (fun l o hf => hg.heap.notX (viewF_some hf).1) (fun _ _ _ => trivial) (har i hi2) hnr2).mono' (fun _ _ _ h => h) (fun b _ hb => ?_) (fun l o ho => by simp [Live] at ho)
      rcases hb with hb | hb
      · exact hb
      · exact absurd hb own_nil
    · rintro e w'' ⟨u, r, ob', ρ', rfl, rfl, hh, hr⟩
      rw [sc_of hr]
      refine ⟨rfl, hbel.trans (Below.mono (B := w'.heap.size) ?_ hbel.size)⟩
      exact ⟨hh.os, hh.tape, hh.output, hh.size, fun k hk => hh.frame k hk own_nil⟩
  · obtain ⟨x, v, h1, h2, h3⟩ := qop_sound h o _ hv
    obtain ⟨h4, h5⟩ := fin_sat h h1 h2
    refine ⟨v, _, fun w' hbel => ?_, h4, h5⟩
    unfold Oper.quietAt
    rw [h3 w' hbel]
    exact ⟨rfl, rfl⟩

theorem sound_vqOps {ops : Array Oper} {K : AState → Prop} {Q : Act → Prop} {ρ : Nat → Pl} {w : World} (hK : ∀ s a, K s → Sat F s ρ a w → Q a) : ∀ (l : List Oper) (s : AState) (a : Act),
    Sat F s ρ a w → vqOps P ops.toList l K s → wpQuiet P ops (fun w' => Below w.heap.size w w') Q l a
  | [], s, a, h, hv => hK s a hv h
  | o :: l, s, a, h, hv => by
    have hnext : ∀ s' a', vqOps P ops.toList l K s' → Sat F s' ρ a' w → wpQuiet P ops (fun w' => Below w.heap.size w w') Q l a' := fun s' a' h1 h2 => sound_vqOps hK l s' a' h2 h1
    unfold vqOps at hv
    unfold wpQuiet
    split at hv
    · rename_i hg
      have : Region.wanted o (yielded ops a.tmps) = true := by simp [Region.wanted, hg]
      rw [if_pos this]
      obtain ⟨v, s', h1, h2, h3⟩ := sound_vqOp h o hv
      exact ⟨v, h1, hnext s' _ h2 h3⟩
    · rename_i j want hg
      obtain ⟨b, hb, h1, h2⟩ := hv
      have hw := wanted_gv h hg hb
      by_cases hbw : b = some want
      · rw [if_pos (by rw [hw, hbw]; simp)]
        obtain ⟨v, s', h1, h2, h3⟩ := sound_vqOp h o (h1 hbw)
        exact ⟨v, h1, hnext s' _ h2 h3⟩
      · rw [if_neg (by rw [hw]; simpa using hbw)]
        obtain ⟨h3, h4⟩ := fin_sat h (h2 hbw) (v := undef) (.d (.sc undef))
        exact hnext _ _ h3 h4

theorem Frz.live {s s1 : AState} (h : Frz s s1) : ∀ l o, Live s1.ob l o → ∃ o', Live s.ob l o' := by
  induction h with
  | refl => exact fun l o h => ⟨o, h⟩
  | keep ks _ ih => exact ih
  | @step s t l0 o0 ho hi _ ih =>
    intro l o hl
    obtain ⟨o', h1⟩ := ih l o hl
    rcases live_set.1 h1 with ⟨_, _, h2⟩ | ⟨_, h2⟩
    · cases h2
    · obtain ⟨o2, h3, _⟩ := live_trO.1 h2
      exact ⟨o2, h3⟩
theorem Moved.frz {W : List Nat} {s s1 s' : AState} {ρ ρ' : Nat → Pl} {w w' : World} (hf : Frz s s1) (h : Moved W s1 ρ w s' ρ' w') : Moved W s ρ w s' ρ' w' :=
  ⟨h.size, fun b hb hn => h.keep b hb (fun l o hm ho => by obtain ⟨o', h'⟩ := hf.live l o ho; exact hn l o' hm h'), fun l o' ho => by
    rcases h.own l o' ho with ⟨o, h1, h2⟩ | h1
    · obtain ⟨o2, h3⟩ := hf.live l o h1; exact .inl ⟨o2, h3, h2⟩
    · exact .inr h1⟩

theorem sound_vgOp {s : AState} {ρ : Nat → Pl} {a : Act} {w : World} (h : Sat F s ρ a w) (o : Oper) {R : List Nat} {K : AState → Prop} (hv : vgOp P o R K s) {next : Act → World → Prop} {Q : Exit → Act → World → Prop}
    (hK : ∀ s' ρ' a' w' W, K s' → Sat F s' ρ' a' w' → (∀ l ∈ W, l ∉ R) → Moved W s ρ w s' ρ' w' → next a' w') : o.wp P a w next Q := by
  unfold vgOp at hv
  split at hv
  · rename_i f args at_ e
    obtain ⟨s1, hf, hv | ⟨ls, hls, hv⟩⟩ := hv
    · exact sound_vCall (h.frz hf) e hv (fun s' ρ' a' w' h1 h2 h3 => hK s' ρ' a' w' [] h1 h2 (by simp) (h3.frz hf))
    · exact sound_vCallIO (h.frz hf) e hv (fun s' ρ' a' w' h1 h2 h3 => hK s' ρ' a' w' ls h1 h2 hls (h3.frz hf))
  · obtain ⟨_, hw, hv⟩ := hv
    obtain ⟨s', ρ', w', v, h1, h2, h3, h4⟩ := sound_mop h o K hv
    unfold Oper.wp
    rcases h3 with h3 | ⟨h3, rfl⟩
    · rw [h3, Oper.upon_value]; exact hK _ _ _ _ _ h1 h2 hw h4
    · rw [h3, Oper.upon_skip]; exact hK _ _ _ _ _ h1 h2 hw h4

theorem nthO_get (l : List Oper) (k : Nat) (o : Oper) (h : l[k]? = some o) : nthO l k = o := by
  induction l generalizing k with
  | nil => simp at h
  | cons x l ih =>
    cases k with
    | zero => simpa [nthO] using h
    | succ k => exact ih k (by simpa using h)

theorem sound_vSch {ops : Array Oper} {n : Nat} {Q : Exit → Act → World → Prop} {K : AState → Prop} (hsel : Region.noSelect ops = true)
    (hn : n = ops.size ∨ (n < ops.size ∧ Region.sinkB .any ops n = true ∧ Region.chainB .any ops n = true))
    (hQ : ∀ c a w, ¬ Q (.panic c) a w) (hK : ∀ s ρ a w, K s → Sat F s ρ a w → wpList P ops Q (ops.toList.drop n) a w) :
    ∀ (sch : List (Nat × Bool)) (R : List Nat) (C : World → Prop) (Kp : Nat → Prop) (listed : Array Bool) (s : AState) (ρ : Nat → Pl) (a : Act) (w : World),
      schB .any ops n sch listed = true → HeadInv .any ops n listed → Sat F s ρ a w → C w → (∀ b, Kp b → b < w.heap.size) → (∀ l o, Live s.ob l o → l ∉ R → ¬ Kp (ρ l).blk) →
      (∀ w', (∀ b, Kp b → w'.heap[b]? = w.heap[b]?) → C w') → vSch P ops.toList K (sch.map fun q => (nthO ops.toList q.1, q.2)) R s →
      wpAnyC P .any ops n Q C (sch.length + (ops.size - n)) listed a w
  | [], R, C, Kp, listed, s, ρ, a, w, hB, inv, h, hC, k1, k2, k3, hv => by
    have hdl : (ops.toList.drop n).length = ops.size - n := by simp
    have := wpAnyC_of_seq (P := P) (md := .any) (Q := Q) (C := C) (ops.toList.drop n) n listed a w (Nat.le_refl _) (fun j => by simp [List.getElem?_drop]) (by rw [hdl]; exact hB) (hK s ρ a w hv h)
    rw [hdl] at this
    simpa using this
  | (k, false) :: r, R, C, Kp, listed, s, ρ, a, w, hB, inv, h, hC, k1, k2, k3, hv => by
    simp only [schB, cond_false, Bool.and_eq_true, decide_eq_true_eq] at hB
    obtain ⟨⟨hkn, hm⟩, hB⟩ := hB
    cases ho : ops[k]? with
    | none => rw [ho] at hm; cases hm
    | some o =>
      rw [ho] at hm
      have ho2 : nthO ops.toList k = o := nthO_get _ _ _ (by simpa using ho)
      simp only [List.map_cons, ho2] at hv
      rw [show ((k, false) :: r).length + (ops.size - n) = (r.length + (ops.size - n)) + 1 by simp only [List.length_cons]; omega]
      -- the rest, behind the operation
      have rest : ∀ s' ρ' a' w' W, vSch P ops.toList K (r.map fun q => (nthO ops.toList q.1, q.2)) R s' → k ∈ Region.ready .any ops listed → Sat F s' ρ' a' w' → (∀ l ∈ W, l ∉ R) → Moved W s ρ w s' ρ' w' →
          (k < n → C w') ∧ wpAnyC P .any ops n Q C (r.length + (ops.size - n)) (listed.setIfInBounds k true) a' w' := by
        intro s' ρ' a' w' W g1 gr g2 g3 g4
        have hsame : ∀ b, Kp b → w'.heap[b]? = w.heap[b]? := fun b hb => g4.keep b (k1 b hb) (fun l o hl ho e => k2 l o ho (g3 l hl) (e ▸ hb))
        have hC' : C w' := k3 w' hsame
        refine ⟨fun _ => hC', sound_vSch hsel hn hQ hK r R C Kp _ s' ρ' a' w' hB (inv.set gr hkn) g2 hC' (fun b hb => Nat.lt_of_lt_of_le (k1 b hb) g4.size) (fun l o' hl hR hb => ?_) (fun w'' hw => k3 w'' (fun b hb => (hw b hb).trans (hsame b hb))) g1⟩
        rcases g4.own l o' hl with ⟨o3, h3, h4⟩ | h3
        · rw [h4] at hb; exact k2 l o3 h3 hR hb
        · have := k1 _ hb; omega
      -- the guard
      have hwant : (Region.wanted o (yielded ops a.tmps) = true ∧ vsOp P o R (vSch P ops.toList K (r.map fun q => (nthO ops.toList q.1, q.2))) s) ∨
          (Region.wanted o (yielded ops a.tmps) = false ∧ fin o.dst (vSch P ops.toList K (r.map fun q => (nthO ops.toList q.1, q.2)) R) s (.sc undef)) := by
        unfold vSch at hv
        split at hv
        · rename_i hg
          exact .inl ⟨by simp [Region.wanted, hg], hv⟩
        · rename_i j want hg
          obtain ⟨b, hb, h1, h2⟩ := hv
          have hw := wanted_gv h hg hb
          by_cases hbw : b = some want
          · exact .inl ⟨by rw [hw, hbw]; simp, h1 hbw⟩
          · exact .inr ⟨by rw [hw]; simpa using hbw, h2 hbw⟩
      cases hrd : rdB o.op with
      | true =>
        simp only [hrd, cond_true, Bool.and_eq_true] at hm
        obtain ⟨hr, hfree⟩ := hm
        have hr' : k ∈ Region.ready .any ops listed := by simpa using hr
        have fst := fun {v : Value} {C' R' : World → Prop} => wpAnyC_first (P := P) (md := .any) (Q := Q) (n := n) (v := v) (C := C') (R := R') ho (Region.noSelect_spec hsel) (fun c a w hq => absurd hq (hQ c _ w))
          (fun listed inv hun => head_lt hn hkn listed inv hun) (r.length + (ops.size - n)) listed a w inv (Region.free_spec ho hfree) hr'
        rcases hwant with ⟨hw, hop⟩ | ⟨hw, hfin⟩
        · unfold vsOp at hop
          rw [hrd, cond_true] at hop
          let Zf : Nat → Prop := fun b => ¬ F.Y ρ s.ob b ∨ ∃ l o', rdOf s o.op = some l ∧ Live s.ob l o' ∧ b = (ρ l).blk
          obtain ⟨x, v, g1, g2, g3⟩ := qop_soundZ (Z := Zf) h o _ hop (fun b hb => .inl hb) (fun l o' h1 h2 => .inr ⟨l, o', h1, h2, rfl⟩)
          obtain ⟨g4, g5⟩ := fin_sat h g1 g2
          let Rw : World → Prop := fun w' => ∀ b, b < w.heap.size → Zf b → w'.heap[b]? = w.heap[b]?
          have hy : YieldsC P ops Rw o v a := .inl ⟨hw, fun w' hw' => g3 w' (agr_blk fun b hb hz => hw' b hb hz)⟩
          refine fst hy hC (fun _ _ _ => rfl) ?_
          refine sound_vSch hsel hn hQ hK r _ _ (fun b => Kp b ∨ (b < w.heap.size ∧ Zf b)) _ _ ρ _ w hB (inv.set hr' hkn) g5 ⟨hC, fun _ _ _ => rfl⟩ ?_ ?_ ?_ g4
          · rintro b (hb | hb)
            · exact k1 b hb
            · exact hb.1
          · intro l o' hl hR hb
            rw [put_ob] at hl
            simp only [List.mem_append, not_or] at hR
            rcases hb with hb | ⟨_, hb | ⟨l2, o2, e1, e2, e3⟩⟩
            · exact k2 l o' hl hR.2 hb
            · exact hb (.inr ⟨l, o', hl, rfl⟩)
            · have := h.heap.inj l l2 o' o2 hl e2 e3
              subst this
              exact hR.1 (by rw [e1]; simp)
          · intro w' hw'
            exact ⟨k3 w' (fun b hb => hw' b (.inl hb)), fun b hb hz => hw' b (.inr ⟨hb, hz⟩)⟩
        · obtain ⟨g4, g5⟩ := fin_sat h hfin (v := undef) (.d (.sc undef))
          refine fst (v := undef) (R' := fun _ => True) (.inr ⟨hw, rfl⟩) hC trivial ?_
          exact sound_vSch hsel hn hQ hK r R _ Kp _ _ ρ _ w hB (inv.set hr' hkn) g5 ⟨hC, trivial⟩ k1 (fun l o' hl => k2 l o' (by rw [put_ob] at hl; exact hl)) (fun w' hw' => ⟨k3 w' hw', trivial⟩) g4
      | false =>
        simp only [hrd, cond_false, decide_eq_true_eq] at hm
        have hr' : k ∈ Region.ready .any ops listed := by rw [hm]; simp
        refine ⟨fun h0 => (by rw [hm] at h0; cases h0), fun i hi => ?_⟩
        rw [hm] at hi
        have : i = k := by simpa using hi
        subst this
        unfold wpOp
        simp only [ho]
        rcases hwant with ⟨hw, hop⟩ | ⟨hw, hfin⟩
        · simp only [hw, if_true]
          unfold vsOp at hop
          rw [hrd, cond_false] at hop
          exact .inl (sound_vgOp h o hop (fun s' ρ' a' w' W g1 g2 g3 g4 => rest s' ρ' a' w' W g1 hr' g2 g3 g4))
        · simp only [hw, Bool.false_eq_true, if_false]
          obtain ⟨g4, g5⟩ := fin_sat h hfin (v := undef) (.d (.sc undef))
          exact rest _ ρ _ w [] g4 hr' g5 (by simp) ((Moved.put ⟨Nat.le_refl _, fun _ _ _ => rfl, fun l o' hl => .inl ⟨o', hl, rfl⟩⟩ o.dst (.sc undef)))
  | (k, true) :: r, R, C, Kp, listed, s, ρ, a, w, hB, inv, h, hC, k1, k2, k3, hv => by
    simp only [schB, cond_true, Bool.and_eq_true, decide_eq_true_eq] at hB
    obtain ⟨⟨hkn, hm⟩, hB⟩ := hB
    cases ho : ops[k]? with
    | none => rw [ho] at hm; cases hm
    | some o =>
      rw [ho] at hm
      have ho2 : nthO ops.toList k = o := nthO_get _ _ _ (by simpa using ho)
      simp only [List.map_cons, ho2] at hv
      rw [show ((k, true) :: r).length + (ops.size - n) = (r.length + (ops.size - n)) + 1 by simp only [List.length_cons]; omega]
      simp only [Bool.and_eq_true, decide_eq_true_eq] at hm
      obtain ⟨hrd, hm⟩ := hm
      have hr' : k ∈ Region.ready .any ops listed := by rw [hm]; simp
      refine ⟨fun h0 => (by rw [hm] at h0; cases h0), fun i hi => ?_⟩
      rw [hm] at hi
      have : i = k := by simpa using hi
      subst this
      unfold vSch at hv
      split at hv
      case h_2 => exact hv.elim
      rename_i hg
      unfold wpOp
      simp only [ho]
      have hw : Region.wanted o (yielded ops a.tmps) = true := by simp [Region.wanted, hg]
      simp only [hw, if_true]
      obtain ⟨x, v, g1, g2, g3⟩ := qop_soundZ (Z := fun _ => True) h o _ hv (fun b hb => trivial) (fun l o' h1 h2 => trivial)
      obtain ⟨g4, g5⟩ := fin_sat h g1 g2
      refine .inl ?_
      unfold Oper.wp
      rw [g3 w (Agr.refl _ w), Oper.upon_value]
      exact ⟨fun _ => hC, sound_vSch hsel hn hQ hK r R C Kp _ _ ρ _ w hB (inv.set hr' hkn) g5 hC k1 (fun l o' hl => k2 l o' (by rw [put_ob] at hl; exact hl)) k3 g4⟩

theorem sound_sch {id : Nat} {ops : Array Oper} {n : Nat} {sch : List (Nat × Bool)} {Q : Exit → AState → Prop} {s : AState} {ρ : Nat → Pl} {a : Act} {w : World} (hm : P.follows .mixedOrders = true) (hB : schOk .any ops n sch = true)
    (h0 : Sat F s ρ a w) (h : Sat F s ρ a { w with drawn := w.drawn + 1 }) (hv : vSch P ops.toList (vcOps P ops.toList (ops.toList.drop n) (Q .normal)) (sch.map fun q => (nthO ops.toList q.1, q.2)) [] s) :
    (Code.region id ops true).wp P (lift F Q) a w := by
  simp only [schOk, Bool.and_eq_true, Bool.or_eq_true, decide_eq_true_eq] at hB
  obtain ⟨⟨⟨hsel, hn⟩, hsch⟩, hlen⟩ := hB
  let Q0 : Exit → Act → World → Prop := fun e a w => e = .normal ∧ lift F Q .normal a w
  have hn' : n = ops.size ∨ (n < ops.size ∧ Region.sinkB .any ops n = true ∧ Region.chainB .any ops n = true) := by
    rcases hn with h | ⟨⟨h1, h2⟩, h3⟩
    · exact .inl h
    · exact .inr ⟨h1, h2, h3⟩
  have inv0 : HeadInv .any ops n (Array.replicate ops.size false) :=
    ⟨by simp, fun j oj _ hl => (by rw [getD_replicate_false] at hl; cases hl), fun t _ ht => getD_in (by simpa using ht) (getD_replicate_false _ _)⟩
  refine wp_mono (Q := Q0) (wp_region_any hm ?_) (fun e a w hq => by obtain ⟨rfl, hq⟩ := hq; exact hq)
  have := sound_vSch (P := P) (F := F) (Q := Q0) hsel hn' (fun c a w hq => by cases hq.1)
    (fun s ρ a w h1 h2 => sound_vcOps (fun s ρ a w h1 h2 => ⟨rfl, s, ρ, h1, h2⟩) _ s ρ a w h2 h1) sch [] (fun _ => True) (fun _ => False) _ s ρ a _ hsch inv0 h trivial (fun b hb => hb.elim) (fun _ _ _ _ hb => hb.elim) (fun _ _ => trivial) hv
  have h2 := wpAny_of_C _ _ _ _ this
  rwa [hlen, show n + (ops.size - n) = ops.size by rcases hn' with h | h <;> omega] at h2

theorem sound_vTr {ops : Array Oper} {n : Nat} {Q : Exit → Act → World → Prop} {K : AState → Prop} (hsel : Region.noSelect ops = true)
    (hn : n = ops.size ∨ (n < ops.size ∧ Region.sinkB .any ops n = true ∧ Region.chainB .any ops n = true))
    (hQ : ∀ c a w, ¬ Q (.panic c) a w) (hK : ∀ s ρ a w, K s → Sat F s ρ a w → wpList P ops Q (ops.toList.drop n) a w) :
    ∀ (t : Tr Nat) (m : Nat) (top : Bool) (R : List Nat) (C : World → Prop) (Kp : Nat → Prop) (listed : Array Bool) (s : AState) (ρ : Nat → Pl) (a : Act) (w : World),
      trB .any ops n t m top listed = true → (top = false → ∀ i ∈ t.heads, i ∈ Region.ready .any ops listed) → HeadInv .any ops n listed → Sat F s ρ a w → C w → (∀ b, Kp b → b < w.heap.size) →
      (∀ l o, Live s.ob l o → l ∉ R → ¬ Kp (ρ l).blk) → (∀ w', (∀ b, Kp b → w'.heap[b]? = w.heap[b]?) → C w') → vTr P ops.toList K (t.map (nthO ops.toList)) R s →
      (top = true → wpAnyC P .any ops n Q C (m + (ops.size - n)) listed a w) ∧
      (top = false → ∀ i ∈ t.heads, wpOp P ops Q i (fun a' w' => (i < n → C w') ∧ wpAnyC P .any ops n Q C (m - 1 + (ops.size - n)) (listed.setIfInBounds i true) a' w') a w)
  | .done, m, top, R, C, Kp, listed, s, ρ, a, w, hB, hh, inv, h, hC, k1, k2, k3, hv => by
    refine ⟨fun ht => ?_, fun _ i hi => by simp [Tr.heads] at hi⟩
    subst ht
    cases m with
    | succ m => simp [trB] at hB
    | zero =>
      simp only [trB] at hB
      have hdl : (ops.toList.drop n).length = ops.size - n := by simp
      have := wpAnyC_of_seq (P := P) (md := .any) (Q := Q) (C := C) (ops.toList.drop n) n listed a w (Nat.le_refl _) (fun j => by simp [List.getElem?_drop]) (by rw [hdl]; exact hB) (hK s ρ a w hv h)
      rw [hdl] at this
      simpa using this
  | .stop, m, top, R, C, Kp, listed, s, ρ, a, w, hB, hh, inv, h, hC, k1, k2, k3, hv => by
    refine ⟨fun ht => ?_, fun _ i hi => by simp [Tr.heads] at hi⟩
    subst ht
    cases m <;> simp [trB] at hB
  | .rd k t, m, top, R, C, Kp, listed, s, ρ, a, w, hB, hh, inv, h, hC, k1, k2, k3, hv => by
    refine ⟨fun ht => ?_, fun _ i hi => by simp [Tr.heads] at hi⟩
    subst ht
    cases m with
    | zero => simp [trB] at hB
    | succ m =>
      simp only [trB, Bool.and_eq_true, decide_eq_true_eq] at hB
      obtain ⟨⟨hkn, hm⟩, hB⟩ := hB
      cases ho : ops[k]? with
      | none => rw [ho] at hm; cases hm
      | some o =>
        rw [ho] at hm
        have ho2 : nthO ops.toList k = o := nthO_get _ _ _ (by simpa using ho)
        simp only [Tr.map, ho2, vTr] at hv
        simp only [Bool.and_eq_true] at hm
        obtain ⟨⟨hrd, hr⟩, hfree⟩ := hm
        rw [show m + 1 + (ops.size - n) = (m + (ops.size - n)) + 1 by omega]
        have hwant : (Region.wanted o (yielded ops a.tmps) = true ∧ vsOp P o R (vTr P ops.toList K (t.map (nthO ops.toList))) s) ∨
            (Region.wanted o (yielded ops a.tmps) = false ∧ fin o.dst (vTr P ops.toList K (t.map (nthO ops.toList)) R) s (.sc undef)) := by
          unfold vOG at hv
          split at hv
          · rename_i hg
            exact .inl ⟨by simp [Region.wanted, hg], hv⟩
          · rename_i j want hg
            obtain ⟨b, hb, h1, h2⟩ := hv
            have hw := wanted_gv h hg hb
            by_cases hbw : b = some want
            · exact .inl ⟨by rw [hw, hbw]; simp, h1 hbw⟩
            · exact .inr ⟨by rw [hw]; simpa using hbw, h2 hbw⟩
        have hr' : k ∈ Region.ready .any ops listed := by simpa using hr
        have fst := fun {v : Value} {C' R' : World → Prop} => wpAnyC_first (P := P) (md := .any) (Q := Q) (n := n) (v := v) (C := C') (R := R') ho (Region.noSelect_spec hsel) (fun c a w hq => absurd hq (hQ c _ w))
          (fun listed inv hun => head_lt hn hkn listed inv hun) (m + (ops.size - n)) listed a w inv (Region.free_spec ho hfree) hr'
        rcases hwant with ⟨hw, hop⟩ | ⟨hw, hfin⟩
        · unfold vsOp at hop
          rw [hrd, cond_true] at hop
          let Zf : Nat → Prop := fun b => ¬ F.Y ρ s.ob b ∨ ∃ l o', rdOf s o.op = some l ∧ Live s.ob l o' ∧ b = (ρ l).blk
          obtain ⟨x, v, g1, g2, g3⟩ := qop_soundZ (Z := Zf) h o _ hop (fun b hb => .inl hb) (fun l o' h1 h2 => .inr ⟨l, o', h1, h2, rfl⟩)
          obtain ⟨g4, g5⟩ := fin_sat h g1 g2
          let Rw : World → Prop := fun w' => ∀ b, b < w.heap.size → Zf b → w'.heap[b]? = w.heap[b]?
          have hy : YieldsC P ops Rw o v a := .inl ⟨hw, fun w' hw' => g3 w' (agr_blk fun b hb hz => hw' b hb hz)⟩
          refine fst hy hC (fun _ _ _ => rfl) ?_
          refine (sound_vTr hsel hn hQ hK t m true _ _ (fun b => Kp b ∨ (b < w.heap.size ∧ Zf b)) _ _ ρ _ w hB (fun h => by cases h) (inv.set hr' hkn) g5 ⟨hC, fun _ _ _ => rfl⟩ ?_ ?_ ?_ g4).1 rfl
          · rintro b (hb | hb)
            · exact k1 b hb
            · exact hb.1
          · intro l o' hl hR hb
            rw [put_ob] at hl
            simp only [List.mem_append, not_or] at hR
            rcases hb with hb | ⟨_, hb | ⟨l2, o2, e1, e2, e3⟩⟩
            · exact k2 l o' hl hR.2 hb
            · exact hb (.inr ⟨l, o', hl, rfl⟩)
            · have := h.heap.inj l l2 o' o2 hl e2 e3
              subst this
              exact hR.1 (by rw [e1]; simp)
          · intro w' hw'
            exact ⟨k3 w' (fun b hb => hw' b (.inl hb)), fun b hb hz => hw' b (.inr ⟨hb, hz⟩)⟩
        · obtain ⟨g4, g5⟩ := fin_sat h hfin (v := undef) (.d (.sc undef))
          refine fst (v := undef) (R' := fun _ => True) (.inr ⟨hw, rfl⟩) hC trivial ?_
          exact (sound_vTr hsel hn hQ hK t m true R _ Kp _ _ ρ _ w hB (fun h => by cases h) (inv.set hr' hkn) g5 ⟨hC, trivial⟩ k1 (fun l o' hl => k2 l o' (by rw [put_ob] at hl; exact hl)) (fun w' hw' => ⟨k3 w' hw', trivial⟩) g4).1 rfl
  | .alt k t r, m, top, R, C, Kp, listed, s, ρ, a, w, hB, hh, inv, h, hC, k1, k2, k3, hv => by
    cases m with
    | zero => simp [trB] at hB
    | succ m =>
      simp only [trB, Bool.and_eq_true, decide_eq_true_eq] at hB
      obtain ⟨⟨⟨⟨hkn, hm⟩, hrd0⟩, hB⟩, hBr⟩ := hB
      have hheads : ∀ i ∈ (Tr.alt k t r).heads, i ∈ Region.ready .any ops listed := by
        cases top with
        | false => exact hh rfl
        | true =>
          simp only [Bool.not_true, Bool.false_or, decide_eq_true_eq] at hrd0
          rw [hrd0]; exact fun i hi => hi
      have hr' : k ∈ Region.ready .any ops listed := hheads k (by simp [Tr.heads])
      cases ho : ops[k]? with
      | none => rw [ho] at hm; cases hm
      | some o =>
        rw [ho] at hm
        have ho2 : nthO ops.toList k = o := nthO_get _ _ _ (by simpa using ho)
        simp only [Tr.map, ho2, vTr] at hv
        obtain ⟨hv, hvr⟩ := hv
        have hrd : rdB o.op = false := by simpa using hm
        -- the rest, behind the operation
        have rest : ∀ s' ρ' a' w' W, vTr P ops.toList K (t.map (nthO ops.toList)) R s' → Sat F s' ρ' a' w' → (∀ l ∈ W, l ∉ R) → Moved W s ρ w s' ρ' w' →
            (k < n → C w') ∧ wpAnyC P .any ops n Q C (m + (ops.size - n)) (listed.setIfInBounds k true) a' w' := by
          intro s' ρ' a' w' W g1 g2 g3 g4
          have hsame : ∀ b, Kp b → w'.heap[b]? = w.heap[b]? := fun b hb => g4.keep b (k1 b hb) (fun l o hl ho e => k2 l o ho (g3 l hl) (e ▸ hb))
          have hC' : C w' := k3 w' hsame
          refine ⟨fun _ => hC', (sound_vTr hsel hn hQ hK t m true R C Kp _ s' ρ' a' w' hB (fun h => by cases h) (inv.set hr' hkn) g2 hC' (fun b hb => Nat.lt_of_lt_of_le (k1 b hb) g4.size) (fun l o' hl hR hb => ?_) (fun w'' hw => k3 w'' (fun b hb => (hw b hb).trans (hsame b hb))) g1).1 rfl⟩
          rcases g4.own l o' hl with ⟨o3, h3, h4⟩ | h3
          · rw [h4] at hb; exact k2 l o3 h3 hR hb
          · have := k1 _ hb; omega
        have one : wpOp P ops Q k (fun a' w' => (k < n → C w') ∧ wpAnyC P .any ops n Q C (m + (ops.size - n)) (listed.setIfInBounds k true) a' w') a w := by
          have hwant : (Region.wanted o (yielded ops a.tmps) = true ∧ vsOp P o R (vTr P ops.toList K (t.map (nthO ops.toList))) s) ∨
              (Region.wanted o (yielded ops a.tmps) = false ∧ fin o.dst (vTr P ops.toList K (t.map (nthO ops.toList)) R) s (.sc undef)) := by
            unfold vOG at hv
            split at hv
            · rename_i hg
              exact .inl ⟨by simp [Region.wanted, hg], hv⟩
            · rename_i j want hg
              obtain ⟨b, hb, h1, h2⟩ := hv
              have hw := wanted_gv h hg hb
              by_cases hbw : b = some want
              · exact .inl ⟨by rw [hw, hbw]; simp, h1 hbw⟩
              · exact .inr ⟨by rw [hw]; simpa using hbw, h2 hbw⟩
          unfold wpOp
          simp only [ho]
          rcases hwant with ⟨hw, hop⟩ | ⟨hw, hfin⟩
          · simp only [hw, if_true]
            unfold vsOp at hop
            rw [hrd, cond_false] at hop
            exact .inl (sound_vgOp h o hop (fun s' ρ' a' w' W g1 g2 g3 g4 => rest s' ρ' a' w' W g1 g2 g3 g4))
          · simp only [hw, Bool.false_eq_true, if_false]
            obtain ⟨g4, g5⟩ := fin_sat h hfin (v := undef) (.d (.sc undef))
            exact rest _ ρ _ w [] g4 g5 (by simp) ((Moved.put ⟨Nat.le_refl _, fun _ _ _ => rfl, fun l o' hl => .inl ⟨o', hl, rfl⟩⟩ o.dst (.sc undef)))
        have hrest := (sound_vTr hsel hn hQ hK r (m + 1) false R C Kp listed s ρ a w hBr (fun _ i hi => hheads i (by simp [Tr.heads, hi])) inv h hC k1 k2 k3 hvr).2 rfl
        have all : ∀ i ∈ (Tr.alt k t r).heads, wpOp P ops Q i (fun a' w' => (i < n → C w') ∧ wpAnyC P .any ops n Q C (m + 1 - 1 + (ops.size - n)) (listed.setIfInBounds i true) a' w') a w := by
          intro i hi
          simp only [Tr.heads, List.mem_cons] at hi
          rcases hi with rfl | hi
          · exact one
          · exact hrest i hi
        refine ⟨fun ht => ?_, fun _ => all⟩
        subst ht
        simp only [Bool.not_true, Bool.false_or, decide_eq_true_eq] at hrd0
        rw [show m + 1 + (ops.size - n) = (m + (ops.size - n)) + 1 by omega]
        refine ⟨fun h0 => (by rw [hrd0] at h0; cases h0), fun i hi => ?_⟩
        rw [hrd0] at hi
        exact all i hi

theorem sound_tr {id : Nat} {ops : Array Oper} {n : Nat} {t : Tr Nat} {β : Type} {p : β → Prop} {J : β → AState} {Q : Exit → AState → Prop} {s : AState} {ρ : Nat → Pl} {a : Act} {w : World} (hm : P.follows .mixedOrders = true) (hB : trOk .any ops n t = true)
    (h : Sat F s ρ a { w with drawn := w.drawn + 1 }) (hv : vTr P ops.toList (fun s => ∃ x, p x ∧ leF s (J x)) (t.map (nthO ops.toList)) [] s) (hJ : ∀ x, p x → vcOps P ops.toList (ops.toList.drop n) (Q .normal) (J x)) :
    (Code.region id ops true).wp P (lift F Q) a w := by
  simp only [trOk, Bool.and_eq_true, Bool.or_eq_true, decide_eq_true_eq] at hB
  obtain ⟨⟨hsel, hn⟩, htr⟩ := hB
  let Q0 : Exit → Act → World → Prop := fun e a w => e = .normal ∧ lift F Q .normal a w
  have hn' : n = ops.size ∨ (n < ops.size ∧ Region.sinkB .any ops n = true ∧ Region.chainB .any ops n = true) := by
    rcases hn with h | ⟨⟨h1, h2⟩, h3⟩
    · exact .inl h
    · exact .inr ⟨h1, h2, h3⟩
  have inv0 : HeadInv .any ops n (Array.replicate ops.size false) :=
    ⟨by simp, fun j oj _ hl => (by rw [getD_replicate_false] at hl; cases hl), fun t _ ht => getD_in (by simpa using ht) (getD_replicate_false _ _)⟩
  refine wp_mono (Q := Q0) (wp_region_any hm ?_) (fun e a w hq => by obtain ⟨rfl, hq⟩ := hq; exact hq)
  have := (sound_vTr (P := P) (F := F) (Q := Q0) hsel hn' (fun c a w hq => by cases hq.1)
    (fun s ρ a w h1 h2 => by
      obtain ⟨x, hx, hl⟩ := h1
      obtain ⟨ρ2, h3⟩ := h2.leF hl
      exact sound_vcOps (fun s ρ a w h1 h2 => ⟨rfl, s, ρ, h1, h2⟩) _ (J x) ρ2 a w h3 (hJ x hx)) t n true [] (fun _ => True) (fun _ => False) _ s ρ a _ htr (fun h => by cases h) inv0 h trivial (fun b hb => hb.elim) (fun _ _ _ _ hb => hb.elim) (fun _ _ => trivial) hv).1 rfl
  have h2 := wpAny_of_C _ _ _ _ this
  rwa [show n + (ops.size - n) = ops.size by rcases hn' with h | h <;> omega] at h2

theorem wp_loop_any {Q : Exit → Act → World → Prop} {c : Code} {α : Type} (J : α → Act → World → Prop) (μ : α → Nat)
    (round : ∀ x a w, J x a w → c.wp P (Exit.then (fun a' w' => ∃ y, μ y < μ x ∧ J y a' w') Q) a w) (x : α) (a : Act) (w : World) (h : J x a w) : (Code.loop c).wp P Q a w := by
  refine wp_loop_ghost (fun n a w => ∃ y, μ y ≤ n ∧ J y a w) (μ x) ⟨x, Nat.le_refl _, h⟩ fun n a w ⟨y, hy, hj⟩ => ?_
  refine wp_mono (round y a w hj) fun e a' w' he => ?_
  cases e with
  | normal =>
    obtain ⟨z, hz, hj'⟩ := he
    exact ⟨μ z, by omega, z, Nat.le_refl _, hj'⟩
  | _ => exact he

/-- THE VERIFICATION CONDITION IS ENOUGH -/
theorem sound_vc : ∀ (c : Code) (Q : Exit → AState → Prop) (s : AState) (ρ : Nat → Pl) (a : Act) (w : World), vc P c Q s → Sat F s ρ a w → c.wp P (lift F Q) a w
  | .skip, Q, s, ρ, a, w, hv, h => wp_skip ⟨s, ρ, hv, h⟩
  | .label _, Q, s, ρ, a, w, hv, h => wp_label ⟨s, ρ, hv, h⟩
  | .region id ops false, Q, s, ρ, a, w, hv, h => wp_region_list (sound_vcOps (fun s ρ a w h1 h2 => ⟨s, ρ, h1, h2⟩) _ s ρ a w h hv)
  | .region id ops true, Q, s, ρ, a, w, hv, h => by
    obtain ⟨h1, hv⟩ := hv
    have hd : Sat F s ρ a { w with drawn := w.drawn + 1 } := h.grow ((Below.refl _ _).drew)
    rcases hv with ⟨h2, h3⟩ | ⟨n, h2, h3⟩ | ⟨n, sch, h2, h3⟩ | ⟨n, t, β, p, J, h2, h3, h4⟩
    rotate_left 2
    · exact sound_sch h1 h2 h hd h3
    · exact sound_tr h1 h2 hd h3 h4
    · exact wp_region_quiet (C := fun w' => Below w.heap.size { w with drawn := w.drawn + 1 } w') h1 h2 (Below.refl _ _)
        (sound_vqOps (w := { w with drawn := w.drawn + 1 }) (fun s a h4 h5 w' hb => ⟨s, ρ, h4, h5.grow hb⟩) _ s a hd h3)
    · exact wp_region_quiet_tail (C := fun w' => Below w.heap.size { w with drawn := w.drawn + 1 } w') n h1 h2 (Below.refl _ _)
        (sound_vqOps (w := { w with drawn := w.drawn + 1 }) (fun s a h4 h5 w' hb => sound_vcOps (fun s ρ a w h1 h2 => ⟨s, ρ, h1, h2⟩) _ s ρ a w' (h5.grow hb) h4) _ s a hd h3)
  | .seq x y, Q, s, ρ, a, w, hv, h => by
    refine wp_seq (wp_mono (sound_vc x _ s ρ a w hv h) fun e a' w' hl => ?_)
    obtain ⟨s', ρ', h1, h2⟩ := hl
    cases e with
    | normal => exact sound_vc y Q s' ρ' a' w' h1 h2
    | _ => exact ⟨s', ρ', h1, h2⟩
  | .cond c x y, Q, s, ρ, a, w, hv, h => by
    obtain ⟨b, hb, hv⟩ := hv
    have hc := h.ev c
    rw [hb] at hc
    rcases hv with ⟨h1, h2⟩ | ⟨β, p, J, h1, h2, h3⟩
    · exact wp_cond_split (sc_of hc) (fun ht => sound_vc x Q s ρ a w (h1 ht) h) (fun hf => sound_vc y Q s ρ a w (h2 hf) h)
    · have hj : ∀ e a' w', lift F (jnN p J Q) e a' w' → lift F Q e a' w' := by
        rintro e a' w' ⟨s', ρ', h4, h5⟩
        cases e with
        | normal =>
          obtain ⟨z, hz, hl⟩ := h4
          obtain ⟨ρ2, h6⟩ := h5.leF hl
          exact ⟨J z, ρ2, h3 z hz, h6⟩
        | _ => exact ⟨s', ρ', h4, h5⟩
      exact wp_cond_split (sc_of hc) (fun ht => wp_mono (sound_vc x _ s ρ a w (h1 ht) h) hj) (fun hf => wp_mono (sound_vc y _ s ρ a w (h2 hf) h) hj)
  | .block id c, Q, s, ρ, a, w, hv, h => by
    refine wp_block (wp_mono (sound_vc c _ s ρ a w hv h) fun e a' w' hl => ?_)
    obtain ⟨s', ρ', h1, h2⟩ := hl
    cases e with
    | exit i =>
      simp only [Exit.inBlock]
      simp only [blkK] at h1
      by_cases hi : i = id
      · subst hi
        simp at h1
        rw [if_pos rfl]
        exact ⟨s', ρ', h1, h2⟩
      · rw [if_neg hi]
        have : Nat.beq i id = false := by
          cases hb : Nat.beq i id with
          | false => rfl
          | true => exact absurd (Nat.eq_of_beq_eq_true hb) hi
        rw [this] at h1
        exact ⟨s', ρ', h1, h2⟩
    | _ => exact ⟨s', ρ', h1, h2⟩
  | .loop c, Q, s, ρ, a, w, hv, h => by
    obtain ⟨Q', hQ, α, p, I, μ, x0, hp, h0, hround⟩ := hv
    have hj : ∀ e a' w', lift F Q' e a' w' → lift F Q e a' w' := by
      rcases hQ with rfl | ⟨i, β, p, J, rfl, h3⟩
      · exact fun _ _ _ h => h
      · rintro e a' w' ⟨s', ρ', h4, h5⟩
        cases e with
        | exit j =>
          simp only [jnX] at h4
          cases hb : Nat.beq j i with
          | true =>
            rw [hb] at h4
            obtain ⟨z, hz, hl⟩ := h4
            obtain ⟨ρ2, h6⟩ := h5.leF hl
            rw [Nat.eq_of_beq_eq_true hb]
            exact ⟨J z, ρ2, h3 z hz, h6⟩
          | false =>
            rw [hb] at h4
            exact ⟨s', ρ', h4, h5⟩
        | _ => exact ⟨s', ρ', h4, h5⟩
    refine wp_mono (P := P) (Q := lift F Q') ?_ hj
    refine wp_loop_any (fun x a w => p x ∧ ∃ ρ, Sat F (I x) ρ a w) μ (fun x a w ⟨hpx, ρ, hx⟩ => ?_) x0 a w ⟨hp, h.leF h0⟩
    refine wp_mono (sound_vc c _ (I x) ρ a w (hround x hpx) hx) fun e a' w' hl => ?_
    obtain ⟨s', ρ', h1, h2⟩ := hl
    cases e with
    | normal =>
      obtain ⟨x', hpx', hlt, hle⟩ := h1
      exact ⟨x', hlt, hpx', h2.leF hle⟩
    | _ => exact ⟨s', ρ', h1, h2⟩
  | .exit id, Q, s, ρ, a, w, hv, h => wp_exit ⟨s, ρ, hv, h⟩
  | .ret, Q, s, ρ, a, w, hv, h => wp_ret ⟨s, ρ, hv, h⟩
  | .rangeFunc .., Q, s, ρ, a, w, hv, h => hv.elim
  | .scope _, Q, s, ρ, a, w, hv, h => hv.elim
  | .goto _, Q, s, ρ, a, w, hv, h => hv.elim
  | .refuse _, Q, s, ρ, a, w, hv, h => hv.elim

end
end Go.AG

/-
  AG, part L: a function's contract out of the verification condition of its body. Conditions: none.
-/
set_option linter.unusedSimpArgs false
set_option linter.unusedVariables false
namespace Go.AG
open Go.RowKit

/-- the results of a function -/
def vRes (P : Program) (s : AState) : List ResultVar → (List V → Prop) → Prop
  | [], K => K []
  | .tmp t :: r, K => vRes P s r fun xs => K (s.get t :: xs)
  | .cell c t :: r, K => vLoad (ti P t) (s.get c) s.ob fun x => vRes P s r fun xs => K (x :: xs)

def oneOrTup : List V → V
  | [x] => x
  | xs => .tup xs

def retK (P : Program) (rs : List ResultVar) (Q : V → Objs → Prop) (s : AState) : Prop := ∃ s1, Frz s s1 ∧ vRes P s1 rs fun xs => vRet s1.k s1.ob (oneOrTup xs) Q

def retQ (P : Program) (rs : List ResultVar) (Q : V → Objs → Prop) : Exit → AState → Prop
  | .ret => retK P rs Q
  | .normal => retK P rs Q
  | _ => fun _ => False

def argSl (i : Nat) : List V → List (Nat × V)
  | [] => []
  | x :: r => (i, x) :: argSl (i + 1) r

theorem lk_argSl (xs : List V) (i t : Nat) : lk t (argSl i xs) = if i ≤ t then xs.getD (t - i) .junk else .junk := by
  induction xs generalizing i with
  | nil => simp [argSl, lk]
  | cons x r ih =>
    simp only [argSl, lk]
    by_cases h : i = t
    · subst h; simp
    · have : Nat.beq i t = false := by
        cases hb : Nat.beq i t with
        | false => rfl
        | true => exact absurd (Nat.eq_of_beq_eq_true hb) h
      rw [this, cond_false, ih]
      by_cases h2 : i + 1 ≤ t
      · rw [if_pos h2, if_pos (by omega), show t - i = (t - (i + 1)) + 1 from by omega, List.getD_cons_succ]
      · rw [if_neg h2, if_neg (by omega)]

section
variable {P : Program} {F : Fr} {s : AState} {ρ : Nat → Pl} {a : Act} {w : World}

theorem sound_vRes (h : Sat F s ρ a w) : ∀ (rs : List ResultVar) (K : List V → Prop), vRes P s rs K → ∃ xs vs, K xs ∧ vs.length = xs.length ∧ (∀ i (hi : i < xs.length), RepC w (F.Y ρ s.ob) ρ s.ob (vs.getD i undef) xs[i]) ∧
    ∀ f : ResultVar → Sem Value, (∀ t, f (.tmp t) = pure (a.tmps.getD t undef)) → (∀ c t, f (.cell c t) = do loadVar t (← asAddr (a.tmps.getD c undef))) → (rs.mapM f).run P w = .ok vs w
  | [], K, hv => ⟨[], [], hv, rfl, fun i hi => absurd hi (by simp), fun f _ _ => by simp⟩
  | .tmp t :: rs, K, hv => by
    obtain ⟨xs, vs, h1, h2, h3, h4⟩ := sound_vRes h rs _ hv
    refine ⟨_, a.tmps.getD t undef :: vs, h1, by simp [h2], fun i hi => ?_, fun f f1 f2 => ?_⟩
    · cases i with
      | zero => exact h.slot t
      | succ i => exact h3 i (by simpa using hi)
    · rw [List.mapM_cons, f1]
      simp only [Sem.run_bind, Sem.run_pure, Result.andThen_ok, h4 f f1 f2]
  | .cell c t :: rs, K, hv => by
    obtain ⟨x, v, hk, hr, hrun⟩ := sound_load (P := P) (Z := fun _ => True) h t (.tmp c) _ hv (fun _ _ => trivial) (fun _ _ _ _ _ => trivial)
    obtain ⟨xs, vs, h1, h2, h3, h4⟩ := sound_vRes h rs _ hk
    refine ⟨_, v :: vs, h1, by simp [h2], fun i hi => ?_, fun f f1 f2 => ?_⟩
    · cases i with
      | zero => exact hr
      | succ i => exact h3 i (by simpa using hi)
    · rw [List.mapM_cons, f2]
      have h5 := hrun w (Agr.refl _ w)
      have h6 : a.eval (.tmp c) = a.tmps.getD c undef := rfl
      rw [h6] at h5
      have h7 : (do loadVar t (← asAddr (a.tmps.getD c undef)) : Sem Value).run P w = .ok v w := by
        generalize a.tmps.getD c undef = q at h5 ⊢
        cases q with
        | pointer p => cases p with
          | some p => simpa [Instr.loadAt, Instr.sureAddr, asAddr] using h5
          | none => simp [Instr.loadAt, Instr.sureAddr] at h5
        | _ => simp [Instr.loadAt, Instr.sureAddr] at h5
      rw [Sem.run_bind, h7]
      simp only [Sem.run_bind, Sem.run_pure, Result.andThen_ok, h4 f f1 f2]

/-- A FUNCTION's CONTRACT -/
theorem ACalls.of_vc {f : FuncId} {fn : Func} {c : Code} {args : List V} {ob : Objs} {Q : V → Objs → Prop} (hf : P.funcs[f]? = some fn) (hb : fn.body = some c)
    (hn : (fn.name == "runtime.NumGoroutine") = false) (nt : Nat) (hnt : fn.ntmps = nt) (rs : List ResultVar) (hrs : fn.results.toList = rs) (hl : args.length ≤ nt)
    (h : vc P c (retQ P rs Q) ⟨nt, ob.length, argSl 0 args, ob⟩) : ACalls P f args ob Q := by
  subst hnt hrs
  refine ⟨⟨fn, hf, hn, by rw [hb]; rfl⟩, fun w X ρ vs hlaid hvs hh har => calls_of_wp hf hb ?_⟩
  haveI : Nonempty (PLift (Laid P (⟨w, X, ownB ρ ob, ob.length, ρ⟩ : Fr).W (⟨w, X, ownB ρ ob, ob.length, ρ⟩ : Fr).X)) := ⟨⟨hlaid⟩⟩
  have hsat : Sat ⟨w, X, ownB ρ ob, ob.length, ρ⟩ ⟨fn.ntmps, ob.length, argSl 0 args, ob⟩ ρ { tmps := vs ++ Array.replicate (fn.ntmps - vs.size) undef, defers := [] } w := by
    refine ⟨hh, rfl, by simp [hvs]; omega, rfl, Nat.le_refl _, fun t => ?_⟩
    show RepC w _ ρ ob _ (lk t (argSl 0 args))
    rw [lk_argSl, if_pos (Nat.zero_le _), Nat.sub_zero]
    by_cases ht : t < args.length
    · have h1 : args.getD t .junk = args[t] := by simp [List.getD, ht]
      have h2 : (vs ++ Array.replicate (fn.ntmps - vs.size) undef).getD t undef = vs.getD t undef := by
        rw [Array.getD_eq_getD_getElem?, Array.getElem?_append_left (by omega), ← Array.getD_eq_getD_getElem?]
      rw [h1, h2]
      exact har t ht
    · have h1 : args.getD t .junk = .junk := by simp [List.getD, Nat.le_of_not_lt ht]
      rw [h1]
      exact .junk
  refine wp_mono (sound_vc c _ _ ρ _ w h hsat) fun e a' w' hl => ?_
  obtain ⟨s', ρ', h1, h2⟩ := hl
  have key : retK P fn.results.toList Q s' → a'.defers = [] ∧ ∃ v, (results fn a'.tmps).run P w' = .ok v w' ∧
      ∃ v' r ob' ρ', (Ending.returned v) = .returned v' ∧ Q r ob' ∧ HOk ⟨w, X, ownB ρ ob, ob.length, ρ⟩ w' ρ' ob' ∧ RepC w' (Fr.Y ⟨w, X, ownB ρ ob, ob.length, ρ⟩ ρ' ob') ρ' ob' v' r := by
    rintro ⟨s1, hfz, hk⟩
    have h3 := h2.frz hfz
    obtain ⟨xs, us, h4, h5, h6, h7⟩ := sound_vRes h3 _ _ hk
    have hres : ∃ v, (results fn a'.tmps).run P w' = .ok v w' ∧ RepC w' (Fr.Y ⟨w, X, ownB ρ ob, ob.length, ρ⟩ ρ' s1.ob) ρ' s1.ob v (oneOrTup xs) := by
      have hrun : (results fn a'.tmps).run P w' = .ok (if h : us.toArray.size = 1 then us.toArray[0] else .tuple us.toArray) w' := by
        unfold results
        rw [Array.mapM_eq_mapM_toList]
        simp only [Sem.run_bind, Sem.run_map]
        rw [h7 _ (fun _ => rfl) (fun _ _ => rfl)]
        rfl
      refine ⟨_, hrun, ?_⟩
      by_cases h1' : us.length = 1
      · obtain ⟨x, rfl⟩ : ∃ x, xs = [x] := List.length_eq_one_iff.1 (by omega)
        obtain ⟨u, rfl⟩ : ∃ u, us = [u] := List.length_eq_one_iff.1 h1'
        simpa [oneOrTup] using h6 0 (by simp)
      · rw [dif_neg (by simpa using h1')]
        have : oneOrTup xs = .tup xs := by
          cases xs with
          | nil => rfl
          | cons x r => cases r with
            | nil => simp at h5; omega
            | cons y r => rfl
        rw [this]
        refine .tup (by simpa using h5) (fun i hi => ?_)
        have := h6 i hi
        have hi2 : i < us.length := by omega
        simpa [Array.getD, List.getD, hi2] using this
    obtain ⟨v, hrun, hrep⟩ := hres
    obtain ⟨r', ob', ρ2, h8, h10, h11⟩ := h3.ret hrep h4
    exact ⟨h2.dfs, v, hrun, v, r', ob', ρ2, rfl, h8, h10, h11⟩
  cases e with
  | normal => exact key h1
  | ret => exact key h1
  | _ => exact h1.elim

/-- A FUNCTION's CONTRACT, some objects handed for good -/
theorem ACallsM.of_vc {f : FuncId} {fn : Func} {c : Code} {args : List V} {m : Nat} {ob : Objs} {Q : V → Objs → Prop} (hf : P.funcs[f]? = some fn) (hb : fn.body = some c)
    (hn : (fn.name == "runtime.NumGoroutine") = false) (nt : Nat) (hnt : fn.ntmps = nt) (rs : List ResultVar) (hrs : fn.results.toList = rs) (hl : args.length ≤ nt) (hm : m ≤ ob.length)
    (h : vc P c (retQ P rs Q) ⟨nt, m, argSl 0 args, ob⟩) : ACallsM P f args m ob Q := by
  subst hnt hrs
  refine ⟨⟨fn, hf, hn, by rw [hb]; rfl⟩, fun w X ρ vs hlaid hvs hh har => calls_of_wp hf hb ?_⟩
  haveI : Nonempty (PLift (Laid P (⟨w, X, ownB ρ ob, m, ρ⟩ : Fr).W (⟨w, X, ownB ρ ob, m, ρ⟩ : Fr).X)) := ⟨⟨hlaid⟩⟩
  have hsat : Sat ⟨w, X, ownB ρ ob, m, ρ⟩ ⟨fn.ntmps, m, argSl 0 args, ob⟩ ρ { tmps := vs ++ Array.replicate (fn.ntmps - vs.size) undef, defers := [] } w := by
    refine ⟨hh, rfl, by simp [hvs]; omega, rfl, hm, fun t => ?_⟩
    show RepC w _ ρ ob _ (lk t (argSl 0 args))
    rw [lk_argSl, if_pos (Nat.zero_le _), Nat.sub_zero]
    by_cases ht : t < args.length
    · have h1 : args.getD t .junk = args[t] := by simp [List.getD, ht]
      have h2 : (vs ++ Array.replicate (fn.ntmps - vs.size) undef).getD t undef = vs.getD t undef := by
        rw [Array.getD_eq_getD_getElem?, Array.getElem?_append_left (by omega), ← Array.getD_eq_getD_getElem?]
      rw [h1, h2]
      exact har t ht
    · have h1 : args.getD t .junk = .junk := by simp [List.getD, Nat.le_of_not_lt ht]
      rw [h1]
      exact .junk
  refine wp_mono (sound_vc c _ _ ρ _ w h hsat) fun e a' w' hl => ?_
  obtain ⟨s', ρ', h1, h2⟩ := hl
  have key : retK P fn.results.toList Q s' → a'.defers = [] ∧ ∃ v, (results fn a'.tmps).run P w' = .ok v w' ∧
      ∃ v' r ob' ρ', (Ending.returned v) = .returned v' ∧ Q r ob' ∧ HOk ⟨w, X, ownB ρ ob, m, ρ⟩ w' ρ' ob' ∧ RepC w' (Fr.Y ⟨w, X, ownB ρ ob, m, ρ⟩ ρ' ob') ρ' ob' v' r := by
    rintro ⟨s1, hfz, hk⟩
    have h3 := h2.frz hfz
    obtain ⟨xs, us, h4, h5, h6, h7⟩ := sound_vRes h3 _ _ hk
    have hres : ∃ v, (results fn a'.tmps).run P w' = .ok v w' ∧ RepC w' (Fr.Y ⟨w, X, ownB ρ ob, m, ρ⟩ ρ' s1.ob) ρ' s1.ob v (oneOrTup xs) := by
      have hrun : (results fn a'.tmps).run P w' = .ok (if h : us.toArray.size = 1 then us.toArray[0] else .tuple us.toArray) w' := by
        unfold results
        rw [Array.mapM_eq_mapM_toList]
        simp only [Sem.run_bind, Sem.run_map]
        rw [h7 _ (fun _ => rfl) (fun _ _ => rfl)]
        rfl
      refine ⟨_, hrun, ?_⟩
      by_cases h1' : us.length = 1
      · obtain ⟨x, rfl⟩ : ∃ x, xs = [x] := List.length_eq_one_iff.1 (by omega)
        obtain ⟨u, rfl⟩ : ∃ u, us = [u] := List.length_eq_one_iff.1 h1'
        simpa [oneOrTup] using h6 0 (by simp)
      · rw [dif_neg (by simpa using h1')]
        have : oneOrTup xs = .tup xs := by
          cases xs with
          | nil => rfl
          | cons x r => cases r with
            | nil => simp at h5; omega
            | cons y r => rfl
        rw [this]
        refine .tup (by simpa using h5) (fun i hi => ?_)
        have := h6 i hi
        have hi2 : i < us.length := by omega
        simpa [Array.getD, List.getD, hi2] using this
    obtain ⟨v, hrun, hrep⟩ := hres
    obtain ⟨r', ob', ρ2, h8, h10, h11⟩ := h3.ret hrep h4
    exact ⟨h2.dfs, v, hrun, v, r', ob', ρ2, rfl, h8, h10, h11⟩
  cases e with
  | normal => exact key h1
  | ret => exact key h1
  | _ => exact h1.elim

end
end Go.AG
