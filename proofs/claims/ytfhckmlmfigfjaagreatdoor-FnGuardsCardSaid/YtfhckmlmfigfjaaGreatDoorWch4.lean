/- watches: plans: walks -/
import Derived.Test.YtfhckmlmfigfjaaGreatDoorWch3
set_option linter.unusedVariables false
set_option linter.unusedSimpArgs false
namespace Go.Proofs.YtfhckmlmfigfjaaGreatDoor
open Go.AG Go.Lib

attribute [local go_sem] beq_self_eq_true bne_self_eq_false Bool.not_true Bool.not_false
def RowS (xs : List Sh) (c : Int) (r : V) (o : Objs) : Prop := (r = .tup [.ref 0 0 xs.length, I c] ∧ o = [some ⟨3, cSh xs⟩]) ∨ (xs = [] ∧ r = .tup [nilS, I c] ∧ o = [])
theorem RowS.fz {P : Program} {f : FuncId} {args : List V} {xs : List Sh} {c : Int} (h : ACalls P f args [] (RowS xs c)) : ACalls P f args [] (fun r o => r = .tup [.sl xs.length (cSh xs), I c] ∧ o = []) := by
  have h1 : ACalls P f args [] (fun r o => (r = .tup [.sl xs.length (cSh xs), I c] ∧ o = []) ∨ (xs = [] ∧ r = .tup [nilS, I c] ∧ o = [])) := by
    refine h.fz ?_
    rintro r o (⟨rfl, rfl⟩ | ⟨h1, rfl, rfl⟩)
    · refine ⟨.tup [.sl xs.length (cSh xs), I c], .step 0 ⟨3, cSh xs⟩ rfl (by (repeat (first | simp (maxSteps := 2000000) (disch := omega) only [go_sem, ↓reduceIte] | with_reducible refine vIf_t ?_ | with_reducible refine vIf_f ?_))) ?_, .inl ⟨rfl, rfl⟩⟩
      (repeat (first | simp (maxSteps := 2000000) (disch := omega) only [go_sem, ↓reduceIte] | with_reducible refine vIf_t ?_ | with_reducible refine vIf_f ?_))
      exact .done rfl
    · exact ⟨_, .done rfl, .inr ⟨h1, rfl, rfl⟩⟩
  refine h1.leD ?_
  rintro r o (⟨rfl, rfl⟩ | ⟨h1, rfl, rfl⟩)
  · exact ⟨_, .le (V.le_refl _), rfl, rfl⟩
  · subst h1
    exact ⟨_, LeD.tup' (leD_nilS (leD_same _ leD_nil)), rfl, rfl⟩
def paR (fr tw long rest : Int) : Prop := (0 ≤ fr ∧ fr ≤ 100000) ∧ (0 ≤ tw ∧ tw ≤ 100000) ∧ fr ≤ tw ∧ (1 ≤ long ∧ long ≤ 24) ∧ (0 ≤ rest ∧ rest ≤ 100)
instance (fr tw long rest : Int) : Decidable (paR fr tw long rest) := by unfold paR; infer_instance
def paC (ds : List Gd) (fr tw long rest : Int) : Int := if okG ds = true then if paR fr tw long rest then 0 else 2 else 1
def pw0 (ds : List Gd) (fr : Int) : Pw := ⟨fr, [], List.replicate ds.length 0⟩
def plC (ds : List Gd) (fr tw long rest : Int) : Int := if paC ds fr tw long rest = 0 then (pwR ds.length tw long rest 42 (pw0 ds fr)).2 else paC ds fr tw long rest
def plW (ds : List Gd) (fr tw long rest : Int) : List Sh := if paC ds fr tw long rest = 0 then (pwR ds.length tw long rest 42 (pw0 ds fr)).1 else []
theorem plC_0 {ds : List Gd} {fr tw long rest : Int} (h : paC ds fr tw long rest = 0) : plC ds fr tw long rest = (pwR ds.length tw long rest 42 (pw0 ds fr)).2 ∧ plW ds fr tw long rest = (pwR ds.length tw long rest 42 (pw0 ds fr)).1 := ⟨if_pos h, if_pos h⟩
theorem plC_n {ds : List Gd} {fr tw long rest : Int} (h : paC ds fr tw long rest ≠ 0) : plC ds fr tw long rest = paC ds fr tw long rest ∧ plW ds fr tw long rest = [] := ⟨if_neg h, if_neg h⟩
theorem pwR_s (n : Nat) (tw long rest : Int) (f : Nat) (s : Pw) : pwR n tw long rest (f + 1) s = if s.t < tw then if pwB n s < 0 then ([], 3) else if s.sh.length = 40 then ([], 5) else pwR n tw long rest f (pwN n tw long rest s) else (s.sh, 0) := rfl
structure PwI (n : Nat) (fr tw long rest : Int) (R : List Sh × Int) (x : Pw × Nat) : Prop where
  e : pwR n tw long rest (x.2 + 1) x.1 = R
  f : x.2 + x.1.sh.length = 41
  ok : PwOk n fr tw long rest x.1
end Go.Proofs.YtfhckmlmfigfjaaGreatDoor
