/- nets of ditches: the specification's walk and pushes: walks -/
import Derived.Test.YtikhligjhmldhaaDoorFlo3
import Derived.Test.YtikhligjhmldhaaDoorUsd
set_option linter.unusedVariables false
set_option linter.unusedSimpArgs false
namespace Go.Proofs.YtikhligjhmldhaaDoor
open Go.AG Go.Lib

attribute [local go_sem] beq_self_eq_true bne_self_eq_false Bool.not_true Bool.not_false
/-- by which ditch -/
structure ByF (n : Nt) (m : Nat) (L K Y : List Int) : Prop where
  l : Y.length = m
  e : ∀ p, 1 ≤ p → p < L.length → gi Y (gi L p).toNat = if (gDt n.ds (gi K p).toNat).tw = gi L p then gi K p else gi K p - n.ds.length
theorem ByF.add {n : Nt} {m : Nat} {F L K Y : List Int} {from_ : Int} (hn : NtF n) (hm : (m : Int) = n.j) (hT : Tre n F from_ L K) (h : ByF n m L K Y) (k : Nat) (hk : k < n.ds.length) (v x : Int) (hv : ¬ v ∈ L) (hvj : 0 ≤ v ∧ v < n.j) (hx : x = if (gDt n.ds k).tw = v then (k : Int) else (k : Int) - n.ds.length) : ByF n m (L ++ [v]) (K ++ [(k : Int)]) (Y.set v.toNat x) := by
  have hl := h.l
  have hln := hT.ln
  refine ⟨by simp [hl], fun p h1 h2 => ?_⟩
  simp only [List.length_append, List.length_singleton] at h2
  by_cases e : p < L.length
  · have hi := hT.inn _ (gi_mem L p e)
    rw [gi_append_left L _ _ e, gi_append_left K _ _ (by omega)]
    have hne : v.toNat ≠ (gi L p).toNat := fun g => hv (by
      have := gi_mem L p e
      rw [show v = gi L p by omega]; exact this)
    rw [gi_set_ne _ _ _ _ hne]
    exact h.e p h1 e
  · obtain rfl : p = L.length := by omega
    have e1 : gi (K ++ [(k : Int)]) L.length = k := by rw [← hln, gi_append_right _ _ _ (Nat.le_refl _), Nat.sub_self]; rfl
    have e2 : gi (L ++ [v]) L.length = v := by rw [gi_append_right _ _ _ (Nat.le_refl _), Nat.sub_self]; rfl
    rw [e1, e2, gi_set_same _ _ _ (by omega), hx, Int.toNat_natCast]
theorem usd_gb (m : Nat) (L : List Int) (x : Int) (h : 0 ≤ x ∧ x < m) : gb (usd m L) x.toNat = decide (x ∈ L) := by
  rw [usd_get m L x.toNat (by omega), show ((x.toNat : Nat) : Int) = x by omega]
def wkO (m : Nat) (F L Y : List Int) : Objs := [oI F, some ⟨2, [.ref 2 0 m, .ref 3 0 m]⟩, some ⟨1, bls (usd m L)⟩, oI Y]
def Cls (n : Nt) (F L : List Int) (k : Nat) : Prop := ∀ k', k' < k → ∀ u v, Rsd (gDt n.ds k') (gi F k') u v → u ∈ L → v ∈ L
structure Wk (n : Nt) (m : Nat) (F : List Int) (from_ : Int) (L K Y : List Int) : Prop where
  T : Tre n F from_ L K
  b : ByF n m L K Y
structure WkI (n : Nt) (m : Nat) (F : List Int) (from_ : Int) (l0 : Nat) (L K Y : List Int) (mo : Bool) (k : Nat) : Prop where
  W : Wk n m F from_ L K Y
  hk : k ≤ n.ds.length
  hl : l0 ≤ L.length
  hm : mo = true → l0 < L.length
  hc : mo = false → Cls n F L k
theorem WkI.same {n : Nt} {m : Nat} {F : List Int} {from_ : Int} {l0 : Nat} {L K Y : List Int} {mo : Bool} {k : Nat} (h : WkI n m F from_ l0 L K Y mo k) (hk : k < n.ds.length) (hno : ∀ u v, Rsd (gDt n.ds k) (gi F k) u v → u ∈ L → v ∈ L) : WkI n m F from_ l0 L K Y mo (k + 1) :=
  ⟨h.W, hk, h.hl, h.hm, fun hm k' hk' u v hr hu => by
    by_cases e : k' = k
    · subst e; exact hno u v hr hu
    · exact h.hc hm k' (by omega) u v hr hu⟩
theorem WkI.more {n : Nt} (hn : NtF n) {m : Nat} (hm : (m : Int) = n.j) {F : List Int} {from_ : Int} {l0 : Nat} {L K Y : List Int} {mo : Bool} {k : Nat} (h : WkI n m F from_ l0 L K Y mo k) (hk : k < n.ds.length) (u v x : Int) (hu : u ∈ L) (hv : ¬ v ∈ L) (hvj : 0 ≤ v ∧ v < n.j) (hr : Rsd (gDt n.ds k) (gi F k) u v) (hx : x = if (gDt n.ds k).tw = v then (k : Int) else (k : Int) - n.ds.length) : WkI n m F from_ l0 (L ++ [v]) (K ++ [(k : Int)]) (Y.set v.toNat x) true (k + 1) := by
  have := h.hl
  exact ⟨⟨h.W.T.add k hk u v hu hv hvj hr, h.W.b.add hn hm h.W.T k hk v x hv hvj hx⟩, hk, by simp; omega, fun _ => by simp; omega, fun e => by cases e⟩
end Go.Proofs.YtikhligjhmldhaaDoor
