/- sort.Strings, as a contract of mine -/
import Derived.Test.YtilocioajpcoiaaSortB
import Derived.Test.YtilocioajpcoiaaStrL
import Derived.Test.YtilocioajpcoiaaShelf
set_option linter.unusedVariables false
set_option linter.unusedSimpArgs false
namespace Go.Proofs.Ytilocioajpcoiaa
open Go.AG Go.Lib Go.Sort

/-- the texts, sorted -/
def sS (xs : List ByteArray) : List ByteArray := ((xs.map fun s => s.data.toList).mergeSort fun x y => decide (x ≤ y)).map tx
theorem sS_len (xs : List ByteArray) : (sS xs).length = xs.length := by rw [sS, List.length_map, List.length_mergeSort, List.length_map]
theorem encs_strs (xs : List ByteArray) : encs encStr (xs.map fun s => s.data.toList) = strs xs := by
  simp only [encs, strs, List.map_map]
  rfl
theorem sortStrings_ok (xs : List ByteArray) (hl : xs.length ≤ 10000000) : ACalls Try.prog 50 [.ref 0 0 xs.length] [some ⟨1, strs xs⟩] (fun r o => r = .tup [] ∧ o = [some ⟨1, strs (sS xs)⟩]) := by
  have hb : HasBody Try.prog 50 := ⟨_, Try.func50, by kernel_rfl, rfl⟩
  have h := ACalls.row hb encStr (fun x => rfl) (xs.map fun s => s.data.toList) ((xs.map fun s => s.data.toList).mergeSort fun x y => decide (x ≤ y)) (by rw [List.length_mergeSort])
    (fun w blk off cap hH hb => by
      have h1 := Try.sort_Strings blk off cap (xs.map fun s => s.data.toList) w hH hb (by rw [List.length_map]; omega)
      refine h1.mono ?_
      rintro e w' ⟨e1, n, os, e2⟩
      exact ⟨e1, n, os, e2⟩)
  rw [List.length_map, encs_strs] at h
  have e : encs encStr ((xs.map fun s => s.data.toList).mergeSort fun x y => decide (x ≤ y)) = strs (sS xs) := by
    rw [← encs_strs (sS xs)]
    congr 1
    simp [sS, list_tx, Function.comp_def]
  rw [e] at h
  exact h
theorem sS_mem {xs : List ByteArray} {s : ByteArray} : s ∈ sS xs ↔ s ∈ xs := by
  simp only [sS, List.mem_map, List.mem_mergeSort]
  constructor
  · rintro ⟨l, ⟨t, ht, rfl⟩, rfl⟩; rw [tx_list]; exact ht
  · intro h; exact ⟨_, ⟨s, h, rfl⟩, tx_list s⟩
/-- rising texts -/
theorem sS_up {xs : List ByteArray} (hn : xs.Nodup) (i j : Nat) (h : i < j) (hj : j < (sS xs).length) : (gs (sS xs) i).data.toList < (gs (sS xs) j).data.toList := by
  have hs : ((xs.map fun s => s.data.toList).mergeSort fun x y => decide (x ≤ y)).Pairwise fun x y => decide (x ≤ y) = true :=
    List.pairwise_mergeSort (le := fun x y : List UInt8 => decide (x ≤ y)) (fun a b c h1 h2 => decide_eq_true (List.le_trans (of_decide_eq_true h1) (of_decide_eq_true h2))) (fun a b => by
      rcases List.le_total a b with h | h
      · rw [decide_eq_true h]; rfl
      · rw [decide_eq_true h]; simp) _
  have hd : ((xs.map fun s => s.data.toList).mergeSort fun x y => decide (x ≤ y)).Nodup := by
    refine (List.Perm.nodup_iff (List.mergeSort_perm _ _)).2 ?_
    refine List.Pairwise.map _ (fun a b hab e => hab ?_) hn
    rw [← tx_list a, ← tx_list b, e]
  have hj2 : j < ((xs.map fun s => s.data.toList).mergeSort fun x y => decide (x ≤ y)).length := by simpa [sS] using hj
  have e : ∀ k (hk : k < ((xs.map fun s => s.data.toList).mergeSort fun x y => decide (x ≤ y)).length), (gs (sS xs) k).data.toList = ((xs.map fun s => s.data.toList).mergeSort fun x y => decide (x ≤ y))[k] := fun k hk => by
    rw [gs_lt _ _ (by simpa [sS] using hk)]
    simp [sS, list_tx]
  rw [e i (by omega), e j hj2]
  have h1 := of_decide_eq_true (List.pairwise_iff_getElem.1 hs i j (by omega) hj2 h)
  have h2 := List.pairwise_iff_getElem.1 hd i j (by omega) hj2 h
  rcases Classical.em (((xs.map fun s => s.data.toList).mergeSort fun x y => decide (x ≤ y))[i]'(by omega) < ((xs.map fun s => s.data.toList).mergeSort fun x y => decide (x ≤ y))[j]) with h3 | h3
  · exact h3
  · exact absurd (List.le_antisymm h1 (List.not_lt.1 h3)) h2
/-- as many as there are to choose from -/
theorem nodup_le {α : Type} : ∀ (xs ys : List α), xs.Nodup → (∀ x ∈ xs, x ∈ ys) → xs.length ≤ ys.length
  | [], _, _, _ => by simp
  | x :: r, ys, hn, h => by
    obtain ⟨a, b, rfl⟩ := List.append_of_mem (h x (List.mem_cons_self ..))
    rw [List.nodup_cons] at hn
    have := nodup_le r (a ++ b) hn.2 (fun z hz => by
      have := h z (List.mem_cons_of_mem _ hz)
      simp only [List.mem_append, List.mem_cons] at this ⊢
      rcases this with h1 | rfl | h1
      · exact .inl h1
      · exact absurd hz hn.1
      · exact .inr h1)
    simp only [List.length_append, List.length_cons] at this ⊢
    omega
end Go.Proofs.Ytilocioajpcoiaa
