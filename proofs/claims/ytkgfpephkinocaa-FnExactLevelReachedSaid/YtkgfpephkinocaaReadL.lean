/- what a land and a list of lists read as, as a law's argument -/
import Derived.Test.YtkgfpephkinocaaRead
import Derived.Test.YtkgfpephkinocaaLand
set_option linter.unusedVariables false
set_option linter.unusedSimpArgs false
namespace Go.Proofs.Ytkgfpephkinocaa
open Go.AG

theorem rd_land : Rd Try.prog 58 3 (fun xs => ∃ l : Ld, l.hs.length ≤ 9223372036854775807 ∧ xs = lC l) :=
  (Rd.struct Try.underlying58 (by kernel_rfl) (RdF.cons rd_int rfl (by kernel_rfl) (RdF.cons rd_int rfl (by kernel_rfl) (RdF.cons rd_ints rfl (by kernel_rfl) (RdF.nil _))))).mono
    fun xs ⟨a, b, ⟨n1, _, h1⟩, ⟨c, d, ⟨n2, _, h2⟩, ⟨e, f, ⟨n3, l3, h3⟩, h4, h5⟩, h6⟩, h7⟩ => ⟨⟨n1, n2, n3⟩, l3, by subst h4 h5 h6 h1 h2 h3 h7; rfl⟩
theorem read_land : Rdr Try.prog 58 (fun l => .agg (lC l)) (fun l => l.hs.length ≤ 9223372036854775807) := Rdr.struct Try.underlying58 rd_land
theorem fm_rws (ds : List (List Int)) : (ds.flatMap fun d => [iS d]) = rws ds := by
  induction ds with
  | nil => rfl
  | cons y ys ih => rw [List.flatMap_cons, ih]; rfl
theorem rd_rows : Rd Try.prog 26 1 (fun xs => ∃ ds : List (List Int), (ds.length ≤ 9223372036854775807 ∧ ∀ j, j < ds.length → (gr ds j).length ≤ 9223372036854775807) ∧ xs = [.sl ds.length (rws ds)]) :=
  (Rd.slOf (fun d => [iS d]) Try.underlying26 (by kernel_rfl) (by omega) rd_ints).mono fun xs ⟨ds, h, e⟩ => ⟨ds, ⟨h.1, fun j hj => by
    have e1 : gr ds j = ds[j] := by simp [gr, hj]
    rw [e1]; exact h.2 _ (List.getElem_mem hj)⟩, by rw [e, fm_rws]⟩
theorem read_rows : Rdr Try.prog 26 (fun ds => .sl ds.length (rws ds)) (fun ds : List (List Int) => ds.length ≤ 9223372036854775807 ∧ ∀ j, j < ds.length → (gr ds j).length ≤ 9223372036854775807) := Rdr.slice Try.underlying26 rd_rows
end Go.Proofs.Ytkgfpephkinocaa
