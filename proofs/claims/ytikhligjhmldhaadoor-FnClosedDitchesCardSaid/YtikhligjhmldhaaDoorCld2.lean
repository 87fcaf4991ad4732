/- nets as texts: plain -/
import Derived.Test.YtikhligjhmldhaaDoorFlo1
import Derived.Test.YtikhligjhmldhaaDoorT3
import Derived.Test.YtikhligjhmldhaaDoorT4
set_option linter.unusedVariables false
set_option linter.unusedSimpArgs false
namespace Go.Proofs.YtikhligjhmldhaaDoor
open Go.AG Go.Lib

def dtPs (r : List Dt) : List (List UInt8 × Int) := r.flatMap fun d => [([32], d.fr), ([62], d.tw), ([61], d.cp)]
def ntP (J : Int) : List Dt → List (List UInt8 × Int)
  | [] => [([], J)]
  | d :: r => ([], J) :: ([58, 32], d.fr) :: ([62], d.tw) :: ([61], d.cp) :: dtPs r
def ntE : List Dt → List UInt8
  | [] => [58]
  | _ :: _ => []
def dtT (d : Dt) : List UInt8 := 32 :: (itoa d.fr ++ 62 :: (itoa d.tw ++ 61 :: itoa d.cp))
def ntT (J : Int) (ds : List Dt) : List UInt8 := itoa J ++ 58 :: ds.flatMap dtT
def dtN (r : List Dt) : List Int := r.flatMap fun d => [d.fr, d.tw, d.cp]
theorem txN_dt (r : List Dt) : txN (dtPs r) [] = r.flatMap dtT := by
  induction r with
  | nil => rfl
  | cons d r ih =>
    simp only [txN, List.append_nil] at ih ⊢
    simp only [dtPs, List.flatMap_cons, List.flatMap_append] at ih ⊢
    rw [ih]
    simp [dtT]
theorem ntT_eq (J : Int) (ds : List Dt) : txN (ntP J ds) (ntE ds) = ntT J ds := by
  cases ds with
  | nil => simp [ntP, ntE, ntT, txN]
  | cons d r =>
    have h := txN_dt r
    simp only [txN, List.append_nil] at h
    simp only [ntP, ntE, ntT, txN, List.flatMap_cons, List.append_nil, h]
    simp [dtT]
theorem dt_map (r : List Dt) : (dtPs r).map (·.2) = dtN r := by
  induction r with
  | nil => rfl
  | cons d r ih =>
    simp only [dtPs, dtN, List.flatMap_cons, List.map_append] at ih ⊢
    rw [ih]; rfl
theorem nt_map (J : Int) (ds : List Dt) : (ntP J ds).map (·.2) = J :: dtN ds := by
  cases ds with
  | nil => rfl
  | cons d r =>
    have := dt_map r
    simp only [ntP, List.map_cons, this]
    rfl
theorem dt_all (f : List UInt8 × Int → Bool) (h : ∀ x, f ([32], x) = true ∧ f ([62], x) = true ∧ f ([61], x) = true) (r : List Dt) : (dtPs r).all f = true := by
  rw [List.all_eq_true]
  intro p hp
  unfold dtPs at hp
  rw [List.mem_flatMap] at hp
  obtain ⟨d, _, hp⟩ := hp
  simp only [List.mem_cons, List.not_mem_nil, or_false] at hp
  rcases hp with rfl | rfl | rfl
  · exact (h _).1
  · exact (h _).2.1
  · exact (h _).2.2
theorem nt_fl (J : Int) (ds : List Dt) : flG pn (ntT J ds) none = (J :: dtN ds).map itoa := by
  rw [← ntT_eq, ← nt_map]
  cases ds with
  | nil => exact flG_txN _ _ rfl rfl rfl
  | cons d r =>
    refine flG_txN _ _ ?_ ?_ rfl
    · have := dt_all (fun p => sepL p.1) (fun _ => ⟨rfl, rfl, rfl⟩) r
      simp only [ntP, List.all_cons, this]
      rfl
    · have := dt_all (fun p => !p.1.isEmpty) (fun _ => ⟨rfl, rfl, rfl⟩) r
      simp only [ntP, List.drop_succ_cons, List.drop_zero, List.all_cons, this]
      rfl
theorem nt_asc (J : Int) (ds : List Dt) : ∀ c ∈ ntT J ds, c.toNat < 128 := by
  rw [← ntT_eq]
  cases ds with
  | nil => exact asc_txN _ _ rfl rfl
  | cons d r =>
    refine asc_txN _ _ ?_ rfl
    have := dt_all (fun p => p.1.all fun c => decide (c.toNat < 128)) (fun _ => ⟨rfl, rfl, rfl⟩) r
    simp only [ntP, List.all_cons, this]
    rfl
theorem dtN_len (ds : List Dt) : (dtN ds).length = 3 * ds.length := by
  induction ds with
  | nil => rfl
  | cons d r ih =>
    have : dtN (d :: r) = [d.fr, d.tw, d.cp] ++ dtN r := rfl
    rw [this, List.length_append, ih]
    simp; omega
theorem dtN_gi : ∀ (ds : List Dt) (k : Nat), k < ds.length → gi (dtN ds) (3 * k) = (gDt ds k).fr ∧ gi (dtN ds) (3 * k + 1) = (gDt ds k).tw ∧ gi (dtN ds) (3 * k + 2) = (gDt ds k).cp
  | [], k, h => by simp at h
  | d :: r, 0, _ => ⟨rfl, rfl, rfl⟩
  | d :: r, k + 1, h => by
    have ih := dtN_gi r k (by simpa using h)
    have e : dtN (d :: r) = [d.fr, d.tw, d.cp] ++ dtN r := rfl
    have eg : gDt (d :: r) (k + 1) = gDt r k := by
      rw [gDt_lt _ _ h, gDt_lt _ _ (by simpa using h)]; rfl
    rw [e, eg]
    have g : ∀ i, gi ([d.fr, d.tw, d.cp] ++ dtN r) (3 * (k + 1) + i) = gi (dtN r) (3 * k + i) := fun i => by
      rw [gi_append_right _ _ _ (by simp only [List.length_cons, List.length_nil]; omega)]
      congr 1
      simp only [List.length_cons, List.length_nil]; omega
    have g0 := g 0
    rw [Nat.add_zero, Nat.add_zero] at g0
    rw [g0, g, g]
    exact ih
theorem dtT_len {J : Int} {d : Dt} (h : DtF J d) (hJ : J ≤ 10) : (dtT d).length ≤ 66 := by
  obtain ⟨a, b, _, c⟩ := h
  have i1 := itoa_len d.fr (by unfold nOk; omega)
  have i2 := itoa_len d.tw (by unfold nOk; omega)
  have i3 := itoa_len d.cp (by unfold nOk; omega)
  simp [dtT]; omega
theorem ntT_len {J : Int} (hJ : 2 ≤ J ∧ J ≤ 10) (ds : List Dt) (h : ∀ d ∈ ds, DtF J d) : (ntT J ds).length ≤ 30 + 66 * ds.length := by
  have i1 := itoa_len J (by unfold nOk; omega)
  have : (ds.flatMap dtT).length ≤ 66 * ds.length := by
    clear i1
    induction ds with
    | nil => simp
    | cons d r ih =>
      have h1 := dtT_len (h d (by simp)) hJ.2
      have h2 := ih (fun x hx => h x (by simp [hx]))
      rw [List.flatMap_cons, List.length_append, List.length_cons]
      omega
  unfold ntT
  rw [List.length_append, List.length_cons]
  omega
theorem ntT_snoc (J : Int) (ds : List Dt) (k : Nat) (h : k < ds.length) : ntT J (ds.take (k + 1)) = ntT J (ds.take k) ++ dtT (gDt ds k) := by
  rw [gDt_take_succ ds k h]
  simp [ntT]
theorem dtN_ok {J : Int} (hJ : 2 ≤ J ∧ J ≤ 10) (ds : List Dt) (h : ∀ d ∈ ds, DtF J d) : ∀ x ∈ J :: dtN ds, nOk x := by
  intro x hx
  rcases List.mem_cons.1 hx with rfl | hx
  · unfold nOk; omega
  · unfold dtN at hx
    rw [List.mem_flatMap] at hx
    obtain ⟨d, hd, hx⟩ := hx
    obtain ⟨a, b, _, c⟩ := h d hd
    simp only [List.mem_cons, List.not_mem_nil, or_false] at hx
    rcases hx with rfl | rfl | rfl <;> unfold nOk <;> omega
end Go.Proofs.YtikhligjhmldhaaDoor
