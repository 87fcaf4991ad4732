/- exchanged and handed-over duties: plain -/
import Derived.Test.YtbbdfifpncjpnaaDoorHanP
set_option linter.unusedVariables false
set_option linter.unusedSimpArgs false
namespace Go.Proofs.YtbbdfifpncjpnaaDoor
open Go.AG

def exV (ds : List Du) (a b : Nat) : List Du := (ds.set a ⟨(gDu ds b).owner, (gDu ds a).fr, (gDu ds a).tw⟩).set b ⟨(gDu ds a).owner, (gDu ds b).fr, (gDu ds b).tw⟩
theorem exV_len (ds : List Du) (a b : Nat) : (exV ds a b).length = ds.length := by simp [exV]
theorem exV_get (ds : List Du) (a b k : Nat) (ha : a < ds.length) (hb : b < ds.length) : gDu (exV ds a b) k = if k = b then ⟨(gDu ds a).owner, (gDu ds b).fr, (gDu ds b).tw⟩ else if k = a then ⟨(gDu ds b).owner, (gDu ds a).fr, (gDu ds a).tw⟩ else gDu ds k := by
  unfold exV
  by_cases h1 : k = b
  · rw [if_pos h1, h1, gDu_set_same _ _ _ (by simpa using hb)]
  · rw [if_neg h1, gDu_set_ne _ _ _ _ (fun e => h1 e.symm)]
    by_cases h2 : k = a
    · rw [if_pos h2, h2, gDu_set_same _ _ _ ha]
    · rw [if_neg h2, gDu_set_ne _ _ _ _ (fun e => h2 e.symm)]
theorem exV_part (ds : List Du) (a b k : Nat) (ha : a < ds.length) (hb : b < ds.length) : (gDu (exV ds a b) k).fr = (gDu ds k).fr ∧ (gDu (exV ds a b) k).tw = (gDu ds k).tw := by
  rw [exV_get ds a b k ha hb]
  by_cases h1 : k = b
  · rw [if_pos h1, h1]; exact ⟨rfl, rfl⟩
  · rw [if_neg h1]
    by_cases h2 : k = a
    · rw [if_pos h2, h2]; exact ⟨rfl, rfl⟩
    · rw [if_neg h2]; exact ⟨rfl, rfl⟩
theorem exV_VD {ds : List Du} {L : Int} (V : VD ds L) (a b : Nat) (ha : a < ds.length) (hb : b < ds.length) : VD (exV ds a b) L := by
  have hat : ∀ k, atD (exV ds a b) k = atD ds k := fun k => by
    unfold atD
    split
    · rfl
    · exact (exV_part ds a b _ ha hb).2
  refine ⟨V.l, by rw [exV_len]; exact V.n, by rw [exV_len, hat]; exact V.e, fun j hj => ?_⟩
  rw [exV_len] at hj
  have h1 := V.p j hj
  have h2 := exV_part ds a b j ha hb
  unfold duP at h1 ⊢
  rw [hat, h2.1, h2.2]
  refine ⟨?_, h1.2⟩
  rw [exV_get ds a b j ha hb]
  have h3 := V.p a ha
  have h4 := V.p b hb
  unfold duP at h3 h4
  split
  · exact h3.1
  · split
    · exact h4.1
    · exact h1.1
theorem du_ext {xs ys : List Du} (hl : xs.length = ys.length) (h : ∀ k, k < xs.length → gDu xs k = gDu ys k) : xs = ys := by
  apply List.ext_getElem hl
  intro i h1 h2
  have := h i h1
  rwa [gDu_lt xs i h1, gDu_lt ys i h2] at this
theorem exV_twice (ds : List Du) (a b : Nat) (ha : a < ds.length) (hb : b < ds.length) (hne : a ≠ b) : exV (exV ds a b) a b = ds := by
  refine du_ext (by rw [exV_len, exV_len]) fun k hk => ?_
  rw [exV_get _ a b k (by rw [exV_len]; exact ha) (by rw [exV_len]; exact hb)]
  have ea : gDu (exV ds a b) a = ⟨(gDu ds b).owner, (gDu ds a).fr, (gDu ds a).tw⟩ := by rw [exV_get ds a b a ha hb, if_neg hne, if_pos rfl]
  have eb : gDu (exV ds a b) b = ⟨(gDu ds a).owner, (gDu ds b).fr, (gDu ds b).tw⟩ := by rw [exV_get ds a b b ha hb, if_pos rfl]
  rw [ea, eb]
  by_cases h1 : k = b
  · rw [if_pos h1, h1]
  · rw [if_neg h1]
    by_cases h2 : k = a
    · rw [if_pos h2, h2]
    · rw [if_neg h2, exV_get ds a b k ha hb, if_neg h1, if_neg h2]
/-- two can be exchanged -/
structure ExO (ds : List Du) (L a b : Int) : Prop where
  V : VD ds L
  ha : 0 ≤ a ∧ a ≤ (ds.length : Int) - 1
  hb : 0 ≤ b ∧ b ≤ (ds.length : Int) - 1
  o : (gDu ds a.toNat).owner ≠ (gDu ds b.toNat).owner
  n : (gDu ds a.toNat).tw - (gDu ds a.toNat).fr = (gDu ds b.toNat).tw - (gDu ds b.toNat).fr
theorem ExO.twice {ds : List Du} {L a b : Int} (h : ExO ds L a b) : ExO (exV ds a.toNat b.toNat) L a b ∧ exV (exV ds a.toNat b.toNat) a.toNat b.toNat = ds := by
  have ha := h.ha
  have hb := h.hb
  have ha2 : a.toNat < ds.length := by omega
  have hb2 : b.toNat < ds.length := by omega
  have hne : a.toNat ≠ b.toNat := fun e => h.o (by rw [e])
  have p1 := exV_part ds a.toNat b.toNat a.toNat ha2 hb2
  have p2 := exV_part ds a.toNat b.toNat b.toNat ha2 hb2
  refine ⟨⟨exV_VD h.V _ _ ha2 hb2, by rw [exV_len]; exact ha, by rw [exV_len]; exact hb, ?_, ?_⟩, exV_twice ds _ _ ha2 hb2 hne⟩
  · rw [exV_get ds _ _ a.toNat ha2 hb2, exV_get ds _ _ b.toNat ha2 hb2, if_neg hne, if_pos rfl, if_pos rfl]
    exact fun e => h.o e.symm
  · rw [p1.1, p1.2, p2.1, p2.2]; exact h.n
def exC (ds : List Du) (L a b : Int) : Int := if vdB ds L = true then if (0 ≤ a ∧ a ≤ (ds.length : Int) - 1) ∧ (0 ≤ b ∧ b ≤ (ds.length : Int) - 1) then if (gDu ds a.toNat).owner = (gDu ds b.toNat).owner ∨ (gDu ds a.toNat).tw - (gDu ds a.toNat).fr ≠ (gDu ds b.toNat).tw - (gDu ds b.toNat).fr then 6 else 0 else 2 else 1
def exL (ds : List Du) (L a b : Int) : List Du := if exC ds L a b = 0 then exV ds a.toNat b.toNat else []
theorem exC_0 {ds : List Du} {L a b : Int} : exC ds L a b = 0 ↔ ExO ds L a b := by
  unfold exC
  constructor
  · intro h
    split at h
    · rename_i hv
      split at h
      · rename_i hab
        split at h
        · omega
        · rename_i ho
          exact ⟨(vdB_iff _ _).1 hv, hab.1, hab.2, fun e => ho (.inl e), Classical.byContradiction fun e => ho (.inr e)⟩
      · omega
    · omega
  · intro h
    rw [if_pos (vdB_yes h.V), if_pos ⟨h.ha, h.hb⟩, if_neg]
    rintro (e | e)
    · exact h.o e
    · exact e h.n
theorem exL_len (ds : List Du) (L a b : Int) : (exL ds L a b).length ≤ ds.length := by
  unfold exL
  split
  · rw [exV_len]; exact Nat.le_refl _
  · simp
/-! handed over -/
structure HoO (ds : List Du) (L f t o : Int) : Prop where
  V : VD ds L
  hf : 0 ≤ f
  ht : f < t
  hl : t ≤ L
  ho : 0 ≤ o ∧ o ≤ 39
def hoC (ds : List Du) (L f t o : Int) : Int := if vdB ds L = true then if (0 ≤ f ∧ f < t ∧ t ≤ L) ∧ (0 ≤ o ∧ o ≤ 39) then if 40 < (hoL ds f t o).length then 5 else 0 else 2 else 1
def hoV (ds : List Du) (L f t o : Int) : List Du := if hoC ds L f t o = 0 then hoL ds f t o else []
theorem hoC_0 {ds : List Du} {L f t o : Int} (h : hoC ds L f t o = 0) : HoO ds L f t o ∧ (hoL ds f t o).length ≤ 40 := by
  unfold hoC at h
  split at h
  · rename_i hv
    split at h
    · rename_i hr
      split at h
      · omega
      · exact ⟨⟨(vdB_iff _ _).1 hv, hr.1.1, hr.1.2.1, hr.1.2.2, hr.2⟩, by omega⟩
    · omega
  · omega
theorem hoV_len (ds : List Du) (L f t o : Int) : (hoV ds L f t o).length ≤ 40 := by
  unfold hoV
  split
  · rename_i h; exact (hoC_0 h).2
  · simp
theorem hoV_0 {ds : List Du} {L f t o : Int} (h : hoC ds L f t o = 0) : VD (hoV ds L f t o) L ∧
    (∀ m j, f ≤ m → m < t → j < (hoV ds L f t o).length → InD (hoV ds L f t o) m j → (gDu (hoV ds L f t o) j).owner = o) ∧
    (∀ m j i, m < f → j < (hoV ds L f t o).length → InD (hoV ds L f t o) m j → i < ds.length → InD ds m i → (gDu (hoV ds L f t o) j).owner = (gDu ds i).owner) := by
  obtain ⟨H, hn⟩ := hoC_0 h
  rw [hoV, if_pos h]
  obtain ⟨_, _, _, hA⟩ := hoL_ok H.V f t o H.hf H.ht H.hl H.ho
  refine ⟨ho_vd H.V f t o H.hf H.ht H.hl H.ho hn, fun m j h1 h2 hj hin => ?_, fun m j i h1 hj hin hi hin2 => ?_⟩
  · rcases (hA m _).1 (atO_in.2 ⟨j, hj, hin, rfl⟩) with ⟨_, g⟩ | ⟨_, _, g⟩ | ⟨_, g⟩
    · omega
    · exact g.symm
    · omega
  · have ht := H.ht
    rcases (hA m _).1 (atO_in.2 ⟨j, hj, hin, rfl⟩) with ⟨g, _⟩ | ⟨g, _⟩ | ⟨_, g⟩
    · obtain ⟨i2, q1, q2, q3⟩ := atO_in.1 g
      rw [H.V.dis hi q1 hin2 q2, q3]
    · omega
    · omega
/-! joined -/
def mdC (ds : List Du) (L : Int) : Int := if vdB ds L = true then 0 else 1
def mdL (ds : List Du) (L : Int) : List Du := if vdB ds L = true then mgL ds else []
theorem apart_get : ∀ {xs : List Du}, Apart xs → ∀ k, k + 1 < xs.length → (gDu xs k).owner ≠ (gDu xs (k + 1)).owner
  | [], _, k, h => by simp at h
  | [_], _, k, h => by simp at h
  | a :: b :: r, h, 0, _ => h.1
  | a :: b :: r, h, k + 1, hk => apart_get (xs := b :: r) h.2 k (by simpa using hk)
theorem mdL_ok {ds : List Du} {L : Int} : (mdL ds L).length ≤ ds.length ∧ ∀ k, k + 1 < (mdL ds L).length → (gDu (mdL ds L) k).owner ≠ (gDu (mdL ds L) (k + 1)).owner := by
  unfold mdL
  split
  · rename_i h
    obtain ⟨_, h2, h3, _⟩ := mgL_ok (vd_ch.1 ((vdB_iff _ _).1 h)).2.2
    exact ⟨h3, apart_get h2⟩
  · exact ⟨by simp, fun k hk => by simp at hk⟩
theorem mgL_take (ds : List Du) (k : Nat) (h : k < ds.length) : mgL (ds.take (k + 1)) = mgS (mgL (ds.take k)) (gDu ds k) := by
  rw [gDu_take_succ ds k h]
  unfold mgL
  rw [List.foldl_append]
  rfl
theorem mgL_le (ds : List Du) : (mgL ds).length ≤ ds.length := by
  have key : ∀ (r acc : List Du), (r.foldl mgS acc).length ≤ acc.length + r.length := by
    intro r
    induction r with
    | nil => intro acc; simp
    | cons d r ih =>
      intro acc
      have h1 := ih (mgS acc d)
      have h2 : (mgS acc d).length ≤ acc.length + 1 := by
        rcases List.eq_nil_or_concat acc with rfl | ⟨a, l, rfl⟩
        · rw [mgS_nil]; simp
        · rw [List.concat_eq_append, mgS_snoc]
          split <;> simp
      simp only [List.foldl_cons, List.length_cons]
      omega
  have := key ds []
  unfold mgL
  simp only [List.length_nil, Nat.zero_add] at this
  exact this
/-- one more is joined: the last part grows, or it is a part of its own -/
theorem mgS_eq (acc : List Du) (d : Du) : mgS acc d = if acc.length ≠ 0 ∧ (gDu acc (acc.length - 1)).owner = d.owner then acc.set (acc.length - 1) ⟨(gDu acc (acc.length - 1)).owner, (gDu acc (acc.length - 1)).fr, d.tw⟩ else acc ++ [d] := by
  rcases List.eq_nil_or_concat acc with rfl | ⟨a, l, rfl⟩
  · rw [mgS_nil, if_neg (by simp)]; rfl
  · rw [List.concat_eq_append, mgS_snoc]
    have e1 : (a ++ [l]).length - 1 = a.length := by simp
    have e2 : gDu (a ++ [l]) a.length = l := by simp [gDu]
    rw [e1, e2]
    by_cases h : l.owner = d.owner
    · rw [if_pos h, if_pos ⟨by simp, h⟩, List.set_append_right _ _ (Nat.le_refl _)]
      simp
    · rw [if_neg h, if_neg (fun g => h g.2)]
end Go.Proofs.YtbbdfifpncjpnaaDoor
