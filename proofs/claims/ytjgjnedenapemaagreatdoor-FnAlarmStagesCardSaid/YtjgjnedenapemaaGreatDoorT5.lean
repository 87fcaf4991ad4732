/- texts: any text; which numbers are read; the parts of a text; no program in sight -/
import Derived.Test.YtjgjnedenapemaaGreatDoorT3
set_option linter.unusedVariables false
set_option linter.unusedSimpArgs false
namespace Go.Proofs.YtjgjnedenapemaaGreatDoor
open Go Go.Lib

/-- the number that a text is -/
def rdD (l : List UInt8) : Option Int := match parseIntB 64 l with
  | .ok n => if itoa n = l ∧ (trimPrefix l [45]).length ≤ 18 then some n else none
  | _ => none
theorem itoa_inj {a b : Int} (h : itoa a = itoa b) (ha : nOk a) (hb : nOk b) : a = b := by
  have h1 := parse_itoa a (by unfold nOk at ha; omega) (by unfold nOk at ha; omega)
  have h2 := parse_itoa b (by unfold nOk at hb; omega) (by unfold nOk at hb; omega)
  rw [h, h2] at h1
  simpa using h1.symm
theorem nDigits_ge (u k : Nat) (h : nDigits u ≤ k) : u < 10 ^ k :=
  Nat.lt_of_lt_of_le (lt_pow_nDigits u) (Nat.pow_le_pow_right (by omega) h)
theorem nOk_of_len (n : Int) (h : (trimPrefix (itoa n) [45]).length ≤ 18) : nOk n := by
  unfold nOk
  unfold itoa at h
  split at h
  · rename_i hn
    have hp : hasPrefix (45 :: decDigits n.natAbs) [45] = true := by simp [hasPrefix]
    simp [trimPrefix, hp, decDigits_length] at h
    have := nDigits_ge n.natAbs 18 h
    omega
  · rename_i hn
    have hm := dig_mem n.toNat
    have hl := decDigits_length n.toNat
    have hne := dig_ne n.toNat
    have hnp : hasPrefix (decDigits n.toNat) [45] = false := by
      cases hd : decDigits n.toNat with
      | nil => exact absurd hd hne
      | cons c r =>
        have := hm c (by rw [hd]; simp)
        have hc : c ≠ 45 := fun e => by rw [e] at this; simp at this
        simp [hasPrefix, List.isPrefixOf, hc.symm]
    rw [trimPrefix, if_neg (by simp [hnp]), hl] at h
    have := nDigits_ge n.toNat 18 h
    omega
theorem rdD_iff (l : List UInt8) (n : Int) : rdD l = some n ↔ itoa n = l ∧ nOk n := by
  unfold rdD
  constructor
  · intro h
    split at h
    · rename_i m hm
      split at h
      · rename_i hc
        simp only [Option.some.injEq] at h
        subst h
        exact ⟨hc.1, nOk_of_len m (by rw [hc.1]; exact hc.2)⟩
      · simp at h
    · simp at h
  · rintro ⟨rfl, hn⟩
    rw [parse_itoa n (by unfold nOk at hn; omega) (by unfold nOk at hn; omega)]
    simp only
    rw [if_pos ⟨trivial, dec18 n hn⟩]
theorem rdD_itoa (n : Int) (h : nOk n) : rdD (itoa n) = some n := (rdD_iff _ _).2 ⟨rfl, h⟩
theorem rdD_ext {l : List UInt8} {o : Option Int} (h : ∀ n, o = some n ↔ (itoa n = l ∧ nOk n)) : o = rdD l := by
  cases ho : o with
  | some n => exact ((rdD_iff l n).2 ((h n).1 ho)).symm
  | none =>
    cases hr : rdD l with
    | none => rfl
    | some n => rw [(h n).2 ((rdD_iff l n).1 hr)] at ho; exact absurd ho (by simp)

/-- all words are numbers: these -/
def allD : List (List UInt8) → Option (List Int)
  | [] => some []
  | w :: r => match rdD w, allD r with
    | some n, some ns => some (n :: ns)
    | _, _ => none
/-- the numbers in a text -/
def nums (l : List UInt8) : List Int := (allD (flG pn l none)).getD []
theorem allD_map (ns : List Int) (h : ∀ n ∈ ns, nOk n) : allD (ns.map itoa) = some ns := by
  induction ns with
  | nil => rfl
  | cons n r ih => simp [allD, rdD_itoa n (h n (by simp)), ih fun x hx => h x (by simp [hx])]
theorem allD_len {ws : List (List UInt8)} {ns : List Int} (h : allD ws = some ns) : ns.length = ws.length ∧ ∀ n ∈ ns, nOk n := by
  induction ws generalizing ns with
  | nil => simp [allD] at h; subst h; simp
  | cons w r ih =>
    simp only [allD] at h
    split at h
    · rename_i n ms h1 h2
      simp only [Option.some.injEq] at h
      subst h
      have := ih h2
      refine ⟨by simp [this.1], fun x hx => ?_⟩
      rcases List.mem_cons.1 hx with rfl | hx
      · exact ((rdD_iff _ _).1 h1).2
      · exact this.2 x hx
    · simp at h
theorem allD_snoc (ws : List (List UInt8)) (w : List UInt8) (ns : List Int) (n : Int) (h1 : allD ws = some ns) (h2 : rdD w = some n) : allD (ws ++ [w]) = some (ns ++ [n]) := by
  induction ws generalizing ns with
  | nil => simp [allD] at h1; subst h1; simp [allD, h2]
  | cons x r ih =>
    simp only [allD] at h1
    split at h1
    · rename_i m ms e1 e2
      simp only [Option.some.injEq] at h1
      subst h1
      simp [allD, e1, ih ms e2]
    · simp at h1
theorem allD_none {ws : List (List UInt8)} {w : List UInt8} (hw : w ∈ ws) (h : rdD w = none) : allD ws = none := by
  induction ws with
  | nil => simp at hw
  | cons x r ih =>
    simp only [allD]
    rcases List.mem_cons.1 hw with rfl | hw
    · simp [h]
    · rw [ih hw]; split <;> simp_all
theorem nums_ok (l : List UInt8) : (nums l).length ≤ (flG pn l none).length ∧ ∀ n ∈ nums l, nOk n := by
  unfold nums
  cases h : allD (flG pn l none) with
  | none => simp
  | some ns =>
    have := allD_len h
    simp only [Option.getD_some]
    exact ⟨by omega, this.2⟩
theorem nums_of {l : List UInt8} {ns : List Int} (hf : flG pn l none = ns.map itoa) (hn : ∀ n ∈ ns, nOk n) : nums l = ns := by
  rw [nums, hf, allD_map ns hn]; rfl
theorem flG_len (p : Nat → Bool) : ∀ (l : List UInt8) (o : Option (List UInt8)), (flG p l o).length ≤ l.length + 1
  | [], none => by simp [flG]
  | [], some c => by simp [flG]
  | b :: r, none => by
    simp only [flG]
    have h1 := flG_len p r none
    have h2 := flG_len p r (some [b])
    split <;> simp <;> omega
  | b :: r, some c => by
    simp only [flG]
    have h1 := flG_len p r none
    have h2 := flG_len p r (some (c ++ [b]))
    split <;> simp <;> omega

/-! the parts of a text between letters b -/
def splB (b : UInt8) : List UInt8 → List UInt8 → List (List UInt8)
  | [], cur => [cur]
  | c :: r, cur => if c = b then cur :: splB b r [] else splB b r (cur ++ [c])
theorem splB_ne (b : UInt8) : ∀ (l cur : List UInt8), splB b l cur ≠ []
  | [], cur => by simp [splB]
  | c :: r, cur => by
    simp only [splB]
    split
    · simp
    · exact splB_ne b r _
theorem splB_len (b : UInt8) : ∀ (l cur : List UInt8), (splB b l cur).length ≤ l.length + 1
  | [], cur => by simp [splB]
  | c :: r, cur => by
    have h1 := splB_len b r []
    have h2 := splB_len b r (cur ++ [c])
    simp only [splB]
    split <;> simp <;> omega
/-- parts with letters between them -/
def joB (b : UInt8) : List (List UInt8) → List UInt8
  | [] => []
  | [x] => x
  | x :: y :: r => x ++ b :: joB b (y :: r)
theorem joB_splB (b : UInt8) : ∀ (l cur : List UInt8), joB b (splB b l cur) = cur ++ l
  | [], cur => by simp [splB, joB]
  | c :: r, cur => by
    simp only [splB]
    split
    · rename_i h
      subst h
      have ih := joB_splB c r []
      have hn := splB_ne c r []
      generalize splB c r [] = z at ih hn
      cases z with
      | nil => exact absurd rfl hn
      | cons y t => simp only [joB, ih]; simp
    · rw [joB_splB b r (cur ++ [c])]; simp
theorem splB_free (b : UInt8) : ∀ (x r cur : List UInt8), b ∉ x → splB b (x ++ r) cur = splB b r (cur ++ x)
  | [], r, cur, _ => by simp
  | c :: x, r, cur, h => by
    have hc : c ≠ b := fun e => h (by simp [e])
    rw [List.cons_append, splB, if_neg hc, splB_free b x r _ (fun hx => h (by simp [hx]))]
    simp
theorem splB_joB (b : UInt8) : ∀ (xs : List (List UInt8)), xs ≠ [] → (∀ x ∈ xs, b ∉ x) → splB b (joB b xs) [] = xs
  | [], h, _ => absurd rfl h
  | [x], _, h => by
    have := splB_free b x [] [] (h x (by simp))
    simpa [joB, splB] using this
  | x :: y :: r, _, h => by
    rw [joB, splB_free b x _ [] (h x (by simp)), splB, if_pos rfl, splB_joB b (y :: r) (by simp) (fun z hz => h z (by simp [hz]))]
    simp
theorem splB_mem (b : UInt8) : ∀ (l cur : List UInt8), b ∉ cur → ∀ x ∈ splB b l cur, b ∉ x
  | [], cur, h => by simp [splB, h]
  | c :: r, cur, h => by
    simp only [splB]
    split
    · intro x hx
      rcases List.mem_cons.1 hx with rfl | hx
      · exact h
      · exact splB_mem b r [] (by simp) x hx
    · rename_i hc
      exact splB_mem b r _ (by simp [h]; exact fun e => hc e.symm)
theorem splB_asc (b : UInt8) : ∀ (l cur : List UInt8), (∀ c ∈ cur, c.toNat < 128) → (∀ c ∈ l, c.toNat < 128) → ∀ x ∈ splB b l cur, ∀ c ∈ x, c.toNat < 128
  | [], cur, h, _ => by simpa [splB] using h
  | c :: r, cur, h, hl => by
    simp only [splB]
    split
    · intro x hx
      rcases List.mem_cons.1 hx with rfl | hx
      · exact h
      · exact splB_asc b r [] (by simp) (fun c hc => hl c (by simp [hc])) x hx
    · refine splB_asc b r _ (fun d hd => ?_) (fun c hc => hl c (by simp [hc]))
      rcases List.mem_append.1 hd with hd | hd
      · exact h d hd
      · simp at hd; subst hd; exact hl d (by simp)
theorem itoa_free (n : Int) (b : UInt8) (h : pn b.toNat = true) : b ∉ itoa n := fun hm => by
  rw [itoa_pn n b hm] at h; exact absurd h (by simp)

/-! the value of digits -/
def dgV (l : List UInt8) : Nat := l.foldl (fun a c => 10 * a + (c.toNat - 48)) 0
def isDg (c : UInt8) : Bool := decide (48 ≤ c.toNat) && decide (c.toNat ≤ 57)
theorem dgV_snoc (l : List UInt8) (c : UInt8) : dgV (l ++ [c]) = 10 * dgV l + (c.toNat - 48) := by simp [dgV]
theorem dgV_dec : ∀ u, dgV (decDigits u) = u := by
  intro u
  induction u using Nat.strongRecOn with
  | _ u ih =>
    have key : ∀ k, k < 10 → (UInt8.ofNat (48 + k)).toNat - 48 = k := by
      intro k hk
      rw [UInt8.toNat_ofNat']
      omega
    rw [decDigits]
    split
    · rename_i h
      have := key u h
      show 10 * 0 + ((UInt8.ofNat (48 + u)).toNat - 48) = u
      omega
    · rw [dgV_snoc, ih (u / 10) (by omega), key (u % 10) (by omega)]
      omega
theorem dec_dig (u : Nat) : (decDigits u).all isDg = true := by
  rw [List.all_eq_true]
  intro c hc
  have := dig_mem u c hc
  simp [isDg, this]
theorem dgV_lt (l : List UInt8) (h : l.all isDg = true) : dgV l < 10 ^ l.length := by
  suffices ∀ (l : List UInt8) (a m : Nat), l.all isDg = true → a < m → l.foldl (fun a c => 10 * a + (c.toNat - 48)) a < m * 10 ^ l.length by
    have := this l 0 1 h (by omega)
    simpa [dgV] using this
  intro l
  induction l with
  | nil => intro a m _ h; simpa using h
  | cons c r ih =>
    intro a m hd h
    simp only [List.all_cons, Bool.and_eq_true, isDg, decide_eq_true_eq] at hd
    have := ih (10 * a + (c.toNat - 48)) (m * 10) hd.2 (by omega)
    simp only [List.foldl_cons, List.length_cons, Nat.pow_succ]
    rw [Nat.mul_comm (10 ^ r.length) 10, ← Nat.mul_assoc]
    exact this
/-- the sign and the digits of a text -/
def tailN (l : List UInt8) : List UInt8 := if l.head? = some 45 then l.drop 1 else l
def numN (l : List UInt8) : Int := if l.head? = some 45 then -(dgV (tailN l) : Int) else dgV (tailN l)
theorem tailN_itoa (n : Int) : tailN (itoa n) = decDigits n.natAbs ∧ numN (itoa n) = n := by
  unfold numN tailN itoa
  split
  · rename_i h
    simp only [List.head?_cons, if_true, List.drop_succ_cons, List.drop_zero]
    rw [dgV_dec]
    exact ⟨trivial, by omega⟩
  · rename_i h
    have hh : (decDigits n.toNat).head? ≠ some 45 := by
      cases hd : decDigits n.toNat with
      | nil => simp
      | cons c r =>
        have := dig_mem n.toNat c (by rw [hd]; simp)
        intro e
        simp at e
        rw [e] at this
        simp at this
    rw [if_neg hh, if_neg hh, dgV_dec]
    have e : n.natAbs = n.toNat := by omega
    rw [e]
    exact ⟨rfl, by omega⟩
/-- the number with a text, as the model finds it -/
theorem rdD_spec (l : List UInt8) : rdD l = if (1 ≤ (tailN l).length ∧ (tailN l).length ≤ 18) ∧ (tailN l).all isDg = true ∧ itoa (numN l) = l then some (numN l) else none := by
  symm
  apply rdD_ext
  intro n
  constructor
  · intro h
    split at h
    · rename_i hc
      simp only [Option.some.injEq] at h
      subst h
      refine ⟨hc.2.2, ?_⟩
      have hlt := dgV_lt (tailN l) hc.2.1
      have h18 : 10 ^ (tailN l).length ≤ 10 ^ 18 := Nat.pow_le_pow_right (by omega) hc.1.2
      unfold nOk numN
      split <;> omega
    · simp at h
  · rintro ⟨rfl, hn⟩
    obtain ⟨h1, h2⟩ := tailN_itoa n
    have hl := decDigits_length n.natAbs
    have hp := nDigits_pos n.natAbs
    have hk := nDigits_lt n.natAbs 18 (by unfold nOk at hn; omega) (by omega)
    rw [if_pos ⟨by rw [h1]; omega, by rw [h1]; exact dec_dig _, by rw [h2]⟩, h2]
end Go.Proofs.YtjgjnedenapemaaGreatDoor
