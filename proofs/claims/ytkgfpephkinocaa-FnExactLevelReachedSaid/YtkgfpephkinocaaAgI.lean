/-
  AG, part I: append to an owned slice. Conditions: none.
-/
import Derived.Test.YtkgfpephkinocaaAgH
set_option linter.unusedSimpArgs false
set_option linter.unusedVariables false
namespace Go.AG
open Go.RowKit

section
variable {P : Program} {F : Fr} {s : AState} {ρ : Nat → Pl} {a : Act} {w : World}

/-- append with room enough, at whatever place of the block -/
theorem run_append_room_at (w : World) (t ty e : TypeId) (i : TypeInfo) (ht : P.underlying t = some (.slice e)) (hi : P.info? e = some i)
    (g o sLen sCap : Nat) (cur : Array Value) (hg : w.heap[g]? = some (.cells cur e (0, 0)))
    (a : Addr) (m c : Nat) (news : List Value) (hl : news.length = m * i.size) (hnews : ∀ j u, news[j]? = some u → w.cell? (a.add j) = some u) (h1 : ∀ u ∈ news, u.oneCell' = true)
    (hroom : sLen + m ≤ sCap) (hfit : o + sLen * i.size + news.length ≤ cur.size) :
    (Builtin.append_ #[t, t] ty #[.slice (some ⟨g, o, none⟩) sLen sCap, .slice (some a) m c]).run P w =
      .ok (.slice (some ⟨g, o, none⟩) (sLen + m) sCap) (w.setRow g (wr cur.toList (o + sLen * i.size) news).toArray) := by
  have hf := run_firstCells_some (P := P) w i.size m a m c news hl hnews
  have hst := run_storeCells_at P g (o + sLen * i.size) e news 0 cur w hg (by simpa using hfit) h1
  simp only [Nat.add_zero] at hst
  simp [Builtin.append_, run_underlying ht, sizeOf, typeInfo, hi, Builtin.lenOf, hroom, hf, Addr.add_lit, hst, wr]

/-- nothing appended -/
theorem run_append_zero (w : World) (t ty e : TypeId) (i : TypeInfo) (ht : P.underlying t = some (.slice e)) (hi : P.info? e = some i) (b : Option Addr) (sLen sCap : Nat) (h : sLen ≤ sCap) (y : Option Addr) (c : Nat) :
    (Builtin.append_ #[t, t] ty #[.slice b sLen sCap, .slice y 0 c]).run P w = .ok (.slice b sLen sCap) w := by
  have hf : (Builtin.firstCells i.size 0 (.slice y 0 c)).run P w = .ok #[] w := by
    cases y <;> simp [Builtin.firstCells, loadCells, loadCellsFrom]
  cases b <;> simp [Builtin.append_, run_underlying ht, sizeOf, typeInfo, hi, Builtin.lenOf, h, hf, storeCells]

/-- what the appended values are -/
theorem news_rep (h : Sat F s ρ a w) (y : Operand) (size : Nat) (K : Nat → List V → Prop) (hv : vNews s.ob size (s.ev y) K) :
    ∃ (m : Nat) (news : List V), K m news ∧ news.length = m * size ∧ ∃ (ad : Option Addr) (c : Nat), a.eval y = .slice ad m c ∧ (ad = none → m = 0) ∧
      ∃ vs : List Value, vs.length = news.length ∧ (∀ i (hi : i < news.length), RepC w (F.Y ρ s.ob) ρ s.ob (vs.getD i undef) news[i]) ∧ (∀ v ∈ vs, v.oneCell' = true) ∧
        ∀ ad', ad = some ad' → ∀ j u, vs[j]? = some u → w.cell? (ad'.add j) = some u := by
  have hr := h.ev y
  generalize s.ev y = Y at *
  generalize a.eval y = v at *
  unfold vNews at hv
  cases hr with
  | d hr =>
    cases hr with
    | nil =>
      obtain ⟨⟨h1, h2⟩, hk⟩ := hv
      exact ⟨0, [], hk, by simp, none, 0, rfl, fun _ => rfl, [], rfl, fun i hi => absurd hi (by simp), fun v hv => absurd hv (by simp), fun ad' e => by cases e⟩
    | sl0 aa =>
      obtain ⟨⟨h1, h2⟩, hk⟩ := hv
      exact ⟨0, [], hk, by simp, some aa, 0, rfl, fun _ => rfl, [], rfl, fun i hi => absurd hi (by simp), fun v hv => absurd hv (by simp), fun ad' e j u hu => by simp at hu⟩
    | @sl b o len cap xs cs h1 h2 h3 h4 =>
      obtain ⟨⟨h5, h6⟩, hk⟩ := hv
      refine ⟨len, xs, hk, h5, some ⟨b, o, none⟩, cap, rfl, (fun e => by cases e), (List.range xs.length).map cs, by simp, fun i hi => ?_, fun v hv => ?_, fun ad' e j u hu => ?_⟩
      · have : ((List.range xs.length).map cs).getD i undef = cs i := by simp [List.getD, hi]
        rw [this]; exact .d (h2 i hi)
      · simp only [List.mem_map, List.mem_range] at hv
        obtain ⟨i, hi, rfl⟩ := hv
        exact (one_cell (ρ := ρ) (ob := s.ob) (RepC.d (h2 i hi)) (oneL_get h6 i hi)).1
      · cases e
        have hj : j < xs.length := by
          have := (List.getElem?_eq_some_iff.1 hu).1
          simpa using this
        simp [hj] at hu
        subst hu
        rw [Addr.add_lit]; exact h1 j hj
    | sc =>
      cases v with
      | slice ad n c =>
        cases ad with
        | none =>
          cases n with
          | zero => cases c with
            | zero => exact ⟨0, [], hv, by simp, none, 0, rfl, fun _ => rfl, [], rfl, fun i hi => absurd hi (by simp), fun v hv => absurd hv (by simp), fun ad' e => by cases e⟩
            | succ c => exact hv.elim
          | succ n => exact hv.elim
        | some ad => exact hv.elim
      | _ => exact hv.elim
    | _ => exact hv.elim
  | @ref l off m cap o ho h1 h2 h3 =>
    obtain ⟨o2, ho2, ⟨h5, h6⟩, hk⟩ := vObj_live hv
    have eo : o2 = o := by unfold Live at ho ho2; rw [ho2] at ho; cases ho; rfl
    subst eo
    have hc := (h.heap.obj l o2 ho).cell
    have hlen : ((o2.cells.drop off).take (m * size)).length = m * size := by simp; omega
    refine ⟨m, _, hk, hlen, _, cap, rfl, (fun e => by cases e), (List.range (m * size)).map (fun i => (w.cell? ⟨(ρ l).blk, (ρ l).base + (off + i), none⟩).getD undef), by simp [hlen], fun i hi => ?_, fun v hv => ?_, fun ad' e j u hu => ?_⟩
    · have hi2 : i < m * size := by omega
      obtain ⟨c, h7, h8, _⟩ := hc (off + i) (by omega)
      have : ((List.range (m * size)).map (fun i => (w.cell? ⟨(ρ l).blk, (ρ l).base + (off + i), none⟩).getD undef)).getD i undef = c := by simp [List.getD, hi2, h7]
      rw [this]
      simpa using h8
    · simp only [List.mem_map, List.mem_range] at hv
      obtain ⟨i, hi, rfl⟩ := hv
      obtain ⟨c, h7, _, h8⟩ := hc (off + i) (by omega)
      rw [h7]; exact h8
    · cases e
      have hj : j < m * size := by
        have := (List.getElem?_eq_some_iff.1 hu).1
        simpa using this
      obtain ⟨c, h7, _, _⟩ := hc (off + j) (by omega)
      simp [hj, h7] at hu
      subst hu
      rw [Addr.add_lit, Nat.add_assoc]; exact h7
  | @ref0 l off o p ho =>
    obtain ⟨o2, ho2, ⟨h5, h6⟩, hk⟩ := vObj_live hv
    refine ⟨0, _, hk, by simp, _, 0, rfl, fun _ => rfl, [], by simp, fun i hi => absurd hi (by simp), fun v hv => absurd hv (by simp), fun ad' e j u hu => by simp at hu⟩
  | _ => exact hv.elim

/-- the cells behind an append: the elder ones, then the new ones -/
theorem append_cells {Y : Nat → Prop} {ob : Objs} {olds news : List V} {os ns : List Value} (h1 : os.length = olds.length) (h2 : ns.length = news.length)
    (hr1 : ∀ i (hi : i < olds.length), RepC w Y ρ ob (os.getD i undef) olds[i]) (hr2 : ∀ i (hi : i < news.length), RepC w Y ρ ob (ns.getD i undef) news[i])
    (ho1 : ∀ v ∈ os, v.oneCell' = true) (ho2 : ∀ v ∈ ns, v.oneCell' = true) (p : Nat → Bool) (i : Nat) (hi : i < (V.killL p (olds ++ news)).length) :
    ∃ c x, (os ++ ns)[i]? = some c ∧ RepC w Y ρ ob c x ∧ (V.killL p (olds ++ news))[i] = x.kill p ∧ c.oneCell' = true := by
  have hi2 : i < (olds ++ news).length := by rw [killL_eq] at hi; simpa using hi
  have e : (V.killL p (olds ++ news))[i] = ((olds ++ news)[i]).kill p := by simp only [killL_eq, List.getElem_map]
  rw [e]
  by_cases hlt : i < olds.length
  · have hlt2 : i < os.length := by omega
    refine ⟨os[i], _, by rw [List.getElem?_append_left hlt2]; simp [hlt2], ?_, rfl, ho1 _ (List.getElem_mem hlt2)⟩
    have := hr1 i hlt
    rw [show os.getD i undef = os[i] from by simp [List.getD, hlt2]] at this
    rw [List.getElem_append_left hlt]
    exact this
  · have hlt2 : i - olds.length < news.length := by simp at hi2; omega
    have hlt3 : i - os.length < ns.length := by omega
    refine ⟨ns[i - os.length], _, by rw [List.getElem?_append_right (by omega)]; simp [hlt3], ?_, rfl, ho2 _ (List.getElem_mem hlt3)⟩
    have := hr2 (i - olds.length) hlt2
    rw [show ns.getD (i - olds.length) undef = ns[i - os.length] from by rw [← h1]; simp [List.getD, hlt3]] at this
    rw [List.getElem_append_right (by omega)]
    exact this

theorem grownCap_le_max (w : World) (need old : Nat) (e : TypeId) (h : need ≤ 9223372036854775807) : grownCap w need old e ≤ maxLen := grownCap_le_maxLen w need old e (by simpa [maxLen] using h)

theorem does_append (h : Sat F s ρ a w) (o : Oper) (x y : Operand) (t e : TypeId) (he : o.op = .call { callee := .builtin .append, args := #[x, y], argTypes := #[t, t] }) (hd : (ti P t).desc = .slice e)
    (K : AState → Prop) (hm : vAppend (ti P e) s (s.ev x) (s.ev y) o.dst K) : Does P F s ρ a w o K := by
  obtain ⟨⟨hok, hzs, hp⟩, hm⟩ := hm
  obtain ⟨m, news, hm, hnl, ad, c, hy, had, vs, hvl, hvr, hv1, hvc⟩ := news_rep h y _ _ hm
  obtain ⟨i, z, hi, hz, hz2, hs, hby⟩ := zero_some hok (fun e => by rw [e] at hzs; simp at hzs; omega)
  have hzc : z.cells.size = i.size := by rw [hz2] at hzs; simpa [hs] using hzs
  have hu := ti_slice hd
  have hx := h.ev x
  have exec : ∀ (v : Value) (w' : World), (Builtin.append_ #[t, t] o.type #[a.eval x, a.eval y]).run P w = .ok v w' → (execOp a.eval o).run P w = .ok (.value v) w' := by
    intro v w' hr
    unfold execOp
    simp [he, resolve, invoke, builtin, hr]
  unfold vApp at hm
  split at hm
  case h_3 => exact hm.elim
  case h_1 l off len e1 =>
    obtain ⟨hk, hm⟩ := hm
    obtain ⟨o2, ho2, ⟨hesz, hfit⟩, ⟨hbytes, h63⟩, hf⟩ := vObj_live hm
    rw [e1] at hx
    have hl := live_lt ho2
    have hkF : F.k ≤ l := by rw [← h.k]; exact hk
    obtain ⟨⟨cur, te, hrow, hcs⟩, hbase, hcell⟩ := h.heap.obj l o2 ho2
    have hol : ((o2.cells.drop off).take (len * (ti P e).size)).length = len * (ti P e).size := by simp; omega
    -- the elder cells
    have hex : ∃ os : List Value, os.length = len * (ti P e).size ∧ (∀ j u, os[j]? = some u → w.cell? ⟨(ρ l).blk, (ρ l).base + (off + j), none⟩ = some u) ∧
        (∀ j (hj : j < ((o2.cells.drop off).take (len * (ti P e).size)).length), RepC w (F.Y ρ s.ob) ρ s.ob (os.getD j undef) ((o2.cells.drop off).take (len * (ti P e).size))[j]) ∧ (∀ v ∈ os, v.oneCell' = true) := by
      refine ⟨(List.range (len * (ti P e).size)).map (fun i => (w.cell? ⟨(ρ l).blk, (ρ l).base + (off + i), none⟩).getD undef), by simp, fun j u hu => ?_, fun j hj => ?_, fun v hv => ?_⟩
      · have hj : j < len * (ti P e).size := by
          have := (List.getElem?_eq_some_iff.1 hu).1
          simpa using this
        obtain ⟨c, h7, _, _⟩ := hcell (off + j) (by omega)
        simp [hj, h7] at hu
        subst hu
        exact h7
      · have hj2 : j < len * (ti P e).size := by omega
        obtain ⟨c, h7, h8, _⟩ := hcell (off + j) (by omega)
        have : ((List.range (len * (ti P e).size)).map (fun i => (w.cell? ⟨(ρ l).blk, (ρ l).base + (off + i), none⟩).getD undef)).getD j undef = c := by simp [List.getD, hj2, h7]
        rw [this]
        simpa using h8
      · simp only [List.mem_map, List.mem_range] at hv
        obtain ⟨j, hj, rfl⟩ := hv
        obtain ⟨c, h7, _, h8⟩ := hcell (off + j) (by omega)
        rw [h7]; exact h8
    obtain ⟨os, hosl, hosc, hosr, hos1⟩ := hex
    have cells := append_cells (w := w) (ρ := ρ) (Y := F.Y ρ s.ob) (ob := s.ob) (olds := (o2.cells.drop off).take (len * (ti P e).size)) (news := news) (by rw [hosl, hol]) hvl hosr hvr hos1 hv1 (killB l)
    have hnewlen : (V.killL (killB l) ((o2.cells.drop off).take (len * (ti P e).size) ++ news)).length = (len + m) * (ti P e).size := by
      rw [killL_eq]; simp only [List.length_map, List.length_append, hol, hnl, Nat.add_mul]
    -- where the row grows
    have growcase : ∀ (p sCap : Nat), len ≤ sCap → sCap < len + m → (len = 0 ∨ p = (ρ l).base + off) → a.eval x = .slice (some ⟨(ρ l).blk, p, none⟩) len sCap → Does P F s ρ a w o K := by
      intro p sCap hle0 hlt hp2 hxe
      have hm0 : ad ≠ none := by
        rintro rfl
        have hm0 := had rfl
        omega
      obtain ⟨ad', rfl⟩ := Option.ne_none_iff_exists'.1 hm0
      have hrun := run_append_grow (P := P) w t o.type e i z hu hi hz ⟨(ρ l).blk, p, none⟩ len sCap os (by rw [hosl, hs]) (fun j u hju => by
        rw [Addr.add_lit]
        have := hosc j u hju
        rcases hp2 with hp2 | hp2
        · subst hp2; simp at hosl; subst hosl; simp at hju
        · rw [hp2, Nat.add_assoc]; exact this) ad' m c vs (by rw [hvl, hnl, hs]) (hvc ad' rfl) hlt (by omega) (growslice_fits hlt (by rw [← hby]; exact hbytes))
      have hcap := grownCap_ge w (len + m) sCap e
      have hcm := grownCap_le_max w (len + m) sCap e h63
      have hsz : (os.toArray ++ vs.toArray ++ Builtin.zeroCells z.cells (grownCap w (len + m) sCap e - (len + m))).size = grownCap w (len + m) sCap e * i.size := by
        simp only [Array.size_append, List.size_toArray, size_zeroCells, hzc, hosl, hvl, hnl, hs, ← Nat.add_mul]
        congr 1
        omega
      obtain ⟨hh, hτ⟩ := h.heap.place (w' := w.drew.alloc (.cells (os.toArray ++ vs.toArray ++ Builtin.zeroCells z.cells (grownCap w (len + m) sCap e - (len + m))) e)) hl hkF
        ⟨w.heap.size, 0, grownCap w (len + m) sCap e * i.size⟩ ⟨(ti P e).size, V.killL (killB l) ((o2.cells.drop off).take (len * (ti P e).size) ++ news)⟩ rfl rfl rfl (by simp) (.inr (Nat.le_refl _))
        (fun b hb hne => heap_alloc_old w.drew _ b hb) ⟨_, e, heap_alloc_new w.drew _, hsz⟩ (by simp only; rw [hnewlen, hs, Nat.zero_add]; exact Nat.mul_le_mul_right _ hcap) (fun j hj => by
          obtain ⟨c', x', h1, h2, h3, h4⟩ := cells j hj
          refine ⟨c', x', ?_, h2, h3, h4⟩
          have hj2 : j < (os ++ vs).length := (List.getElem?_eq_some_iff.1 h1).1
          have := World.cell?_alloc_new w.drew (os.toArray ++ vs.toArray ++ Builtin.zeroCells z.cells (grownCap w (len + m) sCap e - (len + m))) e (0 + j)
          simp only [World.size_drew] at this
          rw [this, Nat.zero_add]
          rw [Array.getElem?_append_left (by simpa using hj2)]
          simpa using h1)
      have hsat : Sat F (s.grown l (ti P e).size ((o2.cells.drop off).take (len * (ti P e).size) ++ news)) _ a _ := h.of_heap (V.kill (killB l)) rfl hh (by simpa [trO] using h.kle) hτ
      have hlive : Live ((trO (V.kill (killB l)) s.ob).set l (some ⟨(ti P e).size, V.killL (killB l) ((o2.cells.drop off).take (len * (ti P e).size) ++ news)⟩)) l _ := live_set.2 (.inl ⟨rfl, by simp [trO]; exact hl, rfl⟩)
      have hres : RepC (w.drew.alloc (.cells (os.toArray ++ vs.toArray ++ Builtin.zeroCells z.cells (grownCap w (len + m) sCap e - (len + m))) e)) (F.Y (plNew ρ l ⟨w.heap.size, 0, grownCap w (len + m) sCap e * i.size⟩) (s.grown l (ti P e).size ((o2.cells.drop off).take (len * (ti P e).size) ++ news)).ob) (plNew ρ l ⟨w.heap.size, 0, grownCap w (len + m) sCap e * i.size⟩) (s.grown l (ti P e).size ((o2.cells.drop off).take (len * (ti P e).size) ++ news)).ob
          (.slice (some ⟨w.heap.size, 0, none⟩) (len + m) (grownCap w (len + m) sCap e)) (.ref l 0 (len + m)) := by
        have := RepC.ref (w := w.drew.alloc (.cells (os.toArray ++ vs.toArray ++ Builtin.zeroCells z.cells (grownCap w (len + m) sCap e - (len + m))) e)) (Y := F.Y (plNew ρ l ⟨w.heap.size, 0, grownCap w (len + m) sCap e * i.size⟩) (s.grown l (ti P e).size ((o2.cells.drop off).take (len * (ti P e).size) ++ news)).ob) (ρ := plNew ρ l ⟨w.heap.size, 0, grownCap w (len + m) sCap e * i.size⟩)
          (ob := (s.grown l (ti P e).size ((o2.cells.drop off).take (len * (ti P e).size) ++ news)).ob) (l := l) (off := 0) (len := len + m) (cap := grownCap w (len + m) sCap e) hlive hcap hcm (by rw [plNew_same]; simp only [hs]; omega)
        rwa [plNew_same] at this
      obtain ⟨h1, h2⟩ := fin_sat hsat hf hres
      refine ⟨_, _, _, _, h1, h2, .inl (exec _ _ (by rw [hxe, hy]; exact hrun)), ⟨by simp, fun b hb _ => heap_alloc_old w.drew _ _ hb, fun l' o' ho' => ?_⟩⟩
      rw [put_ob] at ho'
      rcases live_set.1 ho' with ⟨rfl, _, _⟩ | ⟨hne, ho'⟩
      · refine .inr ?_
        rw [plNew_same]; exact Nat.le_refl _
      · obtain ⟨o3, h3, _⟩ := live_trO.1 ho'
        exact .inl ⟨o3, h3, by rw [plNew_other _ _ _ hne]⟩
    -- where there is room
    have staycase : ∀ (p sCap : Nat), len + m ≤ sCap → ((len = 0 ∧ m = 0 ∧ sCap = 0) ∨ (p = (ρ l).base + off ∧ (ρ l).base + off + sCap * o2.esz ≤ (ρ l).size)) → sCap ≤ maxLen → a.eval x = .slice (some ⟨(ρ l).blk, p, none⟩) len sCap → Does P F s ρ a w o K := by
      intro p sCap hle hp2 hcm hxe
      have hmk : ∀ (w' : World) (cs : Array Value), w'.os = w.os → w'.tape = w.tape → w'.output = w.output → w'.heap.size = w.heap.size → (∀ b, b ≠ (ρ l).blk → w'.heap[b]? = w.heap[b]?) →
          w'.heap[(ρ l).blk]? = some (.cells cs te (0, 0)) → cs.size = cur.size → (∀ j c', (os ++ vs)[j]? = some c' → cs[(ρ l).base + (off + j)]? = some c') →
          (execOp a.eval o).run P w = .ok (.value (.slice (some ⟨(ρ l).blk, p, none⟩) (len + m) sCap)) w' → Does P F s ρ a w o K := by
        intro w' cs h1 h2 h3 h4 h5 h6 h7 h8 hrun
        have hfit2 : (ρ l).base + off + (len + m) * (ti P e).size ≤ (ρ l).size := by
          rcases hp2 with ⟨rfl, rfl, _⟩ | ⟨_, hp3⟩
          · simp; omega
          · rw [hesz] at hp3
            have := Nat.mul_le_mul_right (ti P e).size hle
            omega
        obtain ⟨hh, hτ⟩ := h.heap.place (w' := w') hl hkF ⟨(ρ l).blk, (ρ l).base + off, (ρ l).size⟩ ⟨(ti P e).size, V.killL (killB l) ((o2.cells.drop off).take (len * (ti P e).size) ++ news)⟩ h1 h2 h3 (by omega)
          (.inl ⟨o2, ho2, rfl⟩) (fun b _ hne => h5 b hne) ⟨cs, te, h6, by rw [h7, hcs]⟩ (by simp only [hnewlen]; exact hfit2) (fun j hj => by
            obtain ⟨c', x', g1, g2, g3, g4⟩ := cells j hj
            refine ⟨c', x', ?_, g2, g3, g4⟩
            have := h8 j c' g1
            simp only [World.cell?, h6, Nat.add_assoc]
            simpa using this)
        have hsat : Sat F (s.grown l (ti P e).size ((o2.cells.drop off).take (len * (ti P e).size) ++ news)) _ a _ := h.of_heap (V.kill (killB l)) rfl hh (by simpa [trO] using h.kle) hτ
        have hlive : Live ((trO (V.kill (killB l)) s.ob).set l (some ⟨(ti P e).size, V.killL (killB l) ((o2.cells.drop off).take (len * (ti P e).size) ++ news)⟩)) l _ := live_set.2 (.inl ⟨rfl, by simp [trO]; exact hl, rfl⟩)
        have hres : RepC w' (F.Y (plNew ρ l ⟨(ρ l).blk, (ρ l).base + off, (ρ l).size⟩) (s.grown l (ti P e).size ((o2.cells.drop off).take (len * (ti P e).size) ++ news)).ob) (plNew ρ l ⟨(ρ l).blk, (ρ l).base + off, (ρ l).size⟩) (s.grown l (ti P e).size ((o2.cells.drop off).take (len * (ti P e).size) ++ news)).ob
            (.slice (some ⟨(ρ l).blk, p, none⟩) (len + m) sCap) (.ref l 0 (len + m)) := by
          rcases hp2 with ⟨rfl, rfl, rfl⟩ | ⟨rfl, hp3⟩
          · have := RepC.ref0 (w := w') (Y := F.Y (plNew ρ l ⟨(ρ l).blk, (ρ l).base + off, (ρ l).size⟩) (s.grown l (ti P e).size ((o2.cells.drop off).take (0 * (ti P e).size) ++ news)).ob) (ρ := plNew ρ l ⟨(ρ l).blk, (ρ l).base + off, (ρ l).size⟩)
              (ob := (s.grown l (ti P e).size ((o2.cells.drop off).take (0 * (ti P e).size) ++ news)).ob) (l := l) (off := 0) (p := p) hlive
            rwa [plNew_same] at this
          · have := RepC.ref (w := w') (Y := F.Y (plNew ρ l ⟨(ρ l).blk, (ρ l).base + off, (ρ l).size⟩) (s.grown l (ti P e).size ((o2.cells.drop off).take (len * (ti P e).size) ++ news)).ob) (ρ := plNew ρ l ⟨(ρ l).blk, (ρ l).base + off, (ρ l).size⟩)
              (ob := (s.grown l (ti P e).size ((o2.cells.drop off).take (len * (ti P e).size) ++ news)).ob) (l := l) (off := 0) (len := len + m) (cap := sCap) hlive hle hcm (by rw [plNew_same]; simp only; rw [hesz] at hp3; omega)
            rw [plNew_same] at this
            simpa using this
        obtain ⟨g1, g2⟩ := fin_sat hsat hf hres
        refine ⟨_, _, _, _, g1, g2, .inl hrun, ⟨by omega, fun b _ hn => h5 b (hn l o2 (by rw [he]; simp [wset, e1]) ho2), fun l' o' ho' => ?_⟩⟩
        rw [put_ob] at ho'
        rcases live_set.1 ho' with ⟨rfl, _, _⟩ | ⟨hne, ho'⟩
        · exact .inl ⟨o2, ho2, by rw [plNew_same]⟩
        · obtain ⟨o3, h3, _⟩ := live_trO.1 ho'
          exact .inl ⟨o3, h3, by rw [plNew_other _ _ _ hne]⟩
      have hold : ∀ j c', os[j]? = some c' → cur[(ρ l).base + (off + j)]? = some c' := by
        intro j c' hj
        have := hosc j c' hj
        simpa [World.cell?, hrow] using this
      by_cases hm0 : m = 0
      · subst hm0
        have hvs : vs = [] := List.eq_nil_of_length_eq_zero (by rw [hvl, hnl]; simp)
        subst hvs
        refine hmk w cur rfl rfl rfl rfl (fun _ _ => rfl) hrow rfl (fun j c' hj => hold j c' (by simpa using hj)) (exec _ _ ?_)
        rw [hxe, hy]
        exact run_append_zero (P := P) w t o.type e i hu hi _ len sCap (by omega) ad c
      · have hp3 : p = (ρ l).base + off ∧ (ρ l).base + off + sCap * o2.esz ≤ (ρ l).size := by
          rcases hp2 with ⟨_, h0, _⟩ | h0
          · exact absurd h0 hm0
          · exact h0
        obtain ⟨rfl, hp3⟩ := hp3
        have hadn : ad ≠ none := fun e => hm0 (had e)
        obtain ⟨ad', rfl⟩ := Option.ne_none_iff_exists'.1 hadn
        rw [hesz] at hp3
        have hle2 := Nat.mul_le_mul_right (ti P e).size hle
        rw [Nat.add_mul] at hle2
        have hte : te = e ∨ True := .inr trivial
        have hfit3 : (ρ l).base + off + len * i.size + vs.length ≤ cur.size := by rw [hvl, hnl, ← hs, hcs]; omega
        have hf1 := run_firstCells_some (P := P) w i.size m ad' m c vs (by rw [hvl, hnl, hs]) (hvc ad' rfl)
        have hst := run_storeCells_at P (ρ l).blk ((ρ l).base + off + len * i.size) te vs 0 cur w hrow (by simpa using hfit3) hv1
        simp only [Nat.add_zero] at hst
        have hrun : (Builtin.append_ #[t, t] o.type #[.slice (some ⟨(ρ l).blk, (ρ l).base + off, none⟩) len sCap, .slice (some ad') m c]).run P w =
            .ok (.slice (some ⟨(ρ l).blk, (ρ l).base + off, none⟩) (len + m) sCap) (w.setRow (ρ l).blk (wr cur.toList ((ρ l).base + off + len * i.size) vs).toArray) := by
          simp [Builtin.append_, run_underlying hu, sizeOf, typeInfo, hi, Builtin.lenOf, hle, hf1, Addr.add_lit, hst, wr]
        refine hmk (w.setRow (ρ l).blk (wr cur.toList ((ρ l).base + off + len * i.size) vs).toArray) (wr cur.toList ((ρ l).base + off + len * i.size) vs).toArray rfl rfl rfl (by simp) (fun b hb => setRow_other w _ _ _ hb) (setRow_heap w _ cur _ te _ hrow) ?_ (fun j c' hj => ?_) (exec _ _ (by rw [hxe, hy]; exact hrun))
        · simp only [List.size_toArray]; rw [length_wr _ _ _ (by simpa using hfit3)]; simp
        · have hw := get_wr cur.toList ((ρ l).base + off + len * i.size) vs (by simpa using hfit3) ((ρ l).base + (off + j))
          simp only [List.getElem?_toArray]
          rw [hw]
          by_cases hj2 : j < os.length
          · rw [if_pos (by rw [hosl, hs] at hj2; omega)]
            rw [List.getElem?_append_left hj2] at hj
            simpa using hold j c' hj
          · have hj3 : j < (os ++ vs).length := (List.getElem?_eq_some_iff.1 hj).1
            rw [if_neg (by rw [hosl, hs] at hj2; omega), if_pos (by simp at hj3; rw [hosl, hs] at hj3; omega)]
            rw [List.getElem?_append_right (by omega)] at hj
            rw [← hj]
            congr 1
            rw [hosl, hs]; omega
    generalize hxv : a.eval x = xv at hx
    cases hx with
    | d hx => cases hx
    | @ref l off len cap o3 ho3 h5 h6 h7 =>
      have eo : o3 = o2 := by unfold Live at ho2 ho3; rw [ho2] at ho3; cases ho3; rfl
      subst eo
      by_cases hroom : len + m ≤ cap
      · exact staycase _ cap hroom (.inr ⟨rfl, h7⟩) h6 hxv
      · exact growcase _ cap h5 (by omega) (.inr rfl) hxv
    | @ref0 l off o3 p ho3 =>
      by_cases hroom : 0 + m ≤ 0
      · exact staycase p 0 hroom (.inl ⟨rfl, by omega, rfl⟩) (Nat.zero_le _) hxv
      · exact growcase p 0 (Nat.le_refl _) (by omega) (.inl rfl) hxv
  case h_2 e1 =>
    rw [e1] at hx
    have hxe := sc_of hx
    obtain ⟨⟨hk, hm1⟩, ⟨hbytes, h63⟩, hf⟩ := hm
    have hadn : ad ≠ none := fun e => by have := had e; omega
    obtain ⟨ad', rfl⟩ := Option.ne_none_iff_exists'.1 hadn
    have hrun := run_append_nil (P := P) w t o.type e i z hu hi hz ad' m c vs (by rw [hvl, hnl, hs]) (hvc ad' rfl) (by omega) (by omega) (by rw [← hby]; omega)
    have hcap := grownCap_ge w m 0 e
    have hcm := grownCap_le_max w m 0 e h63
    have hd2 : Sat F s ρ a w.drew := h.grow ((Below.refl _ _).drew)
    have hn := hd2.newObj hk (vs.toArray ++ Builtin.zeroCells z.cells (grownCap w m 0 e - m)) e ⟨(ti P e).size, news⟩ (by simp [hvl]) (fun j hj => by
      have hj2 : j < vs.length := by rw [hvl]; exact hj
      have h3 : (vs.toArray ++ Builtin.zeroCells z.cells (grownCap w m 0 e - m)).getD j undef = vs[j] := by
        rw [Array.getD_eq_getD_getElem?, Array.getElem?_append_left (by simpa using hj2)]
        simp [hj2]
      rw [h3]
      refine ⟨?_, hv1 _ (List.getElem_mem hj2)⟩
      have := (hvr j hj).grow (w' := w.drew) ((Below.refl _ _).drew)
      rwa [show vs.getD j undef = vs[j] from by simp [List.getD, hj2]] at this)
    obtain ⟨h1, h2⟩ := fin_sat hn hf (new_ref' (cap := grownCap w m 0 e) hcap hcm (by
      simp only [Array.size_append, List.size_toArray, size_zeroCells, hzc, hvl, hnl, hs, ← Nat.add_mul]
      exact Nat.mul_le_mul_right _ (by omega)))
    exact ⟨_, _, _, _, h1, h2, .inl (exec _ _ (by rw [hxe, hy]; exact hrun)), moved_alloc s ρ w w.drew rfl _ _ _ _ _⟩

end
end Go.AG
