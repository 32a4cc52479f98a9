/- Part 3 of the ground of ClockOffsets, ClockPairs: what the functions compute. No condition. -/
import Derived.Test.YtcjdhajdoikojaaDab2
import Derived.Test.YtcjdhajdoikojaaDab1
import Derived.Test.YtcjdhajdoikojaaDaa1
section
/- What the document's answer computes about clocks: the same, in clean numbers. -/
namespace Go.Proofs.Ytcjdhajdoikojaa.Clk
open Go.RowKit Go.Proofs.YtcjdhajdoikojaaW.PrintWords Go.Proofs.YtcjdhajdoikojaaW.PrintMore Go.Proofs.Ytcjdhajdoikojaa.Pr

theorem okT_iff {t : Int} : okT t = true ↔ 0 ≤ t ∧ t ≤ 1125899906842624 := by
  unfold okT
  simp only [Bool.and_eq_true, decide_eq_true_eq]
theorem okX_iff {x : S46} : okX x = true ↔ (0 ≤ x.f0 ∧ x.f0 ≤ x.f3 ∧ x.f3 ≤ 1125899906842624) ∧ (0 ≤ x.f1 ∧ x.f1 ≤ x.f2 ∧ x.f2 ≤ 1125899906842624) ∧ (0 ≤ x.f4.f0 ∧ x.f4.f0 ≤ x.f4.f1 ∧ x.f4.f1 ≤ 1073741824) ∧ (0 ≤ x.f5.f0 ∧ x.f5.f0 ≤ x.f5.f1 ∧ x.f5.f1 ≤ 1073741824) := by
  unfold okX
  simp only [Bool.and_eq_true, okT_iff, okS_iff, Bool.not_eq_true', decide_eq_false_iff_not]
  omega
/-- The offset by an exchange, in clean numbers. -/
def offC (rate : Int) (x : S46) : Int × Int :=
  (max (x.f1 - x.f0 - x.f4.f1 - gro rate (x.f3 - x.f0)) (x.f2 - x.f3 + x.f5.f0), min (x.f1 - x.f0 - x.f4.f0 + gro rate (x.f3 - x.f0)) (x.f2 - x.f3 + x.f5.f1))
theorem offsetI_eq {rate : Int} {x : S46} (hr0 : 0 ≤ rate) (hr1 : rate ≤ 1000000) (h : okX x = true) : offsetI x rate = offC rate x := by
  obtain ⟨⟨a1, a2, a3⟩, ⟨b1, b2, b3⟩, ⟨c1, c2, c3⟩, d1, d2, d3⟩ := okX_iff.1 h
  unfold offsetI forthI homeI shiftI offC
  rw [wrap_id (n := x.f3 - x.f0) (by omega) (by omega), growI_eq hr0 hr1 (by omega) (by omega), show max (x.f3 - x.f0) (-(x.f3 - x.f0)) = x.f3 - x.f0 by omega]
  have hg := gro_range hr0 hr1 (d := x.f3 - x.f0) (by omega) (by omega)
  generalize gro rate (x.f3 - x.f0) = g at *
  simp (disch := omega) only [wrap_id]
  rw [meetF_two (by dsimp only; omega) (by dsimp only; omega)]
  dsimp only
  ext
  · dsimp only; omega
  · dsimp only; omega
theorem ref_isTime (t : Int) : isobathref05_isTime.f t = some (okT t) := by
  unfold isobathref05_isTime.f okT
  by_cases h : t ≥ 0
  · rw [if_pos h, show decide (0 ≤ t) = true from decide_eq_true h, Bool.true_and]
  · rw [if_neg h, show decide (0 ≤ t) = false from decide_eq_false h, Bool.false_and]
theorem ref_within (a lo hi : Int) : isobathref01_Within.f a lo hi = some (decide (lo ≤ a) && decide (a ≤ hi)) := by
  unfold isobathref01_Within.f
  by_cases h : a ≥ lo
  · rw [if_pos h, show decide (lo ≤ a) = true from decide_eq_true h, Bool.true_and]
  · rw [if_neg h, show decide (lo ≤ a) = false from decide_eq_false h, Bool.false_and]
theorem ref_valid (lo hi : Int) : isobathref01_Valid.f lo hi = some (okS lo hi) := by
  unfold isobathref01_Valid.f
  simp only [ref_within, Option.bind_some]
  by_cases h : lo ≤ hi
  · rw [if_pos h]
    by_cases h2 : -1073741824 ≤ lo
    · by_cases h3 : lo ≤ 1073741824
      · rw [decide_eq_true h2, decide_eq_true h3, if_pos (by decide), Option.some.injEq, Bool.eq_iff_iff, okS_iff]
        simp only [Bool.and_eq_true, decide_eq_true_eq]
        omega
      · rw [decide_eq_false h3, Bool.and_false, if_neg (by decide), Option.some.injEq, Bool.eq_iff_iff, okS_iff]
        simp
        omega
    · rw [decide_eq_false h2, Bool.false_and, if_neg (by decide), Option.some.injEq, Bool.eq_iff_iff, okS_iff]
      simp
      omega
  · rw [if_neg h, Option.some.injEq, Bool.eq_iff_iff, okS_iff]
    simp
    omega
theorem ref_checkX (k : Nat) (x : S46) : isobathref05_CheckExchange.f (k + 1) x.f0 x.f1 x.f2 x.f3 x.f4.f0 x.f4.f1 x.f5.f0 x.f5.f1 = some (if okX x then 0 else 2) := by
  have hj : isobathref05_CheckExchange.j0 (k + 1) true x.f0 x.f1 x.f2 x.f3 x.f4.f0 x.f4.f1 x.f5.f0 x.f5.f1 = some 2 := by rw [isobathref05_CheckExchange.j0, if_pos rfl]
  unfold isobathref05_CheckExchange.f
  simp only [ref_isTime, Option.bind_some, hj]
  by_cases hb : okT x.f0 = true ∧ okT x.f1 = true ∧ okT x.f2 = true ∧ okT x.f3 = true ∧ x.f0 ≤ x.f3 ∧ x.f1 ≤ x.f2
  · obtain ⟨h0, h1, h2, h3, h4, h5⟩ := hb
    rw [if_pos h0, if_pos h1, if_pos h2, if_pos h3, if_neg (by omega), decide_eq_false (by omega), isobathref05_CheckExchange.j0, if_neg (by decide)]
    simp only [ref_valid, Option.bind_some]
    rw [okT_iff] at h0 h1 h2 h3
    by_cases h6 : okS x.f4.f0 x.f4.f1 = true
    · rw [if_pos h6]
      rw [okS_iff] at h6
      by_cases h7 : okS x.f5.f0 x.f5.f1 = true
      · rw [if_pos h7]
        rw [okS_iff] at h7
        by_cases h8 : x.f4.f0 < 0
        · rw [if_pos h8, if_neg (by rw [okX_iff]; omega)]
        · rw [if_neg h8]
          by_cases h9 : x.f5.f0 < 0
          · rw [if_pos h9, if_neg (by rw [okX_iff]; omega)]
          · rw [if_neg h9, if_pos (by rw [okX_iff]; omega)]
      · rw [if_neg h7]
        rw [okS_iff] at h7
        rw [if_neg (by rw [okX_iff]; omega)]
    · rw [if_neg h6]
      rw [okS_iff] at h6
      rw [if_neg (by rw [okX_iff]; omega)]
  · have hX : okX x ≠ true := by
      simp only [okT_iff] at hb
      rw [Ne, okX_iff]
      omega
    rw [if_neg hX]
    split <;> (try rfl)
    split <;> (try rfl)
    split <;> (try rfl)
    split <;> (try rfl)
    rename_i h0 h1 h2 h3
    by_cases h4 : x.f0 > x.f3
    · rw [if_pos h4]
    · rw [if_neg h4, decide_eq_true (show x.f1 > x.f2 from by
        apply Classical.byContradiction
        intro h5
        exact hb ⟨h0, h1, h2, h3, by omega, by omega⟩), hj]
theorem down_eq (k : Nat) {a : Int} (h0 : -9000000000000000000 ≤ a) (h1 : a ≤ 9000000000000000000) : isobathref01_Down.f (k + 1) a 1000000000 = some (a / 1000000000) := by
  rw [isobathref01_Down.f, if_neg (by decide), if_neg (by decide), Int.tmod_eq_emod, Int.tdiv_eq_ediv]
  by_cases h : 0 ≤ a ∨ (1000000000 : Int) ∣ a
  · rw [if_pos h, if_pos h, if_neg (by omega), wrap_id (by omega) (by omega)]
    simp
  · rw [if_neg h, if_neg h, if_pos (by simp; omega)]
    simp only [show Int.sign 1000000000 = 1 from rfl]
    rw [wrap_id (n := a / 1000000000 + 1) (by omega) (by omega), wrap_id (by omega) (by omega)]
    congr 1
    omega
theorem ref_growth (k : Nat) {rate d : Int} (hr0 : 0 ≤ rate) (hr1 : rate ≤ 1000000) (hd0 : -2251799813685248 ≤ d) (hd1 : d ≤ 2251799813685248) : isobathref05_Growth.f (k + 1) rate d = some (gro rate (max d (-d))) := by
  unfold isobathref05_Growth.f isobathref01_Up.f
  rw [wrap_id (n := -d) (by omega) (by omega), mx_max]
  have hm0 : 0 ≤ max d (-d) := by omega
  have hm1 : max d (-d) ≤ 2251799813685248 := by omega
  generalize max d (-d) = m at *
  have h1 := mul_bound hr0 hr1 (show 0 ≤ m / 1000000000 by omega) (show m / 1000000000 ≤ 2251799 by omega)
  have h2 := mul_bound hr0 hr1 (show 0 ≤ m % 1000000000 by omega) (show m % 1000000000 ≤ 999999999 by omega)
  have e1 : Int.tdiv m 1000000000 = m / 1000000000 := Int.tdiv_eq_ediv_of_nonneg hm0
  have e2 : Int.tmod m 1000000000 = m % 1000000000 := Int.tmod_eq_emod_of_nonneg hm0
  rw [e1, e2, wrap_id (n := m / 1000000000) (by omega) (by omega)]
  unfold gro
  generalize rate * (m / 1000000000) = x at *
  generalize rate * (m % 1000000000) = y at *
  rw [wrap_id (n := y) (by omega) (by omega), wrap_id (n := -y) (by omega) (by omega), down_eq k (by omega) (by omega), Option.bind_some, Option.bind_some, wrap_id (n := x) (by omega) (by omega), wrap_id (n := -(-y / 1000000000)) (by omega) (by omega), wrap_id (by omega) (by omega)]
  congr 1
  omega
theorem ref_offset (k : Nat) {rate : Int} {x : S46} (hr0 : 0 ≤ rate) (hr1 : rate ≤ 1000000) (h : okX x = true) : isobathref05_offset.f (k + 1) x.f0 x.f1 x.f2 x.f3 x.f4.f0 x.f4.f1 x.f5.f0 x.f5.f1 rate = some (offC rate x) := by
  obtain ⟨⟨a1, a2, a3⟩, ⟨b1, b2, b3⟩, ⟨c1, c2, c3⟩, d1, d2, d3⟩ := okX_iff.1 h
  unfold isobathref05_offset.f isobathref05_grown.f isobathref05_meet.f offC
  rw [wrap_id (n := x.f3 - x.f0) (by omega) (by omega), ref_growth k hr0 hr1 (by omega) (by omega), show max (x.f3 - x.f0) (-(x.f3 - x.f0)) = x.f3 - x.f0 by omega]
  have hg := gro_range hr0 hr1 (d := x.f3 - x.f0) (by omega) (by omega)
  generalize gro rate (x.f3 - x.f0) = g at *
  simp only [Option.bind_some]
  simp (disch := omega) only [wrap_id, mx_max, mn_min]
theorem rd_lt {xs : List S46} {i : Nat} (h : i < xs.length) : rd_T46 xs (i : Int) = xs[i] := by
  unfold rd_T46
  rw [List.getD_eq_getElem?_getD, Int.toNat_natCast, List.getElem?_eq_getElem h]
  rfl
/-- Which exchanges are valid for a clock of a rate, in clean numbers. -/
theorem okE_iff {rate : Int} {x : S46} (hr0 : 0 ≤ rate) (hr1 : rate ≤ 1000000) : okE rate x = true ↔ okX x = true ∧ okS (offC rate x).1 (offC rate x).2 = true := by
  unfold okE
  simp only [Bool.and_eq_true, decide_eq_true_eq]
  constructor
  · rintro ⟨⟨h1, h2⟩, h3⟩
    rw [offsetI_eq hr0 hr1 h1] at h3
    exact ⟨h1, h3⟩
  · rintro ⟨h1, h3⟩
    rw [offsetI_eq hr0 hr1 h1]
    exact ⟨⟨h1, (okS_iff.1 h3).1⟩, h3⟩
theorem ref_clock_loop {par rate : Int} {xs : List S46} (hr0 : 0 ≤ rate) (hr1 : rate ≤ 1000000) (hl : xs.length ≤ 1000) : ∀ (m i k : Nat), i + m = xs.length → m + 2 ≤ k → isobathref05_CheckClock.l0 k (i : Int) par rate xs = some (if (xs.drop i).all (okE rate) then 0 else 2)
  | 0, i, k, h, hk => by
    obtain ⟨k, rfl⟩ : ∃ q, k = q + 1 := ⟨k - 1, by omega⟩
    rw [isobathref05_CheckClock.l0, if_neg (by omega), List.drop_of_length_le (by omega)]
    rfl
  | m + 1, i, k, h, hk => by
    obtain ⟨k, rfl⟩ : ∃ q, k = q + 2 := ⟨k - 2, by omega⟩
    have hi : i < xs.length := by omega
    rw [isobathref05_CheckClock.l0, if_pos (by omega), if_pos (by omega), List.drop_eq_getElem_cons hi, List.all_cons, rd_lt hi, ref_checkX, Option.bind_some]
    cases hX : okX xs[i] with
    | false =>
      have he : okE rate xs[i] = false := by unfold okE; rw [hX]; rfl
      rw [he]
      rfl
    | true =>
      rw [if_pos rfl, if_pos rfl, ref_offset k hr0 hr1 hX, Option.bind_some, ref_valid, Option.bind_some]
      cases hS : okS (offC rate xs[i]).1 (offC rate xs[i]).2 with
      | false =>
        have he : okE rate xs[i] = false := Bool.eq_false_iff.2 fun h => by rw [okE_iff hr0 hr1, hS] at h; cases h.2
        rw [he]
        rfl
      | true =>
        have he : okE rate xs[i] = true := (okE_iff hr0 hr1).2 ⟨hX, hS⟩
        rw [if_pos rfl, he, Bool.true_and, wrap_id (by omega) (by omega), show ((i : Int) + 1) = ((i + 1 : Nat) : Int) by omega]
        exact ref_clock_loop hr0 hr1 hl m (i + 1) (k + 1) (by omega) (by omega)
theorem ref_checkClock {par rate : Int} {xs : List S46} {k : Nat} (hk : xs.length + 4 ≤ k) : isobathref05_CheckClock.f k par rate xs = some (faceE par rate xs) := by
  obtain ⟨k, rfl⟩ : ∃ q, k = q + 2 := ⟨k - 2, by omega⟩
  unfold isobathref05_CheckClock.f faceE
  by_cases h1 : xs.length < 1
  · rw [if_pos (by omega), isobathref05_CheckClock.j0, if_pos rfl, if_pos (.inl h1)]
  rw [if_neg (by omega)]
  by_cases h2 : xs.length > 64
  · rw [decide_eq_true (by omega), isobathref05_CheckClock.j0, if_pos rfl, if_pos (.inr h2)]
  rw [decide_eq_false (by omega), isobathref05_CheckClock.j0, if_neg (by decide), if_neg (show ¬ (xs.length < 1 ∨ xs.length > 64) by omega)]
  by_cases p1 : par < -1
  · rw [if_pos p1, isobathref05_CheckClock.j1, if_pos rfl, if_pos (.inl p1)]
  rw [if_neg p1]
  by_cases p2 : rate < 0
  · rw [if_pos p2, isobathref05_CheckClock.j1, if_pos rfl, if_pos (.inr (.inl p2))]
  rw [if_neg p2]
  by_cases p3 : rate > 1000000
  · rw [decide_eq_true p3, isobathref05_CheckClock.j1, if_pos rfl, if_pos (.inr (.inr p3))]
  rw [decide_eq_false p3, isobathref05_CheckClock.j1, if_neg (by decide), if_neg (show ¬ (par < -1 ∨ rate < 0 ∨ rate > 1000000) by omega)]
  have := ref_clock_loop (par := par) (rate := rate) (xs := xs) (by omega) (by omega) (by omega) xs.length 0 k (by omega) (by omega)
  rw [List.drop_zero] at this
  exact this
/-- What is known of a valid clock's anchors. -/
theorem anchor_eq {rate : Int} {x : S46} (hr0 : 0 ≤ rate) (hr1 : rate ≤ 1000000) (h : okX x = true) : anchorI rate x = ⟨⟨(offC rate x).1, (offC rate x).2⟩, x.f3⟩ := by
  unfold anchorI
  rw [offsetI_eq hr0 hr1 h]
theorem faceE_all {par rate : Int} {xs : List S46} (h : faceE par rate xs = 0) : ∀ x ∈ xs, okE rate x = true := by
  have hr := faceE_rate h
  have hl := faceE_len h
  have h1 := (faceE_one h).1
  unfold faceE at h
  rw [if_neg (by omega), if_neg (by omega)] at h
  by_cases ha : xs.all (okE rate) = true
  · exact List.all_eq_true.1 ha
  · rw [if_neg ha] at h
    cases h
theorem ref_grown (a b g : Int) : isobathref05_grown.f a b g = some (wrap64 (a - g), wrap64 (b + g)) := rfl
theorem ref_meet (a b c d : Int) : isobathref05_meet.f a b c d = some (mx a c, mn b d) := rfl
theorem meetU_cons {α : Type} (lo hi : α → Int) (o : Int × Int) (a : α) (l : List α) : meetU lo hi o (a :: l) = meetU lo hi (max o.1 (lo a), min o.2 (hi a)) l := rfl
theorem loA_eq (rate t : Int) (a : S105) : a.f0.f0 - gro rate (dis a.f1 t) = loA rate t a := rfl
theorem hiA_eq (rate t : Int) (a : S105) : a.f0.f1 + gro rate (dis a.f1 t) = hiA rate t a := rfl
set_option maxHeartbeats 2000000 in
theorem ref_at_loop {par rate t : Int} {xs : List S46} (hr0 : 0 ≤ rate) (hr1 : rate ≤ 1000000) (ht0 : 0 ≤ t) (ht1 : t ≤ 2251799813685248) (hl : xs.length ≤ 1000) (hX : ∀ x ∈ xs, okE rate x = true) : ∀ (m i k : Nat) (o : Int × Int), i + m = xs.length → m + 2 ≤ k →
    isobathref05_at.l0 k t (i : Int) par rate xs o.1 o.2 = some (meetU (loA rate t) (hiA rate t) o ((xs.drop i).map (anchorI rate))) := by
  intro m
  induction m with
  | zero =>
    intro i k o h hk
    obtain ⟨k, rfl⟩ : ∃ q, k = q + 1 := ⟨k - 1, by omega⟩
    rw [isobathref05_at.l0, if_neg (by omega), List.drop_of_length_le (by omega)]
    rfl
  | succ m ih =>
    intro i k o h hk
    obtain ⟨k, rfl⟩ : ∃ q, k = q + 2 := ⟨k - 2, by omega⟩
    have hi : i < xs.length := by omega
    have hE := hX xs[i] (List.getElem_mem hi)
    have hx := ((okE_iff hr0 hr1).1 hE).1
    have hv := va_anchor hE
    obtain ⟨⟨a1, a2, a3⟩, _⟩ := okX_iff.1 hx
    rw [isobathref05_at.l0, if_pos (by omega), if_pos (by omega), List.drop_eq_getElem_cons hi, rd_lt hi, ref_offset k hr0 hr1 hx, Option.bind_some, wrap_id (n := t - xs[i].f3) (by omega) (by omega), ref_growth k hr0 hr1 (by omega) (by omega), Option.bind_some, List.map_cons]
    have ha := anchor_eq hr0 hr1 hx
    rw [show max (t - xs[i].f3) (-(t - xs[i].f3)) = dis (anchorI rate xs[i]).f1 t from by rw [ha]; rfl]
    have hg := gro_range hr0 hr1 (d := dis (anchorI rate xs[i]).f1 t) (by unfold dis; omega) (by rw [ha]; unfold dis; dsimp only; omega)
    rw [ref_grown, Option.bind_some, ref_meet, Option.bind_some]
    rw [show (offC rate xs[i]).1 = (anchorI rate xs[i]).f0.f0 by rw [ha], show (offC rate xs[i]).2 = (anchorI rate xs[i]).f0.f1 by rw [ha]]
    obtain ⟨v1, v2, v3, v4, v5⟩ := hv
    rw [wrap_id (n := (anchorI rate xs[i]).f0.f0 - gro rate (dis (anchorI rate xs[i]).f1 t)) (by omega) (by omega), wrap_id (n := (anchorI rate xs[i]).f0.f1 + gro rate (dis (anchorI rate xs[i]).f1 t)) (by omega) (by omega), mx_max, mn_min, wrap_id (n := (i : Int) + 1) (by omega) (by omega), show ((i : Int) + 1) = ((i + 1 : Nat) : Int) by omega, loA_eq, hiA_eq, meetU_cons]
    exact ih (i + 1) (k + 1) (max o.1 (loA rate t (anchorI rate xs[i])), min o.2 (hiA rate t (anchorI rate xs[i]))) (by omega) (by omega)
theorem ref_at {par rate t : Int} {xs : List S46} {k : Nat} (h : faceE par rate xs = 0) (ht0 : 0 ≤ t) (ht1 : t ≤ 2251799813685248) (hk : 70 ≤ k) : isobathref05_at.f k par rate xs t = some (atI rate (xs.map (anchorI rate)) t) := by
  obtain ⟨hp, hr0, hr1⟩ := faceE_rate h
  have hl := faceE_len h
  have h1 := (faceE_one h).1
  have hv := va_all h
  unfold isobathref05_at.f
  have hh := ref_at_loop (par := par) hr0 hr1 ht0 ht1 (by omega) (faceE_all h) xs.length 0 k (-4611686018427387904, 4611686018427387904) (by omega) (by omega)
  rw [List.drop_zero] at hh
  refine hh.trans ?_
  rw [atI_eq hr0 hr1 ht0 ht1 hv]
  cases xs with
  | nil => simp at h1
  | cons x l =>
    rw [List.map_cons, meetU_cons, meetU_cons]
    have hx := ends_range hr0 hr1 ht0 ht1 (hv (anchorI rate x) (by simp))
    congr 2
    ext
    · dsimp only [top]; omega
    · dsimp only [top]; omega
end Go.Proofs.Ytcjdhajdoikojaa.Clk
end
section
-- PRINTED by print.py (a twelfth state) out of the translation. Not trusted: Lean checks it.
namespace Go.Proofs.Ytcjdhajdoikojaa.Pr
open Go.RowKit Go.Proofs.YtcjdhajdoikojaaW.PrintWords Go.Proofs.YtcjdhajdoikojaaW.PrintLast Go.Proofs.YtcjdhajdoikojaaW.PrintMore
attribute [local go_sem] max2_int min2_int max_two min_two
set_option linter.unusedVariables false
set_option linter.unusedSimpArgs false

/-! ### isobathref05_At: function 29 -/
def isobathref05_At.f (k : Nat) (a0_0 : Int) (a0_1 : Int) (l0_2 : List (S46)) (a1 : Int) : Option (Int × Int × Int) := (isobathref05_CheckClock.f k a0_0 a0_1 l0_2).bind fun t400 => (if t400 = 0 then ((isobathref05_isTime.f a1).bind fun t402 => (if t402 = true then ((isobathref05_Sound.f k a0_0 a0_1 l0_2).bind fun t403 => (if t403 = true then ((isobathref05_at.f k a0_0 a0_1 l0_2 a1).bind fun bt404 => (some (bt404.1, bt404.2, 0))) else (some (0, 0, 5)))) else (some (0, 0, 3)))) else ((isobathref05_CheckClock.f k a0_0 a0_1 l0_2).bind fun t401 => (some (0, 0, t401))))
set_option maxHeartbeats 8000000 in
set_option maxRecDepth 100000 in
theorem isobathref05_At.calls (k : Nat) (a0_0 : Int) (a0_1 : Int) (A0_2 : Option Addr) (c0_2 : Nat) (l0_2 : List (S46)) (a1 : Int) (r1 : Int) (r2 : Int) (r3 : Int) (w : World) (hr0_2 : Kd.C k46 w A0_2 l0_2.length l0_2) (hc0_2 : l0_2.length ≤ c0_2) (h : isobathref05_At.f k a0_0 a0_1 l0_2 a1 = some (r1, r2, r3)) :
    Calls Try.prog 29 #[.agg #[.int .i64 a0_0, .int .i64 a0_1, .slice A0_2 l0_2.length c0_2], .int .i64 a1] w fun e w' => e = .returned (.tuple #[.agg #[.int .i64 r1, .int .i64 r2], .int .i64 r3]) ∧ Below w.heap.size w w' := by
  have hu30 := Try.underlying30
  have hu35 := Try.underlying35
  have HR0_2 := Aside0.mk hr0_2
  have HC0_2 := Aside0.mk hc0_2
  clear hr0_2 hc0_2
  have HB := Aside0.mk (Below.refl w.heap.size w)
  have H : ((isobathref05_CheckClock.f k a0_0 a0_1 l0_2).bind fun t400 => (if t400 = 0 then ((isobathref05_isTime.f a1).bind fun t402 => (if t402 = true then ((isobathref05_Sound.f k a0_0 a0_1 l0_2).bind fun t403 => (if t403 = true then ((isobathref05_at.f k a0_0 a0_1 l0_2 a1).bind fun bt404 => (some (bt404.1, bt404.2, 0))) else (some (0, 0, 5)))) else (some (0, 0, 3)))) else ((isobathref05_CheckClock.f k a0_0 a0_1 l0_2).bind fun t401 => (some (0, 0, t401))))) = some (r1, r2, r3) := h
  clear h
  replace H := Option.bind_eq_some_iff.mp H
  obtain ⟨t400, A30, H⟩ := H
  replace H : (if t400 = 0 then ((isobathref05_isTime.f a1).bind fun t402 => (if t402 = true then ((isobathref05_Sound.f k a0_0 a0_1 l0_2).bind fun t403 => (if t403 = true then ((isobathref05_at.f k a0_0 a0_1 l0_2 a1).bind fun bt404 => (some (bt404.1, bt404.2, 0))) else (some (0, 0, 5)))) else (some (0, 0, 3)))) else ((isobathref05_CheckClock.f k a0_0 a0_1 l0_2).bind fun t401 => (some (0, 0, t401)))) = some (r1, r2, r3) := H
  have A3 := Aside0.mk A30
  clear A30
  by_cases c4 : t400 = 0
  · rw [if_pos c4] at H
    have c4b0 : (t400 == 0) = true := beq_iff_eq.mpr c4
    have c4b1 : (t400 != 0) = false := bne_eq_false_iff_eq.mpr c4
    clear c4
    replace H := Option.bind_eq_some_iff.mp H
    obtain ⟨t402, A50, H⟩ := H
    replace H : (if t402 = true then ((isobathref05_Sound.f k a0_0 a0_1 l0_2).bind fun t403 => (if t403 = true then ((isobathref05_at.f k a0_0 a0_1 l0_2 a1).bind fun bt404 => (some (bt404.1, bt404.2, 0))) else (some (0, 0, 5)))) else (some (0, 0, 3))) = some (r1, r2, r3) := H
    have A5 := Aside0.mk A50
    clear A50
    by_cases c6 : t402 = true
    · subst c6
      have H1 : ((isobathref05_Sound.f k a0_0 a0_1 l0_2).bind fun t403 => (if t403 = true then ((isobathref05_at.f k a0_0 a0_1 l0_2 a1).bind fun bt404 => (some (bt404.1, bt404.2, 0))) else (some (0, 0, 5)))) = some (r1, r2, r3) := by rw [if_pos rfl] at H; exact H
      clear H
      have H := H1
      clear H1
      replace H := Option.bind_eq_some_iff.mp H
      obtain ⟨t403, A70, H⟩ := H
      replace H : (if t403 = true then ((isobathref05_at.f k a0_0 a0_1 l0_2 a1).bind fun bt404 => (some (bt404.1, bt404.2, 0))) else (some (0, 0, 5))) = some (r1, r2, r3) := H
      have A7 := Aside0.mk A70
      clear A70
      by_cases c8 : t403 = true
      · subst c8
        have H1 : ((isobathref05_at.f k a0_0 a0_1 l0_2 a1).bind fun bt404 => (some (bt404.1, bt404.2, 0))) = some (r1, r2, r3) := by rw [if_pos rfl] at H; exact H
        clear H
        have H := H1
        clear H1
        replace H := Option.bind_eq_some_iff.mp H
        obtain ⟨⟨t404, t405⟩, A90, H⟩ := H
        replace H : (some (t404, t405, 0)) = some (r1, r2, r3) := H
        have A9 := Aside0.mk A90
        clear A90
        simp only [Option.some.injEq, Prod.mk.injEq] at H
        obtain ⟨rfl, rfl, rfl⟩ := H
        go_enter Try.func29, Try.ntmps29
        go_wp2_with (first | ((with_reducible refine gate_dst (N := 2) rfl ?_); refine box_event ?hg (N := 2) ?hd (cs := #[.int .i64 a0_0, .int .i64 a0_1, .slice A0_2 l0_2.length c0_2]) (t := 30) ?hr ?_; (case hd => rfl); (case hg => rfl); (case hr => first | (go_simp; done) | (go_simp; rfl)); intro gb398 hg w10 hbox hb; have n0_ := Aside0.mk (below_step (by repeat (first | (with_reducible first | exact HB.out | apply below_alloc | apply pw_below_drewN | apply below_drew1) | exact HB.out)) hb); have n1_ := Aside0.mk (hbox); have n2_ := Aside0.mk ((by rw [hg]; exact (below_size (by repeat (first | (with_reducible first | exact HB.out | apply below_alloc | apply pw_below_drewN | apply below_drew1) | exact HB.out))) : w.heap.size ≤ gb398)); have n3_ := Aside0.mk ((by rw [hg]; exact (below_size (by repeat (first | (with_reducible first | exact HB.out | apply below_alloc | apply pw_below_drewN | apply below_drew1) | exact HB.out))) : w.heap.size ≤ gb398)); clear HB; have HB := n0_; have BK398 := n1_; have GW398 := n2_; have GE398 := n3_; clear n0_ n1_ n2_ n3_; clear hb hbox hg) | ((with_reducible refine gate_dst (N := 4) rfl ?_); refine box_event ?hg (N := 4) ?hd (cs := #[.int .i64 0, .int .i64 0]) (t := 35) ?hr ?_; (case hd => rfl); (case hg => rfl); (case hr => first | (go_simp; done) | (go_simp; rfl)); intro gb399 hg w11 hbox hb; have n0_ := Aside0.mk (blk_below (g := gb398) (o := .cells #[.int .i64 a0_0, .int .i64 a0_1, .slice A0_2 l0_2.length c0_2] 30 (0, 0)) (by (with_reducible repeat (first | refine blk_drewN ?_ _ | refine blk_drew ?_ | refine blk_alloc ?_ _)); exact BK398.out) hb); have n1_ := Aside0.mk (below_step (by repeat (first | (with_reducible first | exact HB.out | apply below_alloc | apply pw_below_drewN | apply below_drew1 | refine below_set ?_ GE398.out) | exact HB.out)) hb); have n2_ := Aside0.mk (hbox); have n3_ := Aside0.mk ((by rw [hg]; exact (below_size (by repeat (first | (with_reducible first | exact HB.out | apply below_alloc | apply pw_below_drewN | apply below_drew1 | refine below_set ?_ GE398.out) | exact HB.out))) : w.heap.size ≤ gb399)); have n4_ := Aside0.mk ((by rw [hg]; exact (below_size (by repeat (first | (with_reducible first | exact HB.out | apply below_alloc | apply pw_below_drewN | apply below_drew1 | refine below_set ?_ GE398.out) | exact HB.out))) : w.heap.size ≤ gb399)); have n5_ := Aside0.mk ((by rw [hg]; exact Nat.ne_of_lt (blk_lt (g := gb398) (o := .cells #[.int .i64 a0_0, .int .i64 a0_1, .slice A0_2 l0_2.length c0_2] 30 (0, 0)) (by (with_reducible repeat (first | refine blk_drewN ?_ _ | refine blk_drew ?_ | refine blk_alloc ?_ _)); exact BK398.out)) : gb398 ≠ gb399)); have n6_ := Aside0.mk ((by rw [hg]; exact Nat.ne_of_gt (blk_lt (g := gb398) (o := .cells #[.int .i64 a0_0, .int .i64 a0_1, .slice A0_2 l0_2.length c0_2] 30 (0, 0)) (by (with_reducible repeat (first | refine blk_drewN ?_ _ | refine blk_drew ?_ | refine blk_alloc ?_ _)); exact BK398.out)) : gb399 ≠ gb398)); clear BK398; clear HB; have BK398 := n0_; have HB := n1_; have BK399 := n2_; have GW399 := n3_; have GE399 := n4_; have NB398_399 := n5_; have NB399_398 := n6_; clear n0_ n1_ n2_ n3_ n4_ n5_ n6_; clear hb hbox hg; have hnb12 := NB398_399.out; have hnc12 := NB399_398.out; have hcz13_0 : w11.cell? ⟨gb398, 0, none⟩ = some (.int .i64 a0_0) := (blk_cell BK398.out 0).trans rfl; have hcz13_1 : w11.cell? ⟨gb398, 1, none⟩ = some (.int .i64 a0_1) := (blk_cell BK398.out 1).trans rfl; have hcz13_2 : w11.cell? ⟨gb398, 2, none⟩ = some (.slice A0_2 l0_2.length c0_2) := (blk_cell BK398.out 2).trans rfl; have hfz13_0 := blk_frozen BK398.out 0; have hfz13_1 := blk_frozen BK398.out 1; have hfz13_2 := blk_frozen BK398.out 2) | ((with_reducible refine gate_callee (f := 33) rfl ?_); refine goesL_ (some 7) rfl rfl Try.func33 (by kernel_rfl) rfl #[.agg #[.int .i64 a0_0, .int .i64 a0_1, .slice A0_2 l0_2.length c0_2]] rfl (by (try simp only [List.map_toArray, List.map_cons, List.map_nil]); first | done | rfl | (simp only [List.length_drop, List.length_take]; rfl)) ?_; (with_reducible refine (isobathref05_CheckClock.calls k a0_0 a0_1 _ _ l0_2 t400 _ ?side1 ?side2 A3.out).mono ?_); (case side1 => repeat (first | exact (Kd.C_below HR0_2.out HB.out) | (with_reducible refine Kd.C_alloc ?_ _) | (with_reducible refine Kd.C_drewN ?_ _) | (with_reducible refine Kd.C_drew ?_))); (case side2 => exact HC0_2.out); rintro e w14 ⟨rfl, hb⟩; refine ⟨_, rfl, ?_⟩; have n0_ := Aside0.mk (blk_below (g := gb398) (o := .cells #[.int .i64 a0_0, .int .i64 a0_1, .slice A0_2 l0_2.length c0_2] 30 (0, 0)) (by (with_reducible repeat (first | refine blk_drewN ?_ _ | refine blk_drew ?_ | refine blk_alloc ?_ _)); exact BK398.out) hb); have n1_ := Aside0.mk (blk_below (g := gb399) (o := .cells #[.int .i64 0, .int .i64 0] 35 (0, 0)) (by (with_reducible repeat (first | refine blk_drewN ?_ _ | refine blk_drew ?_ | refine blk_alloc ?_ _)); exact BK399.out) hb); have n2_ := Aside0.mk (below_step (by repeat (first | (with_reducible first | exact HB.out | apply below_alloc | apply pw_below_drewN | apply below_drew1 | refine below_set ?_ GE398.out | refine below_set ?_ GE399.out) | exact HB.out)) hb); clear BK398; clear BK399; clear HB; have BK398 := n0_; have BK399 := n1_; have HB := n2_; clear n0_ n1_ n2_; (try clear hb); (try clear hb2); (try clear hk); (try clear hi)) | ((with_reducible refine gate_callee (f := 68) rfl ?_); refine goesL_ (some 13) rfl rfl Try.func68 (by kernel_rfl) rfl #[.int .i64 a1] rfl (by (try simp only [List.map_toArray, List.map_cons, List.map_nil]); first | done | rfl | (simp only [List.length_drop, List.length_take]; rfl)) ?_; (with_reducible refine (isobathref05_isTime.calls a1 true _ A5.out).mono ?_); rintro e w' ⟨rfl, ⟨nd, rfl⟩⟩; refine ⟨_, rfl, ?_⟩; (try (rw [drewN_self w14]; generalize hq_ : World.drewN w14 _ = w14; have n0_ : Aside0 (w14.heap[gb398]? = some (.cells #[.int .i64 a0_0, .int .i64 a0_1, .slice A0_2 l0_2.length c0_2] 30 (0, 0))) := ⟨by rw [← hq_]; exact (by (with_reducible repeat (first | refine blk_drewN ?_ _ | refine blk_drew ?_ | refine blk_alloc ?_ _)); exact BK398.out)⟩; have n1_ : Aside0 (w14.heap[gb399]? = some (.cells #[.int .i64 0, .int .i64 0] 35 (0, 0))) := ⟨by rw [← hq_]; exact (by (with_reducible repeat (first | refine blk_drewN ?_ _ | refine blk_drew ?_ | refine blk_alloc ?_ _)); exact BK399.out)⟩; have n2_ : Aside0 (Below w.heap.size w w14) := ⟨by rw [← hq_]; exact (by repeat (first | (with_reducible first | exact HB.out | apply below_alloc | apply pw_below_drewN | apply below_drew1 | refine below_set ?_ GE398.out | refine below_set ?_ GE399.out) | exact HB.out))⟩; clear BK398 BK399 HB hq_; have BK398 := n0_; have BK399 := n1_; have HB := n2_; clear n0_ n1_ n2_)); have hcz15_0 : w14.cell? ⟨gb398, 0, none⟩ = some (.int .i64 a0_0) := (blk_cell BK398.out 0).trans rfl; have hcz15_1 : w14.cell? ⟨gb398, 1, none⟩ = some (.int .i64 a0_1) := (blk_cell BK398.out 1).trans rfl; have hcz15_2 : w14.cell? ⟨gb398, 2, none⟩ = some (.slice A0_2 l0_2.length c0_2) := (blk_cell BK398.out 2).trans rfl; have hfz15_0 := blk_frozen BK398.out 0; have hfz15_1 := blk_frozen BK398.out 1; have hfz15_2 := blk_frozen BK398.out 2) | ((with_reducible refine gate_callee (f := 69) rfl ?_); refine goesL_ (some 17) rfl rfl Try.func69 (by kernel_rfl) rfl #[.agg #[.int .i64 a0_0, .int .i64 a0_1, .slice A0_2 l0_2.length c0_2]] rfl (by (try simp only [List.map_toArray, List.map_cons, List.map_nil]); first | done | rfl | (simp only [List.length_drop, List.length_take]; rfl)) ?_; (with_reducible refine (isobathref05_Sound.calls k a0_0 a0_1 _ _ l0_2 true _ ?side1 ?side2 A7.out).mono ?_); (case side1 => repeat (first | exact (Kd.C_below HR0_2.out HB.out) | (with_reducible refine Kd.C_alloc ?_ _) | (with_reducible refine Kd.C_drewN ?_ _) | (with_reducible refine Kd.C_drew ?_))); (case side2 => exact HC0_2.out); rintro e w16 ⟨rfl, hb⟩; refine ⟨_, rfl, ?_⟩; have n0_ := Aside0.mk (blk_below (g := gb398) (o := .cells #[.int .i64 a0_0, .int .i64 a0_1, .slice A0_2 l0_2.length c0_2] 30 (0, 0)) (by (with_reducible repeat (first | refine blk_drewN ?_ _ | refine blk_drew ?_ | refine blk_alloc ?_ _)); exact BK398.out) hb); have n1_ := Aside0.mk (blk_below (g := gb399) (o := .cells #[.int .i64 0, .int .i64 0] 35 (0, 0)) (by (with_reducible repeat (first | refine blk_drewN ?_ _ | refine blk_drew ?_ | refine blk_alloc ?_ _)); exact BK399.out) hb); have n2_ := Aside0.mk (below_step (by repeat (first | (with_reducible first | exact HB.out | apply below_alloc | apply pw_below_drewN | apply below_drew1 | refine below_set ?_ GE398.out | refine below_set ?_ GE399.out) | exact HB.out)) hb); clear BK398; clear BK399; clear HB; have BK398 := n0_; have BK399 := n1_; have HB := n2_; clear n0_ n1_ n2_; (try clear hb); (try clear hb2); (try clear hk); (try clear hi); have hcz17_0 : w16.cell? ⟨gb398, 0, none⟩ = some (.int .i64 a0_0) := (blk_cell BK398.out 0).trans rfl; have hcz17_1 : w16.cell? ⟨gb398, 1, none⟩ = some (.int .i64 a0_1) := (blk_cell BK398.out 1).trans rfl; have hcz17_2 : w16.cell? ⟨gb398, 2, none⟩ = some (.slice A0_2 l0_2.length c0_2) := (blk_cell BK398.out 2).trans rfl; have hfz17_0 := blk_frozen BK398.out 0; have hfz17_1 := blk_frozen BK398.out 1; have hfz17_2 := blk_frozen BK398.out 2) | ((with_reducible refine gate_callee (f := 70) rfl ?_); refine goesL_ (some 22) rfl rfl Try.func70 (by kernel_rfl) rfl #[.agg #[.int .i64 a0_0, .int .i64 a0_1, .slice A0_2 l0_2.length c0_2], .int .i64 a1] rfl (by (try simp only [List.map_toArray, List.map_cons, List.map_nil]); first | done | rfl | (simp only [List.length_drop, List.length_take]; rfl)) ?_; (with_reducible refine (isobathref05_at.calls k a0_0 a0_1 _ _ l0_2 a1 t404 t405 _ ?side1 ?side2 A9.out).mono ?_); (case side1 => repeat (first | exact (Kd.C_below HR0_2.out HB.out) | (with_reducible refine Kd.C_alloc ?_ _) | (with_reducible refine Kd.C_drewN ?_ _) | (with_reducible refine Kd.C_drew ?_))); (case side2 => exact HC0_2.out); rintro e w18 ⟨rfl, hb⟩; refine ⟨_, rfl, ?_⟩; have n0_ := Aside0.mk (blk_below (g := gb398) (o := .cells #[.int .i64 a0_0, .int .i64 a0_1, .slice A0_2 l0_2.length c0_2] 30 (0, 0)) (by (with_reducible repeat (first | refine blk_drewN ?_ _ | refine blk_drew ?_ | refine blk_alloc ?_ _)); exact BK398.out) hb); have n1_ := Aside0.mk (blk_below (g := gb399) (o := .cells #[.int .i64 0, .int .i64 0] 35 (0, 0)) (by (with_reducible repeat (first | refine blk_drewN ?_ _ | refine blk_drew ?_ | refine blk_alloc ?_ _)); exact BK399.out) hb); have n2_ := Aside0.mk (below_step (by repeat (first | (with_reducible first | exact HB.out | apply below_alloc | apply pw_below_drewN | apply below_drew1 | refine below_set ?_ GE398.out | refine below_set ?_ GE399.out) | exact HB.out)) hb); clear BK398; clear BK399; clear HB; have BK398 := n0_; have BK399 := n1_; have HB := n2_; clear n0_ n1_ n2_; (try clear hb); (try clear hb2); (try clear hk); (try clear hi); have hcz19_0 : w18.cell? ⟨gb399, 0, none⟩ = some (.int .i64 0) := (blk_cell BK399.out 0).trans rfl; have hcz19_1 : w18.cell? ⟨gb399, 1, none⟩ = some (.int .i64 0) := (blk_cell BK399.out 1).trans rfl; have hfz19_0 := blk_frozen BK399.out 0; have hfz19_1 := blk_frozen BK399.out 1))
        refine bodyPost_ret (results_ct rfl _ _ gb399 35 #[.int .i64 t404, .int .i64 t405] (0, 0) _ rfl (by (with_reducible repeat (first | refine blk_drewN ?_ _ | refine blk_drew ?_ | refine blk_alloc ?_ _)); refine blk_put (cs := #[.int .i64 t404, .int .i64 0]) ?_ 1 _ rfl; (with_reducible repeat (first | refine blk_drewN ?_ _ | refine blk_drew ?_ | refine blk_alloc ?_ _)); refine blk_put (cs := #[.int .i64 0, .int .i64 0]) ?_ 0 _ rfl; (with_reducible repeat (first | refine blk_drewN ?_ _ | refine blk_drew ?_ | refine blk_alloc ?_ _)); exact BK399.out) Try.underlying35 rfl (by kernel_rfl)) rfl ?_
        exact ⟨by first | rfl | (simp [errW_none, errW_some] <;> rfl) | (simp [*, errW_none, errW_some] <;> rfl), by repeat (first | (with_reducible first | exact HB.out | apply below_alloc | apply pw_below_drewN | apply below_drew1 | refine below_set ?_ GE398.out | refine below_set ?_ GE399.out) | exact HB.out)⟩
      · replace c8 := Bool.eq_false_iff.mpr c8
        subst c8
        have H1 : (some (0, 0, 5)) = some (r1, r2, r3) := by rw [if_neg (show ¬ (false = true) by decide)] at H; exact H
        clear H
        have H := H1
        clear H1
        simp only [Option.some.injEq, Prod.mk.injEq] at H
        obtain ⟨rfl, rfl, rfl⟩ := H
        go_enter Try.func29, Try.ntmps29
        go_wp2_with (first | ((with_reducible refine gate_dst (N := 2) rfl ?_); refine box_event ?hg (N := 2) ?hd (cs := #[.int .i64 a0_0, .int .i64 a0_1, .slice A0_2 l0_2.length c0_2]) (t := 30) ?hr ?_; (case hd => rfl); (case hg => rfl); (case hr => first | (go_simp; done) | (go_simp; rfl)); intro gb398 hg w20 hbox hb; have n0_ := Aside0.mk (below_step (by repeat (first | (with_reducible first | exact HB.out | apply below_alloc | apply pw_below_drewN | apply below_drew1) | exact HB.out)) hb); have n1_ := Aside0.mk (hbox); have n2_ := Aside0.mk ((by rw [hg]; exact (below_size (by repeat (first | (with_reducible first | exact HB.out | apply below_alloc | apply pw_below_drewN | apply below_drew1) | exact HB.out))) : w.heap.size ≤ gb398)); have n3_ := Aside0.mk ((by rw [hg]; exact (below_size (by repeat (first | (with_reducible first | exact HB.out | apply below_alloc | apply pw_below_drewN | apply below_drew1) | exact HB.out))) : w.heap.size ≤ gb398)); clear HB; have HB := n0_; have BK398 := n1_; have GW398 := n2_; have GE398 := n3_; clear n0_ n1_ n2_ n3_; clear hb hbox hg) | ((with_reducible refine gate_dst (N := 4) rfl ?_); refine box_event ?hg (N := 4) ?hd (cs := #[.int .i64 0, .int .i64 0]) (t := 35) ?hr ?_; (case hd => rfl); (case hg => rfl); (case hr => first | (go_simp; done) | (go_simp; rfl)); intro gb399 hg w21 hbox hb; have n0_ := Aside0.mk (blk_below (g := gb398) (o := .cells #[.int .i64 a0_0, .int .i64 a0_1, .slice A0_2 l0_2.length c0_2] 30 (0, 0)) (by (with_reducible repeat (first | refine blk_drewN ?_ _ | refine blk_drew ?_ | refine blk_alloc ?_ _)); exact BK398.out) hb); have n1_ := Aside0.mk (below_step (by repeat (first | (with_reducible first | exact HB.out | apply below_alloc | apply pw_below_drewN | apply below_drew1 | refine below_set ?_ GE398.out) | exact HB.out)) hb); have n2_ := Aside0.mk (hbox); have n3_ := Aside0.mk ((by rw [hg]; exact (below_size (by repeat (first | (with_reducible first | exact HB.out | apply below_alloc | apply pw_below_drewN | apply below_drew1 | refine below_set ?_ GE398.out) | exact HB.out))) : w.heap.size ≤ gb399)); have n4_ := Aside0.mk ((by rw [hg]; exact (below_size (by repeat (first | (with_reducible first | exact HB.out | apply below_alloc | apply pw_below_drewN | apply below_drew1 | refine below_set ?_ GE398.out) | exact HB.out))) : w.heap.size ≤ gb399)); have n5_ := Aside0.mk ((by rw [hg]; exact Nat.ne_of_lt (blk_lt (g := gb398) (o := .cells #[.int .i64 a0_0, .int .i64 a0_1, .slice A0_2 l0_2.length c0_2] 30 (0, 0)) (by (with_reducible repeat (first | refine blk_drewN ?_ _ | refine blk_drew ?_ | refine blk_alloc ?_ _)); exact BK398.out)) : gb398 ≠ gb399)); have n6_ := Aside0.mk ((by rw [hg]; exact Nat.ne_of_gt (blk_lt (g := gb398) (o := .cells #[.int .i64 a0_0, .int .i64 a0_1, .slice A0_2 l0_2.length c0_2] 30 (0, 0)) (by (with_reducible repeat (first | refine blk_drewN ?_ _ | refine blk_drew ?_ | refine blk_alloc ?_ _)); exact BK398.out)) : gb399 ≠ gb398)); clear BK398; clear HB; have BK398 := n0_; have HB := n1_; have BK399 := n2_; have GW399 := n3_; have GE399 := n4_; have NB398_399 := n5_; have NB399_398 := n6_; clear n0_ n1_ n2_ n3_ n4_ n5_ n6_; clear hb hbox hg; have hnb22 := NB398_399.out; have hnc22 := NB399_398.out; have hcz23_0 : w21.cell? ⟨gb398, 0, none⟩ = some (.int .i64 a0_0) := (blk_cell BK398.out 0).trans rfl; have hcz23_1 : w21.cell? ⟨gb398, 1, none⟩ = some (.int .i64 a0_1) := (blk_cell BK398.out 1).trans rfl; have hcz23_2 : w21.cell? ⟨gb398, 2, none⟩ = some (.slice A0_2 l0_2.length c0_2) := (blk_cell BK398.out 2).trans rfl; have hfz23_0 := blk_frozen BK398.out 0; have hfz23_1 := blk_frozen BK398.out 1; have hfz23_2 := blk_frozen BK398.out 2) | ((with_reducible refine gate_callee (f := 33) rfl ?_); refine goesL_ (some 7) rfl rfl Try.func33 (by kernel_rfl) rfl #[.agg #[.int .i64 a0_0, .int .i64 a0_1, .slice A0_2 l0_2.length c0_2]] rfl (by (try simp only [List.map_toArray, List.map_cons, List.map_nil]); first | done | rfl | (simp only [List.length_drop, List.length_take]; rfl)) ?_; (with_reducible refine (isobathref05_CheckClock.calls k a0_0 a0_1 _ _ l0_2 t400 _ ?side1 ?side2 A3.out).mono ?_); (case side1 => repeat (first | exact (Kd.C_below HR0_2.out HB.out) | (with_reducible refine Kd.C_alloc ?_ _) | (with_reducible refine Kd.C_drewN ?_ _) | (with_reducible refine Kd.C_drew ?_))); (case side2 => exact HC0_2.out); rintro e w24 ⟨rfl, hb⟩; refine ⟨_, rfl, ?_⟩; have n0_ := Aside0.mk (blk_below (g := gb398) (o := .cells #[.int .i64 a0_0, .int .i64 a0_1, .slice A0_2 l0_2.length c0_2] 30 (0, 0)) (by (with_reducible repeat (first | refine blk_drewN ?_ _ | refine blk_drew ?_ | refine blk_alloc ?_ _)); exact BK398.out) hb); have n1_ := Aside0.mk (blk_below (g := gb399) (o := .cells #[.int .i64 0, .int .i64 0] 35 (0, 0)) (by (with_reducible repeat (first | refine blk_drewN ?_ _ | refine blk_drew ?_ | refine blk_alloc ?_ _)); exact BK399.out) hb); have n2_ := Aside0.mk (below_step (by repeat (first | (with_reducible first | exact HB.out | apply below_alloc | apply pw_below_drewN | apply below_drew1 | refine below_set ?_ GE398.out | refine below_set ?_ GE399.out) | exact HB.out)) hb); clear BK398; clear BK399; clear HB; have BK398 := n0_; have BK399 := n1_; have HB := n2_; clear n0_ n1_ n2_; (try clear hb); (try clear hb2); (try clear hk); (try clear hi)) | ((with_reducible refine gate_callee (f := 68) rfl ?_); refine goesL_ (some 13) rfl rfl Try.func68 (by kernel_rfl) rfl #[.int .i64 a1] rfl (by (try simp only [List.map_toArray, List.map_cons, List.map_nil]); first | done | rfl | (simp only [List.length_drop, List.length_take]; rfl)) ?_; (with_reducible refine (isobathref05_isTime.calls a1 true _ A5.out).mono ?_); rintro e w' ⟨rfl, ⟨nd, rfl⟩⟩; refine ⟨_, rfl, ?_⟩; (try (rw [drewN_self w24]; generalize hq_ : World.drewN w24 _ = w24; have n0_ : Aside0 (w24.heap[gb398]? = some (.cells #[.int .i64 a0_0, .int .i64 a0_1, .slice A0_2 l0_2.length c0_2] 30 (0, 0))) := ⟨by rw [← hq_]; exact (by (with_reducible repeat (first | refine blk_drewN ?_ _ | refine blk_drew ?_ | refine blk_alloc ?_ _)); exact BK398.out)⟩; have n1_ : Aside0 (w24.heap[gb399]? = some (.cells #[.int .i64 0, .int .i64 0] 35 (0, 0))) := ⟨by rw [← hq_]; exact (by (with_reducible repeat (first | refine blk_drewN ?_ _ | refine blk_drew ?_ | refine blk_alloc ?_ _)); exact BK399.out)⟩; have n2_ : Aside0 (Below w.heap.size w w24) := ⟨by rw [← hq_]; exact (by repeat (first | (with_reducible first | exact HB.out | apply below_alloc | apply pw_below_drewN | apply below_drew1 | refine below_set ?_ GE398.out | refine below_set ?_ GE399.out) | exact HB.out))⟩; clear BK398 BK399 HB hq_; have BK398 := n0_; have BK399 := n1_; have HB := n2_; clear n0_ n1_ n2_)); have hcz25_0 : w24.cell? ⟨gb398, 0, none⟩ = some (.int .i64 a0_0) := (blk_cell BK398.out 0).trans rfl; have hcz25_1 : w24.cell? ⟨gb398, 1, none⟩ = some (.int .i64 a0_1) := (blk_cell BK398.out 1).trans rfl; have hcz25_2 : w24.cell? ⟨gb398, 2, none⟩ = some (.slice A0_2 l0_2.length c0_2) := (blk_cell BK398.out 2).trans rfl; have hfz25_0 := blk_frozen BK398.out 0; have hfz25_1 := blk_frozen BK398.out 1; have hfz25_2 := blk_frozen BK398.out 2) | ((with_reducible refine gate_callee (f := 69) rfl ?_); refine goesL_ (some 17) rfl rfl Try.func69 (by kernel_rfl) rfl #[.agg #[.int .i64 a0_0, .int .i64 a0_1, .slice A0_2 l0_2.length c0_2]] rfl (by (try simp only [List.map_toArray, List.map_cons, List.map_nil]); first | done | rfl | (simp only [List.length_drop, List.length_take]; rfl)) ?_; (with_reducible refine (isobathref05_Sound.calls k a0_0 a0_1 _ _ l0_2 false _ ?side1 ?side2 A7.out).mono ?_); (case side1 => repeat (first | exact (Kd.C_below HR0_2.out HB.out) | (with_reducible refine Kd.C_alloc ?_ _) | (with_reducible refine Kd.C_drewN ?_ _) | (with_reducible refine Kd.C_drew ?_))); (case side2 => exact HC0_2.out); rintro e w26 ⟨rfl, hb⟩; refine ⟨_, rfl, ?_⟩; have n0_ := Aside0.mk (blk_below (g := gb398) (o := .cells #[.int .i64 a0_0, .int .i64 a0_1, .slice A0_2 l0_2.length c0_2] 30 (0, 0)) (by (with_reducible repeat (first | refine blk_drewN ?_ _ | refine blk_drew ?_ | refine blk_alloc ?_ _)); exact BK398.out) hb); have n1_ := Aside0.mk (blk_below (g := gb399) (o := .cells #[.int .i64 0, .int .i64 0] 35 (0, 0)) (by (with_reducible repeat (first | refine blk_drewN ?_ _ | refine blk_drew ?_ | refine blk_alloc ?_ _)); exact BK399.out) hb); have n2_ := Aside0.mk (below_step (by repeat (first | (with_reducible first | exact HB.out | apply below_alloc | apply pw_below_drewN | apply below_drew1 | refine below_set ?_ GE398.out | refine below_set ?_ GE399.out) | exact HB.out)) hb); clear BK398; clear BK399; clear HB; have BK398 := n0_; have BK399 := n1_; have HB := n2_; clear n0_ n1_ n2_; (try clear hb); (try clear hb2); (try clear hk); (try clear hi); have hcz27_0 : w26.cell? ⟨gb399, 0, none⟩ = some (.int .i64 0) := (blk_cell BK399.out 0).trans rfl; have hcz27_1 : w26.cell? ⟨gb399, 1, none⟩ = some (.int .i64 0) := (blk_cell BK399.out 1).trans rfl; have hfz27_0 := blk_frozen BK399.out 0; have hfz27_1 := blk_frozen BK399.out 1))
        refine bodyPost_ret (results_ct rfl _ _ gb399 35 #[.int .i64 0, .int .i64 0] (0, 0) _ rfl (by (with_reducible repeat (first | refine blk_drewN ?_ _ | refine blk_drew ?_ | refine blk_alloc ?_ _)); refine blk_put (cs := #[.int .i64 0, .int .i64 0]) ?_ 1 _ rfl; (with_reducible repeat (first | refine blk_drewN ?_ _ | refine blk_drew ?_ | refine blk_alloc ?_ _)); refine blk_put (cs := #[.int .i64 0, .int .i64 0]) ?_ 0 _ rfl; (with_reducible repeat (first | refine blk_drewN ?_ _ | refine blk_drew ?_ | refine blk_alloc ?_ _)); exact BK399.out) Try.underlying35 rfl (by kernel_rfl)) rfl ?_
        exact ⟨by first | rfl | (simp [errW_none, errW_some] <;> rfl) | (simp [*, errW_none, errW_some] <;> rfl), by repeat (first | (with_reducible first | exact HB.out | apply below_alloc | apply pw_below_drewN | apply below_drew1 | refine below_set ?_ GE398.out | refine below_set ?_ GE399.out) | exact HB.out)⟩
    · replace c6 := Bool.eq_false_iff.mpr c6
      subst c6
      have H1 : (some (0, 0, 3)) = some (r1, r2, r3) := by rw [if_neg (show ¬ (false = true) by decide)] at H; exact H
      clear H
      have H := H1
      clear H1
      simp only [Option.some.injEq, Prod.mk.injEq] at H
      obtain ⟨rfl, rfl, rfl⟩ := H
      go_enter Try.func29, Try.ntmps29
      go_wp2_with (first | ((with_reducible refine gate_dst (N := 2) rfl ?_); refine box_event ?hg (N := 2) ?hd (cs := #[.int .i64 a0_0, .int .i64 a0_1, .slice A0_2 l0_2.length c0_2]) (t := 30) ?hr ?_; (case hd => rfl); (case hg => rfl); (case hr => first | (go_simp; done) | (go_simp; rfl)); intro gb398 hg w28 hbox hb; have n0_ := Aside0.mk (below_step (by repeat (first | (with_reducible first | exact HB.out | apply below_alloc | apply pw_below_drewN | apply below_drew1) | exact HB.out)) hb); have n1_ := Aside0.mk (hbox); have n2_ := Aside0.mk ((by rw [hg]; exact (below_size (by repeat (first | (with_reducible first | exact HB.out | apply below_alloc | apply pw_below_drewN | apply below_drew1) | exact HB.out))) : w.heap.size ≤ gb398)); have n3_ := Aside0.mk ((by rw [hg]; exact (below_size (by repeat (first | (with_reducible first | exact HB.out | apply below_alloc | apply pw_below_drewN | apply below_drew1) | exact HB.out))) : w.heap.size ≤ gb398)); clear HB; have HB := n0_; have BK398 := n1_; have GW398 := n2_; have GE398 := n3_; clear n0_ n1_ n2_ n3_; clear hb hbox hg) | ((with_reducible refine gate_dst (N := 4) rfl ?_); refine box_event ?hg (N := 4) ?hd (cs := #[.int .i64 0, .int .i64 0]) (t := 35) ?hr ?_; (case hd => rfl); (case hg => rfl); (case hr => first | (go_simp; done) | (go_simp; rfl)); intro gb399 hg w29 hbox hb; have n0_ := Aside0.mk (blk_below (g := gb398) (o := .cells #[.int .i64 a0_0, .int .i64 a0_1, .slice A0_2 l0_2.length c0_2] 30 (0, 0)) (by (with_reducible repeat (first | refine blk_drewN ?_ _ | refine blk_drew ?_ | refine blk_alloc ?_ _)); exact BK398.out) hb); have n1_ := Aside0.mk (below_step (by repeat (first | (with_reducible first | exact HB.out | apply below_alloc | apply pw_below_drewN | apply below_drew1 | refine below_set ?_ GE398.out) | exact HB.out)) hb); have n2_ := Aside0.mk (hbox); have n3_ := Aside0.mk ((by rw [hg]; exact (below_size (by repeat (first | (with_reducible first | exact HB.out | apply below_alloc | apply pw_below_drewN | apply below_drew1 | refine below_set ?_ GE398.out) | exact HB.out))) : w.heap.size ≤ gb399)); have n4_ := Aside0.mk ((by rw [hg]; exact (below_size (by repeat (first | (with_reducible first | exact HB.out | apply below_alloc | apply pw_below_drewN | apply below_drew1 | refine below_set ?_ GE398.out) | exact HB.out))) : w.heap.size ≤ gb399)); have n5_ := Aside0.mk ((by rw [hg]; exact Nat.ne_of_lt (blk_lt (g := gb398) (o := .cells #[.int .i64 a0_0, .int .i64 a0_1, .slice A0_2 l0_2.length c0_2] 30 (0, 0)) (by (with_reducible repeat (first | refine blk_drewN ?_ _ | refine blk_drew ?_ | refine blk_alloc ?_ _)); exact BK398.out)) : gb398 ≠ gb399)); have n6_ := Aside0.mk ((by rw [hg]; exact Nat.ne_of_gt (blk_lt (g := gb398) (o := .cells #[.int .i64 a0_0, .int .i64 a0_1, .slice A0_2 l0_2.length c0_2] 30 (0, 0)) (by (with_reducible repeat (first | refine blk_drewN ?_ _ | refine blk_drew ?_ | refine blk_alloc ?_ _)); exact BK398.out)) : gb399 ≠ gb398)); clear BK398; clear HB; have BK398 := n0_; have HB := n1_; have BK399 := n2_; have GW399 := n3_; have GE399 := n4_; have NB398_399 := n5_; have NB399_398 := n6_; clear n0_ n1_ n2_ n3_ n4_ n5_ n6_; clear hb hbox hg; have hnb30 := NB398_399.out; have hnc30 := NB399_398.out; have hcz31_0 : w29.cell? ⟨gb398, 0, none⟩ = some (.int .i64 a0_0) := (blk_cell BK398.out 0).trans rfl; have hcz31_1 : w29.cell? ⟨gb398, 1, none⟩ = some (.int .i64 a0_1) := (blk_cell BK398.out 1).trans rfl; have hcz31_2 : w29.cell? ⟨gb398, 2, none⟩ = some (.slice A0_2 l0_2.length c0_2) := (blk_cell BK398.out 2).trans rfl; have hfz31_0 := blk_frozen BK398.out 0; have hfz31_1 := blk_frozen BK398.out 1; have hfz31_2 := blk_frozen BK398.out 2) | ((with_reducible refine gate_callee (f := 33) rfl ?_); refine goesL_ (some 7) rfl rfl Try.func33 (by kernel_rfl) rfl #[.agg #[.int .i64 a0_0, .int .i64 a0_1, .slice A0_2 l0_2.length c0_2]] rfl (by (try simp only [List.map_toArray, List.map_cons, List.map_nil]); first | done | rfl | (simp only [List.length_drop, List.length_take]; rfl)) ?_; (with_reducible refine (isobathref05_CheckClock.calls k a0_0 a0_1 _ _ l0_2 t400 _ ?side1 ?side2 A3.out).mono ?_); (case side1 => repeat (first | exact (Kd.C_below HR0_2.out HB.out) | (with_reducible refine Kd.C_alloc ?_ _) | (with_reducible refine Kd.C_drewN ?_ _) | (with_reducible refine Kd.C_drew ?_))); (case side2 => exact HC0_2.out); rintro e w32 ⟨rfl, hb⟩; refine ⟨_, rfl, ?_⟩; have n0_ := Aside0.mk (blk_below (g := gb398) (o := .cells #[.int .i64 a0_0, .int .i64 a0_1, .slice A0_2 l0_2.length c0_2] 30 (0, 0)) (by (with_reducible repeat (first | refine blk_drewN ?_ _ | refine blk_drew ?_ | refine blk_alloc ?_ _)); exact BK398.out) hb); have n1_ := Aside0.mk (blk_below (g := gb399) (o := .cells #[.int .i64 0, .int .i64 0] 35 (0, 0)) (by (with_reducible repeat (first | refine blk_drewN ?_ _ | refine blk_drew ?_ | refine blk_alloc ?_ _)); exact BK399.out) hb); have n2_ := Aside0.mk (below_step (by repeat (first | (with_reducible first | exact HB.out | apply below_alloc | apply pw_below_drewN | apply below_drew1 | refine below_set ?_ GE398.out | refine below_set ?_ GE399.out) | exact HB.out)) hb); clear BK398; clear BK399; clear HB; have BK398 := n0_; have BK399 := n1_; have HB := n2_; clear n0_ n1_ n2_; (try clear hb); (try clear hb2); (try clear hk); (try clear hi)) | ((with_reducible refine gate_callee (f := 68) rfl ?_); refine goesL_ (some 13) rfl rfl Try.func68 (by kernel_rfl) rfl #[.int .i64 a1] rfl (by (try simp only [List.map_toArray, List.map_cons, List.map_nil]); first | done | rfl | (simp only [List.length_drop, List.length_take]; rfl)) ?_; (with_reducible refine (isobathref05_isTime.calls a1 false _ A5.out).mono ?_); rintro e w' ⟨rfl, ⟨nd, rfl⟩⟩; refine ⟨_, rfl, ?_⟩; (try (rw [drewN_self w32]; generalize hq_ : World.drewN w32 _ = w32; have n0_ : Aside0 (w32.heap[gb398]? = some (.cells #[.int .i64 a0_0, .int .i64 a0_1, .slice A0_2 l0_2.length c0_2] 30 (0, 0))) := ⟨by rw [← hq_]; exact (by (with_reducible repeat (first | refine blk_drewN ?_ _ | refine blk_drew ?_ | refine blk_alloc ?_ _)); exact BK398.out)⟩; have n1_ : Aside0 (w32.heap[gb399]? = some (.cells #[.int .i64 0, .int .i64 0] 35 (0, 0))) := ⟨by rw [← hq_]; exact (by (with_reducible repeat (first | refine blk_drewN ?_ _ | refine blk_drew ?_ | refine blk_alloc ?_ _)); exact BK399.out)⟩; have n2_ : Aside0 (Below w.heap.size w w32) := ⟨by rw [← hq_]; exact (by repeat (first | (with_reducible first | exact HB.out | apply below_alloc | apply pw_below_drewN | apply below_drew1 | refine below_set ?_ GE398.out | refine below_set ?_ GE399.out) | exact HB.out))⟩; clear BK398 BK399 HB hq_; have BK398 := n0_; have BK399 := n1_; have HB := n2_; clear n0_ n1_ n2_)); have hcz33_0 : w32.cell? ⟨gb399, 0, none⟩ = some (.int .i64 0) := (blk_cell BK399.out 0).trans rfl; have hcz33_1 : w32.cell? ⟨gb399, 1, none⟩ = some (.int .i64 0) := (blk_cell BK399.out 1).trans rfl; have hfz33_0 := blk_frozen BK399.out 0; have hfz33_1 := blk_frozen BK399.out 1))
      refine bodyPost_ret (results_ct rfl _ _ gb399 35 #[.int .i64 0, .int .i64 0] (0, 0) _ rfl (by (with_reducible repeat (first | refine blk_drewN ?_ _ | refine blk_drew ?_ | refine blk_alloc ?_ _)); refine blk_put (cs := #[.int .i64 0, .int .i64 0]) ?_ 1 _ rfl; (with_reducible repeat (first | refine blk_drewN ?_ _ | refine blk_drew ?_ | refine blk_alloc ?_ _)); refine blk_put (cs := #[.int .i64 0, .int .i64 0]) ?_ 0 _ rfl; (with_reducible repeat (first | refine blk_drewN ?_ _ | refine blk_drew ?_ | refine blk_alloc ?_ _)); exact BK399.out) Try.underlying35 rfl (by kernel_rfl)) rfl ?_
      exact ⟨by first | rfl | (simp [errW_none, errW_some] <;> rfl) | (simp [*, errW_none, errW_some] <;> rfl), by repeat (first | (with_reducible first | exact HB.out | apply below_alloc | apply pw_below_drewN | apply below_drew1 | refine below_set ?_ GE398.out | refine below_set ?_ GE399.out) | exact HB.out)⟩
  · rw [if_neg c4] at H
    have c4b0 : (t400 == 0) = false := beq_eq_false_iff_ne.mpr c4
    have c4b1 : (t400 != 0) = true := bne_iff_ne.mpr c4
    replace H := Option.bind_eq_some_iff.mp H
    obtain ⟨t401, A340, H⟩ := H
    replace H : (some (0, 0, t401)) = some (r1, r2, r3) := H
    have A34 := Aside0.mk A340
    clear A340
    simp only [Option.some.injEq, Prod.mk.injEq] at H
    obtain ⟨rfl, rfl, rfl⟩ := H
    go_enter Try.func29, Try.ntmps29
    go_wp2_with (first | ((with_reducible refine gate_dst (N := 2) rfl ?_); refine box_event ?hg (N := 2) ?hd (cs := #[.int .i64 a0_0, .int .i64 a0_1, .slice A0_2 l0_2.length c0_2]) (t := 30) ?hr ?_; (case hd => rfl); (case hg => rfl); (case hr => first | (go_simp; done) | (go_simp; rfl)); intro gb398 hg w35 hbox hb; have n0_ := Aside0.mk (below_step (by repeat (first | (with_reducible first | exact HB.out | apply below_alloc | apply pw_below_drewN | apply below_drew1) | exact HB.out)) hb); have n1_ := Aside0.mk (hbox); have n2_ := Aside0.mk ((by rw [hg]; exact (below_size (by repeat (first | (with_reducible first | exact HB.out | apply below_alloc | apply pw_below_drewN | apply below_drew1) | exact HB.out))) : w.heap.size ≤ gb398)); have n3_ := Aside0.mk ((by rw [hg]; exact (below_size (by repeat (first | (with_reducible first | exact HB.out | apply below_alloc | apply pw_below_drewN | apply below_drew1) | exact HB.out))) : w.heap.size ≤ gb398)); clear HB; have HB := n0_; have BK398 := n1_; have GW398 := n2_; have GE398 := n3_; clear n0_ n1_ n2_ n3_; clear hb hbox hg) | ((with_reducible refine gate_dst (N := 4) rfl ?_); refine box_event ?hg (N := 4) ?hd (cs := #[.int .i64 0, .int .i64 0]) (t := 35) ?hr ?_; (case hd => rfl); (case hg => rfl); (case hr => first | (go_simp; done) | (go_simp; rfl)); intro gb399 hg w36 hbox hb; have n0_ := Aside0.mk (blk_below (g := gb398) (o := .cells #[.int .i64 a0_0, .int .i64 a0_1, .slice A0_2 l0_2.length c0_2] 30 (0, 0)) (by (with_reducible repeat (first | refine blk_drewN ?_ _ | refine blk_drew ?_ | refine blk_alloc ?_ _)); exact BK398.out) hb); have n1_ := Aside0.mk (below_step (by repeat (first | (with_reducible first | exact HB.out | apply below_alloc | apply pw_below_drewN | apply below_drew1 | refine below_set ?_ GE398.out) | exact HB.out)) hb); have n2_ := Aside0.mk (hbox); have n3_ := Aside0.mk ((by rw [hg]; exact (below_size (by repeat (first | (with_reducible first | exact HB.out | apply below_alloc | apply pw_below_drewN | apply below_drew1 | refine below_set ?_ GE398.out) | exact HB.out))) : w.heap.size ≤ gb399)); have n4_ := Aside0.mk ((by rw [hg]; exact (below_size (by repeat (first | (with_reducible first | exact HB.out | apply below_alloc | apply pw_below_drewN | apply below_drew1 | refine below_set ?_ GE398.out) | exact HB.out))) : w.heap.size ≤ gb399)); have n5_ := Aside0.mk ((by rw [hg]; exact Nat.ne_of_lt (blk_lt (g := gb398) (o := .cells #[.int .i64 a0_0, .int .i64 a0_1, .slice A0_2 l0_2.length c0_2] 30 (0, 0)) (by (with_reducible repeat (first | refine blk_drewN ?_ _ | refine blk_drew ?_ | refine blk_alloc ?_ _)); exact BK398.out)) : gb398 ≠ gb399)); have n6_ := Aside0.mk ((by rw [hg]; exact Nat.ne_of_gt (blk_lt (g := gb398) (o := .cells #[.int .i64 a0_0, .int .i64 a0_1, .slice A0_2 l0_2.length c0_2] 30 (0, 0)) (by (with_reducible repeat (first | refine blk_drewN ?_ _ | refine blk_drew ?_ | refine blk_alloc ?_ _)); exact BK398.out)) : gb399 ≠ gb398)); clear BK398; clear HB; have BK398 := n0_; have HB := n1_; have BK399 := n2_; have GW399 := n3_; have GE399 := n4_; have NB398_399 := n5_; have NB399_398 := n6_; clear n0_ n1_ n2_ n3_ n4_ n5_ n6_; clear hb hbox hg; have hnb37 := NB398_399.out; have hnc37 := NB399_398.out; have hcz38_0 : w36.cell? ⟨gb398, 0, none⟩ = some (.int .i64 a0_0) := (blk_cell BK398.out 0).trans rfl; have hcz38_1 : w36.cell? ⟨gb398, 1, none⟩ = some (.int .i64 a0_1) := (blk_cell BK398.out 1).trans rfl; have hcz38_2 : w36.cell? ⟨gb398, 2, none⟩ = some (.slice A0_2 l0_2.length c0_2) := (blk_cell BK398.out 2).trans rfl; have hfz38_0 := blk_frozen BK398.out 0; have hfz38_1 := blk_frozen BK398.out 1; have hfz38_2 := blk_frozen BK398.out 2) | ((with_reducible refine gate_callee (f := 33) rfl ?_); refine goesL_ (some 7) rfl rfl Try.func33 (by kernel_rfl) rfl #[.agg #[.int .i64 a0_0, .int .i64 a0_1, .slice A0_2 l0_2.length c0_2]] rfl (by (try simp only [List.map_toArray, List.map_cons, List.map_nil]); first | done | rfl | (simp only [List.length_drop, List.length_take]; rfl)) ?_; (with_reducible refine (isobathref05_CheckClock.calls k a0_0 a0_1 _ _ l0_2 t400 _ ?side1 ?side2 A3.out).mono ?_); (case side1 => repeat (first | exact (Kd.C_below HR0_2.out HB.out) | (with_reducible refine Kd.C_alloc ?_ _) | (with_reducible refine Kd.C_drewN ?_ _) | (with_reducible refine Kd.C_drew ?_))); (case side2 => exact HC0_2.out); rintro e w39 ⟨rfl, hb⟩; refine ⟨_, rfl, ?_⟩; have n0_ := Aside0.mk (blk_below (g := gb398) (o := .cells #[.int .i64 a0_0, .int .i64 a0_1, .slice A0_2 l0_2.length c0_2] 30 (0, 0)) (by (with_reducible repeat (first | refine blk_drewN ?_ _ | refine blk_drew ?_ | refine blk_alloc ?_ _)); exact BK398.out) hb); have n1_ := Aside0.mk (blk_below (g := gb399) (o := .cells #[.int .i64 0, .int .i64 0] 35 (0, 0)) (by (with_reducible repeat (first | refine blk_drewN ?_ _ | refine blk_drew ?_ | refine blk_alloc ?_ _)); exact BK399.out) hb); have n2_ := Aside0.mk (below_step (by repeat (first | (with_reducible first | exact HB.out | apply below_alloc | apply pw_below_drewN | apply below_drew1 | refine below_set ?_ GE398.out | refine below_set ?_ GE399.out) | exact HB.out)) hb); clear BK398; clear BK399; clear HB; have BK398 := n0_; have BK399 := n1_; have HB := n2_; clear n0_ n1_ n2_; (try clear hb); (try clear hb2); (try clear hk); (try clear hi); have hcz40_0 : w39.cell? ⟨gb398, 0, none⟩ = some (.int .i64 a0_0) := (blk_cell BK398.out 0).trans rfl; have hcz40_1 : w39.cell? ⟨gb398, 1, none⟩ = some (.int .i64 a0_1) := (blk_cell BK398.out 1).trans rfl; have hcz40_2 : w39.cell? ⟨gb398, 2, none⟩ = some (.slice A0_2 l0_2.length c0_2) := (blk_cell BK398.out 2).trans rfl; have hfz40_0 := blk_frozen BK398.out 0; have hfz40_1 := blk_frozen BK398.out 1; have hfz40_2 := blk_frozen BK398.out 2) | ((with_reducible refine gate_callee (f := 33) rfl ?_); refine goesL_ (some 11) rfl rfl Try.func33 (by kernel_rfl) rfl #[.agg #[.int .i64 a0_0, .int .i64 a0_1, .slice A0_2 l0_2.length c0_2]] rfl (by (try simp only [List.map_toArray, List.map_cons, List.map_nil]); first | done | rfl | (simp only [List.length_drop, List.length_take]; rfl)) ?_; (with_reducible refine (isobathref05_CheckClock.calls k a0_0 a0_1 _ _ l0_2 t401 _ ?side1 ?side2 A34.out).mono ?_); (case side1 => repeat (first | exact (Kd.C_below HR0_2.out HB.out) | (with_reducible refine Kd.C_alloc ?_ _) | (with_reducible refine Kd.C_drewN ?_ _) | (with_reducible refine Kd.C_drew ?_))); (case side2 => exact HC0_2.out); rintro e w41 ⟨rfl, hb⟩; refine ⟨_, rfl, ?_⟩; have n0_ := Aside0.mk (blk_below (g := gb398) (o := .cells #[.int .i64 a0_0, .int .i64 a0_1, .slice A0_2 l0_2.length c0_2] 30 (0, 0)) (by (with_reducible repeat (first | refine blk_drewN ?_ _ | refine blk_drew ?_ | refine blk_alloc ?_ _)); exact BK398.out) hb); have n1_ := Aside0.mk (blk_below (g := gb399) (o := .cells #[.int .i64 0, .int .i64 0] 35 (0, 0)) (by (with_reducible repeat (first | refine blk_drewN ?_ _ | refine blk_drew ?_ | refine blk_alloc ?_ _)); exact BK399.out) hb); have n2_ := Aside0.mk (below_step (by repeat (first | (with_reducible first | exact HB.out | apply below_alloc | apply pw_below_drewN | apply below_drew1 | refine below_set ?_ GE398.out | refine below_set ?_ GE399.out) | exact HB.out)) hb); clear BK398; clear BK399; clear HB; have BK398 := n0_; have BK399 := n1_; have HB := n2_; clear n0_ n1_ n2_; (try clear hb); (try clear hb2); (try clear hk); (try clear hi); have hcz42_0 : w41.cell? ⟨gb399, 0, none⟩ = some (.int .i64 0) := (blk_cell BK399.out 0).trans rfl; have hcz42_1 : w41.cell? ⟨gb399, 1, none⟩ = some (.int .i64 0) := (blk_cell BK399.out 1).trans rfl; have hfz42_0 := blk_frozen BK399.out 0; have hfz42_1 := blk_frozen BK399.out 1))
    refine bodyPost_ret (results_ct rfl _ _ gb399 35 #[.int .i64 0, .int .i64 0] (0, 0) _ rfl (by (with_reducible repeat (first | refine blk_drewN ?_ _ | refine blk_drew ?_ | refine blk_alloc ?_ _)); refine blk_put (cs := #[.int .i64 0, .int .i64 0]) ?_ 1 _ rfl; (with_reducible repeat (first | refine blk_drewN ?_ _ | refine blk_drew ?_ | refine blk_alloc ?_ _)); refine blk_put (cs := #[.int .i64 0, .int .i64 0]) ?_ 0 _ rfl; (with_reducible repeat (first | refine blk_drewN ?_ _ | refine blk_drew ?_ | refine blk_alloc ?_ _)); exact BK399.out) Try.underlying35 rfl (by kernel_rfl)) rfl ?_
    exact ⟨by first | rfl | (simp [errW_none, errW_some] <;> rfl) | (simp [*, errW_none, errW_some] <;> rfl), by repeat (first | (with_reducible first | exact HB.out | apply below_alloc | apply pw_below_drewN | apply below_drew1 | refine below_set ?_ GE398.out | refine below_set ?_ GE399.out) | exact HB.out)⟩

end Go.Proofs.Ytcjdhajdoikojaa.Pr
end
section
/- What the document's answer computes about contradictions and offsets: the same as the program. -/
namespace Go.Proofs.Ytcjdhajdoikojaa.Clk
open Go.RowKit Go.Proofs.YtcjdhajdoikojaaW.PrintWords Go.Proofs.YtcjdhajdoikojaaW.PrintMore Go.Proofs.Ytcjdhajdoikojaa.Pr

theorem rd_map {rate i : Int} {xs : List S46} (h0 : 0 ≤ i) (h1 : i < (xs.length : Int)) : rd_T105 (xs.map (anchorI rate)) i = anchorI rate (rd_T46 xs i) := by
  have hn : i.toNat < xs.length := by omega
  unfold rd_T105 rd_T46
  rw [List.getD_eq_getElem?_getD, List.getD_eq_getElem?_getD, List.getElem?_map, List.getElem?_eq_getElem hn]
  rfl
theorem rd_mem46 {xs : List S46} {i : Int} (h0 : 0 ≤ i) (h1 : i < (xs.length : Int)) : rd_T46 xs i ∈ xs := by
  unfold rd_T46
  rw [List.getD_eq_getElem?_getD, List.getElem?_eq_getElem (by omega)]
  exact List.getElem_mem _
theorem offR_eq {rate : Int} {x : S46} (hr0 : 0 ≤ rate) (hr1 : rate ≤ 1000000) (h : okX x = true) : offR x rate = offC rate x := by
  have h1 := ref_offset 0 hr0 hr1 h
  rw [offR_some] at h1
  exact Option.some.inj h1
theorem growR_eq {rate d : Int} (hr0 : 0 ≤ rate) (hr1 : rate ≤ 1000000) (hd0 : -2251799813685248 ≤ d) (hd1 : d ≤ 2251799813685248) : growR rate d = gro rate (max d (-d)) := by
  have h1 := ref_growth 0 hr0 hr1 hd0 hd1
  rw [growR_some] at h1
  exact Option.some.inj h1
theorem conR_eq {rate : Int} {x y : S46} (hr0 : 0 ≤ rate) (hr1 : rate ≤ 1000000) (hx : okE rate x = true) (hy : okE rate y = true) : conR rate x y = apartA rate (anchorI rate x) (anchorI rate y) := by
  have vx := va_anchor hx
  have vy := va_anchor hy
  have ox := ((okE_iff hr0 hr1).1 hx).1
  have oy := ((okE_iff hr0 hr1).1 hy).1
  rw [anchor_eq hr0 hr1 ox] at vx
  rw [anchor_eq hr0 hr1 oy] at vy
  obtain ⟨v1, v2, v3, v4, v5⟩ := vx
  obtain ⟨u1, u2, u3, u4, u5⟩ := vy
  dsimp only at v1 v2 v3 v4 v5 u1 u2 u3 u4 u5
  unfold conR
  rw [offR_eq hr0 hr1 ox, offR_eq hr0 hr1 oy, wrap_id (n := x.f3 - y.f3) (by omega) (by omega), growR_eq hr0 hr1 (by omega) (by omega), anchor_eq hr0 hr1 ox, anchor_eq hr0 hr1 oy]
  have hd : max (x.f3 - y.f3) (-(x.f3 - y.f3)) = dis x.f3 y.f3 := by unfold dis; omega
  rw [hd]
  unfold apartA
  dsimp only
  have hg := gro_range hr0 hr1 (d := dis x.f3 y.f3) (by unfold dis; omega) (by unfold dis; omega)
  generalize gro rate (dis x.f3 y.f3) = g at *
  generalize offC rate x = p at *
  generalize offC rate y = q at *
  rw [wrap_id (n := p.1 - g) (by omega) (by omega), wrap_id (n := p.2 + g) (by omega) (by omega), mx_max, mn_min, Bool.eq_iff_iff]
  simp only [decide_eq_true_eq, Bool.or_eq_true]
  omega
theorem ref_con {par rate i k : Int} {xs : List S46} (h : faceE par rate xs = 0) (h0 : 0 ≤ i) (h1 : i < (xs.length : Int)) (h2 : 0 ≤ k) (h3 : k < (xs.length : Int)) (hne : i ≠ k) :
    isobathref05_contradict.f par rate xs i k = some (conI rate (xs.map (anchorI rate)) i k) := by
  obtain ⟨hp, hr0, hr1⟩ := faceE_rate h
  have hE := faceE_all h
  have hi := hE _ (rd_mem46 h0 h1)
  have hk := hE _ (rd_mem46 h2 h3)
  unfold isobathref05_contradict.f
  rw [if_pos ⟨h0, h1, h2, h3⟩, conR_eq hr0 hr1 hi hk, conI_eq hr0 hr1 hne (by rw [rd_map h0 h1]; exact va_anchor hi) (by rw [rd_map h2 h3]; exact va_anchor hk), rd_map h0 h1, rd_map h2 h3]
/-- The pairs from row k on. -/
def rowsL (k m : Nat) : List (Int × Int) := (List.range' k m).flatMap fun k => (List.range' 0 k).map fun (i : Nat) => ((i : Int), (k : Int))
theorem pairsL_rows (n : Nat) : pairsL n = rowsL 0 n := by
  unfold pairsL rowsL
  simp only [List.range_eq_range']
theorem rowsL_succ (k m : Nat) : rowsL k (m + 1) = (List.range' 0 k).map (fun (i : Nat) => ((i : Int), (k : Int))) ++ rowsL (k + 1) m := by
  unfold rowsL
  rw [List.range'_succ, List.flatMap_cons]
section
variable {par rate : Int} {xs : List S46}
theorem ref_l1 (hf : faceE par rate xs = 0) {k : Nat} (hk : k < xs.length) {R : Int × Int} {B : Nat} (hR : ∀ K, B ≤ K → isobathref05_contradiction.l0 K (wrap64 ((k : Int) + 1)) par rate xs = some R) :
    ∀ (m i K : Nat), i + m = k → B + m + 1 ≤ K → isobathref05_contradiction.l1 K (k : Int) (i : Int) par rate xs = some ((((List.range' i m).map (fun (i : Nat) => ((i : Int), (k : Int)))).find? fun p => conI rate (xs.map (anchorI rate)) p.1 p.2).getD R) := by
  have hl := faceE_len hf
  intro m
  induction m with
  | zero =>
    intro i K h hK
    obtain ⟨K, rfl⟩ : ∃ q, K = q + 1 := ⟨K - 1, by omega⟩
    rw [isobathref05_contradiction.l1, if_neg (by omega), hR K (by omega)]
    rfl
  | succ m ih =>
    intro i K h hK
    obtain ⟨K, rfl⟩ : ∃ q, K = q + 1 := ⟨K - 1, by omega⟩
    rw [isobathref05_contradiction.l1, if_pos (by omega), ref_con hf (by omega) (by omega) (by omega) (by omega) (by omega), Option.bind_some, List.range'_succ, List.map_cons, List.find?_cons]
    cases hc : conI rate (xs.map (anchorI rate)) (i : Int) (k : Int) with
    | true => rfl
    | false =>
      rw [if_neg (by decide), wrap_id (by omega) (by omega), show ((i : Int) + 1) = ((i + 1 : Nat) : Int) by omega]
      exact ih (i + 1) K (by omega) (by omega)
theorem ref_l0 (hf : faceE par rate xs = 0) : ∀ (m k K : Nat), k + m = xs.length → m * 100 + 5 ≤ K → isobathref05_contradiction.l0 K (k : Int) par rate xs = some (((rowsL k m).find? fun p => conI rate (xs.map (anchorI rate)) p.1 p.2).getD (-1, -1)) := by
  have hl := faceE_len hf
  intro m
  induction m with
  | zero =>
    intro k K h hK
    obtain ⟨K, rfl⟩ : ∃ q, K = q + 1 := ⟨K - 1, by omega⟩
    rw [isobathref05_contradiction.l0, if_neg (by omega)]
    rfl
  | succ m ih =>
    intro k K h hK
    obtain ⟨K, rfl⟩ : ∃ q, K = q + 1 := ⟨K - 1, by omega⟩
    rw [isobathref05_contradiction.l0, if_pos (by omega)]
    have hr := ref_l1 hf (k := k) (by omega) (R := ((rowsL (k + 1) m).find? fun p => conI rate (xs.map (anchorI rate)) p.1 p.2).getD (-1, -1)) (B := m * 100 + 5)
      (fun K hK => by rw [wrap_id (by omega) (by omega), show ((k : Int) + 1) = ((k + 1 : Nat) : Int) by omega]; exact ih (k + 1) K (by omega) hK) k 0 K (by omega) (by omega)
    refine hr.trans ?_
    rw [rowsL_succ, List.find?_append]
    cases (List.find? (fun p => conI rate (xs.map (anchorI rate)) p.1 p.2) ((List.range' 0 k).map (fun (i : Nat) => ((i : Int), (k : Int))))) <;> rfl
theorem ref_contradiction (hf : faceE par rate xs = 0) {K : Nat} (hK : 6500 ≤ K) : isobathref05_contradiction.f K par rate xs = some ((findCon rate (xs.map (anchorI rate))).getD (-1, -1)) := by
  have hl := faceE_len hf
  unfold isobathref05_contradiction.f findCon
  have := ref_l0 hf xs.length 0 K (by omega) (by omega)
  rw [List.length_map, pairsL_rows]
  exact this
theorem ref_sound (hf : faceE par rate xs = 0) {K : Nat} (hK : 6500 ≤ K) : isobathref05_Sound.f K par rate xs = some (findCon rate (xs.map (anchorI rate))).isNone := by
  unfold isobathref05_Sound.f
  rw [ref_contradiction hf hK, Option.bind_some]
  cases h : findCon rate (xs.map (anchorI rate)) with
  | none => rfl
  | some p =>
    have := (findCon_some h).1
    rw [Option.getD_some, decide_eq_false (by omega)]
    rfl
end
section
variable {par rate : Int} {xs : List S46}
theorem within_eq (t lo hi : Int) : withinI t lo hi = if t < lo ∨ t > hi then 3 else 0 := by
  unfold withinI clock_within.f
  by_cases h1 : t < lo
  · rw [if_pos h1, if_pos (.inl h1)]
    rfl
  rw [if_neg h1]
  by_cases h2 : t > hi
  · rw [if_pos h2, if_pos (.inr h2)]
    rfl
  rw [if_neg h2, if_neg (by omega)]
  rfl
theorem ref_At (t : Int) {K : Nat} (hK : 6600 ≤ K) (hl : xs.length ≤ 6500) : isobathref05_At.f K par rate xs t = some ((atV par rate xs t).1, (atV par rate xs t).2, atE par rate xs t) := by
  unfold isobathref05_At.f atV
  have hE : atE par rate xs t = soundE par rate xs (withinI t 0 1125899906842624) := rfl
  rw [ref_checkClock (by omega), Option.bind_some, Option.bind_some]
  by_cases hf : faceE par rate xs = 0
  · rw [if_pos hf, ref_isTime, Option.bind_some, ref_sound hf (by omega)]
    cases hT : okT t with
    | false =>
      have hw : withinI t 0 1125899906842624 = 3 := by
        rw [within_eq, if_pos]
        have : ¬ (0 ≤ t ∧ t ≤ 1125899906842624) := fun h => Bool.eq_false_iff.1 hT (okT_iff.2 h)
        omega
      have he : atE par rate xs t = 3 := by
        rw [hE, hw]
        unfold soundE
        rw [if_neg (by rw [hf]; decide), if_pos (by decide)]
      rw [he]
      rfl
    | true =>
      have ht := okT_iff.1 hT
      have hw : withinI t 0 1125899906842624 = 0 := by
        rw [within_eq, if_neg (by omega)]
      have he : atE par rate xs t = if (findCon rate (xs.map (anchorI rate))).isSome then 5 else 0 := by
        rw [hE, hw]
        unfold soundE
        rw [if_neg (by rw [hf]; decide), if_neg (by decide)]
      rw [he, if_pos rfl, Option.bind_some, ref_at (k := K) hf ht.1 (by omega) (by omega), Option.bind_some]
      cases hc : findCon rate (xs.map (anchorI rate)) <;> rfl
  · have he : atE par rate xs t = faceE par rate xs := by
      rw [hE]
      unfold soundE
      rw [if_pos hf]
    rw [if_neg hf, he, if_neg hf]
end
end Go.Proofs.Ytcjdhajdoikojaa.Clk
end
