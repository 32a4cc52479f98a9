/- Part 9 of the proof of ClockTree: what the functions compute. No condition. -/
import Derived.KernelRfl
import Derived.Test.YtcjdhajdoikojaaDrClockTree8
import Derived.Test.YtcjdhajdoikojaaDrClockTree2
import Derived.Test.YtcjdhajdoikojaaDrClockTree7
section
/- What the document's answer computes about clocks: the same, in clean numbers. -/
namespace Go.Proofs.Ytcjdhajdoikojaa.Clk
open Go.RowKit Go.Proofs.YtcjdhajdoikojaaW.PrintWords Go.Proofs.YtcjdhajdoikojaaW.PrintMore Go.Proofs.Ytcjdhajdoikojaa.Pr

theorem ref_isTime (t : Int) : isobathref05_isTime.f t = some (okT t) := by
  unfold isobathref05_isTime.f okT
  by_cases h : t ≥ 0
  · rw [if_pos h, show decide (0 ≤ t) = true from decide_eq_true h, Bool.true_and]
  · rw [if_neg h, show decide (0 ≤ t) = false from decide_eq_false h, Bool.false_and]
theorem ref_within (a lo hi : Int) : isobathref01_Within.f a lo hi = some (decide (lo ≤ a) && decide (a ≤ hi)) := by
  unfold isobathref01_Within.f
  by_cases h : a ≥ lo
  · rw [if_pos h, show decide (lo ≤ a) = true from decide_eq_true h, Bool.true_and]
  · rw [if_neg h, show decide (lo ≤ a) = false from decide_eq_false h, Bool.false_and]
theorem ref_valid (lo hi : Int) : isobathref01_Valid.f lo hi = some (okS lo hi) := by
  unfold isobathref01_Valid.f
  simp only [ref_within, Option.bind_some]
  by_cases h : lo ≤ hi
  · rw [if_pos h]
    by_cases h2 : -1073741824 ≤ lo
    · by_cases h3 : lo ≤ 1073741824
      · rw [decide_eq_true h2, decide_eq_true h3, if_pos (by decide), Option.some.injEq, Bool.eq_iff_iff, okS_iff]
        simp only [Bool.and_eq_true, decide_eq_true_eq]
        omega
      · rw [decide_eq_false h3, Bool.and_false, if_neg (by decide), Option.some.injEq, Bool.eq_iff_iff, okS_iff]
        simp
        omega
    · rw [decide_eq_false h2, Bool.false_and, if_neg (by decide), Option.some.injEq, Bool.eq_iff_iff, okS_iff]
      simp
      omega
  · rw [if_neg h, Option.some.injEq, Bool.eq_iff_iff, okS_iff]
    simp
    omega
theorem ref_checkX (k : Nat) (x : S46) : isobathref05_CheckExchange.f (k + 1) x.f0 x.f1 x.f2 x.f3 x.f4.f0 x.f4.f1 x.f5.f0 x.f5.f1 = some (if okX x then 0 else 2) := by
  have hj : isobathref05_CheckExchange.j0 (k + 1) true x.f0 x.f1 x.f2 x.f3 x.f4.f0 x.f4.f1 x.f5.f0 x.f5.f1 = some 2 := by rw [isobathref05_CheckExchange.j0, if_pos rfl]
  unfold isobathref05_CheckExchange.f
  simp only [ref_isTime, Option.bind_some, hj]
  by_cases hb : okT x.f0 = true ∧ okT x.f1 = true ∧ okT x.f2 = true ∧ okT x.f3 = true ∧ x.f0 ≤ x.f3 ∧ x.f1 ≤ x.f2
  · obtain ⟨h0, h1, h2, h3, h4, h5⟩ := hb
    rw [if_pos h0, if_pos h1, if_pos h2, if_pos h3, if_neg (by omega), decide_eq_false (by omega), isobathref05_CheckExchange.j0, if_neg (by decide)]
    simp only [ref_valid, Option.bind_some]
    rw [okT_iff] at h0 h1 h2 h3
    by_cases h6 : okS x.f4.f0 x.f4.f1 = true
    · rw [if_pos h6]
      rw [okS_iff] at h6
      by_cases h7 : okS x.f5.f0 x.f5.f1 = true
      · rw [if_pos h7]
        rw [okS_iff] at h7
        by_cases h8 : x.f4.f0 < 0
        · rw [if_pos h8, if_neg (by rw [okX_iff]; omega)]
        · rw [if_neg h8]
          by_cases h9 : x.f5.f0 < 0
          · rw [if_pos h9, if_neg (by rw [okX_iff]; omega)]
          · rw [if_neg h9, if_pos (by rw [okX_iff]; omega)]
      · rw [if_neg h7]
        rw [okS_iff] at h7
        rw [if_neg (by rw [okX_iff]; omega)]
    · rw [if_neg h6]
      rw [okS_iff] at h6
      rw [if_neg (by rw [okX_iff]; omega)]
  · have hX : okX x ≠ true := by
      simp only [okT_iff] at hb
      rw [Ne, okX_iff]
      omega
    rw [if_neg hX]
    split <;> (try rfl)
    split <;> (try rfl)
    split <;> (try rfl)
    split <;> (try rfl)
    rename_i h0 h1 h2 h3
    by_cases h4 : x.f0 > x.f3
    · rw [if_pos h4]
    · rw [if_neg h4, decide_eq_true (show x.f1 > x.f2 from by
        apply Classical.byContradiction
        intro h5
        exact hb ⟨h0, h1, h2, h3, by omega, by omega⟩), hj]
theorem down_eq (k : Nat) {a : Int} (h0 : -9000000000000000000 ≤ a) (h1 : a ≤ 9000000000000000000) : isobathref01_Down.f (k + 1) a 1000000000 = some (a / 1000000000) := by
  rw [isobathref01_Down.f, if_neg (by decide), if_neg (by decide), Int.tmod_eq_emod, Int.tdiv_eq_ediv]
  by_cases h : 0 ≤ a ∨ (1000000000 : Int) ∣ a
  · rw [if_pos h, if_pos h, if_neg (by omega), wrap_id (by omega) (by omega)]
    simp
  · rw [if_neg h, if_neg h, if_pos (by simp; omega)]
    simp only [show Int.sign 1000000000 = 1 from rfl]
    rw [wrap_id (n := a / 1000000000 + 1) (by omega) (by omega), wrap_id (by omega) (by omega)]
    congr 1
    omega
theorem ref_growth (k : Nat) {rate d : Int} (hr0 : 0 ≤ rate) (hr1 : rate ≤ 1000000) (hd0 : -2251799813685248 ≤ d) (hd1 : d ≤ 2251799813685248) : isobathref05_Growth.f (k + 1) rate d = some (gro rate (max d (-d))) := by
  unfold isobathref05_Growth.f isobathref01_Up.f
  rw [wrap_id (n := -d) (by omega) (by omega), mx_max]
  have hm0 : 0 ≤ max d (-d) := by omega
  have hm1 : max d (-d) ≤ 2251799813685248 := by omega
  generalize max d (-d) = m at *
  have h1 := mul_bound hr0 hr1 (show 0 ≤ m / 1000000000 by omega) (show m / 1000000000 ≤ 2251799 by omega)
  have h2 := mul_bound hr0 hr1 (show 0 ≤ m % 1000000000 by omega) (show m % 1000000000 ≤ 999999999 by omega)
  have e1 : Int.tdiv m 1000000000 = m / 1000000000 := Int.tdiv_eq_ediv_of_nonneg hm0
  have e2 : Int.tmod m 1000000000 = m % 1000000000 := Int.tmod_eq_emod_of_nonneg hm0
  rw [e1, e2, wrap_id (n := m / 1000000000) (by omega) (by omega)]
  unfold gro
  generalize rate * (m / 1000000000) = x at *
  generalize rate * (m % 1000000000) = y at *
  rw [wrap_id (n := y) (by omega) (by omega), wrap_id (n := -y) (by omega) (by omega), down_eq k (by omega) (by omega), Option.bind_some, Option.bind_some, wrap_id (n := x) (by omega) (by omega), wrap_id (n := -(-y / 1000000000)) (by omega) (by omega), wrap_id (by omega) (by omega)]
  congr 1
  omega
theorem ref_offset (k : Nat) {rate : Int} {x : S46} (hr0 : 0 ≤ rate) (hr1 : rate ≤ 1000000) (h : okX x = true) : isobathref05_offset.f (k + 1) x.f0 x.f1 x.f2 x.f3 x.f4.f0 x.f4.f1 x.f5.f0 x.f5.f1 rate = some (offC rate x) := by
  obtain ⟨⟨a1, a2, a3⟩, ⟨b1, b2, b3⟩, ⟨c1, c2, c3⟩, d1, d2, d3⟩ := okX_iff.1 h
  unfold isobathref05_offset.f isobathref05_grown.f isobathref05_meet.f offC
  rw [wrap_id (n := x.f3 - x.f0) (by omega) (by omega), ref_growth k hr0 hr1 (by omega) (by omega), show max (x.f3 - x.f0) (-(x.f3 - x.f0)) = x.f3 - x.f0 by omega]
  have hg := gro_range hr0 hr1 (d := x.f3 - x.f0) (by omega) (by omega)
  generalize gro rate (x.f3 - x.f0) = g at *
  simp only [Option.bind_some]
  simp (disch := omega) only [wrap_id, mx_max, mn_min]
theorem ref_clock_loop {par rate : Int} {xs : List S46} (hr0 : 0 ≤ rate) (hr1 : rate ≤ 1000000) (hl : xs.length ≤ 1000) : ∀ (m i k : Nat), i + m = xs.length → m + 2 ≤ k → isobathref05_CheckClock.l0 k (i : Int) par rate xs = some (if (xs.drop i).all (okE rate) then 0 else 2)
  | 0, i, k, h, hk => by
    obtain ⟨k, rfl⟩ : ∃ q, k = q + 1 := ⟨k - 1, by omega⟩
    rw [isobathref05_CheckClock.l0, if_neg (by omega), List.drop_of_length_le (by omega)]
    rfl
  | m + 1, i, k, h, hk => by
    obtain ⟨k, rfl⟩ : ∃ q, k = q + 2 := ⟨k - 2, by omega⟩
    have hi : i < xs.length := by omega
    rw [isobathref05_CheckClock.l0, if_pos (by omega), if_pos (by omega), List.drop_eq_getElem_cons hi, List.all_cons, rd_lt hi, ref_checkX, Option.bind_some]
    cases hX : okX xs[i] with
    | false =>
      have he : okE rate xs[i] = false := by unfold okE; rw [hX]; rfl
      rw [he]
      rfl
    | true =>
      rw [if_pos rfl, if_pos rfl, ref_offset k hr0 hr1 hX, Option.bind_some, ref_valid, Option.bind_some]
      cases hS : okS (offC rate xs[i]).1 (offC rate xs[i]).2 with
      | false =>
        have he : okE rate xs[i] = false := Bool.eq_false_iff.2 fun h => by rw [okE_iff hr0 hr1, hS] at h; cases h.2
        rw [he]
        rfl
      | true =>
        have he : okE rate xs[i] = true := (okE_iff hr0 hr1).2 ⟨hX, hS⟩
        rw [if_pos rfl, he, Bool.true_and, wrap_id (by omega) (by omega), show ((i : Int) + 1) = ((i + 1 : Nat) : Int) by omega]
        exact ref_clock_loop hr0 hr1 hl m (i + 1) (k + 1) (by omega) (by omega)
theorem ref_checkClock {par rate : Int} {xs : List S46} {k : Nat} (hk : xs.length + 4 ≤ k) : isobathref05_CheckClock.f k par rate xs = some (faceE par rate xs) := by
  obtain ⟨k, rfl⟩ : ∃ q, k = q + 2 := ⟨k - 2, by omega⟩
  unfold isobathref05_CheckClock.f faceE
  by_cases h1 : xs.length < 1
  · rw [if_pos (by omega), isobathref05_CheckClock.j0, if_pos rfl, if_pos (.inl h1)]
  rw [if_neg (by omega)]
  by_cases h2 : xs.length > 64
  · rw [decide_eq_true (by omega), isobathref05_CheckClock.j0, if_pos rfl, if_pos (.inr h2)]
  rw [decide_eq_false (by omega), isobathref05_CheckClock.j0, if_neg (by decide), if_neg (show ¬ (xs.length < 1 ∨ xs.length > 64) by omega)]
  by_cases p1 : par < -1
  · rw [if_pos p1, isobathref05_CheckClock.j1, if_pos rfl, if_pos (.inl p1)]
  rw [if_neg p1]
  by_cases p2 : rate < 0
  · rw [if_pos p2, isobathref05_CheckClock.j1, if_pos rfl, if_pos (.inr (.inl p2))]
  rw [if_neg p2]
  by_cases p3 : rate > 1000000
  · rw [decide_eq_true p3, isobathref05_CheckClock.j1, if_pos rfl, if_pos (.inr (.inr p3))]
  rw [decide_eq_false p3, isobathref05_CheckClock.j1, if_neg (by decide), if_neg (show ¬ (par < -1 ∨ rate < 0 ∨ rate > 1000000) by omega)]
  have := ref_clock_loop (par := par) (rate := rate) (xs := xs) (by omega) (by omega) (by omega) xs.length 0 k (by omega) (by omega)
  rw [List.drop_zero] at this
  exact this
end Go.Proofs.Ytcjdhajdoikojaa.Clk
end
section
/- A clock that is made of a truth: its offset holds the truth at each reading, and nothing contradicts. -/
namespace Go.Proofs.Ytcjdhajdoikojaa.Clk
open Go.RowKit Go.Proofs.YtcjdhajdoikojaaW.PrintWords Go.Proofs.YtcjdhajdoikojaaW.PrintMore Go.Proofs.Ytcjdhajdoikojaa.Pr

/-- The numbers of a talk are in their ranges. -/
def RX (x : S93) : Prop := (0 ≤ x.f0 ∧ x.f0 ≤ 4294967295) ∧ (0 ≤ x.f1 ∧ x.f1 ≤ 65535) ∧ (0 ≤ x.f2 ∧ x.f2 ≤ 65535) ∧ (0 ≤ x.f3 ∧ x.f3 ≤ 65535) ∧ (0 ≤ x.f4.f0 ∧ x.f4.f0 ≤ 65535) ∧ (0 ≤ x.f4.f1 ∧ x.f4.f1 ≤ 65535) ∧ (0 ≤ x.f4.f2 ∧ x.f4.f2 ≤ 65535) ∧ (0 ≤ x.f4.f3 ∧ x.f4.f3 ≤ 65535)
/-- A truth whose numbers are in their ranges. -/
def RT (start : Int) (slow : List Int) : Prop := (-2147483648 ≤ start ∧ start ≤ 2147483647) ∧ ∀ x ∈ slow, -128 ≤ x ∧ x ≤ 127
theorem RT.lip {start rate : Int} {slow : List Int} (h : RT start slow) (hr0 : 0 ≤ rate) {s t : Int} (hst : s ≤ t) : -(rate * (t - s)) ≤ truthC start slow rate t - truthC start slow rate s ∧ truthC start slow rate t - truthC start slow rate s ≤ rate * (t - s) :=
  truth_lip hr0 (fun x hx => by have := h.2 x hx; omega) hst
theorem talk_holds {start rate : Int} {slow : List Int} {x : S93} (hr0 : 0 ≤ rate) (hr1 : rate ≤ 1000000) (hT : RT start slow) (hx : RX x) : HoldsX rate (truthC start slow rate) (talkX start slow rate x) ∧ 0 ≤ (talkX start slow rate x).f3 ∧ (talkX start slow rate x).f3 ≤ 15065535 := by
  obtain ⟨⟨x0, x0'⟩, ⟨x1, x1'⟩, ⟨x2, x2'⟩, ⟨x3, x3'⟩, ⟨y0, y0'⟩, ⟨y1, y1'⟩, ⟨y2, y2'⟩, ⟨y3, y3'⟩⟩ := hx
  have e0 : xSent x.f0 = x.f0 % 15000000 := by
    unfold xSent
    rw [wrap_id (by omega) (by omega), Int.tmod_eq_emod_of_nonneg x0]
  have eb : xBack x.f0 x.f1 = x.f0 % 15000000 + x.f1 := by
    unfold xBack
    rw [e0, wrap_id (n := x.f1) (by omega) (by omega), wrap_id (by omega) (by omega)]
  have hs0 : 0 ≤ x.f0 % 15000000 ∧ x.f0 % 15000000 < 15000000 := by omega
  generalize x.f0 % 15000000 = sent at *
  have tS := tof_eq hr0 hr1 (t := sent) (by omega) (by omega) hT.2 hT.1.1 hT.1.2
  have tB := tof_eq hr0 hr1 (t := sent + x.f1) (by omega) (by omega) hT.2 hT.1.1 hT.1.2
  have lp := hT.lip hr0 (rate := rate) (s := sent) (t := sent + x.f1) (by omega)
  have hg := gro_mul (rate := rate) (d := x.f1)
  rw [show sent + x.f1 - sent = x.f1 by omega] at lp
  have eh : xHeard start slow rate x.f0 x.f2 = -((-(sent * 1000000000 + truthC start slow rate sent)) / 1000000000) + x.f2 := by
    unfold xHeard
    rw [e0, tS.2.1, wrap_id (n := sent * 1000000000) (by omega) (by omega), wrap_id (n := sent * 1000000000 + _) (by omega) (by omega), upwI_eq (by omega) (by omega), wrap_id (n := x.f2) (by omega) (by omega), wrap_id (by omega) (by omega)]
  have ea : xAns start slow rate x.f0 x.f1 x.f3 = ((sent + x.f1) * 1000000000 + truthC start slow rate (sent + x.f1)) / 1000000000 - x.f3 := by
    unfold xAns
    rw [eb, tB.2.1, wrap_id (n := (sent + x.f1) * 1000000000) (by omega) (by omega), wrap_id (n := (sent + x.f1) * 1000000000 + _) (by omega) (by omega), downI_eq (by omega) (by omega), wrap_id (n := x.f3) (by omega) (by omega), wrap_id (by omega) (by omega)]
  have el : ∀ a b : Int, 0 ≤ a → a ≤ 65535 → 0 ≤ b → b ≤ 65535 → xLo a b = max 0 (a - b) := fun a b h1 h2 h3 h4 => by
    unfold xLo
    rw [wrap_id (n := a) (by omega) (by omega), wrap_id (n := b) (by omega) (by omega), wrap_id (by omega) (by omega), mx_max]
  have ei : ∀ a b : Int, 0 ≤ a → a ≤ 65535 → 0 ≤ b → b ≤ 65535 → xHi a b = a + 1 + b := fun a b h1 h2 h3 h4 => by
    unfold xHi
    rw [wrap_id (n := a) (by omega) (by omega), wrap_id (n := b) (by omega) (by omega), wrap_id (n := a + 1) (by omega) (by omega), wrap_id (by omega) (by omega)]
  unfold HoldsX offC talkX
  dsimp only
  rw [e0, eb, eh, ea, el _ _ x2 x2' y0 y0', ei _ _ x2 x2' y1 y1', el _ _ x3 x3' y2 y2', ei _ _ x3 x3' y3 y3', show sent + x.f1 - sent = x.f1 by omega]
  generalize truthC start slow rate sent = Ts at *
  generalize truthC start slow rate (sent + x.f1) = Tb at *
  generalize gro rate x.f1 = g at *
  generalize rate * x.f1 = rf at *
  omega
/-- The exchanges of a clock that is made. -/
def madeL (start : Int) (slow : List Int) (rate : Int) (l : List S93) : List S46 := ((l.take 8).map (talkX start slow rate)).filter okX
theorem rd93_lt {l : List S93} {i : Nat} (h : i < l.length) : rd_T93 l (i : Int) = l[i] := by
  unfold rd_T93
  rw [List.getD_eq_getElem?_getD, Int.toNat_natCast, List.getElem?_eq_getElem h]
  rfl
theorem made_loop {start : Int} {slow : List Int} {rate par : Int} {l : List S93} : ∀ (m i K : Nat) (acc : List S46), i + m = 8 → acc.length ≤ i → 2 * m + 50 ≤ K →
    isobathlaw05_made.l0 K rate l (i : Int) start slow par rate acc = some (par, rate, acc ++ (((l.take 8).drop i).map (talkX start slow rate)).filter okX, (faceE par rate (acc ++ (((l.take 8).drop i).map (talkX start slow rate)).filter okX) == 0)) := by
  intro m
  have hend : ∀ (i K : Nat) (acc : List S46), acc.length ≤ 8 → 20 ≤ K → isobathlaw05_made.j1 K rate l (i : Int) false start slow par rate acc = some (par, rate, acc, (faceE par rate acc == 0)) := by
    intro i K acc ha hK
    obtain ⟨K, rfl⟩ : ∃ q, K = q + 1 := ⟨K - 1, by omega⟩
    rw [isobathlaw05_made.j1, if_neg (by decide), ref_checkClock (by omega)]
    rfl
  induction m with
  | zero =>
    intro i K acc h ha hK
    obtain ⟨K, rfl⟩ : ∃ q, K = q + 1 := ⟨K - 1, by omega⟩
    have hd : (l.take 8).drop i = [] := List.drop_of_length_le (by rw [List.length_take]; omega)
    rw [isobathlaw05_made.l0, decide_eq_false (show ¬ ((i : Int) < 8) by omega), hend i K acc (by omega) (by omega), hd]
    simp
  | succ m ih =>
    intro i K acc h ha hK
    obtain ⟨K, rfl⟩ : ∃ q, K = q + 3 := ⟨K - 3, by omega⟩
    rw [isobathlaw05_made.l0]
    by_cases hi : i < l.length
    · have hd : (l.take 8).drop i = l[i] :: (l.take 8).drop (i + 1) := by
        rw [List.drop_eq_getElem_cons (by rw [List.length_take]; omega), List.getElem_take]
      have hE : isobathlaw05_exchange.f start slow rate l[i].f0 l[i].f1 l[i].f2 l[i].f3 l[i].f4.f0 l[i].f4.f1 l[i].f4.f2 l[i].f4.f3 = some ((talkX start slow rate l[i]).f0, (talkX start slow rate l[i]).f1, (talkX start slow rate l[i]).f2, (talkX start slow rate l[i]).f3, (talkX start slow rate l[i]).f4.f0, (talkX start slow rate l[i]).f4.f1, (talkX start slow rate l[i]).f5.f0, (talkX start slow rate l[i]).f5.f1) := rfl
      have hih := fun acc' ha' => ih (i + 1) (K + 1) acc' (by omega) ha' (by omega)
      rw [if_pos (by omega), decide_eq_true (show (i : Int) < 8 by omega), isobathlaw05_made.j1, if_pos rfl, if_pos (by omega), if_pos (by omega), rd93_lt hi, hE, Option.bind_some, hd, List.map_cons]
      generalize talkX start slow rate l[i] = x at *
      dsimp only
      rw [ref_checkX, Option.bind_some, wrap_id (n := (i : Int) + 1) (by omega) (by omega), show ((i : Int) + 1) = ((i + 1 : Nat) : Int) by omega]
      cases hX : okX x with
      | true =>
        rw [if_pos rfl, if_pos rfl, if_pos (by omega), List.filter_cons_of_pos hX]
        have := hih (acc ++ [x]) (by rw [List.length_append, List.length_singleton]; omega)
        rw [List.append_assoc] at this
        exact this
      | false =>
        rw [if_neg (by decide), List.filter_cons_of_neg (by rw [hX]; decide)]
        exact hih acc (by omega)
    · have hd : (l.take 8).drop i = [] := List.drop_of_length_le (by rw [List.length_take]; omega)
      rw [if_neg (by omega), hend i (K + 2) acc (by omega) (by omega), hd]
      simp
theorem made_eq (start : Int) (slow : List Int) (rate par : Int) (l : List S93) {K : Nat} (hK : 100 ≤ K) : isobathlaw05_made.f K start slow par rate l = some (par, rate, madeL start slow rate l, (faceE par rate (madeL start slow rate l) == 0)) := by
  have := made_loop (start := start) (slow := slow) (rate := rate) (par := par) (l := l) 8 0 K [] rfl (Nat.le_refl _) (by omega)
  rw [List.drop_zero, List.nil_append] at this
  exact this
theorem made_holds {start rate : Int} {slow : List Int} {l : List S93} (hr0 : 0 ≤ rate) (hr1 : rate ≤ 1000000) (hT : RT start slow) (hl : ∀ x ∈ l, RX x) : ∀ x ∈ madeL start slow rate l, HoldsX rate (truthC start slow rate) x ∧ 0 ≤ x.f3 ∧ x.f3 ≤ 15065535 := by
  intro x hx
  have h1 := (List.mem_filter.1 hx).1
  obtain ⟨y, hy, rfl⟩ := List.mem_map.1 h1
  exact talk_holds hr0 hr1 hT (hl y (List.mem_of_mem_take hy))
theorem meetU_in {α : Type} {lo hi : α → Int} {V : Int} : ∀ (l : List α) (o : Int × Int), o.1 * 1000000000 ≤ V → V ≤ o.2 * 1000000000 → (∀ a ∈ l, lo a * 1000000000 ≤ V ∧ V ≤ hi a * 1000000000) → (meetU lo hi o l).1 * 1000000000 ≤ V ∧ V ≤ (meetU lo hi o l).2 * 1000000000
  | [], o, h1, h2, _ => ⟨h1, h2⟩
  | a :: l, o, h1, h2, h => by
    have ha := h a List.mem_cons_self
    exact meetU_in l _ (by dsimp only; omega) (by dsimp only; omega) (fun b hb => h b (List.mem_cons_of_mem _ hb))
theorem meetU_le {α : Type} {lo hi : α → Int} : ∀ (l : List α) (o : Int × Int), (o.1 ≤ (meetU lo hi o l).1 ∧ (meetU lo hi o l).2 ≤ o.2) ∧ ∀ a ∈ l, lo a ≤ (meetU lo hi o l).1 ∧ (meetU lo hi o l).2 ≤ hi a
  | [], o => ⟨⟨Int.le_refl _, Int.le_refl _⟩, fun a h => by cases h⟩
  | b :: l, o => by
    have ih := meetU_le (lo := lo) (hi := hi) l (max o.1 (lo b), min o.2 (hi b))
    have e : meetU lo hi o (b :: l) = meetU lo hi (max o.1 (lo b), min o.2 (hi b)) l := rfl
    rw [e]
    obtain ⟨⟨i1, i2⟩, i3⟩ := ih
    dsimp only at i1 i2
    refine ⟨⟨by omega, by omega⟩, fun a ha => ?_⟩
    rcases List.mem_cons.1 ha with rfl | ha
    · exact ⟨by omega, by omega⟩
    · exact i3 a ha
theorem gro_small {rate d : Int} (hr0 : 0 ≤ rate) (hr1 : rate ≤ 1000000) (hd : 0 ≤ d) : 0 ≤ gro rate d ∧ gro rate d ≤ d / 1000 + 1 := by
  rw [gro_ceil]
  have h1 := Int.mul_le_mul_of_nonneg_right hr1 hd
  have h2 := Int.mul_nonneg hr0 hd
  generalize rate * d = x at *
  omega
theorem lip_dis {rate : Int} {T : Int → Int} (hT : ∀ s t : Int, s ≤ t → -(rate * (t - s)) ≤ T t - T s ∧ T t - T s ≤ rate * (t - s)) (s t : Int) : T s - gro rate (dis s t) * 1000000000 ≤ T t ∧ T t ≤ T s + gro rate (dis s t) * 1000000000 := by
  have hg := gro_mul (rate := rate) (d := dis s t)
  by_cases h : s ≤ t
  · have := hT s t h
    rw [show dis s t = t - s by unfold dis; omega] at hg ⊢
    omega
  · have := hT t s (by omega)
    rw [show dis s t = s - t by unfold dis; omega] at hg ⊢
    omega
section
variable {par rate : Int} {xs : List S46} {T : Int → Int}
theorem at_holds (hf : faceE par rate xs = 0) (hT : ∀ s t : Int, s ≤ t → -(rate * (t - s)) ≤ T t - T s ∧ T t - T s ≤ rate * (t - s)) (hX : ∀ x ∈ xs, HoldsX rate T x ∧ 0 ≤ x.f3 ∧ x.f3 ≤ 15065535) {t : Int} (ht0 : -1125899906842624 ≤ t) (ht1 : t ≤ 2251799813685248) (hv : -2200000000000000000 ≤ T t ∧ T t ≤ 2200000000000000000) :
    ((atI rate (xs.map (anchorI rate)) t).1 * 1000000000 ≤ T t ∧ T t ≤ (atI rate (xs.map (anchorI rate)) t).2 * 1000000000) ∧
    (-1073741825 - (max t (-t) + 15065535) / 1000 ≤ (atI rate (xs.map (anchorI rate)) t).1 ∧ (atI rate (xs.map (anchorI rate)) t).1 ≤ 1073741825 + (max t (-t) + 15065535) / 1000) ∧ (-1073741825 - (max t (-t) + 15065535) / 1000 ≤ (atI rate (xs.map (anchorI rate)) t).2 ∧ (atI rate (xs.map (anchorI rate)) t).2 ≤ 1073741825 + (max t (-t) + 15065535) / 1000) := by
  obtain ⟨_, hr0, hr1⟩ := faceE_rate hf
  have h1 := (faceE_one hf).1
  rw [at_meetI hf ht0 ht1]
  have hin := meetU_in (lo := loX rate t) (hi := hiX rate t) (V := T t) xs top (by unfold top; dsimp only; omega) (by unfold top; dsimp only; omega) (fun x hx => by
    obtain ⟨⟨a1, a2⟩, _⟩ := hX x hx
    have := lip_dis hT x.f3 t
    unfold loX hiX
    omega)
  refine ⟨hin, ?_⟩
  cases xs with
  | nil => simp at h1
  | cons x l =>
    have hle := (meetU_le (lo := loX rate t) (hi := hiX rate t) (x :: l) top).2 x List.mem_cons_self
    have hE := (okE_iff hr0 hr1).1 (faceE_all hf x List.mem_cons_self)
    have hS := okS_iff.1 hE.2
    obtain ⟨_, b1, b2⟩ := hX x List.mem_cons_self
    have hg := gro_small hr0 hr1 (d := dis x.f3 t) (by unfold dis; omega)
    have hd : dis x.f3 t ≤ max t (-t) + 15065535 := by unfold dis; omega
    generalize meetU (loX rate t) (hiX rate t) top (x :: l) = M at *
    unfold loX hiX at hle
    generalize gro rate (dis x.f3 t) = g at *
    generalize dis x.f3 t = dd at *
    omega
theorem made_sound (hf : faceE par rate xs = 0) (hT : ∀ s t : Int, s ≤ t → -(rate * (t - s)) ≤ T t - T s ∧ T t - T s ≤ rate * (t - s)) (hX : ∀ x ∈ xs, HoldsX rate T x ∧ 0 ≤ x.f3 ∧ x.f3 ≤ 15065535) : findCon rate (xs.map (anchorI rate)) = none := by
  obtain ⟨_, hr0, hr1⟩ := faceE_rate hf
  unfold findCon
  rw [List.find?_eq_none]
  intro p hp
  obtain ⟨p0, p1, p2⟩ := mem_pairsL.1 hp
  have hv := va_all hf
  rw [conI_eq hr0 hr1 (by omega) (hv _ (rd_mem p0 (by omega))) (hv _ (rd_mem (by omega) p2))]
  obtain ⟨x, hx, ex⟩ := List.mem_map.1 (rd_mem (ys := xs.map (anchorI rate)) p0 (by omega))
  obtain ⟨y, hy, ey⟩ := List.mem_map.1 (rd_mem (ys := xs.map (anchorI rate)) (show 0 ≤ p.2 by omega) p2)
  rw [← ex, ← ey, anchor_eq hr0 hr1 ((okE_iff hr0 hr1).1 (faceE_all hf x hx)).1, anchor_eq hr0 hr1 ((okE_iff hr0 hr1).1 (faceE_all hf y hy)).1]
  obtain ⟨⟨a1, a2⟩, _⟩ := hX x hx
  obtain ⟨⟨b1, b2⟩, _⟩ := hX y hy
  have hl := lip_dis hT x.f3 y.f3
  unfold apartA
  dsimp only
  simp only [Bool.or_eq_true, decide_eq_true_eq]
  generalize gro rate (dis x.f3 y.f3) = g at *
  omega
end
end Go.Proofs.Ytcjdhajdoikojaa.Clk
end
section
/- True times in houses of one and of two sound clocks, in clean numbers. -/
namespace Go.Proofs.Ytcjdhajdoikojaa.Clk
open Go.RowKit Go.Proofs.YtcjdhajdoikojaaW.PrintWords Go.Proofs.YtcjdhajdoikojaaW.PrintMore Go.Proofs.Ytcjdhajdoikojaa.Pr
theorem step_eq {par rate : Int} {xs : List S46} (hf : faceE par rate xs = 0) {a : Int × Int} (h0 : -1125899906842624 ≤ a.1 ∧ a.1 ≤ 2251799813685248) (h1 : -1125899906842624 ≤ a.2 ∧ a.2 ≤ 2251799813685248) :
    upI ⟨par, rate, xs⟩ a = (a.1 + (atI rate (xs.map (anchorI rate)) a.1).1, a.2 + (atI rate (xs.map (anchorI rate)) a.2).2) := by
  obtain ⟨_, hr0, hr1⟩ := faceE_rate hf
  have h1y : 1 ≤ (xs.map (anchorI rate)).length := by rw [List.length_map]; exact (faceE_one hf).1
  have r1 := atI_range hr0 hr1 h0.1 h0.2 (va_all hf) h1y
  have r2 := atI_range hr0 hr1 h1.1 h1.2 (va_all hf) h1y
  unfold upI
  dsimp only
  rw [wrap_id (n := a.1 + _) (by omega) (by omega), wrap_id (n := a.2 + _) (by omega) (by omega)]
theorem tree_time {r s n : Int} {xs ys : List S46} (hf : faceE (-1) r xs = 0) (hg : faceE 0 s ys = 0) (hsc : findCon r (xs.map (anchorI r)) = none) (hsd : findCon s (ys.map (anchorI s)) = none) (h0 : 0 ≤ n) (h1 : n ≤ 1125899906842624) :
    TimeV [⟨-1, r, xs⟩, ⟨0, s, ys⟩] 1 n = (n + (atI s (ys.map (anchorI s)) n).1 + (atI r (xs.map (anchorI r)) (n + (atI s (ys.map (anchorI s)) n).1)).1, n + (atI s (ys.map (anchorI s)) n).2 + (atI r (xs.map (anchorI r)) (n + (atI s (ys.map (anchorI s)) n).2)).2) ∧ TimeE [⟨-1, r, xs⟩, ⟨0, s, ys⟩] 1 n = 0 := by
  obtain ⟨_, hr0, hr1⟩ := faceE_rate hg
  have h1y : 1 ≤ (ys.map (anchorI s)).length := by rw [List.length_map]; exact (faceE_one hg).1
  have rg := atI_range hr0 hr1 (show -1125899906842624 ≤ n by omega) (show n ≤ 2251799813685248 by omega) (va_all hg) h1y
  have hh : houseE [⟨-1, r, xs⟩, ⟨0, s, ys⟩] = 0 := by
    have e1 : firstErr [⟨-1, r, xs⟩, ⟨0, s, ys⟩] = 0 := by
      unfold firstErr
      simp only [List.map_cons, List.map_nil]
      have c1 : cE ⟨-1, r, xs⟩ = 0 := hf
      have c2 : cE ⟨0, s, ys⟩ = 0 := hg
      rw [c1, c2]
      rfl
    have e2 : parOK [⟨-1, r, xs⟩, ⟨0, s, ys⟩] = true := rfl
    have e3 : [(⟨-1, r, xs⟩ : S30), ⟨0, s, ys⟩].any badC = false := by
      have b1 : badC ⟨-1, r, xs⟩ = false := by
        show (findCon r (xs.map (anchorI r))).isSome = false
        rw [hsc]
        rfl
      have b2 : badC ⟨0, s, ys⟩ = false := by
        show (findCon s (ys.map (anchorI s))).isSome = false
        rw [hsd]
        rfl
      rw [List.any_cons, List.any_cons, b1, b2]
      rfl
    unfold houseE
    rw [if_neg (by simp), if_neg (by rw [e1]; decide), if_neg (by rw [e2]; decide), if_neg (by rw [e3]; decide)]
  have hnot : ¬ ((1 : Int) < 0 ∨ (([⟨-1, r, xs⟩, ⟨0, s, ys⟩] : List S30).length : Int) ≤ 1 ∨ okT n = false) := by
    have : okT n = true := okT_iff.2 ⟨h0, h1⟩
    rw [this]
    simp
  unfold TimeV TimeE timeV timeE
  have hne : ¬ (houseE [⟨-1, r, xs⟩, ⟨0, s, ys⟩] ≠ 0) := fun h => h hh
  rw [if_neg hne, if_neg hnot, if_neg hne, if_neg hnot]
  refine ⟨?_, rfl⟩
  have s1 : timeI [⟨-1, r, xs⟩, ⟨0, s, ys⟩] 2 1 (n, n) = upI ⟨-1, r, xs⟩ (upI ⟨0, s, ys⟩ (n, n)) := rfl
  show timeI [⟨-1, r, xs⟩, ⟨0, s, ys⟩] 2 1 (n, n) = _
  rw [s1, step_eq hg (by dsimp only; omega) (by dsimp only; omega), step_eq hf (by dsimp only; omega) (by dsimp only; omega)]
end Go.Proofs.Ytcjdhajdoikojaa.Clk
end
section
namespace Go.Proofs.Ytcjdhajdoikojaa.Pure
open Go.RowKit Go.Proofs.Ytcjdhajdoikojaa.Pr
set_option maxRecDepth 100000 in
theorem works : isobathlaw05_Works.f = some true := by kernel_rfl
end Go.Proofs.Ytcjdhajdoikojaa.Pure
end
section
/- Through its parent a clock shows the true time within the span: the pure statement about what the program computes. -/
namespace Go.Proofs.Ytcjdhajdoikojaa.Pure
open Go.RowKit Go.Proofs.YtcjdhajdoikojaaW.PrintWords Go.Proofs.YtcjdhajdoikojaaW.PrintLast Go.Proofs.YtcjdhajdoikojaaW.PrintMore Go.Proofs.Ytcjdhajdoikojaa.Pr Go.Proofs.Ytcjdhajdoikojaa.Good Go.Proofs.Ytcjdhajdoikojaa.Clk
namespace Tree
theorem wf_u32 {x : Int} (h : (Lit.int .u32 x).wf = true) : 0 ≤ x ∧ x ≤ 4294967295 := by
  unfold Lit.wf at h
  simp only [Bool.and_eq_true, decide_eq_true_eq] at h
  exact ⟨h.1, h.2⟩
theorem wf_u16 {x : Int} (h : (Lit.int .u16 x).wf = true) : 0 ≤ x ∧ x ≤ 65535 := by
  unfold Lit.wf at h
  simp only [Bool.and_eq_true, decide_eq_true_eq] at h
  exact ⟨h.1, h.2⟩
theorem wf_i32 {x : Int} (h : (Lit.int .i32 x).wf = true) : -2147483648 ≤ x ∧ x ≤ 2147483647 := by
  unfold Lit.wf at h
  simp only [Bool.and_eq_true, decide_eq_true_eq] at h
  exact ⟨h.1, h.2⟩
theorem wf_i8 {x : Int} (h : (Lit.int .i8 x).wf = true) : -128 ≤ x ∧ x ≤ 127 := by
  unfold Lit.wf at h
  simp only [Bool.and_eq_true, decide_eq_true_eq] at h
  exact ⟨h.1, h.2⟩
theorem rx_of {x : S93} (h : W93 x) : RX x := by
  obtain ⟨h0, h1, h2, h3, h4⟩ := h
  obtain ⟨g0, g1, g2, g3⟩ := h4
  exact ⟨wf_u32 h0, wf_u16 h1, wf_u16 h2, wf_u16 h3, wf_u16 g0, wf_u16 g1, wf_u16 g2, wf_u16 g3⟩
theorem rt_of {x : S24} (h : W24 x) : RT x.f0 x.f1 := by
  obtain ⟨h0, h1, _⟩ := h
  exact ⟨wf_i32 h0, fun y hy => wf_i8 (h1 y hy)⟩
theorem rate_of {x : Int} (h : 0 ≤ x ∧ x ≤ 4294967295) : Int.tmod (wrap64 x) 1000001 = x % 1000001 := by
  rw [wrap_id (by omega) (by omega), Int.tmod_eq_emod_of_nonneg h.1]
end Tree
open Tree
theorem ClockTree : ∀ (x0 : S24) (x1 : S24) (x2 : G26) (x3 : (List S93)) (x4 : (List S93)) (x5 : Int), W24 x0 → W24 x1 → W26 x2 → ((∀ y ∈ x3, W93 y) ∧ x3.length * Try.prog.bytesOf 93 ≤ reachBytes) → ((∀ y ∈ x4, W93 y) ∧ x4.length * Try.prog.bytesOf 93 ≤ reachBytes) → (Lit.int .u32 x5).wf = true → ∃ k, isobathlaw05_ClockTree.f k (x0.f0) (x0.f1) (x1.f0) (x1.f1) (x2.f0) (x2.f1) x3 x4 x5 = some true := by
  intro x0 x1 x2 l m n5 h0 h1 h2 hl hm h5
  have t0 := rt_of h0
  have t1 := rt_of h1
  have r0 := wf_u32 h2.1
  have r1 := wf_u32 h2.2
  have n0 := wf_u32 h5
  have hlx : ∀ y ∈ l, RX y := fun y hy => rx_of (hl.1 y hy)
  have hmx : ∀ y ∈ m, RX y := fun y hy => rx_of (hm.1 y hy)
  generalize x0.f0 = s0 at *
  generalize x0.f1 = w0 at *
  generalize x1.f0 = s1 at *
  generalize x1.f1 = w1 at *
  refine ⟨200, ?_⟩
  unfold isobathlaw05_ClockTree.f
  rw [rate_of r0, rate_of r1]
  have hr : 0 ≤ x2.f0 % 1000001 ∧ x2.f0 % 1000001 ≤ 1000000 := by omega
  have hs : 0 ≤ x2.f1 % 1000001 ∧ x2.f1 % 1000001 ≤ 1000000 := by omega
  generalize x2.f0 % 1000001 = r at *
  generalize x2.f1 % 1000001 = s at *
  rw [made_eq _ _ _ _ _ (by omega), Option.bind_some, made_eq _ _ _ _ _ (by omega), Option.bind_some]
  dsimp only
  have hT : ∀ a b c : Int, ∀ u v : List S46, ∀ d e f g : Int, isobathlaw05_ClockTree.j0 200 a r s true s0 w0 s1 w1 d e u f g v = some true := fun a b c u v d e f g => by
    rw [isobathlaw05_ClockTree.j0, if_pos rfl, works]
    rfl
  have hc := made_holds hr.1 hr.2 t0 hlx
  have hd := made_holds hs.1 hs.2 t1 hmx
  generalize madeL s0 w0 r l = xs at *
  generalize madeL s1 w1 s m = ys at *
  by_cases hf : faceE (-1) r xs = 0
  · rw [if_pos (by rw [hf]; rfl)]
    by_cases hg : faceE 0 s ys = 0
    · have e5 : Int.tmod (wrap64 n5) 15000000 = n5 % 15000000 := by rw [wrap_id (by omega) (by omega), Int.tmod_eq_emod_of_nonneg n0.1]
      rw [show (!(faceE 0 s ys == 0)) = false by rw [hg]; rfl, isobathlaw05_ClockTree.j0, if_neg (by decide), e5]
      have hn : 0 ≤ n5 % 15000000 ∧ n5 % 15000000 < 15000000 := by omega
      generalize n5 % 15000000 = n at *
      have lipT := fun a b (h : a ≤ b) => t0.lip (rate := r) hr.1 (s := a) (t := b) h
      have lipU := fun a b (h : a ≤ b) => t1.lip (rate := s) hs.1 (s := a) (t := b) h
      have hU := tof_eq hs.1 hs.2 (t := n) (by omega) (by omega) t1.2 t1.1.1 t1.1.2
      have hsc := made_sound hf lipT hc
      have hsd := made_sound hg lipU hd
      have aU := at_holds hg lipU hd (t := n) (by omega) (by omega) (by omega)
      obtain ⟨eV, eE⟩ := tree_time hf hg hsc hsd hn.1 (by omega)
      have eTime : clock_Time.f [⟨-1, r, xs⟩, ⟨0, s, ys⟩] 1 n = some ((TimeV [⟨-1, r, xs⟩, ⟨0, s, ys⟩] 1 n).1, (TimeV [⟨-1, r, xs⟩, ⟨0, s, ys⟩] 1 n).2, TimeE [⟨-1, r, xs⟩, ⟨0, s, ys⟩] 1 n) := rfl
      generalize hUn : truthC s1 w1 s n = Un at *
      obtain ⟨⟨u1, u2⟩, ⟨u3, u4⟩, u5, u6⟩ := aU
      generalize atI s (ys.map (anchorI s)) n = P at *
      have hm0 : max n (-n) = n := by omega
      rw [hm0] at u3 u4 u5 u6
      -- the parent's readings
      have hlo : -1000000000000000 ≤ (n * 1000000000 + Un) / 1000000000 ∧ (n * 1000000000 + Un) / 1000000000 ≤ 1000000000000000 := by omega
      have hhi : -1000000000000000 ≤ -((-(n * 1000000000 + Un)) / 1000000000) ∧ -((-(n * 1000000000 + Un)) / 1000000000) ≤ 1000000000000000 := by omega
      have tL := tof_eq hr.1 hr.2 hlo.1 hlo.2 t0.2 t0.1.1 t0.1.2
      have tH := tof_eq hr.1 hr.2 hhi.1 hhi.2 t0.2 t0.1.1 t0.1.2
      have tA := tof_eq hr.1 hr.2 (t := n + P.1) (by omega) (by omega) t0.2 t0.1.1 t0.1.2
      have tB := tof_eq hr.1 hr.2 (t := n + P.2) (by omega) (by omega) t0.2 t0.1.1 t0.1.2
      have aA := at_holds hf lipT hc (t := n + P.1) (by omega) (by omega) (by omega)
      have aB := at_holds hf lipT hc (t := n + P.2) (by omega) (by omega) (by omega)
      have lA := lipT (n + P.1) ((n * 1000000000 + Un) / 1000000000) (by omega)
      have lB := lipT (-((-(n * 1000000000 + Un)) / 1000000000)) (n + P.2) (by omega)
      have hdA : 0 ≤ (n * 1000000000 + Un) / 1000000000 - (n + P.1) := by omega
      have hdB : 0 ≤ (n + P.2) - -((-(n * 1000000000 + Un)) / 1000000000) := by omega
      have mA := Int.mul_le_mul_of_nonneg_right hr.2 hdA
      have mB := Int.mul_le_mul_of_nonneg_right hr.2 hdB
      have fl : (n * 1000000000 + Un) / 1000000000 * 1000000000 ≤ n * 1000000000 + Un ∧ n * 1000000000 + Un < (n * 1000000000 + Un) / 1000000000 * 1000000000 + 1000000000 := by omega
      have fh : -((-(n * 1000000000 + Un)) / 1000000000) * 1000000000 ≥ n * 1000000000 + Un ∧ -((-(n * 1000000000 + Un)) / 1000000000) * 1000000000 - 1000000000 < n * 1000000000 + Un := by omega
      rw [eTime, Option.bind_some, eV, eE]
      dsimp only
      rw [if_pos rfl, hU.1 199 (by omega), Option.bind_some, wrap_id (n := n * 1000000000) (by omega) (by omega), wrap_id (n := n * 1000000000 + Un) (by omega) (by omega), down_some', Option.bind_some, up_some', Option.bind_some, downI_eq (by omega) (by omega), upwI_eq (by omega) (by omega), tL.1 199 (by omega), Option.bind_some, tH.1 199 (by omega), Option.bind_some]
      generalize atI r (xs.map (anchorI r)) (n + P.1) = PA at *
      generalize atI r (xs.map (anchorI r)) (n + P.2) = PB at *
      generalize truthC s0 w0 r ((n * 1000000000 + Un) / 1000000000) = TL at *
      generalize truthC s0 w0 r (-((-(n * 1000000000 + Un)) / 1000000000)) = TH at *
      generalize truthC s0 w0 r (n + P.1) = TA at *
      generalize truthC s0 w0 r (n + P.2) = TB at *
      generalize r * ((n * 1000000000 + Un) / 1000000000 - (n + P.1)) = ra at *
      generalize r * ((n + P.2) - -((-(n * 1000000000 + Un)) / 1000000000)) = rb at *
      generalize (n * 1000000000 + Un) / 1000000000 = lo at *
      generalize -((-(n * 1000000000 + Un)) / 1000000000) = hi at *
      rw [wrap_id (n := (n + P.1 + PA.1) * 1000000000) (by omega) (by omega), wrap_id (n := lo * 1000000000) (by omega) (by omega), wrap_id (n := lo * 1000000000 + TL) (by omega) (by omega), wrap_id (n := hi * 1000000000) (by omega) (by omega), wrap_id (n := hi * 1000000000 + TH) (by omega) (by omega), wrap_id (n := (n + P.2 + PB.2) * 1000000000) (by omega) (by omega), if_pos (by omega), if_pos (by omega), works]
      rfl
    · rw [show (!(faceE 0 s ys == 0)) = true by rw [beq_eq_false_iff_ne.2 hg]; rfl]
      exact hT _ 0 0 _ _ _ _ _ _
  · rw [if_neg (by rw [beq_eq_false_iff_ne.2 hf]; decide)]
    exact hT _ 0 0 _ _ _ _ _ _
end Go.Proofs.Ytcjdhajdoikojaa.Pure
end
