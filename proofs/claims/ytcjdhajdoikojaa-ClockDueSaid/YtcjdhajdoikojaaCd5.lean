/- Part 5 of the proof of LawClockDue: what its functions compute. No condition. -/
import Derived.Test.YtcjdhajdoikojaaCd1
import Derived.Test.YtcjdhajdoikojaaCd2
import Derived.Test.YtcjdhajdoikojaaCd3
import Derived.Test.YtcjdhajdoikojaaCd4
section
/- When an exchange is due: the pure statement about what the program computes. -/
namespace Go.Proofs.Ytcjdhajdoikojaa.Pure
open Go.RowKit Go.Proofs.YtcjdhajdoikojaaW.PrintWords Go.Proofs.YtcjdhajdoikojaaW.PrintLast Go.Proofs.YtcjdhajdoikojaaW.PrintMore Go.Proofs.Ytcjdhajdoikojaa.Pr Go.Proofs.Ytcjdhajdoikojaa.Good Go.Proofs.Ytcjdhajdoikojaa.Clk
namespace Due

theorem within_cases (t lo hi : Int) : withinI t lo hi = 0 ∨ withinI t lo hi = 3 := by
  unfold withinI clock_within.f
  by_cases h1 : t < lo
  · rw [if_pos h1]
    exact .inr rfl
  rw [if_neg h1]
  by_cases h2 : t > hi
  · rw [if_pos h2]
    exact .inr rfl
  rw [if_neg h2]
  exact .inl rfl
theorem within_in {t lo hi : Int} (h0 : lo ≤ t) (h1 : t ≤ hi) : withinI t lo hi = 0 := by
  unfold withinI clock_within.f
  rw [if_neg (by omega), if_neg (by omega)]
  rfl
theorem soundE_vals (par rate : Int) (xs : List S46) (t lo hi : Int) : soundE par rate xs (withinI t lo hi) = 0 ∨ (soundE par rate xs (withinI t lo hi) = 2 ∨ soundE par rate xs (withinI t lo hi) = 6 ∨ soundE par rate xs (withinI t lo hi) = 3 ∨ soundE par rate xs (withinI t lo hi) = 5) := by
  unfold soundE
  rcases faceE_cases par rate xs with e | e | e
  · rw [if_neg (by rw [e]; decide)]
    rcases within_cases t lo hi with e2 | e2
    · rw [if_neg (by rw [e2]; decide)]
      by_cases h : (findCon rate (xs.map (anchorI rate))).isSome = true
      · rw [if_pos h]
        exact .inr (.inr (.inr (.inr rfl)))
      · rw [if_neg h]
        exact .inl rfl
    · rw [if_pos (by rw [e2]; decide), e2]
      exact .inr (.inr (.inr (.inl rfl)))
  · rw [if_pos (by rw [e]; decide), e]
    exact .inr (.inl rfl)
  · rw [if_pos (by rw [e]; decide), e]
    exact .inr (.inr (.inl rfl))
theorem at_ok {par rate : Int} {xs : List S46} {b t : Int} (h : soundE par rate xs b = 0) (h0 : 0 ≤ t) (h1 : t ≤ 1125899906842624) : clock_At.f par rate xs t = some ((atI rate (xs.map (anchorI rate)) t).1, (atI rate (xs.map (anchorI rate)) t).2, 0) := by
  have hE : atE par rate xs t = 0 := by
    unfold atE
    rw [within_in h0 h1]
    unfold soundE at h ⊢
    by_cases hf : faceE par rate xs = 0
    · rw [if_neg (by rw [hf]; decide)] at h ⊢
      by_cases hb : b = 0
      · rw [if_neg (by rw [hb]; decide)] at h
        rw [if_neg (by decide)]
        exact h
      · rw [if_pos hb] at h
        exact absurd h hb
    · rw [if_pos hf] at h
      exact absurd h hf
  unfold clock_At.f
  rw [hE]
  unfold atV
  rw [if_pos hE]
def backs (xs : List S46) (m : Int) : Int := xs.foldl (fun m x => mx m x.f3) m
theorem backs_ge : ∀ (xs : List S46) (m : Int), m ≤ backs xs m ∧ (∀ x ∈ xs, x.f3 ≤ backs xs m) ∧ (backs xs m = m ∨ ∃ x ∈ xs, backs xs m = x.f3)
  | [], m => ⟨Int.le_refl _, fun x h => (by cases h), .inl rfl⟩
  | x :: l, m => by
    obtain ⟨h1, h2, h3⟩ := backs_ge l (mx m x.f3)
    have e : backs (x :: l) m = backs l (mx m x.f3) := rfl
    rw [e]
    rw [mx_max] at *
    refine ⟨by omega, fun y hy => ?_, ?_⟩
    · rcases List.mem_cons.1 hy with rfl | hy
      · omega
      · exact h2 y hy
    · rcases h3 with h3 | ⟨y, hy, h3⟩
      · by_cases hc : m ≤ x.f3
        · exact .inr ⟨x, List.mem_cons_self, by omega⟩
        · exact .inl (by omega)
      · exact .inr ⟨y, List.mem_cons_of_mem _ hy, h3⟩
theorem loop {par rate : Int} {xs : List S46} (hl : xs.length ≤ 1000) (a b c d : Int) : ∀ (m i K : Nat) (acc : Int), i + m = xs.length → isobathlaw05_ClockDue.l0 (K + m) a b c d acc (i : Int) par rate xs = isobathlaw05_ClockDue.l0 K a b c d (backs (xs.drop i) acc) (xs.length : Int) par rate xs
  | 0, i, K, acc, h => by
    have e : i = xs.length := by omega
    subst e
    rw [List.drop_length]
    rfl
  | m + 1, i, K, acc, h => by
    have hi : i < xs.length := by omega
    rw [show K + (m + 1) = (K + m) + 1 by omega, isobathlaw05_ClockDue.l0, if_pos (by omega), if_pos (by omega), wrap_id (by omega) (by omega), show ((i : Int) + 1) = ((i + 1 : Nat) : Int) by omega, loop hl a b c d m (i + 1) K _ (by omega)]
    congr 1
    rw [List.drop_eq_getElem_cons hi]
    unfold backs
    rw [List.foldl_cons]
    congr 2
    unfold rd_T46
    rw [List.getD_eq_getElem?_getD, Int.toNat_natCast, List.getElem?_eq_getElem hi]
    rfl
end Due
open Due
theorem ClockDue : ∀ (x0 : S30) (x1 : Int) (x2 : Int), W30 x0 → (Lit.int .i64 x1).wf = true → (Lit.int .u16 x2).wf = true → ∃ k, isobathlaw05_ClockDue.f k (x0.f0) (x0.f1) (x0.f2) x1 x2 = some true := by
  intro x0 limit part _ _ hpart
  generalize x0.f0 = par
  generalize x0.f1 = rate
  generalize x0.f2 = xs
  have hp : 0 ≤ part ∧ part ≤ 65535 := by
    have h := hpart
    unfold Lit.wf at h
    simp only [Bool.and_eq_true, decide_eq_true_eq] at h
    exact ⟨h.1, h.2⟩
  have hj0 : ∀ k, isobathlaw05_ClockDue.j0 (k + 1) limit part true par rate xs = some true := fun k => by
    rw [isobathlaw05_ClockDue.j0, if_pos rfl, works]
    rfl
  refine ⟨xs.length + 1 + 2 + 1, ?_⟩
  unfold isobathlaw05_ClockDue.f
  obtain ⟨lg, hlg⟩ : ∃ b, isobathlaw05_long.f par rate xs = some b := by
    unfold isobathlaw05_long.f
    split <;> (try split) <;> exact ⟨_, rfl⟩
  rw [hlg, Option.bind_some]
  by_cases h1 : lg = true
  · rw [if_pos h1, hj0]
  rw [if_neg h1]
  by_cases h2 : (xs.length : Int) > 12
  · rw [decide_eq_true h2, hj0]
  rw [decide_eq_false h2, isobathlaw05_ClockDue.j0, if_neg (by decide)]
  have hdue : ∀ c, dueI par rate xs limit = c → clock_Due.f par rate xs limit = some (c.1, c.2) := fun c h => by rw [← h]; rfl
  rcases soundE_vals par rate xs limit 0 1073741824 with hs | hs
  · have hf := soundE_face hs
    obtain ⟨hL, hge, ⟨a, ha, hea⟩, hn, hwide, hnarrow⟩ := due_facts (limit := limit) hf
    have hv := va_all hf
    have h1l := (faceE_one hf).1
    have h1y : 1 ≤ (xs.map (anchorI rate)).length := by rw [List.length_map]; exact h1l
    obtain ⟨_, hr0, hr1⟩ := faceE_rate hf
    have hbk : backs xs 0 = lastI rate xs := by
      obtain ⟨b1, b2, b3⟩ := backs_ge xs 0
      obtain ⟨x, hx, rfl⟩ := List.mem_map.1 ha
      have hx2 : x.f3 = lastI rate xs := hea
      have := b2 x hx
      rcases b3 with e | ⟨y, hy, e⟩
      · omega
      · have := hge _ (List.mem_map.2 ⟨y, hy, rfl⟩)
        have : y.f3 ≤ lastI rate xs := this
        omega
    have hD : dueI par rate xs limit = if 1125899906842624 < lastI rate xs + dueN rate xs limit then (0, 15) else (lastI rate xs + dueN rate xs limit, 0) := by
      unfold dueI
      rw [if_neg (by rw [hs]; decide)]
    have hwr : ∀ t, 0 ≤ t → t ≤ 1125899906842624 → wrap64 ((atI rate (xs.map (anchorI rate)) t).2 - (atI rate (xs.map (anchorI rate)) t).1) = wid rate (xs.map (anchorI rate)) t := fun t a b => by
      have := atI_range hr0 hr1 a (show t ≤ 2251799813685248 by omega) hv h1y
      rw [wrap_id (by omega) (by omega)]
      rfl
    have hlp : ∀ c d K, isobathlaw05_ClockDue.l0 (K + xs.length) limit part c d 0 0 par rate xs = isobathlaw05_ClockDue.l0 K limit part c d (lastI rate xs) (xs.length : Int) par rate xs := fun c d K => by
      have := loop (par := par) (rate := rate) (xs := xs) (by omega) limit part c d xs.length 0 K 0 (by omega)
      rw [List.drop_zero, hbk] at this
      exact this
    generalize dueN rate xs limit = n at *
    generalize lastI rate xs = L at *
    by_cases hlate : 1125899906842624 < L + n
    · rw [if_pos hlate] at hD
      rw [hdue _ hD, Option.bind_some]
      dsimp only
      rw [if_neg (by decide), show xs.length + 1 + 2 = (xs.length + 1 + 1) + 1 by omega, isobathlaw05_ClockDue.j1, if_neg (by decide), show xs.length + 1 + 1 = 2 + xs.length by omega, hlp, isobathlaw05_ClockDue.l0, if_neg (by omega), if_pos rfl, at_ok hs (by omega) (by omega), Option.bind_some]
      dsimp only
      rw [if_pos rfl, hwr _ (by omega) (by omega), if_pos (hnarrow _ (by omega) (by omega)), works]
      rfl
    · rw [if_neg hlate] at hD
      rw [hdue _ hD, Option.bind_some]
      dsimp only
      have hw := hwide (by omega)
      rw [if_pos rfl, show xs.length + 1 + 2 = (xs.length + 1 + 1) + 1 by omega, isobathlaw05_ClockDue.j1, if_neg (by decide), show xs.length + 1 + 1 = 2 + xs.length by omega, hlp, isobathlaw05_ClockDue.l0, if_neg (by omega), if_neg (by decide), at_ok hs (by omega) (by omega), Option.bind_some, if_neg (by omega)]
      dsimp only
      rw [if_pos rfl, hwr _ (by omega) (by omega), decide_eq_false (by omega), isobathlaw05_ClockDue.j3, if_neg (by decide)]
      by_cases hq : L + n = L
      · rw [if_pos hq, works]
        rfl
      · rw [if_neg hq]
        have hDn : 0 ≤ L + n - 1 - L ∧ L + n - 1 - L ≤ 1125899906842624 := by omega
        rw [wrap_id (n := L + n - 1) (by omega) (by omega), wrap_id (n := L + n - 1 - L) (by omega) (by omega), wrap_id (n := part) (by omega) (by omega)]
        have ht : ∃ t, mn (L + n - 1) (wrap64 (wrap64 (L + wrap64 (wrap64 (Int.tdiv (L + n - 1 - L) 65536) * part)) + wrap64 (Int.tdiv (wrap64 (Int.tmod (L + n - 1 - L) 65536 * part)) 65535))) = t ∧ L ≤ t ∧ t < L + n := by
          rw [Int.tdiv_eq_ediv_of_nonneg (by omega), Int.tmod_eq_emod_of_nonneg (by omega)]
          generalize L + n - 1 - L = D at hDn ⊢
          have m1 := mul_bound (show 0 ≤ D / 65536 by omega) (show D / 65536 ≤ 17179869184 by omega) hp.1 hp.2
          have m2 := mul_bound (show 0 ≤ D % 65536 by omega) (show D % 65536 ≤ 65535 by omega) hp.1 hp.2
          rw [wrap_id (n := D / 65536) (by omega) (by omega)]
          generalize D / 65536 * part = X at *
          generalize D % 65536 * part = Y at *
          rw [wrap_id (n := X) (by omega) (by omega), wrap_id (n := Y) (by omega) (by omega), Int.tdiv_eq_ediv_of_nonneg (by omega), wrap_id (n := L + X) (by omega) (by omega), wrap_id (n := Y / 65535) (by omega) (by omega), wrap_id (n := L + X + Y / 65535) (by omega) (by omega), mn_min]
          exact ⟨_, rfl, by omega, by omega⟩
        obtain ⟨t, e, ht0, ht1⟩ := ht
        rw [e, at_ok hs (by omega) (by omega), Option.bind_some, at_ok hs (by omega) (by omega), Option.bind_some]
        dsimp only
        rw [if_pos rfl, if_pos rfl, hwr _ (by omega) (by omega), hwr _ (by omega) (by omega), if_pos (hnarrow _ (by omega) (by omega)), if_pos (hnarrow _ (by omega) (by omega)), works]
        rfl
  · have hD : dueI par rate xs limit = (0, soundE par rate xs (withinI limit 0 1073741824)) := by
      unfold dueI
      rw [if_pos (by omega)]
    rw [hdue _ hD, Option.bind_some]
    dsimp only
    rcases hs with e | e | e | e <;> (rw [e, if_neg (by decide), show xs.length + 1 + 2 = (xs.length + 1 + 1) + 1 by omega, isobathlaw05_ClockDue.j1, if_pos (by decide), if_pos rfl, works]; rfl)
end Go.Proofs.Ytcjdhajdoikojaa.Pure
end
