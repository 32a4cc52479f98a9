/- Part 3 of the proof of ClockHolds: what the functions compute. No condition. -/
import Derived.Test.YtcjdhajdoikojaaDhClockHolds1
import Derived.Test.YtcjdhajdoikojaaDha6
import Derived.Test.YtcjdhajdoikojaaDhClockHolds2
import Derived.Test.YtcjdhajdoikojaaDha7
import Derived.Test.YtcjdhajdoikojaaDha1
section
/- A clock that is made of a truth: its offset holds the truth at each reading, and nothing contradicts. -/
namespace Go.Proofs.Ytcjdhajdoikojaa.Clk
open Go.RowKit Go.Proofs.YtcjdhajdoikojaaW.PrintWords Go.Proofs.YtcjdhajdoikojaaW.PrintMore Go.Proofs.Ytcjdhajdoikojaa.Pr

/-- The numbers of a talk are in their ranges. -/
def RX (x : S93) : Prop := (0 ≤ x.f0 ∧ x.f0 ≤ 4294967295) ∧ (0 ≤ x.f1 ∧ x.f1 ≤ 65535) ∧ (0 ≤ x.f2 ∧ x.f2 ≤ 65535) ∧ (0 ≤ x.f3 ∧ x.f3 ≤ 65535) ∧ (0 ≤ x.f4.f0 ∧ x.f4.f0 ≤ 65535) ∧ (0 ≤ x.f4.f1 ∧ x.f4.f1 ≤ 65535) ∧ (0 ≤ x.f4.f2 ∧ x.f4.f2 ≤ 65535) ∧ (0 ≤ x.f4.f3 ∧ x.f4.f3 ≤ 65535)
/-- A truth whose numbers are in their ranges. -/
def RT (start : Int) (slow : List Int) : Prop := (-2147483648 ≤ start ∧ start ≤ 2147483647) ∧ ∀ x ∈ slow, -128 ≤ x ∧ x ≤ 127
theorem RT.lip {start rate : Int} {slow : List Int} (h : RT start slow) (hr0 : 0 ≤ rate) {s t : Int} (hst : s ≤ t) : -(rate * (t - s)) ≤ truthC start slow rate t - truthC start slow rate s ∧ truthC start slow rate t - truthC start slow rate s ≤ rate * (t - s) :=
  truth_lip hr0 (fun x hx => by have := h.2 x hx; omega) hst
theorem talk_holds {start rate : Int} {slow : List Int} {x : S93} (hr0 : 0 ≤ rate) (hr1 : rate ≤ 1000000) (hT : RT start slow) (hx : RX x) : HoldsX rate (truthC start slow rate) (talkX start slow rate x) ∧ 0 ≤ (talkX start slow rate x).f3 ∧ (talkX start slow rate x).f3 ≤ 15065535 := by
  obtain ⟨⟨x0, x0'⟩, ⟨x1, x1'⟩, ⟨x2, x2'⟩, ⟨x3, x3'⟩, ⟨y0, y0'⟩, ⟨y1, y1'⟩, ⟨y2, y2'⟩, ⟨y3, y3'⟩⟩ := hx
  have e0 : xSent x.f0 = x.f0 % 15000000 := by
    unfold xSent
    rw [wrap_id (by omega) (by omega), Int.tmod_eq_emod_of_nonneg x0]
  have eb : xBack x.f0 x.f1 = x.f0 % 15000000 + x.f1 := by
    unfold xBack
    rw [e0, wrap_id (n := x.f1) (by omega) (by omega), wrap_id (by omega) (by omega)]
  have hs0 : 0 ≤ x.f0 % 15000000 ∧ x.f0 % 15000000 < 15000000 := by omega
  generalize x.f0 % 15000000 = sent at *
  have tS := tof_eq hr0 hr1 (t := sent) (by omega) (by omega) hT.2 hT.1.1 hT.1.2
  have tB := tof_eq hr0 hr1 (t := sent + x.f1) (by omega) (by omega) hT.2 hT.1.1 hT.1.2
  have lp := hT.lip hr0 (rate := rate) (s := sent) (t := sent + x.f1) (by omega)
  have hg := gro_mul (rate := rate) (d := x.f1)
  rw [show sent + x.f1 - sent = x.f1 by omega] at lp
  have eh : xHeard start slow rate x.f0 x.f2 = -((-(sent * 1000000000 + truthC start slow rate sent)) / 1000000000) + x.f2 := by
    unfold xHeard
    rw [e0, tS.2.1, wrap_id (n := sent * 1000000000) (by omega) (by omega), wrap_id (n := sent * 1000000000 + _) (by omega) (by omega), upwI_eq (by omega) (by omega), wrap_id (n := x.f2) (by omega) (by omega), wrap_id (by omega) (by omega)]
  have ea : xAns start slow rate x.f0 x.f1 x.f3 = ((sent + x.f1) * 1000000000 + truthC start slow rate (sent + x.f1)) / 1000000000 - x.f3 := by
    unfold xAns
    rw [eb, tB.2.1, wrap_id (n := (sent + x.f1) * 1000000000) (by omega) (by omega), wrap_id (n := (sent + x.f1) * 1000000000 + _) (by omega) (by omega), downI_eq (by omega) (by omega), wrap_id (n := x.f3) (by omega) (by omega), wrap_id (by omega) (by omega)]
  have el : ∀ a b : Int, 0 ≤ a → a ≤ 65535 → 0 ≤ b → b ≤ 65535 → xLo a b = max 0 (a - b) := fun a b h1 h2 h3 h4 => by
    unfold xLo
    rw [wrap_id (n := a) (by omega) (by omega), wrap_id (n := b) (by omega) (by omega), wrap_id (by omega) (by omega), mx_max]
  have ei : ∀ a b : Int, 0 ≤ a → a ≤ 65535 → 0 ≤ b → b ≤ 65535 → xHi a b = a + 1 + b := fun a b h1 h2 h3 h4 => by
    unfold xHi
    rw [wrap_id (n := a) (by omega) (by omega), wrap_id (n := b) (by omega) (by omega), wrap_id (n := a + 1) (by omega) (by omega), wrap_id (by omega) (by omega)]
  unfold HoldsX offC talkX
  dsimp only
  rw [e0, eb, eh, ea, el _ _ x2 x2' y0 y0', ei _ _ x2 x2' y1 y1', el _ _ x3 x3' y2 y2', ei _ _ x3 x3' y3 y3', show sent + x.f1 - sent = x.f1 by omega]
  generalize truthC start slow rate sent = Ts at *
  generalize truthC start slow rate (sent + x.f1) = Tb at *
  generalize gro rate x.f1 = g at *
  generalize rate * x.f1 = rf at *
  omega
/-- The exchanges of a clock that is made. -/
def madeL (start : Int) (slow : List Int) (rate : Int) (l : List S93) : List S46 := ((l.take 8).map (talkX start slow rate)).filter okX
theorem rd93_lt {l : List S93} {i : Nat} (h : i < l.length) : rd_T93 l (i : Int) = l[i] := by
  unfold rd_T93
  rw [List.getD_eq_getElem?_getD, Int.toNat_natCast, List.getElem?_eq_getElem h]
  rfl
theorem made_loop {start : Int} {slow : List Int} {rate par : Int} {l : List S93} : ∀ (m i K : Nat) (acc : List S46), i + m = 8 → acc.length ≤ i → 2 * m + 50 ≤ K →
    isobathlaw05_made.l0 K rate l (i : Int) start slow par rate acc = some (par, rate, acc ++ (((l.take 8).drop i).map (talkX start slow rate)).filter okX, (faceE par rate (acc ++ (((l.take 8).drop i).map (talkX start slow rate)).filter okX) == 0)) := by
  intro m
  have hend : ∀ (i K : Nat) (acc : List S46), acc.length ≤ 8 → 20 ≤ K → isobathlaw05_made.j1 K rate l (i : Int) false start slow par rate acc = some (par, rate, acc, (faceE par rate acc == 0)) := by
    intro i K acc ha hK
    obtain ⟨K, rfl⟩ : ∃ q, K = q + 1 := ⟨K - 1, by omega⟩
    rw [isobathlaw05_made.j1, if_neg (by decide), ref_checkClock (by omega)]
    rfl
  induction m with
  | zero =>
    intro i K acc h ha hK
    obtain ⟨K, rfl⟩ : ∃ q, K = q + 1 := ⟨K - 1, by omega⟩
    have hd : (l.take 8).drop i = [] := List.drop_of_length_le (by rw [List.length_take]; omega)
    rw [isobathlaw05_made.l0, decide_eq_false (show ¬ ((i : Int) < 8) by omega), hend i K acc (by omega) (by omega), hd]
    simp
  | succ m ih =>
    intro i K acc h ha hK
    obtain ⟨K, rfl⟩ : ∃ q, K = q + 3 := ⟨K - 3, by omega⟩
    rw [isobathlaw05_made.l0]
    by_cases hi : i < l.length
    · have hd : (l.take 8).drop i = l[i] :: (l.take 8).drop (i + 1) := by
        rw [List.drop_eq_getElem_cons (by rw [List.length_take]; omega), List.getElem_take]
      have hE : isobathlaw05_exchange.f start slow rate l[i].f0 l[i].f1 l[i].f2 l[i].f3 l[i].f4.f0 l[i].f4.f1 l[i].f4.f2 l[i].f4.f3 = some ((talkX start slow rate l[i]).f0, (talkX start slow rate l[i]).f1, (talkX start slow rate l[i]).f2, (talkX start slow rate l[i]).f3, (talkX start slow rate l[i]).f4.f0, (talkX start slow rate l[i]).f4.f1, (talkX start slow rate l[i]).f5.f0, (talkX start slow rate l[i]).f5.f1) := rfl
      have hih := fun acc' ha' => ih (i + 1) (K + 1) acc' (by omega) ha' (by omega)
      rw [if_pos (by omega), decide_eq_true (show (i : Int) < 8 by omega), isobathlaw05_made.j1, if_pos rfl, if_pos (by omega), if_pos (by omega), rd93_lt hi, hE, Option.bind_some, hd, List.map_cons]
      generalize talkX start slow rate l[i] = x at *
      dsimp only
      rw [ref_checkX, Option.bind_some, wrap_id (n := (i : Int) + 1) (by omega) (by omega), show ((i : Int) + 1) = ((i + 1 : Nat) : Int) by omega]
      cases hX : okX x with
      | true =>
        rw [if_pos rfl, if_pos rfl, if_pos (by omega), List.filter_cons_of_pos hX]
        have := hih (acc ++ [x]) (by rw [List.length_append, List.length_singleton]; omega)
        rw [List.append_assoc] at this
        exact this
      | false =>
        rw [if_neg (by decide), List.filter_cons_of_neg (by rw [hX]; decide)]
        exact hih acc (by omega)
    · have hd : (l.take 8).drop i = [] := List.drop_of_length_le (by rw [List.length_take]; omega)
      rw [if_neg (by omega), hend i (K + 2) acc (by omega) (by omega), hd]
      simp
theorem made_eq (start : Int) (slow : List Int) (rate par : Int) (l : List S93) {K : Nat} (hK : 100 ≤ K) : isobathlaw05_made.f K start slow par rate l = some (par, rate, madeL start slow rate l, (faceE par rate (madeL start slow rate l) == 0)) := by
  have := made_loop (start := start) (slow := slow) (rate := rate) (par := par) (l := l) 8 0 K [] rfl (Nat.le_refl _) (by omega)
  rw [List.drop_zero, List.nil_append] at this
  exact this
theorem made_holds {start rate : Int} {slow : List Int} {l : List S93} (hr0 : 0 ≤ rate) (hr1 : rate ≤ 1000000) (hT : RT start slow) (hl : ∀ x ∈ l, RX x) : ∀ x ∈ madeL start slow rate l, HoldsX rate (truthC start slow rate) x ∧ 0 ≤ x.f3 ∧ x.f3 ≤ 15065535 := by
  intro x hx
  have h1 := (List.mem_filter.1 hx).1
  obtain ⟨y, hy, rfl⟩ := List.mem_map.1 h1
  exact talk_holds hr0 hr1 hT (hl y (List.mem_of_mem_take hy))
theorem meetU_in {α : Type} {lo hi : α → Int} {V : Int} : ∀ (l : List α) (o : Int × Int), o.1 * 1000000000 ≤ V → V ≤ o.2 * 1000000000 → (∀ a ∈ l, lo a * 1000000000 ≤ V ∧ V ≤ hi a * 1000000000) → (meetU lo hi o l).1 * 1000000000 ≤ V ∧ V ≤ (meetU lo hi o l).2 * 1000000000
  | [], o, h1, h2, _ => ⟨h1, h2⟩
  | a :: l, o, h1, h2, h => by
    have ha := h a List.mem_cons_self
    exact meetU_in l _ (by dsimp only; omega) (by dsimp only; omega) (fun b hb => h b (List.mem_cons_of_mem _ hb))
theorem meetU_le {α : Type} {lo hi : α → Int} : ∀ (l : List α) (o : Int × Int), (o.1 ≤ (meetU lo hi o l).1 ∧ (meetU lo hi o l).2 ≤ o.2) ∧ ∀ a ∈ l, lo a ≤ (meetU lo hi o l).1 ∧ (meetU lo hi o l).2 ≤ hi a
  | [], o => ⟨⟨Int.le_refl _, Int.le_refl _⟩, fun a h => by cases h⟩
  | b :: l, o => by
    have ih := meetU_le (lo := lo) (hi := hi) l (max o.1 (lo b), min o.2 (hi b))
    have e : meetU lo hi o (b :: l) = meetU lo hi (max o.1 (lo b), min o.2 (hi b)) l := rfl
    rw [e]
    obtain ⟨⟨i1, i2⟩, i3⟩ := ih
    dsimp only at i1 i2
    refine ⟨⟨by omega, by omega⟩, fun a ha => ?_⟩
    rcases List.mem_cons.1 ha with rfl | ha
    · exact ⟨by omega, by omega⟩
    · exact i3 a ha
theorem gro_small {rate d : Int} (hr0 : 0 ≤ rate) (hr1 : rate ≤ 1000000) (hd : 0 ≤ d) : 0 ≤ gro rate d ∧ gro rate d ≤ d / 1000 + 1 := by
  rw [gro_ceil]
  have h1 := Int.mul_le_mul_of_nonneg_right hr1 hd
  have h2 := Int.mul_nonneg hr0 hd
  generalize rate * d = x at *
  omega
theorem lip_dis {rate : Int} {T : Int → Int} (hT : ∀ s t : Int, s ≤ t → -(rate * (t - s)) ≤ T t - T s ∧ T t - T s ≤ rate * (t - s)) (s t : Int) : T s - gro rate (dis s t) * 1000000000 ≤ T t ∧ T t ≤ T s + gro rate (dis s t) * 1000000000 := by
  have hg := gro_mul (rate := rate) (d := dis s t)
  by_cases h : s ≤ t
  · have := hT s t h
    rw [show dis s t = t - s by unfold dis; omega] at hg ⊢
    omega
  · have := hT t s (by omega)
    rw [show dis s t = s - t by unfold dis; omega] at hg ⊢
    omega
section
variable {par rate : Int} {xs : List S46} {T : Int → Int}
theorem at_holds (hf : faceE par rate xs = 0) (hT : ∀ s t : Int, s ≤ t → -(rate * (t - s)) ≤ T t - T s ∧ T t - T s ≤ rate * (t - s)) (hX : ∀ x ∈ xs, HoldsX rate T x ∧ 0 ≤ x.f3 ∧ x.f3 ≤ 15065535) {t : Int} (ht0 : -1125899906842624 ≤ t) (ht1 : t ≤ 2251799813685248) (hv : -2200000000000000000 ≤ T t ∧ T t ≤ 2200000000000000000) :
    ((atI rate (xs.map (anchorI rate)) t).1 * 1000000000 ≤ T t ∧ T t ≤ (atI rate (xs.map (anchorI rate)) t).2 * 1000000000) ∧
    (-1073741825 - (max t (-t) + 15065535) / 1000 ≤ (atI rate (xs.map (anchorI rate)) t).1 ∧ (atI rate (xs.map (anchorI rate)) t).1 ≤ 1073741825 + (max t (-t) + 15065535) / 1000) ∧ (-1073741825 - (max t (-t) + 15065535) / 1000 ≤ (atI rate (xs.map (anchorI rate)) t).2 ∧ (atI rate (xs.map (anchorI rate)) t).2 ≤ 1073741825 + (max t (-t) + 15065535) / 1000) := by
  obtain ⟨_, hr0, hr1⟩ := faceE_rate hf
  have h1 := (faceE_one hf).1
  rw [at_meetI hf ht0 ht1]
  have hin := meetU_in (lo := loX rate t) (hi := hiX rate t) (V := T t) xs top (by unfold top; dsimp only; omega) (by unfold top; dsimp only; omega) (fun x hx => by
    obtain ⟨⟨a1, a2⟩, _⟩ := hX x hx
    have := lip_dis hT x.f3 t
    unfold loX hiX
    omega)
  refine ⟨hin, ?_⟩
  cases xs with
  | nil => simp at h1
  | cons x l =>
    have hle := (meetU_le (lo := loX rate t) (hi := hiX rate t) (x :: l) top).2 x List.mem_cons_self
    have hE := (okE_iff hr0 hr1).1 (faceE_all hf x List.mem_cons_self)
    have hS := okS_iff.1 hE.2
    obtain ⟨_, b1, b2⟩ := hX x List.mem_cons_self
    have hg := gro_small hr0 hr1 (d := dis x.f3 t) (by unfold dis; omega)
    have hd : dis x.f3 t ≤ max t (-t) + 15065535 := by unfold dis; omega
    generalize meetU (loX rate t) (hiX rate t) top (x :: l) = M at *
    unfold loX hiX at hle
    generalize gro rate (dis x.f3 t) = g at *
    generalize dis x.f3 t = dd at *
    omega
theorem made_sound (hf : faceE par rate xs = 0) (hT : ∀ s t : Int, s ≤ t → -(rate * (t - s)) ≤ T t - T s ∧ T t - T s ≤ rate * (t - s)) (hX : ∀ x ∈ xs, HoldsX rate T x ∧ 0 ≤ x.f3 ∧ x.f3 ≤ 15065535) : findCon rate (xs.map (anchorI rate)) = none := by
  obtain ⟨_, hr0, hr1⟩ := faceE_rate hf
  unfold findCon
  rw [List.find?_eq_none]
  intro p hp
  obtain ⟨p0, p1, p2⟩ := mem_pairsL.1 hp
  have hv := va_all hf
  rw [conI_eq hr0 hr1 (by omega) (hv _ (rd_mem p0 (by omega))) (hv _ (rd_mem (by omega) p2))]
  obtain ⟨x, hx, ex⟩ := List.mem_map.1 (rd_mem (ys := xs.map (anchorI rate)) p0 (by omega))
  obtain ⟨y, hy, ey⟩ := List.mem_map.1 (rd_mem (ys := xs.map (anchorI rate)) (show 0 ≤ p.2 by omega) p2)
  rw [← ex, ← ey, anchor_eq hr0 hr1 ((okE_iff hr0 hr1).1 (faceE_all hf x hx)).1, anchor_eq hr0 hr1 ((okE_iff hr0 hr1).1 (faceE_all hf y hy)).1]
  obtain ⟨⟨a1, a2⟩, _⟩ := hX x hx
  obtain ⟨⟨b1, b2⟩, _⟩ := hX y hy
  have hl := lip_dis hT x.f3 y.f3
  unfold apartA
  dsimp only
  simp only [Bool.or_eq_true, decide_eq_true_eq]
  generalize gro rate (dis x.f3 y.f3) = g at *
  omega
end
end Go.Proofs.Ytcjdhajdoikojaa.Clk
end
section
/- The law ClockHolds, walked. -/
namespace Go.Proofs.Ytcjdhajdoikojaa.Clk
open Go.RowKit Go.Shelf Go.Proofs.YtcjdhajdoikojaaW.PrintWords Go.Proofs.YtcjdhajdoikojaaW.PrintLast Go.Proofs.YtcjdhajdoikojaaW.PrintMore Go.Proofs.Ytcjdhajdoikojaa.Pr Go.Proofs.YtcjdhajdoikojaaW.Round
set_option linter.unusedVariables false
set_option linter.unusedSimpArgs false
attribute [local go_sem] max2_int min2_int max_two min_two max_four
theorem holds_facts {start rate n : Int} {slow : List Int} {l : List S93} (h0 : 0 ≤ rate) (h1 : rate ≤ 1000000) (hT : RT start slow) (hl : ∀ x ∈ l, RX x) (n0 : 0 ≤ n) (n1 : n < 20000000) (hf : faceE (-1) rate (madeL start slow rate l) = 0) :
    ∃ P1 P2 Tn : Int, contraI (-1) rate (madeL start slow rate l) = (0, 0, 5) ∧ atE (-1) rate (madeL start slow rate l) n = 0 ∧ atV (-1) rate (madeL start slow rate l) n = (P1, P2) ∧ TimeE [⟨-1, rate, madeL start slow rate l⟩] 0 n = 0 ∧ TimeV [⟨-1, rate, madeL start slow rate l⟩] 0 n = (n + P1, n + P2) ∧
      isobathlaw05_Truth_offset.f 30 start slow rate n = some Tn ∧ (P1 * 1000000000 ≤ Tn ∧ Tn ≤ P2 * 1000000000) ∧ (-1074000000 ≤ P1 ∧ P1 ≤ 1074000000) ∧ (-1074000000 ≤ P2 ∧ P2 ≤ 1074000000) ∧ (-2200000000000000000 ≤ Tn ∧ Tn ≤ 2200000000000000000) := by
  have hc := made_holds h0 h1 hT hl
  have lip := fun a b (h : a ≤ b) => hT.lip (rate := rate) h0 (s := a) (t := b) h
  have hU := tof_eq h0 h1 (t := n) (by omega) (by omega) hT.2 hT.1.1 hT.1.2
  generalize madeL start slow rate l = xs at *
  have hs := made_sound hf lip hc
  have aU := at_holds hf lip hc (t := n) (by omega) (by omega) (by omega)
  have hE : atE (-1) rate xs n = 0 := by
    have hw : withinI n 0 1125899906842624 = 0 := by
      unfold withinI clock_within.f
      rw [if_neg (by omega), if_neg (by omega)]
      rfl
    unfold atE soundE
    rw [if_neg (by rw [hf]; decide), hw, if_neg (by decide), hs]
    rfl
  have hV : atV (-1) rate xs n = ((atI rate (xs.map (anchorI rate)) n).1, (atI rate (xs.map (anchorI rate)) n).2) := by
    unfold atV
    rw [if_pos hE]
  have hC : contraI (-1) rate xs = (0, 0, 5) := by
    unfold contraI
    rw [if_neg (by rw [hf]; decide), hs]
  have ht := one_time hE hV
  refine ⟨_, _, truthC start slow rate n, hC, hE, hV, ht.1, ht.2, hU.1 30 (by omega), ?_⟩
  generalize atI rate (xs.map (anchorI rate)) n = P at *
  obtain ⟨⟨u1, u2⟩, ⟨u3, u4⟩, u5, u6⟩ := aU
  have hm0 : max n (-n) = n := by omega
  rw [hm0] at u3 u4 u5 u6
  omega
set_option maxRecDepth 100000 in
set_option maxHeartbeats 4000000 in
theorem holds_walk (start : Int) (A1 : Option Addr) (c1 : Nat) (slow : List Int) (rate0 : Int) (A3 : Option Addr) (c3 : Nat) (l : List S93) (at0 : Int) (hT : RT start slow) (hl : ∀ x ∈ l, RX x) (hr0 : 0 ≤ rate0) (hr1 : rate0 ≤ 4294967295) (ha0 : 0 ≤ at0) (ha1 : at0 ≤ 4294967295) (w : World)
    (hC1 : Kd.C (Kd.int .i8) w A1 slow.length slow) (hc1 : slow.length ≤ c1) (hC3 : Kd.C k93 w A3 l.length l) (hc3 : l.length ≤ c3) :
    Calls Try.prog 7 #[.agg #[.int .i32 start, .slice A1 slow.length c1], .int .u32 rate0, .slice A3 l.length c3, .int .u32 at0] w (RetB (.bool true) w) := by
  have hu35 := Try.underlying35
  have hu30 := Try.underlying30
  have hu24 := Try.underlying24
  go_enter Try.func7, Try.ntmps7
  go_wp2_with fail
  have m4 : Blk (w.alloc (.cells #[.int .i32 start, .slice A1 slow.length c1] 24)) (w.heap.size) #[.int .i32 start, .slice A1 slow.length c1] 24 := (by have h_ := blk_new w (.cells #[.int .i32 start, .slice A1 slow.length c1] 24); first | exact h_ | (simp only [World.size_alloc] at h_; exact h_))
  have mB : Below w.heap.size w (w.alloc (.cells #[.int .i32 start, .slice A1 slow.length c1] 24)) := (below_alloc (Below.refl w.heap.size w) _)
  have hsz_ : w.heap.size ≤ w.heap.size := Nat.le_refl _
  generalize hW_ : (w.alloc (.cells #[.int .i32 start, .slice A1 slow.length c1] 24)) = W1 at m4 mB ⊢
  clear hW_
  generalize hg4 : w.heap.size = g4 at m4 ⊢
  have hG4 : w.heap.size ≤ g4 := by omega
  clear hsz_
  try clear hg4
  have hs_W1 : w.heap.size ≤ W1.heap.size := mB.size
  have hr : 0 ≤ rate0 % 1000001 ∧ rate0 % 1000001 ≤ 1000000 := by omega
  generalize rate0 % 1000001 = r at *
  obtain ⟨r0, r1⟩ := hr
  have hM := made_eq start slow r (-1) l (K := 100) (by omega)
  have hfx := fun n a b => holds_facts (n := n) r0 r1 hT hl a b
  have HX := Lib.hid hfx
  clear hfx
  generalize madeL start slow r l = xs at *
  have hcon := isobathlaw05_made.calls 100 start A1 c1 slow (-1) r A3 c3 l _ _ _ _ W1 (Kd.C_below hC1 mB) hc1 (Kd.C_below hC3 mB) hc3 hM
  clear hM
  (with_reducible refine hcon.mono ?_)
  clear hcon
  rintro e W2 ⟨v2, rfl, hR, hb⟩
  obtain ⟨A, c, rfl, hlen, hC⟩ := Kd.R_reads hR
  clear hR
  replace m4 := blk_below m4 hb
  replace mB := below_step mB hb
  clear hb
  have hs_W2 : w.heap.size ≤ W2.heap.size := mB.size
  have hz2 := HX.out
  have hb46 := hC.2.1
  generalize hEq : faceE (-1) r xs = E at *
  have HEq := Lib.hid hEq
  clear hEq hz2
  by_cases hz : E = 0
  case neg =>
    have z1 : (E == 0) = false := beq_eq_false_iff_ne.2 hz
    clear hz
    rw [z1]
    have c4_0 := (blk_cell m4 0).trans rfl
    have c4_1 := (blk_cell m4 1).trans rfl
    go_wp2_with fail
    have hcon := fun W_ => isobathlaw05_Works.calls true W_ isobathlaw05_Works.true_
    (with_reducible refine (hcon _).mono ?_)
    clear hcon
    rintro e Ww ⟨rfl, hb⟩
    replace mB := below_step (by repeat (first | exact mB | apply below_alloc)) hb
    go_wp2
    go_ret
    exact ⟨rfl, mB⟩
  case pos =>
    subst hz
    go_wp2_with fail
    replace hC := Kd.C_below hC (below_alloc (Below.refl _ W2) (.cells #[.int .i64 (-1), .int .i64 r, .slice A xs.length c] 30))
    have hl_4 := blk_lt m4
    have m10 : Blk (W2.alloc (.cells #[.int .i64 (-1), .int .i64 r, .slice A xs.length c] 30)) (W2.heap.size) #[.int .i64 (-1), .int .i64 r, .slice A xs.length c] 30 := (by have h_ := blk_new W2 (.cells #[.int .i64 (-1), .int .i64 r, .slice A xs.length c] 30); first | exact h_ | (simp only [World.size_alloc] at h_; exact h_))
    replace m4 : Blk (W2.alloc (.cells #[.int .i64 (-1), .int .i64 r, .slice A xs.length c] 30)) g4 #[.int .i32 start, .slice A1 slow.length c1] 24 := (blk_alloc m4 _)
    replace mB : Below w.heap.size w (W2.alloc (.cells #[.int .i64 (-1), .int .i64 r, .slice A xs.length c] 30)) := (below_alloc mB _)
    have hsz_ : w.heap.size ≤ W2.heap.size := hs_W2
    generalize hW_ : (W2.alloc (.cells #[.int .i64 (-1), .int .i64 r, .slice A xs.length c] 30)) = W3 at m4 m10 mB hC ⊢
    clear hW_
    generalize hg10 : W2.heap.size = g10 at m10 ⊢
    have hn_4_10 : g4 ≠ g10 := by omega
    have hn_10_4 : g10 ≠ g4 := hn_4_10.symm
    have hG10 : w.heap.size ≤ g10 := by omega
    clear hsz_ hl_4
    try clear hg10
    have hs_W3 : w.heap.size ≤ W3.heap.size := mB.size
    have hn : 0 ≤ at0 % 20000000 ∧ at0 % 20000000 < 20000000 := by omega
    generalize at0 % 20000000 = n at *
    obtain ⟨n0, n1⟩ := hn
    obtain ⟨P1, P2, Tn, k1, k2, k3, k4, k5, k6, ⟨b1, b2⟩, ⟨b3, b4⟩, ⟨b5, b6⟩, b7, b8⟩ := HX.out n n0 n1 (by trivial)
    clear HX
    have K1 := Lib.hid k1
    clear k1
    have K2 := Lib.hid k2
    clear k2
    have K3 := Lib.hid k3
    clear k3
    have K4 := Lib.hid k4
    clear k4
    have K5 := Lib.hid k5
    clear k5
    have K6 := Lib.hid k6
    clear k6
    have hcon := contra_any (-1) r A c xs W3 hC hlen
    (with_reducible refine hcon.mono ?_)
    clear hcon
    rintro e W4 ⟨rfl, hb⟩
    replace hC := Kd.C_below hC hb
    replace m4 := blk_below m4 hb
    replace m10 := blk_below m10 hb
    replace mB := below_step mB hb
    clear hb
    have hs_W4 : w.heap.size ≤ W4.heap.size := mB.size
    rw [K1.out]
    dsimp only
    have c10_0 := (blk_cell m10 0).trans rfl
    have c10_1 := (blk_cell m10 1).trans rfl
    have c10_2 := (blk_cell m10 2).trans rfl
    go_wp2_with fail
    clear c10_0
    clear c10_1
    clear c10_2
    have hcon := At_any (-1) r A c xs n W4 hC hlen
    (with_reducible refine hcon.mono ?_)
    clear hcon
    rintro e W5 ⟨rfl, hb⟩
    replace hC := Kd.C_below hC hb
    replace m4 := blk_below m4 hb
    replace m10 := blk_below m10 hb
    replace mB := below_step mB hb
    clear hb
    have hs_W5 : w.heap.size ≤ W5.heap.size := mB.size
    rw [K2.out, K3.out]
    dsimp only
    have c10_0 : ∀ o_, (W5.alloc o_).cell? ⟨g10, 0, none⟩ = some (.int .i64 (-1)) := fun o_ => (blk_cell (blk_alloc m10 o_) 0).trans rfl
    have c10_1 : ∀ o_, (W5.alloc o_).cell? ⟨g10, 1, none⟩ = some (.int .i64 r) := fun o_ => (blk_cell (blk_alloc m10 o_) 1).trans rfl
    have c10_2 : ∀ o_, (W5.alloc o_).cell? ⟨g10, 2, none⟩ = some (.slice A xs.length c) := fun o_ => (blk_cell (blk_alloc m10 o_) 2).trans rfl
    go_wp2_with fail
    clear c10_0
    clear c10_1
    clear c10_2
    replace hC := Kd.C_below hC (below_alloc (Below.refl _ W5) (.cells #[.int .i64 P1, .int .i64 P2] 35))
    replace hC := Kd.C_below hC (below_alloc (Below.refl _ (W5.alloc (.cells #[.int .i64 P1, .int .i64 P2] 35))) (.cells #[.int .i64 (-1), .int .i64 r, .slice A xs.length c] 30))
    have hl_4 := blk_lt m4
    have hl_10 := blk_lt m10
    have m16 : Blk ((W5.alloc (.cells #[.int .i64 P1, .int .i64 P2] 35)).alloc (.cells #[.int .i64 (-1), .int .i64 r, .slice A xs.length c] 30)) (W5.heap.size) #[.int .i64 P1, .int .i64 P2] 35 := (blk_alloc (by have h_ := blk_new W5 (.cells #[.int .i64 P1, .int .i64 P2] 35); first | exact h_ | (simp only [World.size_alloc] at h_; exact h_)) _)
    have mL : Blk ((W5.alloc (.cells #[.int .i64 P1, .int .i64 P2] 35)).alloc (.cells #[.int .i64 (-1), .int .i64 r, .slice A xs.length c] 30)) (W5.heap.size + 1) #[.int .i64 (-1), .int .i64 r, .slice A xs.length c] 30 := (by have h_ := blk_new (W5.alloc (.cells #[.int .i64 P1, .int .i64 P2] 35)) (.cells #[.int .i64 (-1), .int .i64 r, .slice A xs.length c] 30); first | exact h_ | (simp only [World.size_alloc] at h_; exact h_))
    replace m4 : Blk ((W5.alloc (.cells #[.int .i64 P1, .int .i64 P2] 35)).alloc (.cells #[.int .i64 (-1), .int .i64 r, .slice A xs.length c] 30)) g4 #[.int .i32 start, .slice A1 slow.length c1] 24 := (blk_alloc (blk_alloc m4 _) _)
    replace m10 : Blk ((W5.alloc (.cells #[.int .i64 P1, .int .i64 P2] 35)).alloc (.cells #[.int .i64 (-1), .int .i64 r, .slice A xs.length c] 30)) g10 #[.int .i64 (-1), .int .i64 r, .slice A xs.length c] 30 := (blk_alloc (blk_alloc m10 _) _)
    replace mB : Below w.heap.size w ((W5.alloc (.cells #[.int .i64 P1, .int .i64 P2] 35)).alloc (.cells #[.int .i64 (-1), .int .i64 r, .slice A xs.length c] 30)) := (below_alloc (below_alloc mB _) _)
    have hsz_ : w.heap.size ≤ W5.heap.size := hs_W5
    generalize hW_ : ((W5.alloc (.cells #[.int .i64 P1, .int .i64 P2] 35)).alloc (.cells #[.int .i64 (-1), .int .i64 r, .slice A xs.length c] 30)) = W6 at m4 m10 m16 mL mB hC ⊢
    clear hW_
    generalize hg16 : W5.heap.size = g16 at m16 mL ⊢
    have hn_4_16 : g4 ≠ g16 := by omega
    have hn_10_16 : g10 ≠ g16 := by omega
    have hn_16_4 : g16 ≠ g4 := hn_4_16.symm
    have hn_16_10 : g16 ≠ g10 := hn_10_16.symm
    have hG16 : w.heap.size ≤ g16 := by omega
    generalize hgL : g16 + 1 = gL at mL ⊢
    have hn_4_L : g4 ≠ gL := by omega
    have hn_10_L : g10 ≠ gL := by omega
    have hn_16_L : g16 ≠ gL := by omega
    have hn_L_4 : gL ≠ g4 := hn_4_L.symm
    have hn_L_10 : gL ≠ g10 := hn_10_L.symm
    have hn_L_16 : gL ≠ g16 := hn_16_L.symm
    have hGL : w.heap.size ≤ gL := by omega
    clear hsz_ hl_4 hl_10
    try clear hgL
    try clear hg16
    have hs_W6 : w.heap.size ≤ W6.heap.size := mB.size
    have hcon := Time_any (some ⟨gL, 0, none⟩) 1 [⟨-1, r, xs⟩] 0 n W6 (C_one30 mL hlen hC) (Nat.le_refl 1)
    dsimp only [List.length_cons, List.length_nil, Nat.zero_add] at hcon
    (with_reducible refine hcon.mono ?_)
    clear hcon
    rintro e W7 ⟨rfl, hb⟩
    replace hC := Kd.C_below hC hb
    replace m4 := blk_below m4 hb
    replace m10 := blk_below m10 hb
    replace m16 := blk_below m16 hb
    replace mL := blk_below mL hb
    replace mB := below_step mB hb
    clear hb
    have hs_W7 : w.heap.size ≤ W7.heap.size := mB.size
    rw [K4.out, K5.out]
    dsimp only
    have c4_0 : ∀ o_, (W7.alloc o_).cell? ⟨g4, 0, none⟩ = some (.int .i32 start) := fun o_ => (blk_cell (blk_alloc m4 o_) 0).trans rfl
    have c4_1 : ∀ o_, (W7.alloc o_).cell? ⟨g4, 1, none⟩ = some (.slice A1 slow.length c1) := fun o_ => (blk_cell (blk_alloc m4 o_) 1).trans rfl
    have c16_0 : ∀ o_, (W7.alloc o_).cell? ⟨g16, 0, none⟩ = some (.int .i64 P1) := fun o_ => (blk_cell (blk_alloc m16 o_) 0).trans rfl
    have c16_1 : ∀ o_, (W7.alloc o_).cell? ⟨g16, 1, none⟩ = some (.int .i64 P2) := fun o_ => (blk_cell (blk_alloc m16 o_) 1).trans rfl
    go_wp2_with fail
    clear c4_0
    clear c4_1
    clear c16_0
    clear c16_1
    have hl_4 := blk_lt m4
    have hl_10 := blk_lt m10
    have hl_16 := blk_lt m16
    have hl_L := blk_lt mL
    have m18 : Blk (W7.alloc (.cells #[.int .i64 (n + P1), .int .i64 (n + P2)] 35)) (W7.heap.size) #[.int .i64 (n + P1), .int .i64 (n + P2)] 35 := (by have h_ := blk_new W7 (.cells #[.int .i64 (n + P1), .int .i64 (n + P2)] 35); first | exact h_ | (simp only [World.size_alloc] at h_; exact h_))
    replace m4 : Blk (W7.alloc (.cells #[.int .i64 (n + P1), .int .i64 (n + P2)] 35)) g4 #[.int .i32 start, .slice A1 slow.length c1] 24 := (blk_alloc m4 _)
    replace m10 : Blk (W7.alloc (.cells #[.int .i64 (n + P1), .int .i64 (n + P2)] 35)) g10 #[.int .i64 (-1), .int .i64 r, .slice A xs.length c] 30 := (blk_alloc m10 _)
    replace m16 : Blk (W7.alloc (.cells #[.int .i64 (n + P1), .int .i64 (n + P2)] 35)) g16 #[.int .i64 P1, .int .i64 P2] 35 := (blk_alloc m16 _)
    replace mL : Blk (W7.alloc (.cells #[.int .i64 (n + P1), .int .i64 (n + P2)] 35)) gL #[.int .i64 (-1), .int .i64 r, .slice A xs.length c] 30 := (blk_alloc mL _)
    replace mB : Below w.heap.size w (W7.alloc (.cells #[.int .i64 (n + P1), .int .i64 (n + P2)] 35)) := (below_alloc mB _)
    have hsz_ : w.heap.size ≤ W7.heap.size := hs_W7
    generalize hW_ : (W7.alloc (.cells #[.int .i64 (n + P1), .int .i64 (n + P2)] 35)) = W8 at m4 m10 m16 mL m18 mB ⊢
    clear hW_
    generalize hg18 : W7.heap.size = g18 at m18 ⊢
    have hn_4_18 : g4 ≠ g18 := by omega
    have hn_10_18 : g10 ≠ g18 := by omega
    have hn_16_18 : g16 ≠ g18 := by omega
    have hn_L_18 : gL ≠ g18 := by omega
    have hn_18_4 : g18 ≠ g4 := hn_4_18.symm
    have hn_18_10 : g18 ≠ g10 := hn_10_18.symm
    have hn_18_16 : g18 ≠ g16 := hn_16_18.symm
    have hn_18_L : g18 ≠ gL := hn_L_18.symm
    have hG18 : w.heap.size ≤ g18 := by omega
    clear hsz_ hl_4 hl_10 hl_16 hl_L
    try clear hg18
    have hs_W8 : w.heap.size ≤ W8.heap.size := mB.size
    have hcon := isobathlaw05_Truth_offset.calls 30 start A1 c1 slow r n Tn W8 (Kd.C_below hC1 mB) hc1 K6.out
    (with_reducible refine hcon.mono ?_)
    clear hcon
    rintro e W9 ⟨rfl, hb⟩
    replace m4 := blk_below m4 hb
    replace m10 := blk_below m10 hb
    replace m16 := blk_below m16 hb
    replace mL := blk_below mL hb
    replace m18 := blk_below m18 hb
    replace mB := below_step mB hb
    clear hb
    have hs_W9 : w.heap.size ≤ W9.heap.size := mB.size
    have q1 : decide (Tn < P1 * 1000000000) = false := decide_eq_false (by omega)
    have q2 : decide (P2 * 1000000000 < Tn) = false := decide_eq_false (by omega)
    have q3 : decide ((n + P1) * 1000000000 ≤ n * 1000000000 + Tn) = true := decide_eq_true (by omega)
    have q4 : decide (n * 1000000000 + Tn ≤ (n + P2) * 1000000000) = true := decide_eq_true (by omega)
    have c16_0 := (blk_cell m16 0).trans rfl
    have c16_1 := (blk_cell m16 1).trans rfl
    have c18_0 := (blk_cell m18 0).trans rfl
    have c18_1 := (blk_cell m18 1).trans rfl
    go_wp2_with fail
    have hcon := fun W_ => isobathlaw05_Works.calls true W_ isobathlaw05_Works.true_
    (with_reducible refine (hcon _).mono ?_)
    clear hcon
    rintro e Ww ⟨rfl, hb⟩
    replace mB := below_step (by repeat (first | exact mB | apply below_alloc)) hb
    go_wp2
    go_ret
    exact ⟨rfl, mB⟩
end Go.Proofs.Ytcjdhajdoikojaa.Clk
end
section
/- The law ClockHolds as its row asks for it. -/
namespace Go.Proofs.Ytcjdhajdoikojaa.Hand
open Go.RowKit Go.Proofs.YtcjdhajdoikojaaW.PrintWords Go.Proofs.YtcjdhajdoikojaaW.PrintLast Go.Proofs.YtcjdhajdoikojaaW.PrintMore Go.Proofs.Ytcjdhajdoikojaa.Pr Go.Proofs.Ytcjdhajdoikojaa.Good Go.Proofs.Ytcjdhajdoikojaa.Clk
namespace Holds
theorem wf_u32 {x : Int} (h : (Lit.int .u32 x).wf = true) : 0 ≤ x ∧ x ≤ 4294967295 := by
  unfold Lit.wf at h
  simp only [Bool.and_eq_true, decide_eq_true_eq] at h
  exact ⟨h.1, h.2⟩
theorem wf_u16 {x : Int} (h : (Lit.int .u16 x).wf = true) : 0 ≤ x ∧ x ≤ 65535 := by
  unfold Lit.wf at h
  simp only [Bool.and_eq_true, decide_eq_true_eq] at h
  exact ⟨h.1, h.2⟩
theorem wf_i32 {x : Int} (h : (Lit.int .i32 x).wf = true) : -2147483648 ≤ x ∧ x ≤ 2147483647 := by
  unfold Lit.wf at h
  simp only [Bool.and_eq_true, decide_eq_true_eq] at h
  exact ⟨h.1, h.2⟩
theorem wf_i8 {x : Int} (h : (Lit.int .i8 x).wf = true) : -128 ≤ x ∧ x ≤ 127 := by
  unfold Lit.wf at h
  simp only [Bool.and_eq_true, decide_eq_true_eq] at h
  exact ⟨h.1, h.2⟩
theorem rx_of {x : S93} (h : W93 x) : RX x := by
  obtain ⟨h0, h1, h2, h3, h4⟩ := h
  obtain ⟨g0, g1, g2, g3⟩ := h4
  exact ⟨wf_u32 h0, wf_u16 h1, wf_u16 h2, wf_u16 h3, wf_u16 g0, wf_u16 g1, wf_u16 g2, wf_u16 g3⟩
theorem rt_of {start : Int} {slow : List Int} (h : W24 ⟨start, slow⟩) : RT start slow := by
  obtain ⟨h0, h1, _⟩ := h
  exact ⟨wf_i32 h0, fun y hy => wf_i8 (h1 y hy)⟩
end Holds
theorem clockHolds_row (start : Int) (A1 : Option Addr) (c1 : Nat) (slow : List Int) (rate : Int) (A3 : Option Addr) (c3 : Nat) (l : List S93) (n : Int)
    (g0 : W24 ⟨start, slow⟩) (w1 : (Lit.int .u32 rate).wf = true) (g2 : (∀ y ∈ l, W93 y) ∧ l.length * Try.prog.bytesOf 93 ≤ reachBytes) (w3 : (Lit.int .u32 n).wf = true) (w : World)
    (hC1 : Kd.C (Kd.int .i8) w A1 slow.length slow) (hc1 : slow.length ≤ c1) (hC3 : Kd.C k93 w A3 l.length l) (hc3 : l.length ≤ c3) :
    Calls Try.prog 7 #[.agg #[.int .i32 start, .slice A1 slow.length c1], .int .u32 rate, .slice A3 l.length c3, .int .u32 n] w (RetB (.bool true) w) :=
  holds_walk start A1 c1 slow rate A3 c3 l n (Holds.rt_of g0) (fun x hx => Holds.rx_of (g2.1 x hx)) (Holds.wf_u32 w1).1 (Holds.wf_u32 w1).2 (Holds.wf_u32 w3).1 (Holds.wf_u32 w3).2 w hC1 hc1 hC3 hc3
end Go.Proofs.Ytcjdhajdoikojaa.Hand
end
