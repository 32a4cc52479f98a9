/- Part 7 of the ground of ClockHolds, ClockSlow: what the functions compute. No condition. -/
import Derived.Test.YtcjdhajdoikojaaDha5
import Derived.Test.YtcjdhajdoikojaaDha6
section
/- The law ClockSlow, walked. -/
namespace Go.Proofs.Ytcjdhajdoikojaa.Clk
open Go.RowKit Go.Shelf Go.Proofs.YtcjdhajdoikojaaW.PrintWords Go.Proofs.YtcjdhajdoikojaaW.PrintLast Go.Proofs.YtcjdhajdoikojaaW.PrintMore Go.Proofs.Ytcjdhajdoikojaa.Pr Go.Proofs.YtcjdhajdoikojaaW.Round
set_option linter.unusedVariables false
set_option linter.unusedSimpArgs false
attribute [local go_sem] max2_int min2_int max_two min_two max_four
theorem atE_same {par rate : Int} {xs : List S46} {s t : Int} (h0 : 0 ≤ s) (h1 : s ≤ 1125899906842624) (h2 : 0 ≤ t) (h3 : t ≤ 1125899906842624) : atE par rate xs t = atE par rate xs s := by
  have hw : ∀ t : Int, 0 ≤ t → t ≤ 1125899906842624 → withinI t 0 1125899906842624 = 0 := fun t a b => by
    unfold withinI clock_within.f
    rw [if_neg (by omega), if_neg (by omega)]
    rfl
  unfold atE
  rw [hw s h0 h1, hw t h2 h3]
theorem slow_facts {par rate t later : Int} {xs : List S46} {P Q : Int × Int} (h : atE par rate xs t = 0) (h0 : 0 ≤ later) (h1 : later ≤ 4294967295) (h2 : t ≤ 562949953421312) (hP : atV par rate xs t = P) (hQ : atV par rate xs (t + later) = Q) :
    ∃ G, isobathref05_Growth.f 1 rate later = some G ∧ (0 ≤ G ∧ G ≤ 4294967295) ∧ ((P.1 - Q.1 ≤ G ∧ Q.1 - P.1 ≤ G) ∧ (P.2 - Q.2 ≤ G ∧ Q.2 - P.2 ≤ G)) ∧ (P.1 ≤ later + Q.1 ∧ P.2 ≤ later + Q.2) ∧ ((-2260000000000 ≤ P.1 ∧ P.1 ≤ 2260000000000) ∧ (-2260000000000 ≤ P.2 ∧ P.2 ≤ 2260000000000)) ∧ ((-2260000000000 ≤ Q.1 ∧ Q.1 ≤ 2260000000000) ∧ (-2260000000000 ≤ Q.2 ∧ Q.2 ≤ 2260000000000)) := by
  obtain ⟨hf, ht, hfc⟩ := atE_sound h
  obtain ⟨_, hr0, hr1⟩ := faceE_rate hf
  have h1y : 1 ≤ (xs.map (anchorI rate)).length := by rw [List.length_map]; exact (faceE_one hf).1
  have h' : atE par rate xs (t + later) = 0 := by rw [atE_same (s := t) ht.1 ht.2 (by omega) (by omega)]; exact h
  unfold atV at hP hQ
  rw [if_pos h] at hP
  rw [if_pos h'] at hQ
  subst hP
  subst hQ
  have hn := slow_near hf ht.1 (show t ≤ t + later by omega) (by omega)
  have hl := slow_later hf ht.1 (show t ≤ t + later by omega) (by omega)
  have hg := gro_self hr0 hr1 h0
  have r1 := atI_range hr0 hr1 (show -1125899906842624 ≤ t by omega) (show t ≤ 2251799813685248 by omega) (va_all hf) h1y
  have r2 := atI_range hr0 hr1 (show -1125899906842624 ≤ t + later by omega) (show t + later ≤ 2251799813685248 by omega) (va_all hf) h1y
  rw [show t + later - t = later by omega] at hn
  refine ⟨gro rate later, ?_, by omega, hn, by omega, r1, r2⟩
  rw [ref_growth 0 hr0 hr1 (by omega) (by omega), show max later (-later) = later by omega]
theorem one_time {par rate t : Int} {xs : List S46} {P : Int × Int} (h : atE par rate xs t = 0) (hP : atV par rate xs t = P) : TimeE [⟨-1, rate, xs⟩] 0 t = 0 ∧ TimeV [⟨-1, rate, xs⟩] 0 t = (t + P.1, t + P.2) := by
  obtain ⟨hf, ht, hfc⟩ := atE_sound h
  unfold atV at hP
  rw [if_pos h] at hP
  subst hP
  have hf1 : faceE (-1) rate xs = 0 := by
    have hr := faceE_rate hf
    have hl := faceE_len hf
    have h1 := (faceE_one hf).1
    have ha := faceE_all hf
    unfold faceE
    rw [if_neg (by omega), if_neg (by omega), if_pos (List.all_eq_true.2 ha)]
  have hh : houseE [⟨-1, rate, xs⟩] = 0 := by
    have e1 : firstErr [⟨-1, rate, xs⟩] = 0 := by
      unfold firstErr
      simp only [List.map_cons, List.map_nil]
      have c1 : cE ⟨-1, rate, xs⟩ = 0 := hf1
      rw [c1]
      rfl
    have e2 : parOK [⟨-1, rate, xs⟩] = true := rfl
    have e3 : [(⟨-1, rate, xs⟩ : S30)].any badC = false := by
      have b1 : badC ⟨-1, rate, xs⟩ = false := by
        show (findCon rate (xs.map (anchorI rate))).isSome = false
        rw [hfc]
        rfl
      rw [List.any_cons, b1]
      rfl
    unfold houseE
    rw [if_neg (by simp), if_neg (by rw [e1]; decide), if_neg (by rw [e2]; decide), if_neg (by rw [e3]; decide)]
  have hnot : ¬ ((0 : Int) < 0 ∨ (([⟨-1, rate, xs⟩] : List S30).length : Int) ≤ 0 ∨ okT t = false) := by
    have : okT t = true := okT_iff.2 ht
    rw [this]
    simp
  have hne : ¬ (houseE [⟨-1, rate, xs⟩] ≠ 0) := fun h => h hh
  unfold TimeV TimeE timeV timeE
  rw [if_neg hne, if_neg hnot, if_neg hne, if_neg hnot]
  refine ⟨rfl, ?_⟩
  show timeI [⟨-1, rate, xs⟩] 1 0 (t, t) = _
  have s1 : timeI [⟨-1, rate, xs⟩] 1 0 (t, t) = upI ⟨-1, rate, xs⟩ (t, t) := rfl
  rw [s1, step_eq hf1 (by dsimp only; omega) (by dsimp only; omega)]
/-- A row of one clock. -/
theorem C_one30 {W : World} {b : Nat} {par rate : Int} {A : Option Addr} {c : Nat} {xs : List S46} (h : Blk W b #[.int .i64 par, .int .i64 rate, .slice A xs.length c] 30) (hc : xs.length ≤ c) (hC : Kd.C k46 W A xs.length xs) : Kd.C k30 W (some ⟨b, 0, none⟩) 1 [⟨par, rate, xs⟩] := by
  refine ⟨rfl, by decide, fun _ => ⟨⟨b, 0, none⟩, rfl, fun j p hj => ?_⟩⟩
  match j, hj with
  | 0, hj =>
    obtain rfl : (⟨par, rate, xs⟩ : S30) = p := by simpa using hj
    refine ⟨_, rfl, k30_mk W ⟨par, rate, xs⟩ hc hC, fun i u hu => ?_⟩
    match i, hu with
    | 0, hu => exact ((blk_cell h 0).trans (by simpa using hu))
    | 1, hu => exact ((blk_cell h 1).trans (by simpa using hu))
    | 2, hu => exact ((blk_cell h 2).trans (by simpa using hu))
set_option maxRecDepth 100000 in
set_option maxHeartbeats 4000000 in
theorem slow_walk (par rate : Int) (A : Option Addr) (c : Nat) (xs : List S46) (t later : Int) (hl0 : 0 ≤ later) (hl1 : later ≤ 4294967295) (w : World) (hC : Kd.C k46 w A xs.length xs) (hc : xs.length ≤ c) :
    Calls Try.prog 5 #[.agg #[.int .i64 par, .int .i64 rate, .slice A xs.length c], .int .i64 t, .int .u32 later] w (RetB (.bool true) w) := by
  have hu35 := Try.underlying35
  have hu30 := Try.underlying30
  obtain ⟨lg, hlg⟩ : ∃ b, isobathlaw05_long.f par rate xs = some b := by
    unfold isobathlaw05_long.f
    split <;> (try split) <;> exact ⟨_, rfl⟩
  have hb46 := hC.2.1
  go_enter Try.func5, Try.ntmps5
  go_wp2_with fail
  have m3 : Blk (w.alloc (.cells #[.int .i64 par, .int .i64 rate, .slice A xs.length c] 30)) (w.heap.size) #[.int .i64 par, .int .i64 rate, .slice A xs.length c] 30 := (by have h_ := blk_new w (.cells #[.int .i64 par, .int .i64 rate, .slice A xs.length c] 30); first | exact h_ | (simp only [World.size_alloc] at h_; exact h_))
  have mB : Below w.heap.size w (w.alloc (.cells #[.int .i64 par, .int .i64 rate, .slice A xs.length c] 30)) := (below_alloc (Below.refl w.heap.size w) _)
  have hsz_ : w.heap.size ≤ w.heap.size := Nat.le_refl _
  generalize hW_ : (w.alloc (.cells #[.int .i64 par, .int .i64 rate, .slice A xs.length c] 30)) = W1 at m3 mB ⊢
  clear hW_
  generalize hg3 : w.heap.size = g3 at m3 ⊢
  have hG3 : w.heap.size ≤ g3 := by omega
  clear hsz_
  try clear hg3
  have hs_W1 : w.heap.size ≤ W1.heap.size := mB.size
  have hcon := isobathlaw05_long.calls par rate A c xs lg W1 (Kd.C_below hC mB) hc hlg
  (with_reducible refine hcon.mono ?_)
  clear hcon
  rintro e W2 ⟨rfl, hb⟩
  replace m3 := blk_below m3 hb
  replace mB := below_step mB hb
  clear hb
  have hs_W2 : w.heap.size ≤ W2.heap.size := mB.size
  cases lg with
  | true =>
    have c3_0 := (blk_cell m3 0).trans rfl
    have c3_1 := (blk_cell m3 1).trans rfl
    have c3_2 := (blk_cell m3 2).trans rfl
    go_wp2_with fail
    have hcon := isobathlaw05_Works.calls true W2 isobathlaw05_Works.true_
    (with_reducible refine hcon.mono ?_)
    clear hcon
    rintro e Ww ⟨rfl, hb⟩
    replace mB := below_step mB hb
    go_wp2
    go_ret
    exact ⟨rfl, mB⟩
  | false =>
    by_cases z1 : 12 < xs.length
    case pos =>
      have dz10 : decide ((12 : Int) < (xs.length : Int)) = true := decide_eq_true (by omega)
      have dz11 : decide (12 < xs.length) = true := decide_eq_true (by omega)
      have c3_0 := (blk_cell m3 0).trans rfl
      have c3_1 := (blk_cell m3 1).trans rfl
      have c3_2 := (blk_cell m3 2).trans rfl
      go_wp2_with fail
      have hcon := isobathlaw05_Works.calls true W2 isobathlaw05_Works.true_
      (with_reducible refine hcon.mono ?_)
      clear hcon
      rintro e Ww ⟨rfl, hb⟩
      replace mB := below_step mB hb
      go_wp2
      go_ret
      exact ⟨rfl, mB⟩
    case neg =>
      have dz10 : decide ((12 : Int) < (xs.length : Int)) = false := decide_eq_false (by omega)
      have dz11 : decide (12 < xs.length) = false := decide_eq_false (by omega)
      by_cases z2 : t < 0
      case pos =>
        have dz20 : decide (t < 0) = true := decide_eq_true (by omega)
        have c3_0 := (blk_cell m3 0).trans rfl
        have c3_1 := (blk_cell m3 1).trans rfl
        have c3_2 := (blk_cell m3 2).trans rfl
        go_wp2_with fail
        have hcon := isobathlaw05_Works.calls true W2 isobathlaw05_Works.true_
        (with_reducible refine hcon.mono ?_)
        clear hcon
        rintro e Ww ⟨rfl, hb⟩
        replace mB := below_step mB hb
        go_wp2
        go_ret
        exact ⟨rfl, mB⟩
      case neg =>
        have dz20 : decide (t < 0) = false := decide_eq_false (by omega)
        by_cases z3 : 562949953421312 < t
        case pos =>
          have dz30 : decide ((562949953421312 : Int) < t) = true := decide_eq_true (by omega)
          have c3_0 := (blk_cell m3 0).trans rfl
          have c3_1 := (blk_cell m3 1).trans rfl
          have c3_2 := (blk_cell m3 2).trans rfl
          go_wp2_with fail
          have hcon := isobathlaw05_Works.calls true W2 isobathlaw05_Works.true_
          (with_reducible refine hcon.mono ?_)
          clear hcon
          rintro e Ww ⟨rfl, hb⟩
          replace mB := below_step mB hb
          go_wp2
          go_ret
          exact ⟨rfl, mB⟩
        case neg =>
          have dz30 : decide ((562949953421312 : Int) < t) = false := decide_eq_false (by omega)
          have c3_0 := (blk_cell m3 0).trans rfl
          have c3_1 := (blk_cell m3 1).trans rfl
          have c3_2 := (blk_cell m3 2).trans rfl
          go_wp2_with fail
          clear c3_0
          clear c3_1
          clear c3_2
          have hcon := At_any par rate A c xs t W2 (Kd.C_below hC mB) hc
          (with_reducible refine hcon.mono ?_)
          clear hcon
          rintro e W3 ⟨rfl, hb⟩
          replace m3 := blk_below m3 hb
          replace mB := below_step mB hb
          clear hb
          have hs_W3 : w.heap.size ≤ W3.heap.size := mB.size
          generalize hP : atV par rate xs t = P
          have HP := Lib.hid hP
          clear hP
          have c3_0 : ∀ o_, (W3.alloc o_).cell? ⟨g3, 0, none⟩ = some (.int .i64 par) := fun o_ => (blk_cell (blk_alloc m3 o_) 0).trans rfl
          have c3_1 : ∀ o_, (W3.alloc o_).cell? ⟨g3, 1, none⟩ = some (.int .i64 rate) := fun o_ => (blk_cell (blk_alloc m3 o_) 1).trans rfl
          have c3_2 : ∀ o_, (W3.alloc o_).cell? ⟨g3, 2, none⟩ = some (.slice A xs.length c) := fun o_ => (blk_cell (blk_alloc m3 o_) 2).trans rfl
          go_wp2_with fail
          clear c3_0
          clear c3_1
          clear c3_2
          have hl_3 := blk_lt m3
          have m7 : Blk (W3.alloc (.cells #[.int .i64 P.1, .int .i64 P.2] 35)) (W3.heap.size) #[.int .i64 P.1, .int .i64 P.2] 35 := (by have h_ := blk_new W3 (.cells #[.int .i64 P.1, .int .i64 P.2] 35); first | exact h_ | (simp only [World.size_alloc] at h_; exact h_))
          replace m3 : Blk (W3.alloc (.cells #[.int .i64 P.1, .int .i64 P.2] 35)) g3 #[.int .i64 par, .int .i64 rate, .slice A xs.length c] 30 := (blk_alloc m3 _)
          replace mB : Below w.heap.size w (W3.alloc (.cells #[.int .i64 P.1, .int .i64 P.2] 35)) := (below_alloc mB _)
          have hsz_ : w.heap.size ≤ W3.heap.size := hs_W3
          generalize hW_ : (W3.alloc (.cells #[.int .i64 P.1, .int .i64 P.2] 35)) = W4 at m3 m7 mB ⊢
          clear hW_
          generalize hg7 : W3.heap.size = g7 at m7 ⊢
          have hn_3_7 : g3 ≠ g7 := by omega
          have hn_7_3 : g7 ≠ g3 := hn_3_7.symm
          have hG7 : w.heap.size ≤ g7 := by omega
          clear hsz_ hl_3
          try clear hg7
          have hs_W4 : w.heap.size ≤ W4.heap.size := mB.size
          have hcon := At_any par rate A c xs (t + later) W4 (Kd.C_below hC mB) hc
          (with_reducible refine hcon.mono ?_)
          clear hcon
          rintro e W5 ⟨rfl, hb⟩
          replace m3 := blk_below m3 hb
          replace m7 := blk_below m7 hb
          replace mB := below_step mB hb
          clear hb
          have hs_W5 : w.heap.size ≤ W5.heap.size := mB.size
          generalize hQ : atV par rate xs (t + later) = Q
          have HQ := Lib.hid hQ
          clear hQ
          rw [atE_same (par := par) (rate := rate) (xs := xs) (s := t) (t := t + later) (by omega) (by omega) (by omega) (by omega)]
          generalize hE1 : atE par rate xs t = E1
          have HE1 := Lib.hid hE1
          clear hE1
          by_cases hz : E1 = 0
          case neg =>
            have z1 : (E1 == 0) = false := beq_eq_false_iff_ne.2 hz
            have z2 : (E1 != 0) = true := by rw [bne, z1]; rfl
            clear hz
            have c3_0 : ∀ o_, (W5.alloc o_).cell? ⟨g3, 0, none⟩ = some (.int .i64 par) := fun o_ => (blk_cell (blk_alloc m3 o_) 0).trans rfl
            have c3_1 : ∀ o_, (W5.alloc o_).cell? ⟨g3, 1, none⟩ = some (.int .i64 rate) := fun o_ => (blk_cell (blk_alloc m3 o_) 1).trans rfl
            have c3_2 : ∀ o_, (W5.alloc o_).cell? ⟨g3, 2, none⟩ = some (.slice A xs.length c) := fun o_ => (blk_cell (blk_alloc m3 o_) 2).trans rfl
            have c7_0 : ∀ o_, (W5.alloc o_).cell? ⟨g7, 0, none⟩ = some (.int .i64 P.1) := fun o_ => (blk_cell (blk_alloc m7 o_) 0).trans rfl
            have c7_1 : ∀ o_, (W5.alloc o_).cell? ⟨g7, 1, none⟩ = some (.int .i64 P.2) := fun o_ => (blk_cell (blk_alloc m7 o_) 1).trans rfl
            go_wp2_with fail
            clear c3_0
            clear c3_1
            clear c3_2
            clear c7_0
            clear c7_1
            have hl_3 := blk_lt m3
            have hl_7 := blk_lt m7
            have m9 : Blk (W5.alloc (.cells #[.int .i64 Q.1, .int .i64 Q.2] 35)) (W5.heap.size) #[.int .i64 Q.1, .int .i64 Q.2] 35 := (by have h_ := blk_new W5 (.cells #[.int .i64 Q.1, .int .i64 Q.2] 35); first | exact h_ | (simp only [World.size_alloc] at h_; exact h_))
            replace m3 : Blk (W5.alloc (.cells #[.int .i64 Q.1, .int .i64 Q.2] 35)) g3 #[.int .i64 par, .int .i64 rate, .slice A xs.length c] 30 := (blk_alloc m3 _)
            replace m7 : Blk (W5.alloc (.cells #[.int .i64 Q.1, .int .i64 Q.2] 35)) g7 #[.int .i64 P.1, .int .i64 P.2] 35 := (blk_alloc m7 _)
            replace mB : Below w.heap.size w (W5.alloc (.cells #[.int .i64 Q.1, .int .i64 Q.2] 35)) := (below_alloc mB _)
            have hsz_ : w.heap.size ≤ W5.heap.size := hs_W5
            generalize hW_ : (W5.alloc (.cells #[.int .i64 Q.1, .int .i64 Q.2] 35)) = W6 at m3 m7 m9 mB ⊢
            clear hW_
            generalize hg9 : W5.heap.size = g9 at m9 ⊢
            have hn_3_9 : g3 ≠ g9 := by omega
            have hn_7_9 : g7 ≠ g9 := by omega
            have hn_9_3 : g9 ≠ g3 := hn_3_9.symm
            have hn_9_7 : g9 ≠ g7 := hn_7_9.symm
            have hG9 : w.heap.size ≤ g9 := by omega
            clear hsz_ hl_3 hl_7
            try clear hg9
            have hs_W6 : w.heap.size ≤ W6.heap.size := mB.size
            have c3_0 := (blk_cell m3 0).trans rfl
            have c3_1 := (blk_cell m3 1).trans rfl
            have c3_2 := (blk_cell m3 2).trans rfl
            go_wp2_with fail
            have hcon := isobathlaw05_Works.calls true W6 isobathlaw05_Works.true_
            (with_reducible refine hcon.mono ?_)
            clear hcon
            rintro e Ww ⟨rfl, hb⟩
            replace mB := below_step mB hb
            go_wp2
            go_ret
            exact ⟨rfl, mB⟩
          case pos =>
            have ok1 := HE1.out.trans hz
            have OK := Lib.hid ok1
            clear ok1
            subst hz
            have c3_0 : ∀ o_, (W5.alloc o_).cell? ⟨g3, 0, none⟩ = some (.int .i64 par) := fun o_ => (blk_cell (blk_alloc m3 o_) 0).trans rfl
            have c3_1 : ∀ o_, (W5.alloc o_).cell? ⟨g3, 1, none⟩ = some (.int .i64 rate) := fun o_ => (blk_cell (blk_alloc m3 o_) 1).trans rfl
            have c3_2 : ∀ o_, (W5.alloc o_).cell? ⟨g3, 2, none⟩ = some (.slice A xs.length c) := fun o_ => (blk_cell (blk_alloc m3 o_) 2).trans rfl
            have c7_0 : ∀ o_, (W5.alloc o_).cell? ⟨g7, 0, none⟩ = some (.int .i64 P.1) := fun o_ => (blk_cell (blk_alloc m7 o_) 0).trans rfl
            have c7_1 : ∀ o_, (W5.alloc o_).cell? ⟨g7, 1, none⟩ = some (.int .i64 P.2) := fun o_ => (blk_cell (blk_alloc m7 o_) 1).trans rfl
            go_wp2_with fail
            clear c3_0
            clear c3_1
            clear c3_2
            clear c7_0
            clear c7_1
            have hl_3 := blk_lt m3
            have hl_7 := blk_lt m7
            have m9 : Blk (W5.alloc (.cells #[.int .i64 Q.1, .int .i64 Q.2] 35)) (W5.heap.size) #[.int .i64 Q.1, .int .i64 Q.2] 35 := (by have h_ := blk_new W5 (.cells #[.int .i64 Q.1, .int .i64 Q.2] 35); first | exact h_ | (simp only [World.size_alloc] at h_; exact h_))
            replace m3 : Blk (W5.alloc (.cells #[.int .i64 Q.1, .int .i64 Q.2] 35)) g3 #[.int .i64 par, .int .i64 rate, .slice A xs.length c] 30 := (blk_alloc m3 _)
            replace m7 : Blk (W5.alloc (.cells #[.int .i64 Q.1, .int .i64 Q.2] 35)) g7 #[.int .i64 P.1, .int .i64 P.2] 35 := (blk_alloc m7 _)
            replace mB : Below w.heap.size w (W5.alloc (.cells #[.int .i64 Q.1, .int .i64 Q.2] 35)) := (below_alloc mB _)
            have hsz_ : w.heap.size ≤ W5.heap.size := hs_W5
            generalize hW_ : (W5.alloc (.cells #[.int .i64 Q.1, .int .i64 Q.2] 35)) = W6 at m3 m7 m9 mB ⊢
            clear hW_
            generalize hg9 : W5.heap.size = g9 at m9 ⊢
            have hn_3_9 : g3 ≠ g9 := by omega
            have hn_7_9 : g7 ≠ g9 := by omega
            have hn_9_3 : g9 ≠ g3 := hn_3_9.symm
            have hn_9_7 : g9 ≠ g7 := hn_7_9.symm
            have hG9 : w.heap.size ≤ g9 := by omega
            clear hsz_ hl_3 hl_7
            try clear hg9
            have hs_W6 : w.heap.size ≤ W6.heap.size := mB.size
            obtain ⟨G, hGr, ⟨G0, G1⟩, ⟨⟨n1, n2⟩, n3, n4⟩, ⟨m1, m2⟩, ⟨⟨p1, p2⟩, p3, p4⟩, ⟨⟨q1, q2⟩, q3, q4⟩⟩ := slow_facts OK.out hl0 hl1 (by omega) HP.out HQ.out
            have hcon := isobathref05_Growth.calls 1 rate later G W6 hGr
            (with_reducible refine hcon.mono ?_)
            clear hcon
            rintro e W7 ⟨rfl, hb⟩
            replace m3 := blk_below m3 hb
            replace m7 := blk_below m7 hb
            replace m9 := blk_below m9 hb
            replace mB := below_step mB hb
            clear hb
            have hs_W7 : w.heap.size ≤ W7.heap.size := mB.size
            clear hGr
            have c3_0 := (blk_cell m3 0).trans rfl
            have c3_1 := (blk_cell m3 1).trans rfl
            have c3_2 := (blk_cell m3 2).trans rfl
            have c7_0 := (blk_cell m7 0).trans rfl
            have c7_1 := (blk_cell m7 1).trans rfl
            have c9_0 := (blk_cell m9 0).trans rfl
            have c9_1 := (blk_cell m9 1).trans rfl
            have f3_0 := blk_frozen m3 0
            go_wp2_with fail
            all_goals
              clear c3_0
              clear c3_1
              clear c3_2
              clear c7_0
              clear c7_1
              clear c9_0
              clear c9_1
              clear f3_0
              have n3_ : Blk (W7.setCell ⟨g3, 0, none⟩ (.int .i64 (-1))) g3 #[.int .i64 (-1), .int .i64 rate, .slice A xs.length c] 30 := blk_put m3 0 _ rfl
              have n7_ : Blk (W7.setCell ⟨g3, 0, none⟩ (.int .i64 (-1))) g7 #[.int .i64 P.1, .int .i64 P.2] 35 := blk_far (p := ⟨g3, 0, none⟩) m7 hn_7_3 _
              have n9_ : Blk (W7.setCell ⟨g3, 0, none⟩ (.int .i64 (-1))) g9 #[.int .i64 Q.1, .int .i64 Q.2] 35 := blk_far (p := ⟨g3, 0, none⟩) m9 hn_9_3 _
              have nB_ : Below w.heap.size w (W7.setCell ⟨g3, 0, none⟩ (.int .i64 (-1))) := mB.setCell (p := ⟨g3, 0, none⟩) hG3 _
              have hsE_ : W7.heap.size = (W7.setCell ⟨g3, 0, none⟩ (.int .i64 (-1))).heap.size := by simp
              rw [hsE_]
              clear hsE_
              clear m3 m7 m9 mB
              generalize hW_ : (W7.setCell ⟨g3, 0, none⟩ (.int .i64 (-1))) = W8 at n3_ n7_ n9_ nB_ ⊢
              clear hW_
              have m3 := n3_
              clear n3_
              have m7 := n7_
              clear n7_
              have m9 := n9_
              clear n9_
              have mB := nB_
              clear nB_
              have hs_W8 : w.heap.size ≤ W8.heap.size := mB.size
              have hl_3 := blk_lt m3
              have hl_7 := blk_lt m7
              have hl_9 := blk_lt m9
              have mC : Blk (W8.alloc (.cells #[.int .i64 (-1), .int .i64 rate, .slice A xs.length c] 30)) (W8.heap.size) #[.int .i64 (-1), .int .i64 rate, .slice A xs.length c] 30 := (by have h_ := blk_new W8 (.cells #[.int .i64 (-1), .int .i64 rate, .slice A xs.length c] 30); first | exact h_ | (simp only [World.size_alloc] at h_; exact h_))
              replace m3 : Blk (W8.alloc (.cells #[.int .i64 (-1), .int .i64 rate, .slice A xs.length c] 30)) g3 #[.int .i64 (-1), .int .i64 rate, .slice A xs.length c] 30 := (blk_alloc m3 _)
              replace m7 : Blk (W8.alloc (.cells #[.int .i64 (-1), .int .i64 rate, .slice A xs.length c] 30)) g7 #[.int .i64 P.1, .int .i64 P.2] 35 := (blk_alloc m7 _)
              replace m9 : Blk (W8.alloc (.cells #[.int .i64 (-1), .int .i64 rate, .slice A xs.length c] 30)) g9 #[.int .i64 Q.1, .int .i64 Q.2] 35 := (blk_alloc m9 _)
              replace mB : Below w.heap.size w (W8.alloc (.cells #[.int .i64 (-1), .int .i64 rate, .slice A xs.length c] 30)) := (below_alloc mB _)
              have hsz_ : w.heap.size ≤ W8.heap.size := hs_W8
              generalize hW_ : (W8.alloc (.cells #[.int .i64 (-1), .int .i64 rate, .slice A xs.length c] 30)) = W9 at m3 m7 m9 mC mB ⊢
              clear hW_
              generalize hgC : W8.heap.size = gC at mC ⊢
              have hn_3_C : g3 ≠ gC := by omega
              have hn_7_C : g7 ≠ gC := by omega
              have hn_9_C : g9 ≠ gC := by omega
              have hn_C_3 : gC ≠ g3 := hn_3_C.symm
              have hn_C_7 : gC ≠ g7 := hn_7_C.symm
              have hn_C_9 : gC ≠ g9 := hn_9_C.symm
              have hGC : w.heap.size ≤ gC := by omega
              clear hsz_ hl_3 hl_7 hl_9
              try clear hgC
              have hs_W9 : w.heap.size ≤ W9.heap.size := mB.size
              have hcon := Time_any (some ⟨gC, 0, none⟩) 1 [⟨-1, rate, xs⟩] 0 t W9 (C_one30 mC hc (Kd.C_below hC mB)) (Nat.le_refl 1)
              dsimp only [List.length_cons, List.length_nil, Nat.zero_add] at hcon
              (with_reducible refine hcon.mono ?_)
              clear hcon
              rintro e W10 ⟨rfl, hb⟩
              replace m3 := blk_below m3 hb
              replace m7 := blk_below m7 hb
              replace m9 := blk_below m9 hb
              replace mC := blk_below mC hb
              replace mB := below_step mB hb
              clear hb
              have hs_W10 : w.heap.size ≤ W10.heap.size := mB.size
              rw [(one_time OK.out HP.out).1, (one_time OK.out HP.out).2]
              dsimp only
              have c3_0 : ∀ o_, (W10.alloc o_).cell? ⟨g3, 0, none⟩ = some (.int .i64 (-1)) := fun o_ => (blk_cell (blk_alloc m3 o_) 0).trans rfl
              have c3_1 : ∀ o_, (W10.alloc o_).cell? ⟨g3, 1, none⟩ = some (.int .i64 rate) := fun o_ => (blk_cell (blk_alloc m3 o_) 1).trans rfl
              have c3_2 : ∀ o_, (W10.alloc o_).cell? ⟨g3, 2, none⟩ = some (.slice A xs.length c) := fun o_ => (blk_cell (blk_alloc m3 o_) 2).trans rfl
              have c7_0 : ∀ o_, (W10.alloc o_).cell? ⟨g7, 0, none⟩ = some (.int .i64 P.1) := fun o_ => (blk_cell (blk_alloc m7 o_) 0).trans rfl
              have c7_1 : ∀ o_, (W10.alloc o_).cell? ⟨g7, 1, none⟩ = some (.int .i64 P.2) := fun o_ => (blk_cell (blk_alloc m7 o_) 1).trans rfl
              have c9_0 : ∀ o_, (W10.alloc o_).cell? ⟨g9, 0, none⟩ = some (.int .i64 Q.1) := fun o_ => (blk_cell (blk_alloc m9 o_) 0).trans rfl
              have c9_1 : ∀ o_, (W10.alloc o_).cell? ⟨g9, 1, none⟩ = some (.int .i64 Q.2) := fun o_ => (blk_cell (blk_alloc m9 o_) 1).trans rfl
              go_wp2_with fail
              clear c3_0
              clear c3_1
              clear c3_2
              clear c7_0
              clear c7_1
              clear c9_0
              clear c9_1
              have hl_3 := blk_lt m3
              have hl_7 := blk_lt m7
              have hl_9 := blk_lt m9
              have hl_C := blk_lt mC
              have m12 : Blk ((W10.alloc (.cells #[.int .i64 (t + P.1), .int .i64 (t + P.2)] 35)).alloc (.cells #[.int .i64 (-1), .int .i64 rate, .slice A xs.length c] 30)) (W10.heap.size) #[.int .i64 (t + P.1), .int .i64 (t + P.2)] 35 := (blk_alloc (by have h_ := blk_new W10 (.cells #[.int .i64 (t + P.1), .int .i64 (t + P.2)] 35); first | exact h_ | (simp only [World.size_alloc] at h_; exact h_)) _)
              have mD : Blk ((W10.alloc (.cells #[.int .i64 (t + P.1), .int .i64 (t + P.2)] 35)).alloc (.cells #[.int .i64 (-1), .int .i64 rate, .slice A xs.length c] 30)) (W10.heap.size + 1) #[.int .i64 (-1), .int .i64 rate, .slice A xs.length c] 30 := (by have h_ := blk_new (W10.alloc (.cells #[.int .i64 (t + P.1), .int .i64 (t + P.2)] 35)) (.cells #[.int .i64 (-1), .int .i64 rate, .slice A xs.length c] 30); first | exact h_ | (simp only [World.size_alloc] at h_; exact h_))
              replace m3 : Blk ((W10.alloc (.cells #[.int .i64 (t + P.1), .int .i64 (t + P.2)] 35)).alloc (.cells #[.int .i64 (-1), .int .i64 rate, .slice A xs.length c] 30)) g3 #[.int .i64 (-1), .int .i64 rate, .slice A xs.length c] 30 := (blk_alloc (blk_alloc m3 _) _)
              replace m7 : Blk ((W10.alloc (.cells #[.int .i64 (t + P.1), .int .i64 (t + P.2)] 35)).alloc (.cells #[.int .i64 (-1), .int .i64 rate, .slice A xs.length c] 30)) g7 #[.int .i64 P.1, .int .i64 P.2] 35 := (blk_alloc (blk_alloc m7 _) _)
              replace m9 : Blk ((W10.alloc (.cells #[.int .i64 (t + P.1), .int .i64 (t + P.2)] 35)).alloc (.cells #[.int .i64 (-1), .int .i64 rate, .slice A xs.length c] 30)) g9 #[.int .i64 Q.1, .int .i64 Q.2] 35 := (blk_alloc (blk_alloc m9 _) _)
              replace mC : Blk ((W10.alloc (.cells #[.int .i64 (t + P.1), .int .i64 (t + P.2)] 35)).alloc (.cells #[.int .i64 (-1), .int .i64 rate, .slice A xs.length c] 30)) gC #[.int .i64 (-1), .int .i64 rate, .slice A xs.length c] 30 := (blk_alloc (blk_alloc mC _) _)
              replace mB : Below w.heap.size w ((W10.alloc (.cells #[.int .i64 (t + P.1), .int .i64 (t + P.2)] 35)).alloc (.cells #[.int .i64 (-1), .int .i64 rate, .slice A xs.length c] 30)) := (below_alloc (below_alloc mB _) _)
              have hsz_ : w.heap.size ≤ W10.heap.size := hs_W10
              generalize hW_ : ((W10.alloc (.cells #[.int .i64 (t + P.1), .int .i64 (t + P.2)] 35)).alloc (.cells #[.int .i64 (-1), .int .i64 rate, .slice A xs.length c] 30)) = W11 at m3 m7 m9 mC m12 mD mB ⊢
              clear hW_
              generalize hg12 : W10.heap.size = g12 at m12 mD ⊢
              have hn_3_12 : g3 ≠ g12 := by omega
              have hn_7_12 : g7 ≠ g12 := by omega
              have hn_9_12 : g9 ≠ g12 := by omega
              have hn_C_12 : gC ≠ g12 := by omega
              have hn_12_3 : g12 ≠ g3 := hn_3_12.symm
              have hn_12_7 : g12 ≠ g7 := hn_7_12.symm
              have hn_12_9 : g12 ≠ g9 := hn_9_12.symm
              have hn_12_C : g12 ≠ gC := hn_C_12.symm
              have hG12 : w.heap.size ≤ g12 := by omega
              generalize hgD : g12 + 1 = gD at mD ⊢
              have hn_3_D : g3 ≠ gD := by omega
              have hn_7_D : g7 ≠ gD := by omega
              have hn_9_D : g9 ≠ gD := by omega
              have hn_C_D : gC ≠ gD := by omega
              have hn_12_D : g12 ≠ gD := by omega
              have hn_D_3 : gD ≠ g3 := hn_3_D.symm
              have hn_D_7 : gD ≠ g7 := hn_7_D.symm
              have hn_D_9 : gD ≠ g9 := hn_9_D.symm
              have hn_D_C : gD ≠ gC := hn_C_D.symm
              have hn_D_12 : gD ≠ g12 := hn_12_D.symm
              have hGD : w.heap.size ≤ gD := by omega
              clear hsz_ hl_3 hl_7 hl_9 hl_C
              try clear hgD
              try clear hg12
              have hs_W11 : w.heap.size ≤ W11.heap.size := mB.size
              have hcon := Time_any (some ⟨gD, 0, none⟩) 1 [⟨-1, rate, xs⟩] 0 (t + later) W11 (C_one30 mD hc (Kd.C_below hC mB)) (Nat.le_refl 1)
              dsimp only [List.length_cons, List.length_nil, Nat.zero_add] at hcon
              (with_reducible refine hcon.mono ?_)
              clear hcon
              rintro e W12 ⟨rfl, hb⟩
              replace m3 := blk_below m3 hb
              replace m7 := blk_below m7 hb
              replace m9 := blk_below m9 hb
              replace mC := blk_below mC hb
              replace m12 := blk_below m12 hb
              replace mD := blk_below mD hb
              replace mB := below_step mB hb
              clear hb
              have hs_W12 : w.heap.size ≤ W12.heap.size := mB.size
              have OK2 := Lib.hid ((atE_same (par := par) (rate := rate) (xs := xs) (s := t) (t := t + later) (by omega) (by omega) (by omega) (by omega)).trans OK.out)
              rw [(one_time OK2.out HQ.out).1, (one_time OK2.out HQ.out).2]
              dsimp only
              have k1_ : decide (t + P.1 ≤ t + later + Q.1) = true := decide_eq_true (by omega)
              have k2_ : decide (t + P.2 ≤ t + later + Q.2) = true := decide_eq_true (by omega)
              have c3_0 : ∀ o_, (W12.alloc o_).cell? ⟨g3, 0, none⟩ = some (.int .i64 (-1)) := fun o_ => (blk_cell (blk_alloc m3 o_) 0).trans rfl
              have c3_1 : ∀ o_, (W12.alloc o_).cell? ⟨g3, 1, none⟩ = some (.int .i64 rate) := fun o_ => (blk_cell (blk_alloc m3 o_) 1).trans rfl
              have c3_2 : ∀ o_, (W12.alloc o_).cell? ⟨g3, 2, none⟩ = some (.slice A xs.length c) := fun o_ => (blk_cell (blk_alloc m3 o_) 2).trans rfl
              have c7_0 : ∀ o_, (W12.alloc o_).cell? ⟨g7, 0, none⟩ = some (.int .i64 P.1) := fun o_ => (blk_cell (blk_alloc m7 o_) 0).trans rfl
              have c7_1 : ∀ o_, (W12.alloc o_).cell? ⟨g7, 1, none⟩ = some (.int .i64 P.2) := fun o_ => (blk_cell (blk_alloc m7 o_) 1).trans rfl
              have c9_0 : ∀ o_, (W12.alloc o_).cell? ⟨g9, 0, none⟩ = some (.int .i64 Q.1) := fun o_ => (blk_cell (blk_alloc m9 o_) 0).trans rfl
              have c9_1 : ∀ o_, (W12.alloc o_).cell? ⟨g9, 1, none⟩ = some (.int .i64 Q.2) := fun o_ => (blk_cell (blk_alloc m9 o_) 1).trans rfl
              have c12_0 : ∀ o_, (W12.alloc o_).cell? ⟨g12, 0, none⟩ = some (.int .i64 (t + P.1)) := fun o_ => (blk_cell (blk_alloc m12 o_) 0).trans rfl
              have c12_1 : ∀ o_, (W12.alloc o_).cell? ⟨g12, 1, none⟩ = some (.int .i64 (t + P.2)) := fun o_ => (blk_cell (blk_alloc m12 o_) 1).trans rfl
              go_wp2_with fail
              clear c3_0
              clear c3_1
              clear c3_2
              clear c7_0
              clear c7_1
              clear c9_0
              clear c9_1
              clear c12_0
              clear c12_1
              have hcon := isobathlaw05_Works.calls true (W12.alloc (.cells #[.int .i64 (t + later + Q.1), .int .i64 (t + later + Q.2)] 35)) isobathlaw05_Works.true_
              (with_reducible refine hcon.mono ?_)
              clear hcon
              rintro e Ww ⟨rfl, hb⟩
              replace mB := below_step (below_alloc mB _) hb
              go_wp2
              go_ret
              exact ⟨rfl, mB⟩
end Go.Proofs.Ytcjdhajdoikojaa.Clk
end
