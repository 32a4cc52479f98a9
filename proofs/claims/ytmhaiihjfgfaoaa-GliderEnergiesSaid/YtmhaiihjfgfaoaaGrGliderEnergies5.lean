/- Part 5 of the proof of GliderEnergies: what the functions compute. No condition. -/
import Derived.Test.YtmhaiihjfgfaoaaGrGliderEnergies1
import Derived.Test.YtmhaiihjfgfaoaaGrGliderEnergies4
import Derived.Test.YtmhaiihjfgfaoaaGrGliderEnergies3
section
namespace Go.Proofs.Ytmhaiihjfgfaoaa.Pr
open Go.RowKit Go.Proofs.YtmhaiihjfgfaoaaW.PrintWords Go.Proofs.YtmhaiihjfgfaoaaW.PrintLast Go.Proofs.YtmhaiihjfgfaoaaW.PrintMore
attribute [local go_sem] max2_int min2_int max_two min_two max_four
set_option linter.unusedVariables false
set_option linter.unusedSimpArgs false

/-! ### isobathref03_courses: function 81 -/
def isobathref03_courses.l0 : Nat → List (S33) → Int → Int → Option (Int)
  | 0, _, _, _ => none
  | k + 1, x0, x1, x5 => if x5 < (x0.length : Int) then (if 0 ≤ x5 then (if ((rd_T33 x0 x5).f0) < 0 then (some 2) else (if ((rd_T33 x0 x5).f0) > 8 then (some 2) else (if ((rd_T33 x0 x5).f1) < 0 then (some 2) else (if x1 ≥ 0 then (if ((rd_T33 x0 x5).f1) ≥ x1 then (some 2) else (isobathref03_courses.l0 k x0 x1 (wrap64 (x5 + 1)))) else (isobathref03_courses.l0 k x0 x1 (wrap64 (x5 + 1))))))) else (none)) else (some 0)
def isobathref03_courses.f (k : Nat) (l0 : List (S33)) (a1 : Int) : Option (Int) := if (l0.length : Int) > 64 then (some 6) else (isobathref03_courses.l0 k l0 a1 0)
set_option maxHeartbeats 8000000 in
set_option maxRecDepth 100000 in
theorem isobathref03_courses.calls (k : Nat) (A0 : Option Addr) (c0 : Nat) (l0 : List (S33)) (a1 : Int) (r : Int) (w : World) (hr0 : Kd.C k33 w A0 l0.length l0) (hc0 : l0.length ≤ c0) (h : isobathref03_courses.f k l0 a1 = some r) :
    Calls Try.prog 81 #[.slice A0 l0.length c0, .int .i64 a1] w fun e w' => e = .returned (.int .i64 r) ∧ Drawn0 w w' := by
  have HR0 := Aside0.mk hr0
  have HC0 := Aside0.mk hc0
  clear hr0 hc0
  have H : (if (l0.length : Int) > 64 then (some 6) else (isobathref03_courses.l0 k l0 a1 0)) = some r := h
  clear h
  by_cases c3 : (l0.length : Int) > 64
  · rw [if_pos c3] at H
    have c3b0 : decide (64 < (l0.length : Int)) = true := decide_eq_true c3
    have c3b1 : decide (64 < l0.length) = true := decide_eq_true (by omega)
    clear c3
    obtain rfl := Option.some.inj H
    go_enter Try.func81, Try.ntmps81
    go_wp2
    go_ret
    exact ⟨zq2, zq3⟩
  · rw [if_neg c3] at H
    have c3b0 : decide (64 < (l0.length : Int)) = false := decide_eq_false c3
    have c3b1 : decide (64 < l0.length) = false := decide_eq_false (by omega)
    clear c3
    have H' := Aside0.mk H
    clear H
    go_enter Try.func81, Try.ntmps81
    go_wp2
    go_loopg [5] k (fun kq v5 w' => ∃ (x5_1 : Int), v5 = .int .i64 x5_1 ∧ Aside0 (isobathref03_courses.l0 kq l0 a1 x5_1 = some r) ∧ Aside0 (kq ≤ k) ∧ Drawn0 w w')
    case atStart => exact ⟨(0), zq2, H', ⟨Nat.le_refl _⟩, zq3⟩
    case round =>
      clear H'
      try clear p2
      try clear c3
      try clear c3b0
      try clear c3b1
      obtain ⟨x5_1, rfl, HA, HK1, ⟨m1, rfl⟩⟩ := hrel
      cases gk with
      | zero => exact absurd HA.out (by simp [isobathref03_courses.l0])
      | succ k1 =>
        have H := HA.out
        clear HA
        simp only [isobathref03_courses.l0] at H
        by_cases c4 : x5_1 < (l0.length : Int)
        · rw [if_pos c4] at H
          have c4b0 : decide (x5_1 < (l0.length : Int)) = true := decide_eq_true c4
          clear c4
          by_cases c5 : 0 ≤ x5_1
          · rw [if_pos c5] at H
            have c5b0 : decide (0 ≤ x5_1) = true := decide_eq_true c5
            clear c5
            by_cases c6 : ((rd_T33 l0 x5_1).f0) < 0
            · rw [if_pos c6] at H
              have c6b0 : decide (((rd_T33 l0 x5_1).f0) < 0) = true := decide_eq_true c6
              clear c6
              obtain rfl := Option.some.inj H
              have p398 : 0 ≤ (x5_1 : Int) := of_decide_eq_true zq4
              have q398 : x5_1 < (l0.length : Int) := of_decide_eq_true zq4
              obtain ⟨ad398, e398, hx398_0, hx398_1⟩ := at_T33 HR0.out x5_1 p398 q398
              cases e398
              replace p398 := eq_true p398
              replace q398 := eq_true q398
              go_wp2
              go_ret
              exact ⟨zq2, zq3⟩
            · rw [if_neg c6] at H
              have c6b0 : decide (((rd_T33 l0 x5_1).f0) < 0) = false := decide_eq_false c6
              clear c6
              by_cases c7 : ((rd_T33 l0 x5_1).f0) > 8
              · rw [if_pos c7] at H
                have c7b0 : decide (8 < ((rd_T33 l0 x5_1).f0)) = true := decide_eq_true c7
                clear c7
                obtain rfl := Option.some.inj H
                have p398 : 0 ≤ (x5_1 : Int) := of_decide_eq_true zq4
                have q398 : x5_1 < (l0.length : Int) := of_decide_eq_true zq4
                obtain ⟨ad398, e398, hx398_0, hx398_1⟩ := at_T33 HR0.out x5_1 p398 q398
                cases e398
                replace p398 := eq_true p398
                replace q398 := eq_true q398
                have p399 : 0 ≤ (x5_1 : Int) := of_decide_eq_true zq4
                have q399 : x5_1 < (l0.length : Int) := of_decide_eq_true zq4
                obtain ⟨ad399, e399, hx399_0, hx399_1⟩ := at_T33 HR0.out x5_1 p399 q399
                obtain rfl : ad398 = ad399 := (by injection e399)
                replace p399 := eq_true p399
                replace q399 := eq_true q399
                go_wp2
                go_ret
                exact ⟨zq2, zq3⟩
              · rw [if_neg c7] at H
                have c7b0 : decide (8 < ((rd_T33 l0 x5_1).f0)) = false := decide_eq_false c7
                clear c7
                by_cases c8 : ((rd_T33 l0 x5_1).f1) < 0
                · rw [if_pos c8] at H
                  have c8b0 : decide (((rd_T33 l0 x5_1).f1) < 0) = true := decide_eq_true c8
                  clear c8
                  obtain rfl := Option.some.inj H
                  have p398 : 0 ≤ (x5_1 : Int) := of_decide_eq_true zq4
                  have q398 : x5_1 < (l0.length : Int) := of_decide_eq_true zq4
                  obtain ⟨ad398, e398, hx398_0, hx398_1⟩ := at_T33 HR0.out x5_1 p398 q398
                  cases e398
                  replace p398 := eq_true p398
                  replace q398 := eq_true q398
                  have p399 : 0 ≤ (x5_1 : Int) := of_decide_eq_true zq4
                  have q399 : x5_1 < (l0.length : Int) := of_decide_eq_true zq4
                  obtain ⟨ad399, e399, hx399_0, hx399_1⟩ := at_T33 HR0.out x5_1 p399 q399
                  obtain rfl : ad398 = ad399 := (by injection e399)
                  replace p399 := eq_true p399
                  replace q399 := eq_true q399
                  have p400 : 0 ≤ (x5_1 : Int) := of_decide_eq_true zq4
                  have q400 : x5_1 < (l0.length : Int) := of_decide_eq_true zq4
                  obtain ⟨ad400, e400, hx400_0, hx400_1⟩ := at_T33 HR0.out x5_1 p400 q400
                  obtain rfl : ad398 = ad400 := (by injection e400)
                  replace p400 := eq_true p400
                  replace q400 := eq_true q400
                  go_wp2
                  go_ret
                  exact ⟨zq2, zq3⟩
                · rw [if_neg c8] at H
                  have c8b0 : decide (((rd_T33 l0 x5_1).f1) < 0) = false := decide_eq_false c8
                  clear c8
                  by_cases c9 : a1 ≥ 0
                  · rw [if_pos c9] at H
                    have c9b0 : decide (0 ≤ a1) = true := decide_eq_true c9
                    clear c9
                    by_cases c10 : ((rd_T33 l0 x5_1).f1) ≥ a1
                    · rw [if_pos c10] at H
                      have c10b0 : decide (a1 ≤ ((rd_T33 l0 x5_1).f1)) = true := decide_eq_true c10
                      clear c10
                      obtain rfl := Option.some.inj H
                      have p398 : 0 ≤ (x5_1 : Int) := of_decide_eq_true zq4
                      have q398 : x5_1 < (l0.length : Int) := of_decide_eq_true zq4
                      obtain ⟨ad398, e398, hx398_0, hx398_1⟩ := at_T33 HR0.out x5_1 p398 q398
                      cases e398
                      replace p398 := eq_true p398
                      replace q398 := eq_true q398
                      have p399 : 0 ≤ (x5_1 : Int) := of_decide_eq_true zq4
                      have q399 : x5_1 < (l0.length : Int) := of_decide_eq_true zq4
                      obtain ⟨ad399, e399, hx399_0, hx399_1⟩ := at_T33 HR0.out x5_1 p399 q399
                      obtain rfl : ad398 = ad399 := (by injection e399)
                      replace p399 := eq_true p399
                      replace q399 := eq_true q399
                      have p400 : 0 ≤ (x5_1 : Int) := of_decide_eq_true zq4
                      have q400 : x5_1 < (l0.length : Int) := of_decide_eq_true zq4
                      obtain ⟨ad400, e400, hx400_0, hx400_1⟩ := at_T33 HR0.out x5_1 p400 q400
                      obtain rfl : ad398 = ad400 := (by injection e400)
                      replace p400 := eq_true p400
                      replace q400 := eq_true q400
                      have p401 : 0 ≤ (x5_1 : Int) := of_decide_eq_true zq4
                      have q401 : x5_1 < (l0.length : Int) := of_decide_eq_true zq4
                      obtain ⟨ad401, e401, hx401_0, hx401_1⟩ := at_T33 HR0.out x5_1 p401 q401
                      obtain rfl : ad398 = ad401 := (by injection e401)
                      replace p401 := eq_true p401
                      replace q401 := eq_true q401
                      go_wp2
                      go_ret
                      exact ⟨zq2, zq3⟩
                    · rw [if_neg c10] at H
                      have c10b0 : decide (a1 ≤ ((rd_T33 l0 x5_1).f1)) = false := decide_eq_false c10
                      clear c10
                      have H' := Aside0.mk H
                      clear H
                      have p398 : 0 ≤ (x5_1 : Int) := of_decide_eq_true zq4
                      have q398 : x5_1 < (l0.length : Int) := of_decide_eq_true zq4
                      obtain ⟨ad398, e398, hx398_0, hx398_1⟩ := at_T33 HR0.out x5_1 p398 q398
                      cases e398
                      replace p398 := eq_true p398
                      replace q398 := eq_true q398
                      have p399 : 0 ≤ (x5_1 : Int) := of_decide_eq_true zq4
                      have q399 : x5_1 < (l0.length : Int) := of_decide_eq_true zq4
                      obtain ⟨ad399, e399, hx399_0, hx399_1⟩ := at_T33 HR0.out x5_1 p399 q399
                      obtain rfl : ad398 = ad399 := (by injection e399)
                      replace p399 := eq_true p399
                      replace q399 := eq_true q399
                      have p400 : 0 ≤ (x5_1 : Int) := of_decide_eq_true zq4
                      have q400 : x5_1 < (l0.length : Int) := of_decide_eq_true zq4
                      obtain ⟨ad400, e400, hx400_0, hx400_1⟩ := at_T33 HR0.out x5_1 p400 q400
                      obtain rfl : ad398 = ad400 := (by injection e400)
                      replace p400 := eq_true p400
                      replace q400 := eq_true q400
                      have p401 : 0 ≤ (x5_1 : Int) := of_decide_eq_true zq4
                      have q401 : x5_1 < (l0.length : Int) := of_decide_eq_true zq4
                      obtain ⟨ad401, e401, hx401_0, hx401_1⟩ := at_T33 HR0.out x5_1 p401 q401
                      obtain rfl : ad398 = ad401 := (by injection e401)
                      replace p401 := eq_true p401
                      replace q401 := eq_true q401
                      go_wp2
                      go_roundg k1
                      case measure => have := HK1.out; omega
                      case rel => exact ⟨(wrap64 (x5_1 + 1)), zq2, H', ⟨zq7⟩, zq3⟩
                  · rw [if_neg c9] at H
                    have c9b0 : decide (0 ≤ a1) = false := decide_eq_false c9
                    clear c9
                    have H' := Aside0.mk H
                    clear H
                    have p398 : 0 ≤ (x5_1 : Int) := of_decide_eq_true zq4
                    have q398 : x5_1 < (l0.length : Int) := of_decide_eq_true zq4
                    obtain ⟨ad398, e398, hx398_0, hx398_1⟩ := at_T33 HR0.out x5_1 p398 q398
                    cases e398
                    replace p398 := eq_true p398
                    replace q398 := eq_true q398
                    have p399 : 0 ≤ (x5_1 : Int) := of_decide_eq_true zq4
                    have q399 : x5_1 < (l0.length : Int) := of_decide_eq_true zq4
                    obtain ⟨ad399, e399, hx399_0, hx399_1⟩ := at_T33 HR0.out x5_1 p399 q399
                    obtain rfl : ad398 = ad399 := (by injection e399)
                    replace p399 := eq_true p399
                    replace q399 := eq_true q399
                    have p400 : 0 ≤ (x5_1 : Int) := of_decide_eq_true zq4
                    have q400 : x5_1 < (l0.length : Int) := of_decide_eq_true zq4
                    obtain ⟨ad400, e400, hx400_0, hx400_1⟩ := at_T33 HR0.out x5_1 p400 q400
                    obtain rfl : ad398 = ad400 := (by injection e400)
                    replace p400 := eq_true p400
                    replace q400 := eq_true q400
                    go_wp2
                    go_roundg k1
                    case measure => have := HK1.out; omega
                    case rel => exact ⟨(wrap64 (x5_1 + 1)), zq2, H', ⟨zq7⟩, zq3⟩
          · rw [if_neg c5] at H
            exact absurd H (by simp)
        · rw [if_neg c4] at H
          have c4b0 : decide (x5_1 < (l0.length : Int)) = false := decide_eq_false c4
          clear c4
          obtain rfl := Option.some.inj H
          go_wp2
          go_ret
          exact ⟨zq2, zq3⟩

end Go.Proofs.Ytmhaiihjfgfaoaa.Pr
end
section
namespace Go.Proofs.Ytmhaiihjfgfaoaa.Pr
open Go.RowKit Go.Proofs.YtmhaiihjfgfaoaaW.PrintWords Go.Proofs.YtmhaiihjfgfaoaaW.PrintLast Go.Proofs.YtmhaiihjfgfaoaaW.PrintMore
attribute [local go_sem] max2_int min2_int max_two min_two max_four
set_option linter.unusedVariables false
set_option linter.unusedSimpArgs false

/-! ### isobathref03_Takes: function 39 -/
def isobathref03_Takes.f (a0_0 : Int) (a0_1 : Int) (a0_2 : Int) (a0_3 : Int) (a0_4 : Int) (a0_5 : Int) (a0_6 : Int) (a1_0 : Int) (a1_1 : Int) : Option (Int × Int) := if a1_0 = 8 then (some (a0_4, a0_5)) else (some (a0_2, a0_3))
set_option maxHeartbeats 8000000 in
set_option maxRecDepth 100000 in
theorem isobathref03_Takes.calls (a0_0 : Int) (a0_1 : Int) (a0_2 : Int) (a0_3 : Int) (a0_4 : Int) (a0_5 : Int) (a0_6 : Int) (a1_0 : Int) (a1_1 : Int) (r1 : Int) (r2 : Int) (w : World) (h : isobathref03_Takes.f a0_0 a0_1 a0_2 a0_3 a0_4 a0_5 a0_6 a1_0 a1_1 = some (r1, r2)) :
    Calls Try.prog 39 #[.agg #[.int .i64 a0_0, .int .i64 a0_1, .int .i64 a0_2, .int .i64 a0_3, .int .i64 a0_4, .int .i64 a0_5, .int .i64 a0_6], .agg #[.int .i64 a1_0, .int .i64 a1_1]] w fun e w' => e = .returned (.agg #[.int .i64 r1, .int .i64 r2]) ∧ Below w.heap.size w w' := by
  have hu29 := Try.underlying29
  have hu33 := Try.underlying33
  have hu27 := Try.underlying27
  have HB := Aside0.mk (Below.refl w.heap.size w)
  have H : (if a1_0 = 8 then (some (a0_4, a0_5)) else (some (a0_2, a0_3))) = some (r1, r2) := h
  clear h
  by_cases c3 : a1_0 = 8
  · rw [if_pos c3] at H
    have c3b0 : (a1_0 == 8) = true := beq_iff_eq.mpr c3
    have c3b1 : (a1_0 != 8) = false := bne_eq_false_iff_eq.mpr c3
    clear c3
    simp only [Option.some.injEq, Prod.mk.injEq] at H
    obtain ⟨rfl, rfl⟩ := H
    go_enter Try.func39, Try.ntmps39
    go_wp2_with (first | ((with_reducible refine gate_dst (N := 2) rfl ?_); refine box_event (by rfl) (N := 2) (by rfl) (cs := #[.int .i64 a0_0, .int .i64 a0_1, .int .i64 a0_2, .int .i64 a0_3, .int .i64 a0_4, .int .i64 a0_5, .int .i64 a0_6]) (t := 29) zq5 ?_; intro gb607 hg w4 hbox hb; have BK607 := Aside0.mk (hbox); have GW607 := zgs HB hg; have GE607 := zgs HB hg; replace HB := zbs HB hb; clear hb hbox hg) | ((with_reducible refine gate_dst (N := 3) rfl ?_); refine box_event (by rfl) (N := 3) (by rfl) (cs := #[.int .i64 a1_0, .int .i64 a1_1]) (t := 33) zq5 ?_; intro gb608 hg w5 hbox hb; have BK608 := Aside0.mk (hbox); have GW608 := zgs HB hg; have GE608 := zgs HB hg; have NB607_608 := znp BK607 hg; have NB608_607 := znq BK607 hg; replace BK607 := zbb BK607 hb; replace HB := zbs HB hb; clear hb hbox hg) | ((with_reducible refine gate_dst (N := 4) rfl ?_); refine box_event (by rfl) (N := 4) (by rfl) (cs := #[.int .i64 0, .int .i64 0]) (t := 27) zq5 ?_; intro gb609 hg w6 hbox hb; have BK609 := Aside0.mk (hbox); have GW609 := zgs HB hg; have GE609 := zgs HB hg; have NB607_609 := znp BK607 hg; have NB609_607 := znq BK607 hg; have NB608_609 := znp BK608 hg; have NB609_608 := znq BK608 hg; replace BK607 := zbb BK607 hb; replace BK608 := zbb BK608 hb; replace HB := zbs HB hb; clear hb hbox hg; have hnb7 := NB608_607.out; have hnc7 := NB607_608.out; have hnb8 := NB608_609.out; have hnc8 := NB609_608.out; obtain ⟨hcz9_0, hcz9_1, hfz9_0, hfz9_1⟩ := zce2 BK608.out; have hnb10 := NB607_609.out; have hnc10 := NB609_607.out; obtain ⟨hcz11_0, hcz11_1, hcz11_2, hcz11_3, hcz11_4, hcz11_5, hcz11_6, hfz11_0, hfz11_1, hfz11_2, hfz11_3, hfz11_4, hfz11_5, hfz11_6⟩ := zce7 BK607.out; obtain ⟨hcz12_0, hcz12_1, hfz12_0, hfz12_1⟩ := zce2 BK609.out))
    refine bodyPost_ret (results_cell_row rfl _ _ gb609 27 #[.int .i64 a0_4, .int .i64 a0_5] (0, 0) _ rfl (by (with_reducible repeat (first | refine blk_drewN ?_ _ | refine blk_drew ?_ | refine blk_alloc ?_ _)); refine blk_put (cs := #[.int .i64 a0_4, .int .i64 0]) ?_ 1 _ rfl; (with_reducible repeat (first | refine blk_drewN ?_ _ | refine blk_drew ?_ | refine blk_alloc ?_ _)); refine blk_put (cs := #[.int .i64 0, .int .i64 0]) ?_ 0 _ rfl; (with_reducible repeat (first | refine blk_drewN ?_ _ | refine blk_drew ?_ | refine blk_alloc ?_ _)); exact BK609.out) Try.underlying27 rfl zq1) rfl ?_
    exact ⟨zq6, zbz⟩
  · rw [if_neg c3] at H
    have c3b0 : (a1_0 == 8) = false := beq_eq_false_iff_ne.mpr c3
    have c3b1 : (a1_0 != 8) = true := bne_iff_ne.mpr c3
    simp only [Option.some.injEq, Prod.mk.injEq] at H
    obtain ⟨rfl, rfl⟩ := H
    go_enter Try.func39, Try.ntmps39
    go_wp2_with (first | ((with_reducible refine gate_dst (N := 2) rfl ?_); refine box_event (by rfl) (N := 2) (by rfl) (cs := #[.int .i64 a0_0, .int .i64 a0_1, .int .i64 a0_2, .int .i64 a0_3, .int .i64 a0_4, .int .i64 a0_5, .int .i64 a0_6]) (t := 29) zq5 ?_; intro gb607 hg w13 hbox hb; have BK607 := Aside0.mk (hbox); have GW607 := zgs HB hg; have GE607 := zgs HB hg; replace HB := zbs HB hb; clear hb hbox hg) | ((with_reducible refine gate_dst (N := 3) rfl ?_); refine box_event (by rfl) (N := 3) (by rfl) (cs := #[.int .i64 a1_0, .int .i64 a1_1]) (t := 33) zq5 ?_; intro gb608 hg w14 hbox hb; have BK608 := Aside0.mk (hbox); have GW608 := zgs HB hg; have GE608 := zgs HB hg; have NB607_608 := znp BK607 hg; have NB608_607 := znq BK607 hg; replace BK607 := zbb BK607 hb; replace HB := zbs HB hb; clear hb hbox hg) | ((with_reducible refine gate_dst (N := 4) rfl ?_); refine box_event (by rfl) (N := 4) (by rfl) (cs := #[.int .i64 0, .int .i64 0]) (t := 27) zq5 ?_; intro gb609 hg w15 hbox hb; have BK609 := Aside0.mk (hbox); have GW609 := zgs HB hg; have GE609 := zgs HB hg; have NB607_609 := znp BK607 hg; have NB609_607 := znq BK607 hg; have NB608_609 := znp BK608 hg; have NB609_608 := znq BK608 hg; replace BK607 := zbb BK607 hb; replace BK608 := zbb BK608 hb; replace HB := zbs HB hb; clear hb hbox hg; have hnb16 := NB608_607.out; have hnc16 := NB607_608.out; have hnb17 := NB608_609.out; have hnc17 := NB609_608.out; obtain ⟨hcz18_0, hcz18_1, hfz18_0, hfz18_1⟩ := zce2 BK608.out; have hnb19 := NB607_609.out; have hnc19 := NB609_607.out; obtain ⟨hcz20_0, hcz20_1, hcz20_2, hcz20_3, hcz20_4, hcz20_5, hcz20_6, hfz20_0, hfz20_1, hfz20_2, hfz20_3, hfz20_4, hfz20_5, hfz20_6⟩ := zce7 BK607.out; obtain ⟨hcz21_0, hcz21_1, hfz21_0, hfz21_1⟩ := zce2 BK609.out))
    refine bodyPost_ret (results_cell_row rfl _ _ gb609 27 #[.int .i64 a0_2, .int .i64 a0_3] (0, 0) _ rfl (by (with_reducible repeat (first | refine blk_drewN ?_ _ | refine blk_drew ?_ | refine blk_alloc ?_ _)); refine blk_put (cs := #[.int .i64 a0_2, .int .i64 0]) ?_ 1 _ rfl; (with_reducible repeat (first | refine blk_drewN ?_ _ | refine blk_drew ?_ | refine blk_alloc ?_ _)); refine blk_put (cs := #[.int .i64 0, .int .i64 0]) ?_ 0 _ rfl; (with_reducible repeat (first | refine blk_drewN ?_ _ | refine blk_drew ?_ | refine blk_alloc ?_ _)); exact BK609.out) Try.underlying27 rfl zq1) rfl ?_
    exact ⟨zq6, zbz⟩

end Go.Proofs.Ytmhaiihjfgfaoaa.Pr
end
section
namespace Go.Proofs.Ytmhaiihjfgfaoaa.Pr
open Go.RowKit Go.Proofs.YtmhaiihjfgfaoaaW.PrintWords Go.Proofs.YtmhaiihjfgfaoaaW.PrintLast Go.Proofs.YtmhaiihjfgfaoaaW.PrintMore
attribute [local go_sem] max2_int min2_int max_two min_two max_four
set_option linter.unusedVariables false
set_option linter.unusedSimpArgs false

/-! ### isobathref03_energy: function 92 -/
def isobathref03_energy.l0 : Nat → List (S33) → List (S27) → Int → Int → Int → Int → Int → Int → Int → Int → Int → Int → Option ((List (S27)) × Int × Int)
  | 0, _, _, _, _, _, _, _, _, _, _, _, _ => none
  | k + 1, x2, x9, x10, x709000, x709001, x709002, x709003, x709004, x709005, x709006, x710000, x710001 => if x10 < (x2.length : Int) then (if 0 ≤ x10 then ((isobathref03_Takes.f x709000 x709001 x709002 x709003 x709004 x709005 x709006 ((rd_T33 x2 x10).f0) ((rd_T33 x2 x10).f1)).bind fun bt711 => (if (wrap64 (x710000 - bt711.2)) < x709006 then (some (([] : List (S27)), x10, 19)) else (if x9.length < 8796093022208 then (isobathref03_energy.l0 k x2 (x9 ++ [(⟨wrap64 (x710000 - bt711.2), wrap64 (x710001 - bt711.1)⟩ : S27)]) (wrap64 (x10 + 1)) x709000 x709001 x709002 x709003 x709004 x709005 x709006 (wrap64 (x710000 - bt711.2)) (wrap64 (x710001 - bt711.1))) else (none)))) else (none)) else (some (x9, (x2.length : Int), 0))
def isobathref03_energy.f (k : Nat) (a0_0 : Int) (a0_1 : Int) (a0_2 : Int) (a0_3 : Int) (a0_4 : Int) (a0_5 : Int) (a0_6 : Int) (a1_0 : Int) (a1_1 : Int) (l2 : List (S33)) : Option ((List (S27)) × Int × Int) := isobathref03_energy.l0 k l2 ([] : List (S27)) 0 a0_0 a0_1 a0_2 a0_3 a0_4 a0_5 a0_6 a1_0 a1_1
def isobathref03_energy.T5 : Bool × List (List Nat × List Nat) := (true, [([], []), ([], []), ([], []), ([1, 2], [1, 2]), ([3], [3]), ([0, 4], [0, 4]), ([], []), ([6, 5, 5, 0, 1, 2, 3, 4, 5, 6], [5, 6])])
def isobathref03_energy.B5 : List Nat := [0, 0, 0, 6, 14, 31, 0, 127]
theorem isobathref03_energy.tab5 : rtab .any (opsOf Try.f92 5) = isobathref03_energy.T5 := by kernel_rfl
theorem isobathref03_energy.bits5 : waitsOk isobathref03_energy.T5.2 isobathref03_energy.B5 = true := by kernel_rfl
set_option maxHeartbeats 8000000 in
set_option maxRecDepth 100000 in
theorem isobathref03_energy.calls (k : Nat) (a0_0 : Int) (a0_1 : Int) (a0_2 : Int) (a0_3 : Int) (a0_4 : Int) (a0_5 : Int) (a0_6 : Int) (a1_0 : Int) (a1_1 : Int) (A2 : Option Addr) (c2 : Nat) (l2 : List (S33)) (r1 : List (S27)) (r2 : Int) (r3 : Int) (w : World) (hr2 : Kd.C k33 w A2 l2.length l2) (hc2 : l2.length ≤ c2) (h : isobathref03_energy.f k a0_0 a0_1 a0_2 a0_3 a0_4 a0_5 a0_6 a1_0 a1_1 l2 = some (r1, r2, r3)) :
    Calls Try.prog 92 #[.agg #[.int .i64 a0_0, .int .i64 a0_1, .int .i64 a0_2, .int .i64 a0_3, .int .i64 a0_4, .int .i64 a0_5, .int .i64 a0_6], .agg #[.int .i64 a1_0, .int .i64 a1_1], .slice A2 l2.length c2] w fun e w' => ∃ v0_ : Value, e = .returned (.tuple #[v0_, .int .i64 r2, .int .i64 r3]) ∧ Kd.R k27 27 w' w.heap.size (fun _ => True) v0_ r1 ∧ Below w.heap.size w w' := by
  have hu29 := Try.underlying29
  have hu27 := Try.underlying27
  have hu33 := Try.underlying33
  have HR2 := Aside0.mk hr2
  have HC2 := Aside0.mk hc2
  clear hr2 hc2
  have HB := Aside0.mk (Below.refl w.heap.size w)
  have H : (isobathref03_energy.l0 k l2 ([] : List (S27)) 0 a0_0 a0_1 a0_2 a0_3 a0_4 a0_5 a0_6 a1_0 a1_1) = some (r1, r2, r3) := h
  clear h
  have H' := Aside0.mk H
  clear H
  go_enter Try.func92, Try.ntmps92
  go_wp2_with (first | ((with_reducible refine gate_dst (N := 3) rfl ?_); refine box_event (by rfl) (N := 3) (by rfl) (cs := #[.int .i64 a0_0, .int .i64 a0_1, .int .i64 a0_2, .int .i64 a0_3, .int .i64 a0_4, .int .i64 a0_5, .int .i64 a0_6]) (t := 29) zq5 ?_; intro gb708 hg w4 hbox hb; have BK708 := Aside0.mk (hbox); have GW708 := zgs HB hg; have GE708 := zgs HB hg; replace HB := zbs HB hb; clear hb hbox hg) | ((with_reducible refine gate_dst (N := 4) rfl ?_); refine box_event (by rfl) (N := 4) (by rfl) (cs := #[.int .i64 a1_0, .int .i64 a1_1]) (t := 27) zq5 ?_; intro gb709 hg w5 hbox hb; have BK709 := Aside0.mk (hbox); have GW709 := zgs HB hg; have GE709 := zgs HB hg; have NB708_709 := znp BK708 hg; have NB709_708 := znq BK708 hg; replace BK708 := zbb BK708 hb; replace HB := zbs HB hb; clear hb hbox hg))
  go_loopg [9, 10] k (fun kq v9 v10 w' => ∃ (x9_1 : List (S27)) (x10_1 : Int) (x710000_1 : Int) (x710001_1 : Int), v10 = .int .i64 x10_1 ∧ Aside0 (isobathref03_energy.l0 kq l2 x9_1 x10_1 a0_0 a0_1 a0_2 a0_3 a0_4 a0_5 a0_6 x710000_1 x710001_1 = some (r1, r2, r3)) ∧ Aside0 (kq ≤ k) ∧ Aside0 (Kd.R k27 27 w' w.heap.size (fun k_ => k_ ≠ gb709) v9 x9_1) ∧ Aside0 (w'.heap[gb708]? = some (.cells #[.int .i64 a0_0, .int .i64 a0_1, .int .i64 a0_2, .int .i64 a0_3, .int .i64 a0_4, .int .i64 a0_5, .int .i64 a0_6] 29 (0, 0))) ∧ Aside0 (w'.heap[gb709]? = some (.cells #[.int .i64 x710000_1, .int .i64 x710001_1] 27 (0, 0))) ∧ Aside0 (Below w.heap.size w w'))
  case atStart => exact ⟨(([] : List (S27))), (0), (a1_0), (a1_1), zq2, H', ⟨Nat.le_refl _⟩, ⟨zq10⟩, ⟨by (with_reducible repeat (first | refine blk_drewN ?_ _ | refine blk_drew ?_ | refine blk_alloc ?_ _)); exact BK708.out⟩, ⟨by (with_reducible repeat (first | refine blk_drewN ?_ _ | refine blk_drew ?_ | refine blk_alloc ?_ _)); exact BK709.out⟩, ⟨zbz⟩⟩
  case round =>
    clear H'
    try clear c2
    try clear p2
    obtain ⟨x9_1, x10_1, x710000_1, x710001_1, rfl, HA, HK1, HO_9, BK708, BK709, HB⟩ := hrel
    cases gk with
    | zero => exact absurd HA.out (by simp [isobathref03_energy.l0])
    | succ k1 =>
      have H := HA.out
      clear HA
      simp only [isobathref03_energy.l0] at H
      by_cases c6 : x10_1 < (l2.length : Int)
      · rw [if_pos c6] at H
        have c6b0 : decide (x10_1 < (l2.length : Int)) = true := decide_eq_true c6
        clear c6
        by_cases c7 : 0 ≤ x10_1
        · rw [if_pos c7] at H
          have c7b0 : decide (0 ≤ x10_1) = true := decide_eq_true c7
          clear c7
          replace H := Option.bind_eq_some_iff.mp H
          obtain ⟨⟨t711, t712⟩, A80, H⟩ := H
          replace H : (if (wrap64 (x710000_1 - t712)) < a0_6 then (some (([] : List (S27)), x10_1, 19)) else (if x9_1.length < 8796093022208 then (isobathref03_energy.l0 k1 l2 (x9_1 ++ [(⟨wrap64 (x710000_1 - t712), wrap64 (x710001_1 - t711)⟩ : S27)]) (wrap64 (x10_1 + 1)) a0_0 a0_1 a0_2 a0_3 a0_4 a0_5 a0_6 (wrap64 (x710000_1 - t712)) (wrap64 (x710001_1 - t711))) else (none))) = some (r1, r2, r3) := H
          have A8 := Aside0.mk A80
          clear A80
          by_cases c9 : (wrap64 (x710000_1 - t712)) < a0_6
          · rw [if_pos c9] at H
            have c9b0 : decide ((wrap64 (x710000_1 - t712)) < a0_6) = true := decide_eq_true c9
            clear c9
            simp only [Option.some.injEq, Prod.mk.injEq] at H
            obtain ⟨rfl, rfl, rfl⟩ := H
            try go_wp2
            replace HO_9 := Aside0.mk (Kd.R_drew HO_9.out)
            replace BK708 := Aside0.mk (blk_drew BK708.out)
            replace BK709 := Aside0.mk (blk_drew BK709.out)
            replace HB := Aside0.mk (below_drew1 HB.out)
            have p710 : 0 ≤ (x10_1 : Int) := of_decide_eq_true zq4
            have q710 : x10_1 < (l2.length : Int) := of_decide_eq_true zq4
            obtain ⟨ad710, e710, hx710_0, hx710_1⟩ := at_T33 HR2.out x10_1 p710 q710
            have hw710_1 := hx710_1
            have hw710_0 := hx710_0
            cases e710
            replace hx710_0 := (HB.out.cell (World.block_lt_of_cell? w _ hx710_0)).trans hx710_0
            replace hx710_1 := (HB.out.cell (World.block_lt_of_cell? w _ hx710_1)).trans hx710_1
            replace p710 := eq_true p710
            replace q710 := eq_true q710
            refine start_ (n := 8) (S := fun w' => w'.cell? ⟨gb708, 0, none⟩ = some (.int .i64 a0_0) ∧ w'.cell? ⟨gb708, 1, none⟩ = some (.int .i64 a0_1) ∧ w'.cell? ⟨gb708, 2, none⟩ = some (.int .i64 a0_2) ∧ w'.cell? ⟨gb708, 3, none⟩ = some (.int .i64 a0_3) ∧ w'.cell? ⟨gb708, 4, none⟩ = some (.int .i64 a0_4) ∧ w'.cell? ⟨gb708, 5, none⟩ = some (.int .i64 a0_5) ∧ w'.cell? ⟨gb708, 6, none⟩ = some (.int .i64 a0_6) ∧ w'.cell? (ad710.add ((x10_1).toNat * 2)) = some (.int .i64 ((rd_T33 l2 x10_1).f0)) ∧ w'.cell? ⟨(ad710.add ((x10_1).toNat * 2)).block, (ad710.add ((x10_1).toNat * 2)).off + 1, none⟩ = some (.int .i64 ((rd_T33 l2 x10_1).f1))) (ds := []) #[false, false, false, false, false, false, false, false] zq1 rfl rfl ⟨(blk_cell BK708.out 0).trans rfl, (blk_cell BK708.out 1).trans rfl, (blk_cell BK708.out 2).trans rfl, (blk_cell BK708.out 3).trans rfl, (blk_cell BK708.out 4).trans rfl, (blk_cell BK708.out 5).trans rfl, (blk_cell BK708.out 6).trans rfl, ((HB.out.cell (World.block_lt_of_cell? w _ hw710_0)).trans hw710_0), ((HB.out.cell (World.block_lt_of_cell? w _ hw710_1)).trans hw710_1)⟩ (fun hHeld => ?_); refine with_tabW isobathref03_energy.tab5 isobathref03_energy.bits5 (fun HT_ HW_ => ?_)
            generalize wr.drew = w10 at HO_9 BK708 BK709 HB hx710_0 hx710_1 hHeld ⊢
            refine zpz (i := 1) (N := some 19) (any_of HT_.out zq1) ?_
            refine zpz (i := 2) (N := some 20) (any_of HT_.out zq1) ?_
            refine zpz (i := 3) (N := some 21) (any_of HT_.out zq1) ?_
            refine ztz (i := 0) (N := some 18) (take_ofW HT_.out HW_.out zq1) hHeld ?_
            refine ztz (i := 4) (N := some 22) (take_ofW HT_.out HW_.out zq1) hHeld ?_
            refine join_ (σ := Nat) 1 #[true, true, true, true, true, true, true, false] (fun s_ => [(23, .agg #[.int .i64 t711, .int .i64 t712]), (11, .pointer (some ⟨s_, 0, none⟩))]) (fun s_ w' => (w'.cell? ⟨gb708, 0, none⟩ = some (.int .i64 a0_0) ∧ w'.cell? ⟨gb708, 1, none⟩ = some (.int .i64 a0_1) ∧ w'.cell? ⟨gb708, 2, none⟩ = some (.int .i64 a0_2) ∧ w'.cell? ⟨gb708, 3, none⟩ = some (.int .i64 a0_3) ∧ w'.cell? ⟨gb708, 4, none⟩ = some (.int .i64 a0_4) ∧ w'.cell? ⟨gb708, 5, none⟩ = some (.int .i64 a0_5) ∧ w'.cell? ⟨gb708, 6, none⟩ = some (.int .i64 a0_6) ∧ w'.cell? (ad710.add ((x10_1).toNat * 2)) = some (.int .i64 ((rd_T33 l2 x10_1).f0)) ∧ w'.cell? ⟨(ad710.add ((x10_1).toNat * 2)).block, (ad710.add ((x10_1).toNat * 2)).off + 1, none⟩ = some (.int .i64 ((rd_T33 l2 x10_1).f1))) ∧ (Kd.R k27 27 w' w.heap.size (fun k_ => k_ ≠ gb709 ∧ k_ ≠ s_) u9 x9_1) ∧ (w'.heap[gb708]? = some (.cells #[.int .i64 a0_0, .int .i64 a0_1, .int .i64 a0_2, .int .i64 a0_3, .int .i64 a0_4, .int .i64 a0_5, .int .i64 a0_6] 29 (0, 0))) ∧ (w'.heap[gb709]? = some (.cells #[.int .i64 x710000_1, .int .i64 x710001_1] 27 (0, 0))) ∧ (w'.heap[s_]? = some (.cells #[.int .i64 0, .int .i64 0] 27 (0, 0))) ∧ (w.heap.size ≤ s_) ∧ (w.heap.size ≤ s_) ∧ (gb708 ≠ s_) ∧ (s_ ≠ gb708) ∧ (gb709 ≠ s_) ∧ (s_ ≠ gb709) ∧ (Below w.heap.size w w')) ?_ ?_
            rotate_left
            · intro hCont
              refine two_ (i := 5) (j := 6) (Ni := some 23) (Nj := some 11) #[true, true, true, true, true, true, false, false] #[true, true, true, true, true, false, true, false] rfl rfl rfl rfl (two_of HT_.out zq1) (by decide) (by decide) (fun K hK => ?_) (fun K hK => ?_)
              · skip
                refine goes_ Try.func39 zq1 rfl #[.agg #[.int .i64 a0_0, .int .i64 a0_1, .int .i64 a0_2, .int .i64 a0_3, .int .i64 a0_4, .int .i64 a0_5, .int .i64 a0_6], .agg #[.int .i64 ((rd_T33 l2 x10_1).f0), .int .i64 ((rd_T33 l2 x10_1).f1)]] (by rfl) rfl rfl zq8 ?_
                with_reducible refine (isobathref03_Takes.calls a0_0 a0_1 a0_2 a0_3 a0_4 a0_5 a0_6 ((rd_T33 l2 x10_1).f0) ((rd_T33 l2 x10_1).f1) t711 t712 _ A8.out).mono ?_
                rintro e w11 ⟨rfl, hb⟩
                refine ⟨_, rfl, ?_⟩
                replace HO_9 := Aside0.mk (Kd.R_below zq42 hb)
                replace BK708 := zbb BK708 hb
                replace BK709 := zbb BK709 hb
                replace HB := zbs HB hb
                (try clear hb)
                (try clear hb2)
                (try clear hk)
                (try clear hi)
                refine hK.out _ _ ⟨(blk_cell BK708.out 0).trans rfl, (blk_cell BK708.out 1).trans rfl, (blk_cell BK708.out 2).trans rfl, (blk_cell BK708.out 3).trans rfl, (blk_cell BK708.out 4).trans rfl, (blk_cell BK708.out 5).trans rfl, (blk_cell BK708.out 6).trans rfl, ((HB.out.cell (World.block_lt_of_cell? w _ hw710_0)).trans hw710_0), ((HB.out.cell (World.block_lt_of_cell? w _ hw710_1)).trans hw710_1)⟩ (fun hHeld => ?_)
                clear hK K
                refine norm_ zq43 ?_
                refine one_ (i := 6) (N := some 11) #[true, true, true, true, true, true, true, false] rfl rfl (one_of HT_.out zq1) (by decide) (fun K hK => ?_)
                refine box_step ?hg (N := 11) ?hd (cs := #[.int .i64 0, .int .i64 0]) (t := 27) ?hr ?_; (case hd => rfl); (case hg => rfl); (case hr => first | (go_simp; done) | (go_simp; rfl))
                intro gb713 hg w12 hbox hb
                have BK713 := Aside0.mk (hbox)
                have GW713 := zgs HB hg
                have GE713 := zgs HB hg
                have NB708_713 := znp BK708 hg
                have NB713_708 := znq BK708 hg
                have NB709_713 := znp BK709 hg
                have NB713_709 := znq BK709 hg
                replace HO_9 := Aside0.mk (Kd.R_below (Kd.R_elderB zq42 gb713 (Nat.le_of_eq hg.symm)) hb)
                replace BK708 := zbb BK708 hb
                replace BK709 := zbb BK709 hb
                replace HB := zbs HB hb
                clear hb hbox hg
                refine hK.out _ _ ⟨(blk_cell BK708.out 0).trans rfl, (blk_cell BK708.out 1).trans rfl, (blk_cell BK708.out 2).trans rfl, (blk_cell BK708.out 3).trans rfl, (blk_cell BK708.out 4).trans rfl, (blk_cell BK708.out 5).trans rfl, (blk_cell BK708.out 6).trans rfl, ((HB.out.cell (World.block_lt_of_cell? w _ hw710_0)).trans hw710_0), ((HB.out.cell (World.block_lt_of_cell? w _ hw710_1)).trans hw710_1)⟩ (fun hHeld => ?_)
                clear hK K
                refine norm_ zq25 ?_
                exact norm_ zq41 (hCont (gb713) _ ⟨hHeld, zq42, (by (with_reducible repeat (first | refine blk_drewN ?_ _ | refine blk_drew ?_ | refine blk_alloc ?_ _)); exact BK708.out), (by (with_reducible repeat (first | refine blk_drewN ?_ _ | refine blk_drew ?_ | refine blk_alloc ?_ _)); exact BK709.out), (by (with_reducible repeat (first | refine blk_drewN ?_ _ | refine blk_drew ?_ | refine blk_alloc ?_ _)); exact BK713.out), GW713.out, GE713.out, NB708_713.out, NB713_708.out, NB709_713.out, NB713_709.out, zbz⟩)
              · skip
                refine box_step ?hg (N := 11) ?hd (cs := #[.int .i64 0, .int .i64 0]) (t := 27) ?hr ?_; (case hd => rfl); (case hg => rfl); (case hr => first | (go_simp; done) | (go_simp; rfl))
                intro gb713 hg w11 hbox hb
                have BK713 := Aside0.mk (hbox)
                have GW713 := zgs HB hg
                have GE713 := zgs HB hg
                have NB708_713 := znp BK708 hg
                have NB713_708 := znq BK708 hg
                have NB709_713 := znp BK709 hg
                have NB713_709 := znq BK709 hg
                replace HO_9 := Aside0.mk (Kd.R_below (Kd.R_elderB zq42 gb713 (Nat.le_of_eq hg.symm)) hb)
                replace BK708 := zbb BK708 hb
                replace BK709 := zbb BK709 hb
                replace HB := zbs HB hb
                clear hb hbox hg
                refine hK.out _ _ ⟨(blk_cell BK708.out 0).trans rfl, (blk_cell BK708.out 1).trans rfl, (blk_cell BK708.out 2).trans rfl, (blk_cell BK708.out 3).trans rfl, (blk_cell BK708.out 4).trans rfl, (blk_cell BK708.out 5).trans rfl, (blk_cell BK708.out 6).trans rfl, ((HB.out.cell (World.block_lt_of_cell? w _ hw710_0)).trans hw710_0), ((HB.out.cell (World.block_lt_of_cell? w _ hw710_1)).trans hw710_1)⟩ (fun hHeld => ?_)
                clear hK K
                refine norm_ zq25 ?_
                refine one_ (i := 5) (N := some 23) #[true, true, true, true, true, true, true, false] rfl rfl (one_of HT_.out zq1) (by decide) (fun K hK => ?_)
                refine goes_ Try.func39 zq1 rfl #[.agg #[.int .i64 a0_0, .int .i64 a0_1, .int .i64 a0_2, .int .i64 a0_3, .int .i64 a0_4, .int .i64 a0_5, .int .i64 a0_6], .agg #[.int .i64 ((rd_T33 l2 x10_1).f0), .int .i64 ((rd_T33 l2 x10_1).f1)]] (by rfl) rfl rfl zq8 ?_
                with_reducible refine (isobathref03_Takes.calls a0_0 a0_1 a0_2 a0_3 a0_4 a0_5 a0_6 ((rd_T33 l2 x10_1).f0) ((rd_T33 l2 x10_1).f1) t711 t712 _ A8.out).mono ?_
                rintro e w12 ⟨rfl, hb⟩
                refine ⟨_, rfl, ?_⟩
                replace HO_9 := Aside0.mk (Kd.R_below zq42 hb)
                replace BK708 := zbb BK708 hb
                replace BK709 := zbb BK709 hb
                replace BK713 := zbb BK713 hb
                replace HB := zbs HB hb
                (try clear hb)
                (try clear hb2)
                (try clear hk)
                (try clear hi)
                refine hK.out _ _ ⟨(blk_cell BK708.out 0).trans rfl, (blk_cell BK708.out 1).trans rfl, (blk_cell BK708.out 2).trans rfl, (blk_cell BK708.out 3).trans rfl, (blk_cell BK708.out 4).trans rfl, (blk_cell BK708.out 5).trans rfl, (blk_cell BK708.out 6).trans rfl, ((HB.out.cell (World.block_lt_of_cell? w _ hw710_0)).trans hw710_0), ((HB.out.cell (World.block_lt_of_cell? w _ hw710_1)).trans hw710_1)⟩ (fun hHeld => ?_)
                clear hK K
                refine norm_ zq43 ?_
                exact norm_ zq41 (hCont (gb713) _ ⟨hHeld, zq42, (by (with_reducible repeat (first | refine blk_drewN ?_ _ | refine blk_drew ?_ | refine blk_alloc ?_ _)); exact BK708.out), (by (with_reducible repeat (first | refine blk_drewN ?_ _ | refine blk_drew ?_ | refine blk_alloc ?_ _)); exact BK709.out), (by (with_reducible repeat (first | refine blk_drewN ?_ _ | refine blk_drew ?_ | refine blk_alloc ?_ _)); exact BK713.out), GW713.out, GE713.out, NB708_713.out, NB713_708.out, NB709_713.out, NB713_709.out, zbz⟩)
            rintro gb713 w13 ⟨hS_, h0_, h1_, h2_, h3_, h4_, h5_, h6_, h7_, h8_, h9_, h10_⟩
            have n0_ : Aside0 (Kd.R k27 27 w13 w.heap.size (fun k_ => k_ ≠ gb709 ∧ k_ ≠ gb713) u9 x9_1) := ⟨h0_⟩
            have n1_ : Aside0 (w13.heap[gb708]? = some (.cells #[.int .i64 a0_0, .int .i64 a0_1, .int .i64 a0_2, .int .i64 a0_3, .int .i64 a0_4, .int .i64 a0_5, .int .i64 a0_6] 29 (0, 0))) := ⟨h1_⟩
            have n2_ : Aside0 (w13.heap[gb709]? = some (.cells #[.int .i64 x710000_1, .int .i64 x710001_1] 27 (0, 0))) := ⟨h2_⟩
            have n3_ : Aside0 (w13.heap[gb713]? = some (.cells #[.int .i64 0, .int .i64 0] 27 (0, 0))) := ⟨h3_⟩
            have n4_ : Aside0 (w.heap.size ≤ gb713) := ⟨h4_⟩
            have n5_ : Aside0 (w.heap.size ≤ gb713) := ⟨h5_⟩
            have n6_ : Aside0 (gb708 ≠ gb713) := ⟨h6_⟩
            have n7_ : Aside0 (gb713 ≠ gb708) := ⟨h7_⟩
            have n8_ : Aside0 (gb709 ≠ gb713) := ⟨h8_⟩
            have n9_ : Aside0 (gb713 ≠ gb709) := ⟨h9_⟩
            have n10_ : Aside0 (Below w.heap.size w w13) := ⟨h10_⟩
            clear HO_9
            clear BK708
            clear BK709
            clear HB
            clear h0_ h1_ h2_ h3_ h4_ h5_ h6_ h7_ h8_ h9_ h10_
            have HO_9 := n0_
            have BK708 := n1_
            have BK709 := n2_
            have BK713 := n3_
            have GW713 := n4_
            have GE713 := n5_
            have NB708_713 := n6_
            have NB713_708 := n7_
            have NB709_713 := n8_
            have NB713_709 := n9_
            have HB := n10_
            clear n0_ n1_ n2_ n3_ n4_ n5_ n6_ n7_ n8_ n9_ n10_
            have hHeld : w13.cell? ⟨gb708, 0, none⟩ = some (.int .i64 a0_0) ∧ w13.cell? ⟨gb708, 1, none⟩ = some (.int .i64 a0_1) ∧ w13.cell? ⟨gb708, 2, none⟩ = some (.int .i64 a0_2) ∧ w13.cell? ⟨gb708, 3, none⟩ = some (.int .i64 a0_3) ∧ w13.cell? ⟨gb708, 4, none⟩ = some (.int .i64 a0_4) ∧ w13.cell? ⟨gb708, 5, none⟩ = some (.int .i64 a0_5) ∧ w13.cell? ⟨gb708, 6, none⟩ = some (.int .i64 a0_6) ∧ w13.cell? (ad710.add ((x10_1).toNat * 2)) = some (.int .i64 ((rd_T33 l2 x10_1).f0)) ∧ w13.cell? ⟨(ad710.add ((x10_1).toNat * 2)).block, (ad710.add ((x10_1).toNat * 2)).off + 1, none⟩ = some (.int .i64 ((rd_T33 l2 x10_1).f1)) := hS_
            refine norm_ (a' := ?_) ?_ ?_
            rotate_left
            · simp only [putAll, Act.put, List.setIfInBounds_toArray, List.set_cons_zero, List.set_cons_succ]
              rfl
            refine one_ (i := 7) (N := none) #[true, true, true, true, true, true, true, true] rfl rfl (one_of HT_.out zq1) (by decide) (fun K hK => ?_)
            have hs14 : w13.cell? ⟨gb713, 0, none⟩ = some (.int .i64 0) := (blk_cell BK713.out 0).trans rfl
            have hfs14 := blk_frozen BK713.out 0
            have hns14_0 := NB708_713.out
            have hns14_1 := NB709_713.out
            have hms14_0 := NB713_708.out
            have hms14_1 := NB713_709.out
            have hs15 : w13.cell? ⟨gb713, 1, none⟩ = some (.int .i64 0) := (blk_cell BK713.out 1).trans rfl
            have hfs15 := blk_frozen BK713.out 1
            have hns15_0 := NB708_713.out
            have hns15_1 := NB709_713.out
            have hms15_0 := NB713_708.out
            have hms15_1 := NB713_709.out
            refine skip_ (w1 := ?_) (by rfl) rfl ?_ ?_
            rotate_left
            · go_simp
              rfl
            refine hK.out _ _ ⟨((cell_far (p := ⟨gb713, _, none⟩) NB708_713.out _).trans (((cell_far (p := ⟨gb713, _, none⟩) NB708_713.out _).trans (hHeld.1)))), ((cell_far (p := ⟨gb713, _, none⟩) NB708_713.out _).trans (((cell_far (p := ⟨gb713, _, none⟩) NB708_713.out _).trans (hHeld.2.1)))), ((cell_far (p := ⟨gb713, _, none⟩) NB708_713.out _).trans (((cell_far (p := ⟨gb713, _, none⟩) NB708_713.out _).trans (hHeld.2.2.1)))), ((cell_far (p := ⟨gb713, _, none⟩) NB708_713.out _).trans (((cell_far (p := ⟨gb713, _, none⟩) NB708_713.out _).trans (hHeld.2.2.2.1)))), ((cell_far (p := ⟨gb713, _, none⟩) NB708_713.out _).trans (((cell_far (p := ⟨gb713, _, none⟩) NB708_713.out _).trans (hHeld.2.2.2.2.1)))), ((cell_far (p := ⟨gb713, _, none⟩) NB708_713.out _).trans (((cell_far (p := ⟨gb713, _, none⟩) NB708_713.out _).trans (hHeld.2.2.2.2.2.1)))), ((cell_far (p := ⟨gb713, _, none⟩) NB708_713.out _).trans (((cell_far (p := ⟨gb713, _, none⟩) NB708_713.out _).trans (hHeld.2.2.2.2.2.2.1)))), ((cell_far (p := ⟨gb713, _, none⟩) zq44 _).trans (((cell_far (p := ⟨gb713, _, none⟩) zq44 _).trans (hHeld.2.2.2.2.2.2.2.1)))), ((cell_far (p := ⟨gb713, _, none⟩) zq45 _).trans (((cell_far (p := ⟨gb713, _, none⟩) zq45 _).trans (hHeld.2.2.2.2.2.2.2.2))))⟩ (fun hHeld => ?_)
            clear hK K
            refine done_ (done_of HT_.out zq1) ?_
            have hnb16 := NB709_708.out
            have hnc16 := NB708_709.out
            have hnb17 := NB709_713.out
            have hnc17 := NB713_709.out
            obtain ⟨hcz18_0, hcz18_1, hfz18_0, hfz18_1⟩ := zce2 BK709.out
            have hnb19 := NB713_708.out
            have hnc19 := NB708_713.out
            obtain ⟨hcz20_0, hcz20_1, hfz20_0, hfz20_1⟩ := zce2 BK713.out
            obtain ⟨hcz21_0, hcz21_1, hcz21_2, hcz21_3, hcz21_4, hcz21_5, hcz21_6, hfz21_0, hfz21_1, hfz21_2, hfz21_3, hfz21_4, hfz21_5, hfz21_6⟩ := zce7 BK708.out
            try go_wp2
            go_ret3
            exact ⟨_, zq6, zq10, zbz⟩
          · rw [if_neg c9] at H
            have c9b0 : decide ((wrap64 (x710000_1 - t712)) < a0_6) = false := decide_eq_false c9
            clear c9
            by_cases c22 : x9_1.length < 8796093022208
            · rw [if_pos c22] at H
              have LMc22 := Aside0.mk c22
              clear c22
              obtain ⟨y714, hy714⟩ : ∃ y_ : List (S27), y_ = (x9_1 ++ [(⟨wrap64 (x710000_1 - t712), wrap64 (x710001_1 - t711)⟩ : S27)]) := ⟨_, rfl⟩
              replace H : (isobathref03_energy.l0 k1 l2 y714 (wrap64 (x10_1 + 1)) a0_0 a0_1 a0_2 a0_3 a0_4 a0_5 a0_6 (wrap64 (x710000_1 - t712)) (wrap64 (x710001_1 - t711))) = some (r1, r2, r3) := by first | (rw [hy714]; with_reducible exact H) | (have H2_ := (Option.bind_some _ _).symm.trans H; rw [hy714]; with_reducible exact H2_) | (have H2_ := (Option.bind_some _ _).symm.trans H; with_reducible exact H2_) | with_reducible exact H | (rw [hy714]; exact H) | exact H
              have Ny714 := Aside0.mk hy714
              clear hy714
              have H' := Aside0.mk H
              clear H
              try go_wp2
              replace HO_9 := Aside0.mk (Kd.R_drew HO_9.out)
              replace BK708 := Aside0.mk (blk_drew BK708.out)
              replace BK709 := Aside0.mk (blk_drew BK709.out)
              replace HB := Aside0.mk (below_drew1 HB.out)
              have p710 : 0 ≤ (x10_1 : Int) := of_decide_eq_true zq4
              have q710 : x10_1 < (l2.length : Int) := of_decide_eq_true zq4
              obtain ⟨ad710, e710, hx710_0, hx710_1⟩ := at_T33 HR2.out x10_1 p710 q710
              have hw710_1 := hx710_1
              have hw710_0 := hx710_0
              cases e710
              replace hx710_0 := (HB.out.cell (World.block_lt_of_cell? w _ hx710_0)).trans hx710_0
              replace hx710_1 := (HB.out.cell (World.block_lt_of_cell? w _ hx710_1)).trans hx710_1
              replace p710 := eq_true p710
              replace q710 := eq_true q710
              refine start_ (n := 8) (S := fun w' => w'.cell? ⟨gb708, 0, none⟩ = some (.int .i64 a0_0) ∧ w'.cell? ⟨gb708, 1, none⟩ = some (.int .i64 a0_1) ∧ w'.cell? ⟨gb708, 2, none⟩ = some (.int .i64 a0_2) ∧ w'.cell? ⟨gb708, 3, none⟩ = some (.int .i64 a0_3) ∧ w'.cell? ⟨gb708, 4, none⟩ = some (.int .i64 a0_4) ∧ w'.cell? ⟨gb708, 5, none⟩ = some (.int .i64 a0_5) ∧ w'.cell? ⟨gb708, 6, none⟩ = some (.int .i64 a0_6) ∧ w'.cell? (ad710.add ((x10_1).toNat * 2)) = some (.int .i64 ((rd_T33 l2 x10_1).f0)) ∧ w'.cell? ⟨(ad710.add ((x10_1).toNat * 2)).block, (ad710.add ((x10_1).toNat * 2)).off + 1, none⟩ = some (.int .i64 ((rd_T33 l2 x10_1).f1))) (ds := []) #[false, false, false, false, false, false, false, false] zq1 rfl rfl ⟨(blk_cell BK708.out 0).trans rfl, (blk_cell BK708.out 1).trans rfl, (blk_cell BK708.out 2).trans rfl, (blk_cell BK708.out 3).trans rfl, (blk_cell BK708.out 4).trans rfl, (blk_cell BK708.out 5).trans rfl, (blk_cell BK708.out 6).trans rfl, ((HB.out.cell (World.block_lt_of_cell? w _ hw710_0)).trans hw710_0), ((HB.out.cell (World.block_lt_of_cell? w _ hw710_1)).trans hw710_1)⟩ (fun hHeld => ?_); refine with_tabW isobathref03_energy.tab5 isobathref03_energy.bits5 (fun HT_ HW_ => ?_)
              generalize wr.drew = w23 at HO_9 BK708 BK709 HB hx710_0 hx710_1 hHeld ⊢
              refine zpz (i := 1) (N := some 19) (any_of HT_.out zq1) ?_
              refine zpz (i := 2) (N := some 20) (any_of HT_.out zq1) ?_
              refine zpz (i := 3) (N := some 21) (any_of HT_.out zq1) ?_
              refine ztz (i := 0) (N := some 18) (take_ofW HT_.out HW_.out zq1) hHeld ?_
              refine ztz (i := 4) (N := some 22) (take_ofW HT_.out HW_.out zq1) hHeld ?_
              refine join_ (σ := Nat) 1 #[true, true, true, true, true, true, true, false] (fun s_ => [(23, .agg #[.int .i64 t711, .int .i64 t712]), (11, .pointer (some ⟨s_, 0, none⟩))]) (fun s_ w' => (w'.cell? ⟨gb708, 0, none⟩ = some (.int .i64 a0_0) ∧ w'.cell? ⟨gb708, 1, none⟩ = some (.int .i64 a0_1) ∧ w'.cell? ⟨gb708, 2, none⟩ = some (.int .i64 a0_2) ∧ w'.cell? ⟨gb708, 3, none⟩ = some (.int .i64 a0_3) ∧ w'.cell? ⟨gb708, 4, none⟩ = some (.int .i64 a0_4) ∧ w'.cell? ⟨gb708, 5, none⟩ = some (.int .i64 a0_5) ∧ w'.cell? ⟨gb708, 6, none⟩ = some (.int .i64 a0_6) ∧ w'.cell? (ad710.add ((x10_1).toNat * 2)) = some (.int .i64 ((rd_T33 l2 x10_1).f0)) ∧ w'.cell? ⟨(ad710.add ((x10_1).toNat * 2)).block, (ad710.add ((x10_1).toNat * 2)).off + 1, none⟩ = some (.int .i64 ((rd_T33 l2 x10_1).f1))) ∧ (Kd.R k27 27 w' w.heap.size (fun k_ => k_ ≠ gb709 ∧ k_ ≠ s_) u9 x9_1) ∧ (w'.heap[gb708]? = some (.cells #[.int .i64 a0_0, .int .i64 a0_1, .int .i64 a0_2, .int .i64 a0_3, .int .i64 a0_4, .int .i64 a0_5, .int .i64 a0_6] 29 (0, 0))) ∧ (w'.heap[gb709]? = some (.cells #[.int .i64 x710000_1, .int .i64 x710001_1] 27 (0, 0))) ∧ (w'.heap[s_]? = some (.cells #[.int .i64 0, .int .i64 0] 27 (0, 0))) ∧ (w.heap.size ≤ s_) ∧ (w.heap.size ≤ s_) ∧ (gb708 ≠ s_) ∧ (s_ ≠ gb708) ∧ (gb709 ≠ s_) ∧ (s_ ≠ gb709) ∧ (Below w.heap.size w w')) ?_ ?_
              rotate_left
              · intro hCont
                refine two_ (i := 5) (j := 6) (Ni := some 23) (Nj := some 11) #[true, true, true, true, true, true, false, false] #[true, true, true, true, true, false, true, false] rfl rfl rfl rfl (two_of HT_.out zq1) (by decide) (by decide) (fun K hK => ?_) (fun K hK => ?_)
                · skip
                  refine goes_ Try.func39 zq1 rfl #[.agg #[.int .i64 a0_0, .int .i64 a0_1, .int .i64 a0_2, .int .i64 a0_3, .int .i64 a0_4, .int .i64 a0_5, .int .i64 a0_6], .agg #[.int .i64 ((rd_T33 l2 x10_1).f0), .int .i64 ((rd_T33 l2 x10_1).f1)]] (by rfl) rfl rfl zq8 ?_
                  with_reducible refine (isobathref03_Takes.calls a0_0 a0_1 a0_2 a0_3 a0_4 a0_5 a0_6 ((rd_T33 l2 x10_1).f0) ((rd_T33 l2 x10_1).f1) t711 t712 _ A8.out).mono ?_
                  rintro e w24 ⟨rfl, hb⟩
                  refine ⟨_, rfl, ?_⟩
                  replace HO_9 := Aside0.mk (Kd.R_below zq42 hb)
                  replace BK708 := zbb BK708 hb
                  replace BK709 := zbb BK709 hb
                  replace HB := zbs HB hb
                  (try clear hb)
                  (try clear hb2)
                  (try clear hk)
                  (try clear hi)
                  refine hK.out _ _ ⟨(blk_cell BK708.out 0).trans rfl, (blk_cell BK708.out 1).trans rfl, (blk_cell BK708.out 2).trans rfl, (blk_cell BK708.out 3).trans rfl, (blk_cell BK708.out 4).trans rfl, (blk_cell BK708.out 5).trans rfl, (blk_cell BK708.out 6).trans rfl, ((HB.out.cell (World.block_lt_of_cell? w _ hw710_0)).trans hw710_0), ((HB.out.cell (World.block_lt_of_cell? w _ hw710_1)).trans hw710_1)⟩ (fun hHeld => ?_)
                  clear hK K
                  refine norm_ zq43 ?_
                  refine one_ (i := 6) (N := some 11) #[true, true, true, true, true, true, true, false] rfl rfl (one_of HT_.out zq1) (by decide) (fun K hK => ?_)
                  refine box_step ?hg (N := 11) ?hd (cs := #[.int .i64 0, .int .i64 0]) (t := 27) ?hr ?_; (case hd => rfl); (case hg => rfl); (case hr => first | (go_simp; done) | (go_simp; rfl))
                  intro gb713 hg w25 hbox hb
                  have BK713 := Aside0.mk (hbox)
                  have GW713 := zgs HB hg
                  have GE713 := zgs HB hg
                  have NB708_713 := znp BK708 hg
                  have NB713_708 := znq BK708 hg
                  have NB709_713 := znp BK709 hg
                  have NB713_709 := znq BK709 hg
                  replace HO_9 := Aside0.mk (Kd.R_below (Kd.R_elderB zq42 gb713 (Nat.le_of_eq hg.symm)) hb)
                  replace BK708 := zbb BK708 hb
                  replace BK709 := zbb BK709 hb
                  replace HB := zbs HB hb
                  clear hb hbox hg
                  refine hK.out _ _ ⟨(blk_cell BK708.out 0).trans rfl, (blk_cell BK708.out 1).trans rfl, (blk_cell BK708.out 2).trans rfl, (blk_cell BK708.out 3).trans rfl, (blk_cell BK708.out 4).trans rfl, (blk_cell BK708.out 5).trans rfl, (blk_cell BK708.out 6).trans rfl, ((HB.out.cell (World.block_lt_of_cell? w _ hw710_0)).trans hw710_0), ((HB.out.cell (World.block_lt_of_cell? w _ hw710_1)).trans hw710_1)⟩ (fun hHeld => ?_)
                  clear hK K
                  refine norm_ zq25 ?_
                  exact norm_ zq41 (hCont (gb713) _ ⟨hHeld, zq42, (by (with_reducible repeat (first | refine blk_drewN ?_ _ | refine blk_drew ?_ | refine blk_alloc ?_ _)); exact BK708.out), (by (with_reducible repeat (first | refine blk_drewN ?_ _ | refine blk_drew ?_ | refine blk_alloc ?_ _)); exact BK709.out), (by (with_reducible repeat (first | refine blk_drewN ?_ _ | refine blk_drew ?_ | refine blk_alloc ?_ _)); exact BK713.out), GW713.out, GE713.out, NB708_713.out, NB713_708.out, NB709_713.out, NB713_709.out, zbz⟩)
                · skip
                  refine box_step ?hg (N := 11) ?hd (cs := #[.int .i64 0, .int .i64 0]) (t := 27) ?hr ?_; (case hd => rfl); (case hg => rfl); (case hr => first | (go_simp; done) | (go_simp; rfl))
                  intro gb713 hg w24 hbox hb
                  have BK713 := Aside0.mk (hbox)
                  have GW713 := zgs HB hg
                  have GE713 := zgs HB hg
                  have NB708_713 := znp BK708 hg
                  have NB713_708 := znq BK708 hg
                  have NB709_713 := znp BK709 hg
                  have NB713_709 := znq BK709 hg
                  replace HO_9 := Aside0.mk (Kd.R_below (Kd.R_elderB zq42 gb713 (Nat.le_of_eq hg.symm)) hb)
                  replace BK708 := zbb BK708 hb
                  replace BK709 := zbb BK709 hb
                  replace HB := zbs HB hb
                  clear hb hbox hg
                  refine hK.out _ _ ⟨(blk_cell BK708.out 0).trans rfl, (blk_cell BK708.out 1).trans rfl, (blk_cell BK708.out 2).trans rfl, (blk_cell BK708.out 3).trans rfl, (blk_cell BK708.out 4).trans rfl, (blk_cell BK708.out 5).trans rfl, (blk_cell BK708.out 6).trans rfl, ((HB.out.cell (World.block_lt_of_cell? w _ hw710_0)).trans hw710_0), ((HB.out.cell (World.block_lt_of_cell? w _ hw710_1)).trans hw710_1)⟩ (fun hHeld => ?_)
                  clear hK K
                  refine norm_ zq25 ?_
                  refine one_ (i := 5) (N := some 23) #[true, true, true, true, true, true, true, false] rfl rfl (one_of HT_.out zq1) (by decide) (fun K hK => ?_)
                  refine goes_ Try.func39 zq1 rfl #[.agg #[.int .i64 a0_0, .int .i64 a0_1, .int .i64 a0_2, .int .i64 a0_3, .int .i64 a0_4, .int .i64 a0_5, .int .i64 a0_6], .agg #[.int .i64 ((rd_T33 l2 x10_1).f0), .int .i64 ((rd_T33 l2 x10_1).f1)]] (by rfl) rfl rfl zq8 ?_
                  with_reducible refine (isobathref03_Takes.calls a0_0 a0_1 a0_2 a0_3 a0_4 a0_5 a0_6 ((rd_T33 l2 x10_1).f0) ((rd_T33 l2 x10_1).f1) t711 t712 _ A8.out).mono ?_
                  rintro e w25 ⟨rfl, hb⟩
                  refine ⟨_, rfl, ?_⟩
                  replace HO_9 := Aside0.mk (Kd.R_below zq42 hb)
                  replace BK708 := zbb BK708 hb
                  replace BK709 := zbb BK709 hb
                  replace BK713 := zbb BK713 hb
                  replace HB := zbs HB hb
                  (try clear hb)
                  (try clear hb2)
                  (try clear hk)
                  (try clear hi)
                  refine hK.out _ _ ⟨(blk_cell BK708.out 0).trans rfl, (blk_cell BK708.out 1).trans rfl, (blk_cell BK708.out 2).trans rfl, (blk_cell BK708.out 3).trans rfl, (blk_cell BK708.out 4).trans rfl, (blk_cell BK708.out 5).trans rfl, (blk_cell BK708.out 6).trans rfl, ((HB.out.cell (World.block_lt_of_cell? w _ hw710_0)).trans hw710_0), ((HB.out.cell (World.block_lt_of_cell? w _ hw710_1)).trans hw710_1)⟩ (fun hHeld => ?_)
                  clear hK K
                  refine norm_ zq43 ?_
                  exact norm_ zq41 (hCont (gb713) _ ⟨hHeld, zq42, (by (with_reducible repeat (first | refine blk_drewN ?_ _ | refine blk_drew ?_ | refine blk_alloc ?_ _)); exact BK708.out), (by (with_reducible repeat (first | refine blk_drewN ?_ _ | refine blk_drew ?_ | refine blk_alloc ?_ _)); exact BK709.out), (by (with_reducible repeat (first | refine blk_drewN ?_ _ | refine blk_drew ?_ | refine blk_alloc ?_ _)); exact BK713.out), GW713.out, GE713.out, NB708_713.out, NB713_708.out, NB709_713.out, NB713_709.out, zbz⟩)
              rintro gb713 w26 ⟨hS_, h0_, h1_, h2_, h3_, h4_, h5_, h6_, h7_, h8_, h9_, h10_⟩
              have n0_ : Aside0 (Kd.R k27 27 w26 w.heap.size (fun k_ => k_ ≠ gb709 ∧ k_ ≠ gb713) u9 x9_1) := ⟨h0_⟩
              have n1_ : Aside0 (w26.heap[gb708]? = some (.cells #[.int .i64 a0_0, .int .i64 a0_1, .int .i64 a0_2, .int .i64 a0_3, .int .i64 a0_4, .int .i64 a0_5, .int .i64 a0_6] 29 (0, 0))) := ⟨h1_⟩
              have n2_ : Aside0 (w26.heap[gb709]? = some (.cells #[.int .i64 x710000_1, .int .i64 x710001_1] 27 (0, 0))) := ⟨h2_⟩
              have n3_ : Aside0 (w26.heap[gb713]? = some (.cells #[.int .i64 0, .int .i64 0] 27 (0, 0))) := ⟨h3_⟩
              have n4_ : Aside0 (w.heap.size ≤ gb713) := ⟨h4_⟩
              have n5_ : Aside0 (w.heap.size ≤ gb713) := ⟨h5_⟩
              have n6_ : Aside0 (gb708 ≠ gb713) := ⟨h6_⟩
              have n7_ : Aside0 (gb713 ≠ gb708) := ⟨h7_⟩
              have n8_ : Aside0 (gb709 ≠ gb713) := ⟨h8_⟩
              have n9_ : Aside0 (gb713 ≠ gb709) := ⟨h9_⟩
              have n10_ : Aside0 (Below w.heap.size w w26) := ⟨h10_⟩
              clear HO_9
              clear BK708
              clear BK709
              clear HB
              clear h0_ h1_ h2_ h3_ h4_ h5_ h6_ h7_ h8_ h9_ h10_
              have HO_9 := n0_
              have BK708 := n1_
              have BK709 := n2_
              have BK713 := n3_
              have GW713 := n4_
              have GE713 := n5_
              have NB708_713 := n6_
              have NB713_708 := n7_
              have NB709_713 := n8_
              have NB713_709 := n9_
              have HB := n10_
              clear n0_ n1_ n2_ n3_ n4_ n5_ n6_ n7_ n8_ n9_ n10_
              have hHeld : w26.cell? ⟨gb708, 0, none⟩ = some (.int .i64 a0_0) ∧ w26.cell? ⟨gb708, 1, none⟩ = some (.int .i64 a0_1) ∧ w26.cell? ⟨gb708, 2, none⟩ = some (.int .i64 a0_2) ∧ w26.cell? ⟨gb708, 3, none⟩ = some (.int .i64 a0_3) ∧ w26.cell? ⟨gb708, 4, none⟩ = some (.int .i64 a0_4) ∧ w26.cell? ⟨gb708, 5, none⟩ = some (.int .i64 a0_5) ∧ w26.cell? ⟨gb708, 6, none⟩ = some (.int .i64 a0_6) ∧ w26.cell? (ad710.add ((x10_1).toNat * 2)) = some (.int .i64 ((rd_T33 l2 x10_1).f0)) ∧ w26.cell? ⟨(ad710.add ((x10_1).toNat * 2)).block, (ad710.add ((x10_1).toNat * 2)).off + 1, none⟩ = some (.int .i64 ((rd_T33 l2 x10_1).f1)) := hS_
              refine norm_ (a' := ?_) ?_ ?_
              rotate_left
              · simp only [putAll, Act.put, List.setIfInBounds_toArray, List.set_cons_zero, List.set_cons_succ]
                rfl
              refine one_ (i := 7) (N := none) #[true, true, true, true, true, true, true, true] rfl rfl (one_of HT_.out zq1) (by decide) (fun K hK => ?_)
              have hs27 : w26.cell? ⟨gb713, 0, none⟩ = some (.int .i64 0) := (blk_cell BK713.out 0).trans rfl
              have hfs27 := blk_frozen BK713.out 0
              have hns27_0 := NB708_713.out
              have hns27_1 := NB709_713.out
              have hms27_0 := NB713_708.out
              have hms27_1 := NB713_709.out
              have hs28 : w26.cell? ⟨gb713, 1, none⟩ = some (.int .i64 0) := (blk_cell BK713.out 1).trans rfl
              have hfs28 := blk_frozen BK713.out 1
              have hns28_0 := NB708_713.out
              have hns28_1 := NB709_713.out
              have hms28_0 := NB713_708.out
              have hms28_1 := NB713_709.out
              refine skip_ (w1 := ?_) (by rfl) rfl ?_ ?_
              rotate_left
              · go_simp
                rfl
              refine hK.out _ _ ⟨((cell_far (p := ⟨gb713, _, none⟩) NB708_713.out _).trans (((cell_far (p := ⟨gb713, _, none⟩) NB708_713.out _).trans (hHeld.1)))), ((cell_far (p := ⟨gb713, _, none⟩) NB708_713.out _).trans (((cell_far (p := ⟨gb713, _, none⟩) NB708_713.out _).trans (hHeld.2.1)))), ((cell_far (p := ⟨gb713, _, none⟩) NB708_713.out _).trans (((cell_far (p := ⟨gb713, _, none⟩) NB708_713.out _).trans (hHeld.2.2.1)))), ((cell_far (p := ⟨gb713, _, none⟩) NB708_713.out _).trans (((cell_far (p := ⟨gb713, _, none⟩) NB708_713.out _).trans (hHeld.2.2.2.1)))), ((cell_far (p := ⟨gb713, _, none⟩) NB708_713.out _).trans (((cell_far (p := ⟨gb713, _, none⟩) NB708_713.out _).trans (hHeld.2.2.2.2.1)))), ((cell_far (p := ⟨gb713, _, none⟩) NB708_713.out _).trans (((cell_far (p := ⟨gb713, _, none⟩) NB708_713.out _).trans (hHeld.2.2.2.2.2.1)))), ((cell_far (p := ⟨gb713, _, none⟩) NB708_713.out _).trans (((cell_far (p := ⟨gb713, _, none⟩) NB708_713.out _).trans (hHeld.2.2.2.2.2.2.1)))), ((cell_far (p := ⟨gb713, _, none⟩) zq44 _).trans (((cell_far (p := ⟨gb713, _, none⟩) zq44 _).trans (hHeld.2.2.2.2.2.2.2.1)))), ((cell_far (p := ⟨gb713, _, none⟩) zq45 _).trans (((cell_far (p := ⟨gb713, _, none⟩) zq45 _).trans (hHeld.2.2.2.2.2.2.2.2))))⟩ (fun hHeld => ?_)
              clear hK K
              refine done_ (done_of HT_.out zq1) ?_
              have hnb29 := NB709_708.out
              have hnc29 := NB708_709.out
              have hnb30 := NB709_713.out
              have hnc30 := NB713_709.out
              obtain ⟨hcz31_0, hcz31_1, hfz31_0, hfz31_1⟩ := zce2 BK709.out
              have hnb32 := NB713_708.out
              have hnc32 := NB708_713.out
              obtain ⟨hcz33_0, hcz33_1, hfz33_0, hfz33_1⟩ := zce2 BK713.out
              obtain ⟨hcz34_0, hcz34_1, hcz34_2, hcz34_3, hcz34_4, hcz34_5, hcz34_6, hfz34_0, hfz34_1, hfz34_2, hfz34_3, hfz34_4, hfz34_5, hfz34_6⟩ := zce7 BK708.out
              try go_wp2_with (first | ((with_reducible refine gate_builtin (b := .append) (xs := #[.tmp 41, .tmp 43]) rfl ?_); at_builtin; refine Kd.R_append k27 (w0 := w) w.heap.size rfl (.tmp 41) (.tmp 43) 66 27 (.agg #[(.int .i64 0), (.int .i64 0)]) 16 rfl Try.underlying66 info27 rfl (by decide) (by omega) u9 x9_1 (⟨wrap64 (x710000_1 - t712), wrap64 (x710001_1 - t711)⟩ : S27) [.int .i64 (wrap64 (x710000_1 - t712)), .int .i64 (wrap64 (x710001_1 - t711))] (fun k_ => k_ ≠ gb709 ∧ k_ ≠ gb713) (fun _ => False) rfl zq5 ?aP (fun _ hk => hk.elim) ?aF ?aO ?aB ?aS ?aL ?_; (case aP => exact k27_mkM _ _ _ (⟨wrap64 (x710000_1 - t712), wrap64 (x710001_1 - t711)⟩ : S27)); (case aB => exact zbz); (case aF => exact (fun k_ hk => ⟨Kd.freshB (g := gb709) (o := .cells #[.int .i64 (wrap64 (x710000_1 - t712)), .int .i64 (wrap64 (x710001_1 - t711))] 27 (0, 0)) (by (with_reducible repeat (first | refine blk_drewN ?_ _ | refine blk_drew ?_ | refine blk_alloc ?_ _)); refine blk_put (cs := #[.int .i64 (wrap64 (x710000_1 - t712)), .int .i64 x710001_1]) ?_ 1 _ rfl; (with_reducible repeat (first | refine blk_drewN ?_ _ | refine blk_drew ?_ | refine blk_alloc ?_ _)); refine blk_put (cs := #[.int .i64 x710000_1, .int .i64 x710001_1]) ?_ 0 _ rfl; (with_reducible repeat (first | refine blk_drewN ?_ _ | refine blk_drew ?_ | refine blk_alloc ?_ _)); refine blk_far ?_ NB709_713.out _; (with_reducible repeat (first | refine blk_drewN ?_ _ | refine blk_drew ?_ | refine blk_alloc ?_ _)); refine blk_far ?_ NB709_713.out _; (with_reducible repeat (first | refine blk_drewN ?_ _ | refine blk_drew ?_ | refine blk_alloc ?_ _)); exact BK709.out) k_ hk, Kd.freshB (g := gb713) (o := .cells #[.int .i64 t711, .int .i64 t712] 27 (0, 0)) (by (with_reducible repeat (first | refine blk_drewN ?_ _ | refine blk_drew ?_ | refine blk_alloc ?_ _)); refine blk_far ?_ NB713_709.out _; (with_reducible repeat (first | refine blk_drewN ?_ _ | refine blk_drew ?_ | refine blk_alloc ?_ _)); refine blk_far ?_ NB713_709.out _; (with_reducible repeat (first | refine blk_drewN ?_ _ | refine blk_drew ?_ | refine blk_alloc ?_ _)); refine blk_put (cs := #[.int .i64 t711, .int .i64 0]) ?_ 1 _ rfl; (with_reducible repeat (first | refine blk_drewN ?_ _ | refine blk_drew ?_ | refine blk_alloc ?_ _)); refine blk_put (cs := #[.int .i64 0, .int .i64 0]) ?_ 0 _ rfl; (with_reducible repeat (first | refine blk_drewN ?_ _ | refine blk_drew ?_ | refine blk_alloc ?_ _)); exact BK713.out) k_ hk⟩)); (case aO => exact (by (with_reducible repeat (first | apply Kd.R_alloc | apply Kd.R_drewN | apply Kd.R_drew)); exact Kd.R_mono (Kd.R_far (p := ⟨gb709, 1, none⟩) (Kd.R_far (p := ⟨gb709, 0, none⟩) (Kd.R_far (p := ⟨gb713, 1, none⟩) (Kd.R_far (p := ⟨gb713, 0, none⟩) (Kd.R_mono (Kd.R_mono HO_9.out (fun k_ hk => (⟨hk, hk.2⟩ : _ ∧ k_ ≠ gb713))) (fun k_ hk => (⟨hk, hk.1.1⟩ : _ ∧ k_ ≠ gb709))) (fun _ hk => hk.1.2) (.int .i64 t711)) (fun _ hk => hk.1.2) (.int .i64 t712)) (fun _ hk => hk.2) (.int .i64 (wrap64 (x710000_1 - t712)))) (fun _ hk => hk.2) (.int .i64 (wrap64 (x710001_1 - t711)))) (fun _ hk => ⟨hk.1.1.1, hk.1.1.2⟩))); (case aS => exact (below_size zbz)); (case aL => have := LMc22.out; omega); intro v715 w35 ho hb hg hat; rw [← Ny714.out] at ho; have n0_ := Aside0.mk (blk_grown (g := gb708) (o := .cells #[.int .i64 a0_0, .int .i64 a0_1, .int .i64 a0_2, .int .i64 a0_3, .int .i64 a0_4, .int .i64 a0_5, .int .i64 a0_6] 29 (0, 0)) (by (with_reducible repeat (first | refine blk_drewN ?_ _ | refine blk_drew ?_ | refine blk_alloc ?_ _)); refine blk_far ?_ NB708_709.out _; (with_reducible repeat (first | refine blk_drewN ?_ _ | refine blk_drew ?_ | refine blk_alloc ?_ _)); refine blk_far ?_ NB708_709.out _; (with_reducible repeat (first | refine blk_drewN ?_ _ | refine blk_drew ?_ | refine blk_alloc ?_ _)); refine blk_far ?_ NB708_713.out _; (with_reducible repeat (first | refine blk_drewN ?_ _ | refine blk_drew ?_ | refine blk_alloc ?_ _)); refine blk_far ?_ NB708_713.out _; (with_reducible repeat (first | refine blk_drewN ?_ _ | refine blk_drew ?_ | refine blk_alloc ?_ _)); exact BK708.out) hg (Kd.R_ne HO_9.out BK708.out (by decide))); have n1_ := Aside0.mk (blk_grown (g := gb709) (o := .cells #[.int .i64 (wrap64 (x710000_1 - t712)), .int .i64 (wrap64 (x710001_1 - t711))] 27 (0, 0)) (by (with_reducible repeat (first | refine blk_drewN ?_ _ | refine blk_drew ?_ | refine blk_alloc ?_ _)); refine blk_put (cs := #[.int .i64 (wrap64 (x710000_1 - t712)), .int .i64 x710001_1]) ?_ 1 _ rfl; (with_reducible repeat (first | refine blk_drewN ?_ _ | refine blk_drew ?_ | refine blk_alloc ?_ _)); refine blk_put (cs := #[.int .i64 x710000_1, .int .i64 x710001_1]) ?_ 0 _ rfl; (with_reducible repeat (first | refine blk_drewN ?_ _ | refine blk_drew ?_ | refine blk_alloc ?_ _)); refine blk_far ?_ NB709_713.out _; (with_reducible repeat (first | refine blk_drewN ?_ _ | refine blk_drew ?_ | refine blk_alloc ?_ _)); refine blk_far ?_ NB709_713.out _; (with_reducible repeat (first | refine blk_drewN ?_ _ | refine blk_drew ?_ | refine blk_alloc ?_ _)); exact BK709.out) hg (Kd.R_away HO_9.out (fun _ hk => hk.1))); have n2_ := Aside0.mk (blk_grown (g := gb713) (o := .cells #[.int .i64 t711, .int .i64 t712] 27 (0, 0)) (by (with_reducible repeat (first | refine blk_drewN ?_ _ | refine blk_drew ?_ | refine blk_alloc ?_ _)); refine blk_far ?_ NB713_709.out _; (with_reducible repeat (first | refine blk_drewN ?_ _ | refine blk_drew ?_ | refine blk_alloc ?_ _)); refine blk_far ?_ NB713_709.out _; (with_reducible repeat (first | refine blk_drewN ?_ _ | refine blk_drew ?_ | refine blk_alloc ?_ _)); refine blk_put (cs := #[.int .i64 t711, .int .i64 0]) ?_ 1 _ rfl; (with_reducible repeat (first | refine blk_drewN ?_ _ | refine blk_drew ?_ | refine blk_alloc ?_ _)); refine blk_put (cs := #[.int .i64 0, .int .i64 0]) ?_ 0 _ rfl; (with_reducible repeat (first | refine blk_drewN ?_ _ | refine blk_drew ?_ | refine blk_alloc ?_ _)); exact BK713.out) hg (Kd.R_away HO_9.out (fun _ hk => hk.2))); have n3_ := Aside0.mk (hb); have n4_ := Aside0.mk (ho); clear BK708; clear BK709; clear BK713; clear HB; clear HO_9; have BK708 := n0_; have BK709 := n1_; have BK713 := n2_; have HB := n3_; have HO716 := n4_; clear n0_ n1_ n2_ n3_ n4_; clear ho hb hg hat))
              go_roundg k1
              case measure => have := HK1.out; omega
              case rel => exact ⟨(y714), (wrap64 (x10_1 + 1)), (wrap64 (x710000_1 - t712)), (wrap64 (x710001_1 - t711)), zq2, H', ⟨zq7⟩, ⟨by (with_reducible repeat (first | apply Kd.R_alloc | apply Kd.R_drewN | apply Kd.R_drew)); exact Kd.R_mono HO716.out (fun _ hk => hk.1)⟩, ⟨by (with_reducible repeat (first | refine blk_drewN ?_ _ | refine blk_drew ?_ | refine blk_alloc ?_ _)); exact BK708.out⟩, ⟨by (with_reducible repeat (first | refine blk_drewN ?_ _ | refine blk_drew ?_ | refine blk_alloc ?_ _)); exact BK709.out⟩, ⟨zbz⟩⟩
            · rw [if_neg c22] at H
              exact absurd H (by simp)
        · rw [if_neg c7] at H
          exact absurd H (by simp)
      · rw [if_neg c6] at H
        have c6b0 : decide (x10_1 < (l2.length : Int)) = false := decide_eq_false c6
        clear c6
        simp only [Option.some.injEq, Prod.mk.injEq] at H
        obtain ⟨rfl, rfl, rfl⟩ := H
        go_wp2
        go_ret3
        exact ⟨_, zq6, by (with_reducible repeat (first | apply Kd.R_alloc | apply Kd.R_drewN | apply Kd.R_drew)); exact Kd.R_mono HO_9.out (fun _ hk => trivial), zbz⟩

end Go.Proofs.Ytmhaiihjfgfaoaa.Pr
end
section
namespace Go.Proofs.Ytmhaiihjfgfaoaa.Pr
open Go.RowKit Go.Proofs.YtmhaiihjfgfaoaaW.PrintWords Go.Proofs.YtmhaiihjfgfaoaaW.PrintLast Go.Proofs.YtmhaiihjfgfaoaaW.PrintMore
attribute [local go_sem] max2_int min2_int max_two min_two max_four
set_option linter.unusedVariables false
set_option linter.unusedSimpArgs false

/-! ### isobathref03_Energy: function 44 -/
def isobathref03_Energy.f (k : Nat) (a0_0 : Int) (a0_1 : Int) (a0_2 : Int) (a0_3 : Int) (a0_4 : Int) (a0_5 : Int) (a0_6 : Int) (a1_0 : Int) (a1_1 : Int) (l2 : List (S33)) : Option ((List (S27)) × Int × Int) := (isobathref03_CheckVehicle.f a0_0 a0_1 a0_2 a0_3 a0_4 a0_5 a0_6).bind fun t719 => (if t719 = 0 then ((isobathref03_bounded.f a1_0 a1_1 0 1073741824).bind fun t721 => (if t721 = true then ((isobathref03_courses.f k l2 (-1)).bind fun t722 => (if t722 = 0 then ((isobathref03_energy.f k a0_0 a0_1 a0_2 a0_3 a0_4 a0_5 a0_6 a1_0 a1_1 l2).bind fun bt723 => (some (bt723.1, bt723.2.1, bt723.2.2))) else ((isobathref03_courses.f k l2 (-1)).bind fun t728 => (some (([] : List (S27)), 0, t728))))) else (some (([] : List (S27)), 0, 2)))) else ((isobathref03_CheckVehicle.f a0_0 a0_1 a0_2 a0_3 a0_4 a0_5 a0_6).bind fun t720 => (some (([] : List (S27)), 0, t720))))
set_option maxHeartbeats 8000000 in
set_option maxRecDepth 100000 in
theorem isobathref03_Energy.calls (k : Nat) (a0_0 : Int) (a0_1 : Int) (a0_2 : Int) (a0_3 : Int) (a0_4 : Int) (a0_5 : Int) (a0_6 : Int) (a1_0 : Int) (a1_1 : Int) (A2 : Option Addr) (c2 : Nat) (l2 : List (S33)) (r1 : List (S27)) (r2 : Int) (r3 : Int) (w : World) (hr2 : Kd.C k33 w A2 l2.length l2) (hc2 : l2.length ≤ c2) (h : isobathref03_Energy.f k a0_0 a0_1 a0_2 a0_3 a0_4 a0_5 a0_6 a1_0 a1_1 l2 = some (r1, r2, r3)) :
    Calls Try.prog 44 #[.agg #[.int .i64 a0_0, .int .i64 a0_1, .int .i64 a0_2, .int .i64 a0_3, .int .i64 a0_4, .int .i64 a0_5, .int .i64 a0_6], .agg #[.int .i64 a1_0, .int .i64 a1_1], .slice A2 l2.length c2] w fun e w' => ∃ v0_ : Value, e = .returned (.tuple #[v0_, .int .i64 r2, .int .i64 r3]) ∧ Kd.R k27 27 w' w.heap.size (fun _ => True) v0_ r1 ∧ Below w.heap.size w w' := by
  have hu29 := Try.underlying29
  have hu27 := Try.underlying27
  have HR2 := Aside0.mk hr2
  have HC2 := Aside0.mk hc2
  clear hr2 hc2
  have HB := Aside0.mk (Below.refl w.heap.size w)
  have H : ((isobathref03_CheckVehicle.f a0_0 a0_1 a0_2 a0_3 a0_4 a0_5 a0_6).bind fun t719 => (if t719 = 0 then ((isobathref03_bounded.f a1_0 a1_1 0 1073741824).bind fun t721 => (if t721 = true then ((isobathref03_courses.f k l2 (-1)).bind fun t722 => (if t722 = 0 then ((isobathref03_energy.f k a0_0 a0_1 a0_2 a0_3 a0_4 a0_5 a0_6 a1_0 a1_1 l2).bind fun bt723 => (some (bt723.1, bt723.2.1, bt723.2.2))) else ((isobathref03_courses.f k l2 (-1)).bind fun t728 => (some (([] : List (S27)), 0, t728))))) else (some (([] : List (S27)), 0, 2)))) else ((isobathref03_CheckVehicle.f a0_0 a0_1 a0_2 a0_3 a0_4 a0_5 a0_6).bind fun t720 => (some (([] : List (S27)), 0, t720))))) = some (r1, r2, r3) := h
  clear h
  replace H := Option.bind_eq_some_iff.mp H
  obtain ⟨t719, A40, H⟩ := H
  replace H : (if t719 = 0 then ((isobathref03_bounded.f a1_0 a1_1 0 1073741824).bind fun t721 => (if t721 = true then ((isobathref03_courses.f k l2 (-1)).bind fun t722 => (if t722 = 0 then ((isobathref03_energy.f k a0_0 a0_1 a0_2 a0_3 a0_4 a0_5 a0_6 a1_0 a1_1 l2).bind fun bt723 => (some (bt723.1, bt723.2.1, bt723.2.2))) else ((isobathref03_courses.f k l2 (-1)).bind fun t728 => (some (([] : List (S27)), 0, t728))))) else (some (([] : List (S27)), 0, 2)))) else ((isobathref03_CheckVehicle.f a0_0 a0_1 a0_2 a0_3 a0_4 a0_5 a0_6).bind fun t720 => (some (([] : List (S27)), 0, t720)))) = some (r1, r2, r3) := H
  have A4 := Aside0.mk A40
  clear A40
  by_cases c5 : t719 = 0
  · rw [if_pos c5] at H
    have c5b0 : (t719 == 0) = true := beq_iff_eq.mpr c5
    have c5b1 : (t719 != 0) = false := bne_eq_false_iff_eq.mpr c5
    clear c5
    replace H := Option.bind_eq_some_iff.mp H
    obtain ⟨t721, A60, H⟩ := H
    replace H : (if t721 = true then ((isobathref03_courses.f k l2 (-1)).bind fun t722 => (if t722 = 0 then ((isobathref03_energy.f k a0_0 a0_1 a0_2 a0_3 a0_4 a0_5 a0_6 a1_0 a1_1 l2).bind fun bt723 => (some (bt723.1, bt723.2.1, bt723.2.2))) else ((isobathref03_courses.f k l2 (-1)).bind fun t728 => (some (([] : List (S27)), 0, t728))))) else (some (([] : List (S27)), 0, 2))) = some (r1, r2, r3) := H
    have A6 := Aside0.mk A60
    clear A60
    by_cases c7 : t721 = true
    · subst c7
      have H1 : ((isobathref03_courses.f k l2 (-1)).bind fun t722 => (if t722 = 0 then ((isobathref03_energy.f k a0_0 a0_1 a0_2 a0_3 a0_4 a0_5 a0_6 a1_0 a1_1 l2).bind fun bt723 => (some (bt723.1, bt723.2.1, bt723.2.2))) else ((isobathref03_courses.f k l2 (-1)).bind fun t728 => (some (([] : List (S27)), 0, t728))))) = some (r1, r2, r3) := by rw [if_pos rfl] at H; exact H
      clear H
      have H := H1
      clear H1
      replace H := Option.bind_eq_some_iff.mp H
      obtain ⟨t722, A80, H⟩ := H
      replace H : (if t722 = 0 then ((isobathref03_energy.f k a0_0 a0_1 a0_2 a0_3 a0_4 a0_5 a0_6 a1_0 a1_1 l2).bind fun bt723 => (some (bt723.1, bt723.2.1, bt723.2.2))) else ((isobathref03_courses.f k l2 (-1)).bind fun t728 => (some (([] : List (S27)), 0, t728)))) = some (r1, r2, r3) := H
      have A8 := Aside0.mk A80
      clear A80
      by_cases c9 : t722 = 0
      · rw [if_pos c9] at H
        have c9b0 : (t722 == 0) = true := beq_iff_eq.mpr c9
        have c9b1 : (t722 != 0) = false := bne_eq_false_iff_eq.mpr c9
        clear c9
        replace H := Option.bind_eq_some_iff.mp H
        obtain ⟨⟨t723, t726, t727⟩, A100, H⟩ := H
        replace H : (some (t723, t726, t727)) = some (r1, r2, r3) := H
        have A10 := Aside0.mk A100
        clear A100
        simp only [Option.some.injEq, Prod.mk.injEq] at H
        obtain ⟨rfl, rfl, rfl⟩ := H
        go_enter Try.func44, Try.ntmps44
        go_wp2_with (first | ((with_reducible refine gate_dst (N := 3) rfl ?_); refine box_event (by rfl) (N := 3) (by rfl) (cs := #[.int .i64 a0_0, .int .i64 a0_1, .int .i64 a0_2, .int .i64 a0_3, .int .i64 a0_4, .int .i64 a0_5, .int .i64 a0_6]) (t := 29) zq5 ?_; intro gb717 hg w11 hbox hb; have BK717 := Aside0.mk (hbox); have GW717 := zgs HB hg; have GE717 := zgs HB hg; replace HB := zbs HB hb; clear hb hbox hg) | ((with_reducible refine gate_dst (N := 4) rfl ?_); refine box_event (by rfl) (N := 4) (by rfl) (cs := #[.int .i64 a1_0, .int .i64 a1_1]) (t := 27) zq5 ?_; intro gb718 hg w12 hbox hb; have BK718 := Aside0.mk (hbox); have GW718 := zgs HB hg; have GE718 := zgs HB hg; have NB717_718 := znp BK717 hg; have NB718_717 := znq BK717 hg; replace BK717 := zbb BK717 hb; replace HB := zbs HB hb; clear hb hbox hg; have hnb13 := NB717_718.out; have hnc13 := NB718_717.out; obtain ⟨hcz14_0, hcz14_1, hcz14_2, hcz14_3, hcz14_4, hcz14_5, hcz14_6, hfz14_0, hfz14_1, hfz14_2, hfz14_3, hfz14_4, hfz14_5, hfz14_6⟩ := zce7 BK717.out) | ((with_reducible refine gate_callee (f := 28) rfl ?_); refine goesL_ (some 10) rfl rfl Try.func28 zq1 rfl #[.agg #[.int .i64 a0_0, .int .i64 a0_1, .int .i64 a0_2, .int .i64 a0_3, .int .i64 a0_4, .int .i64 a0_5, .int .i64 a0_6]] rfl zq8 ?_; (with_reducible refine (isobathref03_CheckVehicle.calls a0_0 a0_1 a0_2 a0_3 a0_4 a0_5 a0_6 t719 _ A4.out).mono ?_); rintro e w15 ⟨rfl, hb⟩; refine ⟨_, rfl, ?_⟩; replace BK717 := zbb BK717 hb; replace BK718 := zbb BK718 hb; replace HB := zbs HB hb; (try clear hb); (try clear hb2); (try clear hk); (try clear hi); obtain ⟨hcz16_0, hcz16_1, hfz16_0, hfz16_1⟩ := zce2 BK718.out) | ((with_reducible refine gate_callee (f := 78) rfl ?_); refine goesL_ (some 15) rfl rfl Try.func78 zq1 rfl #[.agg #[.int .i64 a1_0, .int .i64 a1_1], .int .i64 0, .int .i64 1073741824] rfl zq8 ?_; (with_reducible refine (isobathref03_bounded.calls a1_0 a1_1 0 1073741824 true _ A6.out).mono ?_); rintro e w17 ⟨rfl, hb⟩; refine ⟨_, rfl, ?_⟩; replace BK717 := zbb BK717 hb; replace BK718 := zbb BK718 hb; replace HB := zbs HB hb; (try clear hb); (try clear hb2); (try clear hk); (try clear hi)) | ((with_reducible refine gate_callee (f := 81) rfl ?_); refine goesL_ (some 18) rfl rfl Try.func81 zq1 rfl #[.slice A2 l2.length c2, .int .i64 (-1)] rfl zq8 ?_; (with_reducible refine (isobathref03_courses.calls k _ _ l2 (-1) t722 _ ?side1 ?side2 A8.out).mono ?_); (case side1 => repeat (first | exact (Kd.C_below HR2.out HB.out) | (with_reducible refine Kd.C_alloc ?_ _) | (with_reducible refine Kd.C_drewN ?_ _) | (with_reducible refine Kd.C_drew ?_))); (case side2 => exact HC2.out); rintro e w' ⟨rfl, ⟨nd, rfl⟩⟩; refine ⟨_, rfl, ?_⟩; obtain ⟨hcz18_0, hcz18_1, hcz18_2, hcz18_3, hcz18_4, hcz18_5, hcz18_6, hfz18_0, hfz18_1, hfz18_2, hfz18_3, hfz18_4, hfz18_5, hfz18_6⟩ := zce7 BK717.out; obtain ⟨hcz19_0, hcz19_1, hfz19_0, hfz19_1⟩ := zce2 BK718.out) | ((with_reducible refine gate_callee (f := 92) rfl ?_); refine goesL_ (some 25) rfl rfl Try.func92 zq1 rfl #[.agg #[.int .i64 a0_0, .int .i64 a0_1, .int .i64 a0_2, .int .i64 a0_3, .int .i64 a0_4, .int .i64 a0_5, .int .i64 a0_6], .agg #[.int .i64 a1_0, .int .i64 a1_1], .slice A2 l2.length c2] rfl zq8 ?_; (with_reducible refine (isobathref03_energy.calls k a0_0 a0_1 a0_2 a0_3 a0_4 a0_5 a0_6 a1_0 a1_1 _ _ l2 t723 t726 t727 _ ?side1 ?side2 A10.out).mono ?_); (case side1 => repeat (first | exact (Kd.C_below HR2.out zbz) | (with_reducible refine Kd.C_alloc ?_ _) | (with_reducible refine Kd.C_drewN ?_ _) | (with_reducible refine Kd.C_drew ?_))); (case side2 => exact HC2.out); rintro e w20 ⟨v724, rfl, ho0, hb⟩; refine ⟨_, rfl, ?_⟩; have n0_ := Aside0.mk (Kd.R_lower (Kd.R_newB ho0 (g := gb718) (o := .cells #[.int .i64 a1_0, .int .i64 a1_1] 27 (0, 0)) (by (with_reducible repeat (first | refine blk_drewN ?_ _ | refine blk_drew ?_ | refine blk_alloc ?_ _)); exact BK718.out)) (below_size zbz)); have n1_ := zbb BK717 hb; have n2_ := zbb BK718 hb; have n3_ := zbs HB hb; clear BK717; clear BK718; clear HB; have HO725 := n0_; have BK717 := n1_; have BK718 := n2_; have HB := n3_; clear n0_ n1_ n2_ n3_; (try clear hb); (try clear hb2); (try clear hk); (try clear hi); (try clear ho0)))
        go_ret3
        exact ⟨_, zq6, by (with_reducible repeat (first | apply Kd.R_alloc | apply Kd.R_drewN | apply Kd.R_drew)); exact Kd.R_mono HO725.out (fun _ hk => trivial), zbz⟩
      · rw [if_neg c9] at H
        have c9b0 : (t722 == 0) = false := beq_eq_false_iff_ne.mpr c9
        have c9b1 : (t722 != 0) = true := bne_iff_ne.mpr c9
        replace H := Option.bind_eq_some_iff.mp H
        obtain ⟨t728, A210, H⟩ := H
        replace H : (some (([] : List (S27)), 0, t728)) = some (r1, r2, r3) := H
        have A21 := Aside0.mk A210
        clear A210
        simp only [Option.some.injEq, Prod.mk.injEq] at H
        obtain ⟨rfl, rfl, rfl⟩ := H
        go_enter Try.func44, Try.ntmps44
        go_wp2_with (first | ((with_reducible refine gate_dst (N := 3) rfl ?_); refine box_event (by rfl) (N := 3) (by rfl) (cs := #[.int .i64 a0_0, .int .i64 a0_1, .int .i64 a0_2, .int .i64 a0_3, .int .i64 a0_4, .int .i64 a0_5, .int .i64 a0_6]) (t := 29) zq5 ?_; intro gb717 hg w22 hbox hb; have BK717 := Aside0.mk (hbox); have GW717 := zgs HB hg; have GE717 := zgs HB hg; replace HB := zbs HB hb; clear hb hbox hg) | ((with_reducible refine gate_dst (N := 4) rfl ?_); refine box_event (by rfl) (N := 4) (by rfl) (cs := #[.int .i64 a1_0, .int .i64 a1_1]) (t := 27) zq5 ?_; intro gb718 hg w23 hbox hb; have BK718 := Aside0.mk (hbox); have GW718 := zgs HB hg; have GE718 := zgs HB hg; have NB717_718 := znp BK717 hg; have NB718_717 := znq BK717 hg; replace BK717 := zbb BK717 hb; replace HB := zbs HB hb; clear hb hbox hg; have hnb24 := NB717_718.out; have hnc24 := NB718_717.out; obtain ⟨hcz25_0, hcz25_1, hcz25_2, hcz25_3, hcz25_4, hcz25_5, hcz25_6, hfz25_0, hfz25_1, hfz25_2, hfz25_3, hfz25_4, hfz25_5, hfz25_6⟩ := zce7 BK717.out) | ((with_reducible refine gate_callee (f := 28) rfl ?_); refine goesL_ (some 10) rfl rfl Try.func28 zq1 rfl #[.agg #[.int .i64 a0_0, .int .i64 a0_1, .int .i64 a0_2, .int .i64 a0_3, .int .i64 a0_4, .int .i64 a0_5, .int .i64 a0_6]] rfl zq8 ?_; (with_reducible refine (isobathref03_CheckVehicle.calls a0_0 a0_1 a0_2 a0_3 a0_4 a0_5 a0_6 t719 _ A4.out).mono ?_); rintro e w26 ⟨rfl, hb⟩; refine ⟨_, rfl, ?_⟩; replace BK717 := zbb BK717 hb; replace BK718 := zbb BK718 hb; replace HB := zbs HB hb; (try clear hb); (try clear hb2); (try clear hk); (try clear hi); obtain ⟨hcz27_0, hcz27_1, hfz27_0, hfz27_1⟩ := zce2 BK718.out) | ((with_reducible refine gate_callee (f := 78) rfl ?_); refine goesL_ (some 15) rfl rfl Try.func78 zq1 rfl #[.agg #[.int .i64 a1_0, .int .i64 a1_1], .int .i64 0, .int .i64 1073741824] rfl zq8 ?_; (with_reducible refine (isobathref03_bounded.calls a1_0 a1_1 0 1073741824 true _ A6.out).mono ?_); rintro e w28 ⟨rfl, hb⟩; refine ⟨_, rfl, ?_⟩; replace BK717 := zbb BK717 hb; replace BK718 := zbb BK718 hb; replace HB := zbs HB hb; (try clear hb); (try clear hb2); (try clear hk); (try clear hi)) | ((with_reducible refine gate_callee (f := 81) rfl ?_); refine goesL_ (some 18) rfl rfl Try.func81 zq1 rfl #[.slice A2 l2.length c2, .int .i64 (-1)] rfl zq8 ?_; (with_reducible refine (isobathref03_courses.calls k _ _ l2 (-1) t722 _ ?side1 ?side2 A8.out).mono ?_); (case side1 => repeat (first | exact (Kd.C_below HR2.out HB.out) | (with_reducible refine Kd.C_alloc ?_ _) | (with_reducible refine Kd.C_drewN ?_ _) | (with_reducible refine Kd.C_drew ?_))); (case side2 => exact HC2.out); rintro e w' ⟨rfl, ⟨nd, rfl⟩⟩; refine ⟨_, rfl, ?_⟩) | ((with_reducible refine gate_callee (f := 81) rfl ?_); refine goesL_ (some 21) rfl rfl Try.func81 zq1 rfl #[.slice A2 l2.length c2, .int .i64 (-1)] rfl zq8 ?_; (with_reducible refine (isobathref03_courses.calls k _ _ l2 (-1) t728 _ ?side1 ?side2 A21.out).mono ?_); (case side1 => repeat (first | exact (Kd.C_below HR2.out zbz) | (with_reducible refine Kd.C_alloc ?_ _) | (with_reducible refine Kd.C_drewN ?_ _) | (with_reducible refine Kd.C_drew ?_))); (case side2 => exact HC2.out); rintro e w' ⟨rfl, ⟨nd, rfl⟩⟩; refine ⟨_, rfl, ?_⟩))
        go_ret3
        exact ⟨_, zq6, zq10, zbz⟩
    · replace c7 := Bool.eq_false_iff.mpr c7
      subst c7
      have H1 : (some (([] : List (S27)), 0, 2)) = some (r1, r2, r3) := by rw [if_neg (show ¬ (false = true) by decide)] at H; exact H
      clear H
      have H := H1
      clear H1
      simp only [Option.some.injEq, Prod.mk.injEq] at H
      obtain ⟨rfl, rfl, rfl⟩ := H
      go_enter Try.func44, Try.ntmps44
      go_wp2_with (first | ((with_reducible refine gate_dst (N := 3) rfl ?_); refine box_event (by rfl) (N := 3) (by rfl) (cs := #[.int .i64 a0_0, .int .i64 a0_1, .int .i64 a0_2, .int .i64 a0_3, .int .i64 a0_4, .int .i64 a0_5, .int .i64 a0_6]) (t := 29) zq5 ?_; intro gb717 hg w29 hbox hb; have BK717 := Aside0.mk (hbox); have GW717 := zgs HB hg; have GE717 := zgs HB hg; replace HB := zbs HB hb; clear hb hbox hg) | ((with_reducible refine gate_dst (N := 4) rfl ?_); refine box_event (by rfl) (N := 4) (by rfl) (cs := #[.int .i64 a1_0, .int .i64 a1_1]) (t := 27) zq5 ?_; intro gb718 hg w30 hbox hb; have BK718 := Aside0.mk (hbox); have GW718 := zgs HB hg; have GE718 := zgs HB hg; have NB717_718 := znp BK717 hg; have NB718_717 := znq BK717 hg; replace BK717 := zbb BK717 hb; replace HB := zbs HB hb; clear hb hbox hg; have hnb31 := NB717_718.out; have hnc31 := NB718_717.out; obtain ⟨hcz32_0, hcz32_1, hcz32_2, hcz32_3, hcz32_4, hcz32_5, hcz32_6, hfz32_0, hfz32_1, hfz32_2, hfz32_3, hfz32_4, hfz32_5, hfz32_6⟩ := zce7 BK717.out) | ((with_reducible refine gate_callee (f := 28) rfl ?_); refine goesL_ (some 10) rfl rfl Try.func28 zq1 rfl #[.agg #[.int .i64 a0_0, .int .i64 a0_1, .int .i64 a0_2, .int .i64 a0_3, .int .i64 a0_4, .int .i64 a0_5, .int .i64 a0_6]] rfl zq8 ?_; (with_reducible refine (isobathref03_CheckVehicle.calls a0_0 a0_1 a0_2 a0_3 a0_4 a0_5 a0_6 t719 _ A4.out).mono ?_); rintro e w33 ⟨rfl, hb⟩; refine ⟨_, rfl, ?_⟩; replace BK717 := zbb BK717 hb; replace BK718 := zbb BK718 hb; replace HB := zbs HB hb; (try clear hb); (try clear hb2); (try clear hk); (try clear hi); obtain ⟨hcz34_0, hcz34_1, hfz34_0, hfz34_1⟩ := zce2 BK718.out) | ((with_reducible refine gate_callee (f := 78) rfl ?_); refine goesL_ (some 15) rfl rfl Try.func78 zq1 rfl #[.agg #[.int .i64 a1_0, .int .i64 a1_1], .int .i64 0, .int .i64 1073741824] rfl zq8 ?_; (with_reducible refine (isobathref03_bounded.calls a1_0 a1_1 0 1073741824 false _ A6.out).mono ?_); rintro e w35 ⟨rfl, hb⟩; refine ⟨_, rfl, ?_⟩; replace BK717 := zbb BK717 hb; replace BK718 := zbb BK718 hb; replace HB := zbs HB hb; (try clear hb); (try clear hb2); (try clear hk); (try clear hi)))
      go_ret3
      exact ⟨_, zq6, zq10, zbz⟩
  · rw [if_neg c5] at H
    have c5b0 : (t719 == 0) = false := beq_eq_false_iff_ne.mpr c5
    have c5b1 : (t719 != 0) = true := bne_iff_ne.mpr c5
    replace H := Option.bind_eq_some_iff.mp H
    obtain ⟨t720, A360, H⟩ := H
    replace H : (some (([] : List (S27)), 0, t720)) = some (r1, r2, r3) := H
    have A36 := Aside0.mk A360
    clear A360
    simp only [Option.some.injEq, Prod.mk.injEq] at H
    obtain ⟨rfl, rfl, rfl⟩ := H
    go_enter Try.func44, Try.ntmps44
    go_wp2_with (first | ((with_reducible refine gate_dst (N := 3) rfl ?_); refine box_event (by rfl) (N := 3) (by rfl) (cs := #[.int .i64 a0_0, .int .i64 a0_1, .int .i64 a0_2, .int .i64 a0_3, .int .i64 a0_4, .int .i64 a0_5, .int .i64 a0_6]) (t := 29) zq5 ?_; intro gb717 hg w37 hbox hb; have BK717 := Aside0.mk (hbox); have GW717 := zgs HB hg; have GE717 := zgs HB hg; replace HB := zbs HB hb; clear hb hbox hg) | ((with_reducible refine gate_dst (N := 4) rfl ?_); refine box_event (by rfl) (N := 4) (by rfl) (cs := #[.int .i64 a1_0, .int .i64 a1_1]) (t := 27) zq5 ?_; intro gb718 hg w38 hbox hb; have BK718 := Aside0.mk (hbox); have GW718 := zgs HB hg; have GE718 := zgs HB hg; have NB717_718 := znp BK717 hg; have NB718_717 := znq BK717 hg; replace BK717 := zbb BK717 hb; replace HB := zbs HB hb; clear hb hbox hg; have hnb39 := NB717_718.out; have hnc39 := NB718_717.out; obtain ⟨hcz40_0, hcz40_1, hcz40_2, hcz40_3, hcz40_4, hcz40_5, hcz40_6, hfz40_0, hfz40_1, hfz40_2, hfz40_3, hfz40_4, hfz40_5, hfz40_6⟩ := zce7 BK717.out) | ((with_reducible refine gate_callee (f := 28) rfl ?_); refine goesL_ (some 10) rfl rfl Try.func28 zq1 rfl #[.agg #[.int .i64 a0_0, .int .i64 a0_1, .int .i64 a0_2, .int .i64 a0_3, .int .i64 a0_4, .int .i64 a0_5, .int .i64 a0_6]] rfl zq8 ?_; (with_reducible refine (isobathref03_CheckVehicle.calls a0_0 a0_1 a0_2 a0_3 a0_4 a0_5 a0_6 t719 _ A4.out).mono ?_); rintro e w41 ⟨rfl, hb⟩; refine ⟨_, rfl, ?_⟩; replace BK717 := zbb BK717 hb; replace BK718 := zbb BK718 hb; replace HB := zbs HB hb; (try clear hb); (try clear hb2); (try clear hk); (try clear hi); obtain ⟨hcz42_0, hcz42_1, hcz42_2, hcz42_3, hcz42_4, hcz42_5, hcz42_6, hfz42_0, hfz42_1, hfz42_2, hfz42_3, hfz42_4, hfz42_5, hfz42_6⟩ := zce7 BK717.out) | ((with_reducible refine gate_callee (f := 28) rfl ?_); refine goesL_ (some 13) rfl rfl Try.func28 zq1 rfl #[.agg #[.int .i64 a0_0, .int .i64 a0_1, .int .i64 a0_2, .int .i64 a0_3, .int .i64 a0_4, .int .i64 a0_5, .int .i64 a0_6]] rfl zq8 ?_; (with_reducible refine (isobathref03_CheckVehicle.calls a0_0 a0_1 a0_2 a0_3 a0_4 a0_5 a0_6 t720 _ A36.out).mono ?_); rintro e w43 ⟨rfl, hb⟩; refine ⟨_, rfl, ?_⟩; replace BK717 := zbb BK717 hb; replace BK718 := zbb BK718 hb; replace HB := zbs HB hb; (try clear hb); (try clear hb2); (try clear hk); (try clear hi)))
    go_ret3
    exact ⟨_, zq6, zq10, zbz⟩

end Go.Proofs.Ytmhaiihjfgfaoaa.Pr
end
section
namespace Go.Proofs.Ytmhaiihjfgfaoaa.Pr
open Go.RowKit Go.Proofs.YtmhaiihjfgfaoaaW.PrintWords Go.Proofs.YtmhaiihjfgfaoaaW.PrintLast Go.Proofs.YtmhaiihjfgfaoaaW.PrintMore
attribute [local go_sem] max2_int min2_int max_two min_two max_four
set_option linter.unusedVariables false
set_option linter.unusedSimpArgs false

/-! ### isobathref03_Lasts: function 45 -/
def isobathref03_Lasts.f (a0_0 : Int) (a0_1 : Int) (a0_2 : Int) (a0_3 : Int) (a0_4 : Int) (a0_5 : Int) (a0_6 : Int) (a1_0 : Int) (a1_1 : Int) : Option (Int × Int) := (isobathref03_CheckVehicle.f a0_0 a0_1 a0_2 a0_3 a0_4 a0_5 a0_6).bind fun t731 => (if t731 = 0 then ((isobathref03_bounded.f a1_0 a1_1 0 1073741824).bind fun t733 => (if t733 = true then (if a1_0 < a0_6 then (some (0, 19)) else (if (mx a0_3 a0_5) = 0 then (some (0, 4)) else (some (wrap64 (Int.tdiv (wrap64 (a1_0 - a0_6)) (mx a0_3 a0_5)), 0)))) else (some (0, 2)))) else ((isobathref03_CheckVehicle.f a0_0 a0_1 a0_2 a0_3 a0_4 a0_5 a0_6).bind fun t732 => (some (0, t732))))
set_option maxHeartbeats 8000000 in
set_option maxRecDepth 100000 in
theorem isobathref03_Lasts.calls (a0_0 : Int) (a0_1 : Int) (a0_2 : Int) (a0_3 : Int) (a0_4 : Int) (a0_5 : Int) (a0_6 : Int) (a1_0 : Int) (a1_1 : Int) (r1 : Int) (r2 : Int) (w : World) (h : isobathref03_Lasts.f a0_0 a0_1 a0_2 a0_3 a0_4 a0_5 a0_6 a1_0 a1_1 = some (r1, r2)) :
    Calls Try.prog 45 #[.agg #[.int .i64 a0_0, .int .i64 a0_1, .int .i64 a0_2, .int .i64 a0_3, .int .i64 a0_4, .int .i64 a0_5, .int .i64 a0_6], .agg #[.int .i64 a1_0, .int .i64 a1_1]] w fun e w' => e = .returned (.tuple #[.int .i64 r1, .int .i64 r2]) ∧ Below w.heap.size w w' := by
  have hu29 := Try.underlying29
  have hu27 := Try.underlying27
  have HB := Aside0.mk (Below.refl w.heap.size w)
  have H : ((isobathref03_CheckVehicle.f a0_0 a0_1 a0_2 a0_3 a0_4 a0_5 a0_6).bind fun t731 => (if t731 = 0 then ((isobathref03_bounded.f a1_0 a1_1 0 1073741824).bind fun t733 => (if t733 = true then (if a1_0 < a0_6 then (some (0, 19)) else (if (mx a0_3 a0_5) = 0 then (some (0, 4)) else (some (wrap64 (Int.tdiv (wrap64 (a1_0 - a0_6)) (mx a0_3 a0_5)), 0)))) else (some (0, 2)))) else ((isobathref03_CheckVehicle.f a0_0 a0_1 a0_2 a0_3 a0_4 a0_5 a0_6).bind fun t732 => (some (0, t732))))) = some (r1, r2) := h
  clear h
  replace H := Option.bind_eq_some_iff.mp H
  obtain ⟨t731, A30, H⟩ := H
  replace H : (if t731 = 0 then ((isobathref03_bounded.f a1_0 a1_1 0 1073741824).bind fun t733 => (if t733 = true then (if a1_0 < a0_6 then (some (0, 19)) else (if (mx a0_3 a0_5) = 0 then (some (0, 4)) else (some (wrap64 (Int.tdiv (wrap64 (a1_0 - a0_6)) (mx a0_3 a0_5)), 0)))) else (some (0, 2)))) else ((isobathref03_CheckVehicle.f a0_0 a0_1 a0_2 a0_3 a0_4 a0_5 a0_6).bind fun t732 => (some (0, t732)))) = some (r1, r2) := H
  have A3 := Aside0.mk A30
  clear A30
  by_cases c4 : t731 = 0
  · rw [if_pos c4] at H
    have c4b0 : (t731 == 0) = true := beq_iff_eq.mpr c4
    have c4b1 : (t731 != 0) = false := bne_eq_false_iff_eq.mpr c4
    clear c4
    replace H := Option.bind_eq_some_iff.mp H
    obtain ⟨t733, A50, H⟩ := H
    replace H : (if t733 = true then (if a1_0 < a0_6 then (some (0, 19)) else (if (mx a0_3 a0_5) = 0 then (some (0, 4)) else (some (wrap64 (Int.tdiv (wrap64 (a1_0 - a0_6)) (mx a0_3 a0_5)), 0)))) else (some (0, 2))) = some (r1, r2) := H
    have A5 := Aside0.mk A50
    clear A50
    by_cases c6 : t733 = true
    · subst c6
      have H1 : (if a1_0 < a0_6 then (some (0, 19)) else (if (mx a0_3 a0_5) = 0 then (some (0, 4)) else (some (wrap64 (Int.tdiv (wrap64 (a1_0 - a0_6)) (mx a0_3 a0_5)), 0)))) = some (r1, r2) := by rw [if_pos rfl] at H; exact H
      clear H
      have H := H1
      clear H1
      by_cases c7 : a1_0 < a0_6
      · rw [if_pos c7] at H
        have c7b0 : decide (a1_0 < a0_6) = true := decide_eq_true c7
        clear c7
        simp only [Option.some.injEq, Prod.mk.injEq] at H
        obtain ⟨rfl, rfl⟩ := H
        go_enter Try.func45, Try.ntmps45
        go_wp2_with (first | ((with_reducible refine gate_dst (N := 2) rfl ?_); refine box_event (by rfl) (N := 2) (by rfl) (cs := #[.int .i64 a0_0, .int .i64 a0_1, .int .i64 a0_2, .int .i64 a0_3, .int .i64 a0_4, .int .i64 a0_5, .int .i64 a0_6]) (t := 29) zq5 ?_; intro gb729 hg w8 hbox hb; have BK729 := Aside0.mk (hbox); have GW729 := zgs HB hg; have GE729 := zgs HB hg; replace HB := zbs HB hb; clear hb hbox hg) | ((with_reducible refine gate_dst (N := 3) rfl ?_); refine box_event (by rfl) (N := 3) (by rfl) (cs := #[.int .i64 a1_0, .int .i64 a1_1]) (t := 27) zq5 ?_; intro gb730 hg w9 hbox hb; have BK730 := Aside0.mk (hbox); have GW730 := zgs HB hg; have GE730 := zgs HB hg; have NB729_730 := znp BK729 hg; have NB730_729 := znq BK729 hg; replace BK729 := zbb BK729 hb; replace HB := zbs HB hb; clear hb hbox hg; have hnb10 := NB729_730.out; have hnc10 := NB730_729.out; obtain ⟨hcz11_0, hcz11_1, hcz11_2, hcz11_3, hcz11_4, hcz11_5, hcz11_6, hfz11_0, hfz11_1, hfz11_2, hfz11_3, hfz11_4, hfz11_5, hfz11_6⟩ := zce7 BK729.out) | ((with_reducible refine gate_callee (f := 28) rfl ?_); refine goesL_ (some 8) rfl rfl Try.func28 zq1 rfl #[.agg #[.int .i64 a0_0, .int .i64 a0_1, .int .i64 a0_2, .int .i64 a0_3, .int .i64 a0_4, .int .i64 a0_5, .int .i64 a0_6]] rfl zq8 ?_; (with_reducible refine (isobathref03_CheckVehicle.calls a0_0 a0_1 a0_2 a0_3 a0_4 a0_5 a0_6 t731 _ A3.out).mono ?_); rintro e w12 ⟨rfl, hb⟩; refine ⟨_, rfl, ?_⟩; replace BK729 := zbb BK729 hb; replace BK730 := zbb BK730 hb; replace HB := zbs HB hb; (try clear hb); (try clear hb2); (try clear hk); (try clear hi); obtain ⟨hcz13_0, hcz13_1, hfz13_0, hfz13_1⟩ := zce2 BK730.out) | ((with_reducible refine gate_callee (f := 78) rfl ?_); refine goesL_ (some 13) rfl rfl Try.func78 zq1 rfl #[.agg #[.int .i64 a1_0, .int .i64 a1_1], .int .i64 0, .int .i64 1073741824] rfl zq8 ?_; (with_reducible refine (isobathref03_bounded.calls a1_0 a1_1 0 1073741824 true _ A5.out).mono ?_); rintro e w14 ⟨rfl, hb⟩; refine ⟨_, rfl, ?_⟩; replace BK729 := zbb BK729 hb; replace BK730 := zbb BK730 hb; replace HB := zbs HB hb; (try clear hb); (try clear hb2); (try clear hk); (try clear hi); obtain ⟨hcz15_0, hcz15_1, hfz15_0, hfz15_1⟩ := zce2 BK730.out; obtain ⟨hcz16_0, hcz16_1, hcz16_2, hcz16_3, hcz16_4, hcz16_5, hcz16_6, hfz16_0, hfz16_1, hfz16_2, hfz16_3, hfz16_4, hfz16_5, hfz16_6⟩ := zce7 BK729.out))
        go_ret2
        exact ⟨zq6, zbz⟩
      · rw [if_neg c7] at H
        have c7b0 : decide (a1_0 < a0_6) = false := decide_eq_false c7
        clear c7
        obtain ⟨ji17, hji17⟩ : ∃ j_ : Int, (mx a0_3 a0_5) = j_ := ⟨_, rfl⟩
        replace H : (if (ji17) = 0 then (some (0, 4)) else (some (wrap64 (Int.tdiv (wrap64 (a1_0 - a0_6)) (ji17)), 0))) = some (r1, r2) := by first | (rw [hji17] at H; exact H) | (simp only [hji17] at H ⊢; exact H)
        (try rw [hji17] at A3)
        (try rw [hji17] at A5)
        have hji17_ : (if a0_3 < a0_5 then a0_5 else a0_3) = ji17 := hji17
        by_cases c18 : (ji17) = 0
        · rw [if_pos c18] at H
          have c18b0 : ((ji17) == 0) = true := beq_iff_eq.mpr c18
          have c18b1 : ((ji17) != 0) = false := bne_eq_false_iff_eq.mpr c18
          clear c18
          simp only [Option.some.injEq, Prod.mk.injEq] at H
          obtain ⟨rfl, rfl⟩ := H
          go_enter Try.func45, Try.ntmps45
          go_wp2_with (first | ((with_reducible refine gate_dst (N := 2) rfl ?_); refine box_event (by rfl) (N := 2) (by rfl) (cs := #[.int .i64 a0_0, .int .i64 a0_1, .int .i64 a0_2, .int .i64 a0_3, .int .i64 a0_4, .int .i64 a0_5, .int .i64 a0_6]) (t := 29) zq5 ?_; intro gb729 hg w19 hbox hb; have BK729 := Aside0.mk (hbox); have GW729 := zgs HB hg; have GE729 := zgs HB hg; replace HB := zbs HB hb; clear hb hbox hg) | ((with_reducible refine gate_dst (N := 3) rfl ?_); refine box_event (by rfl) (N := 3) (by rfl) (cs := #[.int .i64 a1_0, .int .i64 a1_1]) (t := 27) zq5 ?_; intro gb730 hg w20 hbox hb; have BK730 := Aside0.mk (hbox); have GW730 := zgs HB hg; have GE730 := zgs HB hg; have NB729_730 := znp BK729 hg; have NB730_729 := znq BK729 hg; replace BK729 := zbb BK729 hb; replace HB := zbs HB hb; clear hb hbox hg; have hnb21 := NB729_730.out; have hnc21 := NB730_729.out; obtain ⟨hcz22_0, hcz22_1, hcz22_2, hcz22_3, hcz22_4, hcz22_5, hcz22_6, hfz22_0, hfz22_1, hfz22_2, hfz22_3, hfz22_4, hfz22_5, hfz22_6⟩ := zce7 BK729.out) | ((with_reducible refine gate_callee (f := 28) rfl ?_); refine goesL_ (some 8) rfl rfl Try.func28 zq1 rfl #[.agg #[.int .i64 a0_0, .int .i64 a0_1, .int .i64 a0_2, .int .i64 a0_3, .int .i64 a0_4, .int .i64 a0_5, .int .i64 a0_6]] rfl zq8 ?_; (with_reducible refine (isobathref03_CheckVehicle.calls a0_0 a0_1 a0_2 a0_3 a0_4 a0_5 a0_6 t731 _ A3.out).mono ?_); rintro e w23 ⟨rfl, hb⟩; refine ⟨_, rfl, ?_⟩; replace BK729 := zbb BK729 hb; replace BK730 := zbb BK730 hb; replace HB := zbs HB hb; (try clear hb); (try clear hb2); (try clear hk); (try clear hi); obtain ⟨hcz24_0, hcz24_1, hfz24_0, hfz24_1⟩ := zce2 BK730.out) | ((with_reducible refine gate_callee (f := 78) rfl ?_); refine goesL_ (some 13) rfl rfl Try.func78 zq1 rfl #[.agg #[.int .i64 a1_0, .int .i64 a1_1], .int .i64 0, .int .i64 1073741824] rfl zq8 ?_; (with_reducible refine (isobathref03_bounded.calls a1_0 a1_1 0 1073741824 true _ A5.out).mono ?_); rintro e w25 ⟨rfl, hb⟩; refine ⟨_, rfl, ?_⟩; replace BK729 := zbb BK729 hb; replace BK730 := zbb BK730 hb; replace HB := zbs HB hb; (try clear hb); (try clear hb2); (try clear hk); (try clear hi); obtain ⟨hcz26_0, hcz26_1, hfz26_0, hfz26_1⟩ := zce2 BK730.out; obtain ⟨hcz27_0, hcz27_1, hcz27_2, hcz27_3, hcz27_4, hcz27_5, hcz27_6, hfz27_0, hfz27_1, hfz27_2, hfz27_3, hfz27_4, hfz27_5, hfz27_6⟩ := zce7 BK729.out))
          go_ret2
          exact ⟨zq46, zbz⟩
        · rw [if_neg c18] at H
          have c18b0 : ((ji17) == 0) = false := beq_eq_false_iff_ne.mpr c18
          have c18b1 : ((ji17) != 0) = true := bne_iff_ne.mpr c18
          simp only [Option.some.injEq, Prod.mk.injEq] at H
          obtain ⟨rfl, rfl⟩ := H
          go_enter Try.func45, Try.ntmps45
          go_wp2_with (first | ((with_reducible refine gate_dst (N := 2) rfl ?_); refine box_event (by rfl) (N := 2) (by rfl) (cs := #[.int .i64 a0_0, .int .i64 a0_1, .int .i64 a0_2, .int .i64 a0_3, .int .i64 a0_4, .int .i64 a0_5, .int .i64 a0_6]) (t := 29) zq5 ?_; intro gb729 hg w28 hbox hb; have BK729 := Aside0.mk (hbox); have GW729 := zgs HB hg; have GE729 := zgs HB hg; replace HB := zbs HB hb; clear hb hbox hg) | ((with_reducible refine gate_dst (N := 3) rfl ?_); refine box_event (by rfl) (N := 3) (by rfl) (cs := #[.int .i64 a1_0, .int .i64 a1_1]) (t := 27) zq5 ?_; intro gb730 hg w29 hbox hb; have BK730 := Aside0.mk (hbox); have GW730 := zgs HB hg; have GE730 := zgs HB hg; have NB729_730 := znp BK729 hg; have NB730_729 := znq BK729 hg; replace BK729 := zbb BK729 hb; replace HB := zbs HB hb; clear hb hbox hg; have hnb30 := NB729_730.out; have hnc30 := NB730_729.out; obtain ⟨hcz31_0, hcz31_1, hcz31_2, hcz31_3, hcz31_4, hcz31_5, hcz31_6, hfz31_0, hfz31_1, hfz31_2, hfz31_3, hfz31_4, hfz31_5, hfz31_6⟩ := zce7 BK729.out) | ((with_reducible refine gate_callee (f := 28) rfl ?_); refine goesL_ (some 8) rfl rfl Try.func28 zq1 rfl #[.agg #[.int .i64 a0_0, .int .i64 a0_1, .int .i64 a0_2, .int .i64 a0_3, .int .i64 a0_4, .int .i64 a0_5, .int .i64 a0_6]] rfl zq8 ?_; (with_reducible refine (isobathref03_CheckVehicle.calls a0_0 a0_1 a0_2 a0_3 a0_4 a0_5 a0_6 t731 _ A3.out).mono ?_); rintro e w32 ⟨rfl, hb⟩; refine ⟨_, rfl, ?_⟩; replace BK729 := zbb BK729 hb; replace BK730 := zbb BK730 hb; replace HB := zbs HB hb; (try clear hb); (try clear hb2); (try clear hk); (try clear hi); obtain ⟨hcz33_0, hcz33_1, hfz33_0, hfz33_1⟩ := zce2 BK730.out) | ((with_reducible refine gate_callee (f := 78) rfl ?_); refine goesL_ (some 13) rfl rfl Try.func78 zq1 rfl #[.agg #[.int .i64 a1_0, .int .i64 a1_1], .int .i64 0, .int .i64 1073741824] rfl zq8 ?_; (with_reducible refine (isobathref03_bounded.calls a1_0 a1_1 0 1073741824 true _ A5.out).mono ?_); rintro e w34 ⟨rfl, hb⟩; refine ⟨_, rfl, ?_⟩; replace BK729 := zbb BK729 hb; replace BK730 := zbb BK730 hb; replace HB := zbs HB hb; (try clear hb); (try clear hb2); (try clear hk); (try clear hi); obtain ⟨hcz35_0, hcz35_1, hfz35_0, hfz35_1⟩ := zce2 BK730.out; obtain ⟨hcz36_0, hcz36_1, hcz36_2, hcz36_3, hcz36_4, hcz36_5, hcz36_6, hfz36_0, hfz36_1, hfz36_2, hfz36_3, hfz36_4, hfz36_5, hfz36_6⟩ := zce7 BK729.out))
          go_ret2
          exact ⟨zq46, zbz⟩
    · replace c6 := Bool.eq_false_iff.mpr c6
      subst c6
      have H1 : (some (0, 2)) = some (r1, r2) := by rw [if_neg (show ¬ (false = true) by decide)] at H; exact H
      clear H
      have H := H1
      clear H1
      simp only [Option.some.injEq, Prod.mk.injEq] at H
      obtain ⟨rfl, rfl⟩ := H
      go_enter Try.func45, Try.ntmps45
      go_wp2_with (first | ((with_reducible refine gate_dst (N := 2) rfl ?_); refine box_event (by rfl) (N := 2) (by rfl) (cs := #[.int .i64 a0_0, .int .i64 a0_1, .int .i64 a0_2, .int .i64 a0_3, .int .i64 a0_4, .int .i64 a0_5, .int .i64 a0_6]) (t := 29) zq5 ?_; intro gb729 hg w37 hbox hb; have BK729 := Aside0.mk (hbox); have GW729 := zgs HB hg; have GE729 := zgs HB hg; replace HB := zbs HB hb; clear hb hbox hg) | ((with_reducible refine gate_dst (N := 3) rfl ?_); refine box_event (by rfl) (N := 3) (by rfl) (cs := #[.int .i64 a1_0, .int .i64 a1_1]) (t := 27) zq5 ?_; intro gb730 hg w38 hbox hb; have BK730 := Aside0.mk (hbox); have GW730 := zgs HB hg; have GE730 := zgs HB hg; have NB729_730 := znp BK729 hg; have NB730_729 := znq BK729 hg; replace BK729 := zbb BK729 hb; replace HB := zbs HB hb; clear hb hbox hg; have hnb39 := NB729_730.out; have hnc39 := NB730_729.out; obtain ⟨hcz40_0, hcz40_1, hcz40_2, hcz40_3, hcz40_4, hcz40_5, hcz40_6, hfz40_0, hfz40_1, hfz40_2, hfz40_3, hfz40_4, hfz40_5, hfz40_6⟩ := zce7 BK729.out) | ((with_reducible refine gate_callee (f := 28) rfl ?_); refine goesL_ (some 8) rfl rfl Try.func28 zq1 rfl #[.agg #[.int .i64 a0_0, .int .i64 a0_1, .int .i64 a0_2, .int .i64 a0_3, .int .i64 a0_4, .int .i64 a0_5, .int .i64 a0_6]] rfl zq8 ?_; (with_reducible refine (isobathref03_CheckVehicle.calls a0_0 a0_1 a0_2 a0_3 a0_4 a0_5 a0_6 t731 _ A3.out).mono ?_); rintro e w41 ⟨rfl, hb⟩; refine ⟨_, rfl, ?_⟩; replace BK729 := zbb BK729 hb; replace BK730 := zbb BK730 hb; replace HB := zbs HB hb; (try clear hb); (try clear hb2); (try clear hk); (try clear hi); obtain ⟨hcz42_0, hcz42_1, hfz42_0, hfz42_1⟩ := zce2 BK730.out) | ((with_reducible refine gate_callee (f := 78) rfl ?_); refine goesL_ (some 13) rfl rfl Try.func78 zq1 rfl #[.agg #[.int .i64 a1_0, .int .i64 a1_1], .int .i64 0, .int .i64 1073741824] rfl zq8 ?_; (with_reducible refine (isobathref03_bounded.calls a1_0 a1_1 0 1073741824 false _ A5.out).mono ?_); rintro e w43 ⟨rfl, hb⟩; refine ⟨_, rfl, ?_⟩; replace BK729 := zbb BK729 hb; replace BK730 := zbb BK730 hb; replace HB := zbs HB hb; (try clear hb); (try clear hb2); (try clear hk); (try clear hi)))
      go_ret2
      exact ⟨zq6, zbz⟩
  · rw [if_neg c4] at H
    have c4b0 : (t731 == 0) = false := beq_eq_false_iff_ne.mpr c4
    have c4b1 : (t731 != 0) = true := bne_iff_ne.mpr c4
    replace H := Option.bind_eq_some_iff.mp H
    obtain ⟨t732, A440, H⟩ := H
    replace H : (some (0, t732)) = some (r1, r2) := H
    have A44 := Aside0.mk A440
    clear A440
    simp only [Option.some.injEq, Prod.mk.injEq] at H
    obtain ⟨rfl, rfl⟩ := H
    go_enter Try.func45, Try.ntmps45
    go_wp2_with (first | ((with_reducible refine gate_dst (N := 2) rfl ?_); refine box_event (by rfl) (N := 2) (by rfl) (cs := #[.int .i64 a0_0, .int .i64 a0_1, .int .i64 a0_2, .int .i64 a0_3, .int .i64 a0_4, .int .i64 a0_5, .int .i64 a0_6]) (t := 29) zq5 ?_; intro gb729 hg w45 hbox hb; have BK729 := Aside0.mk (hbox); have GW729 := zgs HB hg; have GE729 := zgs HB hg; replace HB := zbs HB hb; clear hb hbox hg) | ((with_reducible refine gate_dst (N := 3) rfl ?_); refine box_event (by rfl) (N := 3) (by rfl) (cs := #[.int .i64 a1_0, .int .i64 a1_1]) (t := 27) zq5 ?_; intro gb730 hg w46 hbox hb; have BK730 := Aside0.mk (hbox); have GW730 := zgs HB hg; have GE730 := zgs HB hg; have NB729_730 := znp BK729 hg; have NB730_729 := znq BK729 hg; replace BK729 := zbb BK729 hb; replace HB := zbs HB hb; clear hb hbox hg; have hnb47 := NB729_730.out; have hnc47 := NB730_729.out; obtain ⟨hcz48_0, hcz48_1, hcz48_2, hcz48_3, hcz48_4, hcz48_5, hcz48_6, hfz48_0, hfz48_1, hfz48_2, hfz48_3, hfz48_4, hfz48_5, hfz48_6⟩ := zce7 BK729.out) | ((with_reducible refine gate_callee (f := 28) rfl ?_); refine goesL_ (some 8) rfl rfl Try.func28 zq1 rfl #[.agg #[.int .i64 a0_0, .int .i64 a0_1, .int .i64 a0_2, .int .i64 a0_3, .int .i64 a0_4, .int .i64 a0_5, .int .i64 a0_6]] rfl zq8 ?_; (with_reducible refine (isobathref03_CheckVehicle.calls a0_0 a0_1 a0_2 a0_3 a0_4 a0_5 a0_6 t731 _ A3.out).mono ?_); rintro e w49 ⟨rfl, hb⟩; refine ⟨_, rfl, ?_⟩; replace BK729 := zbb BK729 hb; replace BK730 := zbb BK730 hb; replace HB := zbs HB hb; (try clear hb); (try clear hb2); (try clear hk); (try clear hi); obtain ⟨hcz50_0, hcz50_1, hcz50_2, hcz50_3, hcz50_4, hcz50_5, hcz50_6, hfz50_0, hfz50_1, hfz50_2, hfz50_3, hfz50_4, hfz50_5, hfz50_6⟩ := zce7 BK729.out) | ((with_reducible refine gate_callee (f := 28) rfl ?_); refine goesL_ (some 11) rfl rfl Try.func28 zq1 rfl #[.agg #[.int .i64 a0_0, .int .i64 a0_1, .int .i64 a0_2, .int .i64 a0_3, .int .i64 a0_4, .int .i64 a0_5, .int .i64 a0_6]] rfl zq8 ?_; (with_reducible refine (isobathref03_CheckVehicle.calls a0_0 a0_1 a0_2 a0_3 a0_4 a0_5 a0_6 t732 _ A44.out).mono ?_); rintro e w51 ⟨rfl, hb⟩; refine ⟨_, rfl, ?_⟩; replace BK729 := zbb BK729 hb; replace BK730 := zbb BK730 hb; replace HB := zbs HB hb; (try clear hb); (try clear hb2); (try clear hk); (try clear hi)))
    go_ret2
    exact ⟨zq6, zbz⟩

end Go.Proofs.Ytmhaiihjfgfaoaa.Pr
end
section
namespace Go.Proofs.Ytmhaiihjfgfaoaa.Pr
open Go.RowKit Go.Proofs.YtmhaiihjfgfaoaaW.PrintWords Go.Proofs.YtmhaiihjfgfaoaaW.PrintLast Go.Proofs.YtmhaiihjfgfaoaaW.PrintMore
attribute [local go_sem] max2_int min2_int max_two min_two max_four
set_option linter.unusedVariables false
set_option linter.unusedSimpArgs false

/-! ### glider_validPickup: function 93 -/
def glider_validPickup.f (k : Nat) (a0_0 : Int) (a0_1 : Int) (a0_2 : Int) (a0_3 : Int) (a0_4 : Int) (a0_5 : Int) : Option (Bool) := (bound_CheckBox.f k a0_0 a0_1 a0_2 a0_3).bind fun t735 => (if t735 = 0 then (if a0_4 ≥ 0 then (if a0_4 ≤ a0_5 then (some (decide (a0_5 ≤ 1073741824))) else (some false)) else (some false)) else (some false))
set_option maxHeartbeats 8000000 in
set_option maxRecDepth 100000 in
theorem glider_validPickup.calls (k : Nat) (a0_0 : Int) (a0_1 : Int) (a0_2 : Int) (a0_3 : Int) (a0_4 : Int) (a0_5 : Int) (r : Bool) (w : World) (h : glider_validPickup.f k a0_0 a0_1 a0_2 a0_3 a0_4 a0_5 = some r) :
    Calls Try.prog 93 #[.agg #[.int .i64 a0_0, .int .i64 a0_1, .int .i64 a0_2, .int .i64 a0_3, .int .i64 a0_4, .int .i64 a0_5]] w fun e w' => e = .returned (.bool r) ∧ Below w.heap.size w w' := by
  have hu81 := Try.underlying81
  have hu31 := Try.underlying31
  have HB := Aside0.mk (Below.refl w.heap.size w)
  have H : ((bound_CheckBox.f k a0_0 a0_1 a0_2 a0_3).bind fun t735 => (if t735 = 0 then (if a0_4 ≥ 0 then (if a0_4 ≤ a0_5 then (some (decide (a0_5 ≤ 1073741824))) else (some false)) else (some false)) else (some false))) = some r := h
  clear h
  replace H := Option.bind_eq_some_iff.mp H
  obtain ⟨t735, A20, H⟩ := H
  replace H : (if t735 = 0 then (if a0_4 ≥ 0 then (if a0_4 ≤ a0_5 then (some (decide (a0_5 ≤ 1073741824))) else (some false)) else (some false)) else (some false)) = some r := H
  have A2 := Aside0.mk A20
  clear A20
  by_cases c3 : t735 = 0
  · rw [if_pos c3] at H
    have c3b0 : (t735 == 0) = true := beq_iff_eq.mpr c3
    have c3b1 : (t735 != 0) = false := bne_eq_false_iff_eq.mpr c3
    clear c3
    by_cases c4 : a0_4 ≥ 0
    · rw [if_pos c4] at H
      have c4b0 : decide (0 ≤ a0_4) = true := decide_eq_true c4
      clear c4
      by_cases c5 : a0_4 ≤ a0_5
      · rw [if_pos c5] at H
        have c5b0 : decide (a0_4 ≤ a0_5) = true := decide_eq_true c5
        clear c5
        obtain rfl := Option.some.inj H
        go_enter Try.func93, Try.ntmps93
        go_wp2_with (first | ((with_reducible refine gate_dst (N := 1) rfl ?_); refine box_event (by rfl) (N := 1) (by rfl) (cs := #[.int .i64 a0_0, .int .i64 a0_1, .int .i64 a0_2, .int .i64 a0_3, .int .i64 a0_4, .int .i64 a0_5]) (t := 81) zq5 ?_; intro gb734 hg w6 hbox hb; have BK734 := Aside0.mk (hbox); have GW734 := zgs HB hg; have GE734 := zgs HB hg; replace HB := zbs HB hb; clear hb hbox hg; obtain ⟨hcz7_0, hcz7_1, hcz7_2, hcz7_3, hcz7_4, hcz7_5, hfz7_0, hfz7_1, hfz7_2, hfz7_3, hfz7_4, hfz7_5⟩ := zce6 BK734.out) | ((with_reducible refine gate_callee (f := 67) rfl ?_); refine goesL_ (some 5) rfl rfl Try.func67 zq1 rfl #[.agg #[.int .i64 a0_0, .int .i64 a0_1, .int .i64 a0_2, .int .i64 a0_3]] rfl zq8 ?_; (with_reducible refine (bound_CheckBox.calls k a0_0 a0_1 a0_2 a0_3 t735 _ A2.out).mono ?_); rintro e w8 ⟨rfl, hb⟩; refine ⟨_, rfl, ?_⟩; replace BK734 := zbb BK734 hb; replace HB := zbs HB hb; (try clear hb); (try clear hb2); (try clear hk); (try clear hi); obtain ⟨hcz9_0, hcz9_1, hcz9_2, hcz9_3, hcz9_4, hcz9_5, hfz9_0, hfz9_1, hfz9_2, hfz9_3, hfz9_4, hfz9_5⟩ := zce6 BK734.out))
        go_ret
        exact ⟨zq6, zbz⟩
      · rw [if_neg c5] at H
        have c5b0 : decide (a0_4 ≤ a0_5) = false := decide_eq_false c5
        clear c5
        obtain rfl := Option.some.inj H
        go_enter Try.func93, Try.ntmps93
        go_wp2_with (first | ((with_reducible refine gate_dst (N := 1) rfl ?_); refine box_event (by rfl) (N := 1) (by rfl) (cs := #[.int .i64 a0_0, .int .i64 a0_1, .int .i64 a0_2, .int .i64 a0_3, .int .i64 a0_4, .int .i64 a0_5]) (t := 81) zq5 ?_; intro gb734 hg w10 hbox hb; have BK734 := Aside0.mk (hbox); have GW734 := zgs HB hg; have GE734 := zgs HB hg; replace HB := zbs HB hb; clear hb hbox hg; obtain ⟨hcz11_0, hcz11_1, hcz11_2, hcz11_3, hcz11_4, hcz11_5, hfz11_0, hfz11_1, hfz11_2, hfz11_3, hfz11_4, hfz11_5⟩ := zce6 BK734.out) | ((with_reducible refine gate_callee (f := 67) rfl ?_); refine goesL_ (some 5) rfl rfl Try.func67 zq1 rfl #[.agg #[.int .i64 a0_0, .int .i64 a0_1, .int .i64 a0_2, .int .i64 a0_3]] rfl zq8 ?_; (with_reducible refine (bound_CheckBox.calls k a0_0 a0_1 a0_2 a0_3 t735 _ A2.out).mono ?_); rintro e w12 ⟨rfl, hb⟩; refine ⟨_, rfl, ?_⟩; replace BK734 := zbb BK734 hb; replace HB := zbs HB hb; (try clear hb); (try clear hb2); (try clear hk); (try clear hi); obtain ⟨hcz13_0, hcz13_1, hcz13_2, hcz13_3, hcz13_4, hcz13_5, hfz13_0, hfz13_1, hfz13_2, hfz13_3, hfz13_4, hfz13_5⟩ := zce6 BK734.out))
        go_ret
        exact ⟨zq6, zbz⟩
    · rw [if_neg c4] at H
      have c4b0 : decide (0 ≤ a0_4) = false := decide_eq_false c4
      clear c4
      obtain rfl := Option.some.inj H
      go_enter Try.func93, Try.ntmps93
      go_wp2_with (first | ((with_reducible refine gate_dst (N := 1) rfl ?_); refine box_event (by rfl) (N := 1) (by rfl) (cs := #[.int .i64 a0_0, .int .i64 a0_1, .int .i64 a0_2, .int .i64 a0_3, .int .i64 a0_4, .int .i64 a0_5]) (t := 81) zq5 ?_; intro gb734 hg w14 hbox hb; have BK734 := Aside0.mk (hbox); have GW734 := zgs HB hg; have GE734 := zgs HB hg; replace HB := zbs HB hb; clear hb hbox hg; obtain ⟨hcz15_0, hcz15_1, hcz15_2, hcz15_3, hcz15_4, hcz15_5, hfz15_0, hfz15_1, hfz15_2, hfz15_3, hfz15_4, hfz15_5⟩ := zce6 BK734.out) | ((with_reducible refine gate_callee (f := 67) rfl ?_); refine goesL_ (some 5) rfl rfl Try.func67 zq1 rfl #[.agg #[.int .i64 a0_0, .int .i64 a0_1, .int .i64 a0_2, .int .i64 a0_3]] rfl zq8 ?_; (with_reducible refine (bound_CheckBox.calls k a0_0 a0_1 a0_2 a0_3 t735 _ A2.out).mono ?_); rintro e w16 ⟨rfl, hb⟩; refine ⟨_, rfl, ?_⟩; replace BK734 := zbb BK734 hb; replace HB := zbs HB hb; (try clear hb); (try clear hb2); (try clear hk); (try clear hi); obtain ⟨hcz17_0, hcz17_1, hcz17_2, hcz17_3, hcz17_4, hcz17_5, hfz17_0, hfz17_1, hfz17_2, hfz17_3, hfz17_4, hfz17_5⟩ := zce6 BK734.out))
      go_ret
      exact ⟨zq6, zbz⟩
  · rw [if_neg c3] at H
    have c3b0 : (t735 == 0) = false := beq_eq_false_iff_ne.mpr c3
    have c3b1 : (t735 != 0) = true := bne_iff_ne.mpr c3
    obtain rfl := Option.some.inj H
    go_enter Try.func93, Try.ntmps93
    go_wp2_with (first | ((with_reducible refine gate_dst (N := 1) rfl ?_); refine box_event (by rfl) (N := 1) (by rfl) (cs := #[.int .i64 a0_0, .int .i64 a0_1, .int .i64 a0_2, .int .i64 a0_3, .int .i64 a0_4, .int .i64 a0_5]) (t := 81) zq5 ?_; intro gb734 hg w18 hbox hb; have BK734 := Aside0.mk (hbox); have GW734 := zgs HB hg; have GE734 := zgs HB hg; replace HB := zbs HB hb; clear hb hbox hg; obtain ⟨hcz19_0, hcz19_1, hcz19_2, hcz19_3, hcz19_4, hcz19_5, hfz19_0, hfz19_1, hfz19_2, hfz19_3, hfz19_4, hfz19_5⟩ := zce6 BK734.out) | ((with_reducible refine gate_callee (f := 67) rfl ?_); refine goesL_ (some 5) rfl rfl Try.func67 zq1 rfl #[.agg #[.int .i64 a0_0, .int .i64 a0_1, .int .i64 a0_2, .int .i64 a0_3]] rfl zq8 ?_; (with_reducible refine (bound_CheckBox.calls k a0_0 a0_1 a0_2 a0_3 t735 _ A2.out).mono ?_); rintro e w20 ⟨rfl, hb⟩; refine ⟨_, rfl, ?_⟩; replace BK734 := zbb BK734 hb; replace HB := zbs HB hb; (try clear hb); (try clear hb2); (try clear hk); (try clear hi)))
    go_ret
    exact ⟨zq6, zbz⟩

end Go.Proofs.Ytmhaiihjfgfaoaa.Pr
end
section
namespace Go.Proofs.Ytmhaiihjfgfaoaa.Pr
open Go.RowKit Go.Proofs.YtmhaiihjfgfaoaaW.PrintWords Go.Proofs.YtmhaiihjfgfaoaaW.PrintLast Go.Proofs.YtmhaiihjfgfaoaaW.PrintMore
attribute [local go_sem] max2_int min2_int max_two min_two max_four
set_option linter.unusedVariables false
set_option linter.unusedSimpArgs false

/-! ### bound_meet: function 138 -/
def bound_meet.f (a0_0 : Int) (a0_1 : Int) (a1_0 : Int) (a1_1 : Int) : Option (Int × Int × Bool) := some (mx a0_0 a1_0, mn a0_1 a1_1, decide ((mx a0_0 a1_0) ≤ (mn a0_1 a1_1)))
def bound_meet.T2 : Bool × List (List Nat × List Nat) := (true, [([], []), ([], []), ([1], [1]), ([], []), ([3], [3]), ([2, 4], [2, 4]), ([0, 0], [0]), ([5, 6, 0, 1, 2, 3, 4, 5, 6], [5])])
def bound_meet.B2 : List Nat := [0, 0, 2, 0, 8, 30, 1, 127]
theorem bound_meet.tab2 : rtab .any (opsOf Try.f138 2) = bound_meet.T2 := by kernel_rfl
theorem bound_meet.bits2 : waitsOk bound_meet.T2.2 bound_meet.B2 = true := by kernel_rfl
set_option maxHeartbeats 8000000 in
set_option maxRecDepth 100000 in
theorem bound_meet.calls (a0_0 : Int) (a0_1 : Int) (a1_0 : Int) (a1_1 : Int) (r1 : Int) (r2 : Int) (r3 : Bool) (w : World) (h : bound_meet.f a0_0 a0_1 a1_0 a1_1 = some (r1, r2, r3)) :
    Calls Try.prog 138 #[.agg #[.int .i64 a0_0, .int .i64 a0_1], .agg #[.int .i64 a1_0, .int .i64 a1_1]] w fun e w' => e = .returned (.tuple #[.agg #[.int .i64 r1, .int .i64 r2], .bool r3]) ∧ Below w.heap.size w w' := by
  have hu27 := Try.underlying27
  have HB := Aside0.mk (Below.refl w.heap.size w)
  have H : (some (mx a0_0 a1_0, mn a0_1 a1_1, decide ((mx a0_0 a1_0) ≤ (mn a0_1 a1_1)))) = some (r1, r2, r3) := h
  clear h
  obtain ⟨ji3, hji3⟩ : ∃ j_ : Int, (mx a0_0 a1_0) = j_ := ⟨_, rfl⟩
  replace H : (some (ji3, mn a0_1 a1_1, decide ((ji3) ≤ (mn a0_1 a1_1)))) = some (r1, r2, r3) := by first | (rw [hji3] at H; exact H) | (simp only [hji3] at H ⊢; exact H)
  have hji3_ : (if a0_0 < a1_0 then a1_0 else a0_0) = ji3 := hji3
  obtain ⟨ji4, hji4⟩ : ∃ j_ : Int, (mn a0_1 a1_1) = j_ := ⟨_, rfl⟩
  replace H : (some (ji3, ji4, decide ((ji3) ≤ (ji4)))) = some (r1, r2, r3) := by first | (rw [hji4] at H; exact H) | (simp only [hji4] at H ⊢; exact H)
  have hji4_ : (if a1_1 < a0_1 then a1_1 else a0_1) = ji4 := hji4
  simp only [Option.some.injEq, Prod.mk.injEq] at H
  obtain ⟨rfl, rfl, rfl⟩ := H
  go_enter Try.func138, Try.ntmps138
  try go_wp2_with (first | ((with_reducible refine gate_dst (N := 2) rfl ?_); refine box_event (by rfl) (N := 2) (by rfl) (cs := #[.int .i64 a0_0, .int .i64 a0_1]) (t := 27) zq5 ?_; intro gb631 hg w5 hbox hb; have BK631 := Aside0.mk (hbox); have GW631 := zgs HB hg; have GE631 := zgs HB hg; replace HB := zbs HB hb; clear hb hbox hg) | ((with_reducible refine gate_dst (N := 3) rfl ?_); refine box_event (by rfl) (N := 3) (by rfl) (cs := #[.int .i64 a1_0, .int .i64 a1_1]) (t := 27) zq5 ?_; intro gb632 hg w6 hbox hb; have BK632 := Aside0.mk (hbox); have GW632 := zgs HB hg; have GE632 := zgs HB hg; have NB631_632 := znp BK631 hg; have NB632_631 := znq BK631 hg; replace BK631 := zbb BK631 hb; replace HB := zbs HB hb; clear hb hbox hg) | ((with_reducible refine gate_dst (N := 4) rfl ?_); refine box_event (by rfl) (N := 4) (by rfl) (cs := #[.int .i64 0, .int .i64 0]) (t := 27) zq5 ?_; intro gb633 hg w7 hbox hb; have BK633 := Aside0.mk (hbox); have GW633 := zgs HB hg; have GE633 := zgs HB hg; have NB631_633 := znp BK631 hg; have NB633_631 := znq BK631 hg; have NB632_633 := znp BK632 hg; have NB633_632 := znq BK632 hg; replace BK631 := zbb BK631 hb; replace BK632 := zbb BK632 hb; replace HB := zbs HB hb; clear hb hbox hg; have hnb8 := NB631_632.out; have hnc8 := NB632_631.out; have hnb9 := NB631_633.out; have hnc9 := NB633_631.out; obtain ⟨hcz10_0, hcz10_1, hfz10_0, hfz10_1⟩ := zce2 BK631.out; have hnb11 := NB632_633.out; have hnc11 := NB633_632.out; obtain ⟨hcz12_0, hcz12_1, hfz12_0, hfz12_1⟩ := zce2 BK632.out) | ((with_reducible refine gate_dst (N := 6) rfl ?_); refine box_event (by rfl) (N := 6) (by rfl) (cs := #[.int .i64 0, .int .i64 0]) (t := 27) zq5 ?_; intro gb634 hg w13 hbox hb; have BK634 := Aside0.mk (hbox); have GW634 := zgs HB hg; have GE634 := zgs HB hg; have NB631_634 := znp BK631 hg; have NB634_631 := znq BK631 hg; have NB632_634 := znp BK632 hg; have NB634_632 := znq BK632 hg; have NB633_634 := znp BK633 hg; have NB634_633 := znq BK633 hg; replace BK631 := zbb BK631 hb; replace BK632 := zbb BK632 hb; replace BK633 := zbb BK633 hb; replace HB := zbs HB hb; clear hb hbox hg; have hnb14 := NB634_631.out; have hnc14 := NB631_634.out; have hnb15 := NB634_632.out; have hnc15 := NB632_634.out; have hnb16 := NB634_633.out; have hnc16 := NB633_634.out; obtain ⟨hcz17_0, hcz17_1, hfz17_0, hfz17_1⟩ := zce2 BK634.out))
  have n0_ : Aside0 (((w13.setCell ⟨gb634, 0, none⟩ (.int .i64 ji3)).setCell ⟨gb634, 1, none⟩ (.int .i64 ji4)).heap[gb631]? = some (.cells #[.int .i64 a0_0, .int .i64 a0_1] 27 (0, 0))) := ⟨by (with_reducible repeat (first | refine blk_drewN ?_ _ | refine blk_drew ?_ | refine blk_alloc ?_ _)); refine blk_far ?_ NB631_634.out _; (with_reducible repeat (first | refine blk_drewN ?_ _ | refine blk_drew ?_ | refine blk_alloc ?_ _)); refine blk_far ?_ NB631_634.out _; (with_reducible repeat (first | refine blk_drewN ?_ _ | refine blk_drew ?_ | refine blk_alloc ?_ _)); exact BK631.out⟩
  have n1_ : Aside0 (((w13.setCell ⟨gb634, 0, none⟩ (.int .i64 ji3)).setCell ⟨gb634, 1, none⟩ (.int .i64 ji4)).heap[gb632]? = some (.cells #[.int .i64 a1_0, .int .i64 a1_1] 27 (0, 0))) := ⟨by (with_reducible repeat (first | refine blk_drewN ?_ _ | refine blk_drew ?_ | refine blk_alloc ?_ _)); refine blk_far ?_ NB632_634.out _; (with_reducible repeat (first | refine blk_drewN ?_ _ | refine blk_drew ?_ | refine blk_alloc ?_ _)); refine blk_far ?_ NB632_634.out _; (with_reducible repeat (first | refine blk_drewN ?_ _ | refine blk_drew ?_ | refine blk_alloc ?_ _)); exact BK632.out⟩
  have n2_ : Aside0 (((w13.setCell ⟨gb634, 0, none⟩ (.int .i64 ji3)).setCell ⟨gb634, 1, none⟩ (.int .i64 ji4)).heap[gb633]? = some (.cells #[.int .i64 0, .int .i64 0] 27 (0, 0))) := ⟨by (with_reducible repeat (first | refine blk_drewN ?_ _ | refine blk_drew ?_ | refine blk_alloc ?_ _)); refine blk_far ?_ NB633_634.out _; (with_reducible repeat (first | refine blk_drewN ?_ _ | refine blk_drew ?_ | refine blk_alloc ?_ _)); refine blk_far ?_ NB633_634.out _; (with_reducible repeat (first | refine blk_drewN ?_ _ | refine blk_drew ?_ | refine blk_alloc ?_ _)); exact BK633.out⟩
  have n3_ : Aside0 (((w13.setCell ⟨gb634, 0, none⟩ (.int .i64 ji3)).setCell ⟨gb634, 1, none⟩ (.int .i64 ji4)).heap[gb634]? = some (.cells #[.int .i64 ji3, .int .i64 ji4] 27 (0, 0))) := ⟨by (with_reducible repeat (first | refine blk_drewN ?_ _ | refine blk_drew ?_ | refine blk_alloc ?_ _)); refine blk_put (cs := #[.int .i64 ji3, .int .i64 0]) ?_ 1 _ rfl; (with_reducible repeat (first | refine blk_drewN ?_ _ | refine blk_drew ?_ | refine blk_alloc ?_ _)); refine blk_put (cs := #[.int .i64 0, .int .i64 0]) ?_ 0 _ rfl; (with_reducible repeat (first | refine blk_drewN ?_ _ | refine blk_drew ?_ | refine blk_alloc ?_ _)); exact BK634.out⟩
  have n4_ : Aside0 (Below w.heap.size w ((w13.setCell ⟨gb634, 0, none⟩ (.int .i64 ji3)).setCell ⟨gb634, 1, none⟩ (.int .i64 ji4))) := ⟨zbz⟩
  (try clear BK631)
  (try clear BK632)
  (try clear BK633)
  (try clear BK634)
  (try clear HB)
  generalize ((w13.setCell ⟨gb634, 0, none⟩ (.int .i64 ji3)).setCell ⟨gb634, 1, none⟩ (.int .i64 ji4)) = w18 at n0_ n1_ n2_ n3_ n4_ ⊢
  have BK631 := n0_
  have BK632 := n1_
  have BK633 := n2_
  have BK634 := n3_
  have HB := n4_
  clear n0_ n1_ n2_ n3_ n4_
  replace BK631 := Aside0.mk (blk_drew BK631.out)
  replace BK632 := Aside0.mk (blk_drew BK632.out)
  replace BK633 := Aside0.mk (blk_drew BK633.out)
  replace BK634 := Aside0.mk (blk_drew BK634.out)
  replace HB := Aside0.mk (below_drew1 HB.out)
  refine start_ (n := 8) (S := fun w' => w'.cell? ⟨gb634, 0, none⟩ = some (.int .i64 ji3) ∧ w'.cell? ⟨gb634, 1, none⟩ = some (.int .i64 ji4)) (ds := []) #[false, false, false, false, false, false, false, false] zq1 rfl rfl ⟨(blk_cell BK634.out 0).trans rfl, (blk_cell BK634.out 1).trans rfl⟩ (fun hHeld => ?_); refine with_tabW bound_meet.tab2 bound_meet.bits2 (fun HT_ HW_ => ?_)
  generalize w18.drew = w19 at BK631 BK632 BK633 BK634 HB hHeld ⊢
  refine zpz (i := 1) (N := some 19) (any_of HT_.out zq1) ?_
  refine zpz (i := 3) (N := some 21) (any_of HT_.out zq1) ?_
  refine ztz (i := 0) (N := some 18) (take_ofW HT_.out HW_.out zq1) hHeld ?_
  refine ztz (i := 2) (N := some 20) (take_ofW HT_.out HW_.out zq1) hHeld ?_
  refine ztz (i := 4) (N := some 22) (take_ofW HT_.out HW_.out zq1) hHeld ?_
  refine zpz (i := 5) (N := some 23) (any_of HT_.out zq1) ?_
  refine one_ (i := 6) (N := none) #[true, true, true, true, true, true, true, false] rfl rfl (one_of HT_.out zq1) (by decide) (fun K hK => ?_)
  have hs20 : w19.cell? ⟨gb633, 0, none⟩ = some (.int .i64 0) := (blk_cell BK633.out 0).trans rfl
  have hfs20 := blk_frozen BK633.out 0
  have hns20_0 := NB631_633.out
  have hns20_1 := NB632_633.out
  have hns20_3 := NB634_633.out
  have hms20_0 := NB633_631.out
  have hms20_1 := NB633_632.out
  have hms20_3 := NB633_634.out
  have hs21 : w19.cell? ⟨gb633, 1, none⟩ = some (.int .i64 0) := (blk_cell BK633.out 1).trans rfl
  have hfs21 := blk_frozen BK633.out 1
  have hns21_0 := NB631_633.out
  have hns21_1 := NB632_633.out
  have hns21_3 := NB634_633.out
  have hms21_0 := NB633_631.out
  have hms21_1 := NB633_632.out
  have hms21_3 := NB633_634.out
  refine skip_ (w1 := ?_) (by rfl) rfl ?_ ?_
  rotate_left
  · go_simp
    rfl
  refine hK.out _ _ ⟨((cell_far (p := ⟨gb633, _, none⟩) NB634_633.out _).trans (((cell_far (p := ⟨gb633, _, none⟩) NB634_633.out _).trans (hHeld.1)))), ((cell_far (p := ⟨gb633, _, none⟩) NB634_633.out _).trans (((cell_far (p := ⟨gb633, _, none⟩) NB634_633.out _).trans (hHeld.2))))⟩ (fun hHeld => ?_)
  clear hK K
  refine zpz (i := 7) (N := some 5) (any_of HT_.out zq1) ?_
  refine done_ (done_of HT_.out zq1) ?_
  try go_wp2
  refine bodyPost_ret (results_ct rfl _ _ gb633 27 #[.int .i64 ji3, .int .i64 ji4] (0, 0) _ rfl (by (with_reducible repeat (first | refine blk_drewN ?_ _ | refine blk_drew ?_ | refine blk_alloc ?_ _)); refine blk_put (cs := #[.int .i64 ji3, .int .i64 0]) ?_ 1 _ rfl; (with_reducible repeat (first | refine blk_drewN ?_ _ | refine blk_drew ?_ | refine blk_alloc ?_ _)); refine blk_put (cs := #[.int .i64 0, .int .i64 0]) ?_ 0 _ rfl; (with_reducible repeat (first | refine blk_drewN ?_ _ | refine blk_drew ?_ | refine blk_alloc ?_ _)); exact BK633.out) Try.underlying27 rfl zq1) rfl ?_
  exact ⟨by first | rfl | (simp [errW_none, errW_some] <;> rfl) | (simp only [← hji3, ← hji4]; first | rfl | (simp [errW_none, errW_some] <;> rfl)) | (simp [*, errW_none, errW_some] <;> rfl), zbz⟩

end Go.Proofs.Ytmhaiihjfgfaoaa.Pr
end
section
namespace Go.Proofs.Ytmhaiihjfgfaoaa.Pr
open Go.RowKit Go.Proofs.YtmhaiihjfgfaoaaW.PrintWords Go.Proofs.YtmhaiihjfgfaoaaW.PrintLast Go.Proofs.YtmhaiihjfgfaoaaW.PrintMore
attribute [local go_sem] max2_int min2_int max_two min_two max_four
set_option linter.unusedVariables false
set_option linter.unusedSimpArgs false

attribute [local go_sem high] eqA27
/-! ### bound_In: function 128 -/
def bound_In.f (k : Nat) (a0_0 : Int) (a0_1 : Int) (a1_0 : Int) (a1_1 : Int) : Option (Int × Int) := (bound_check.f k (([(⟨a0_0, a0_1⟩ : S27), (⟨a1_0, a1_1⟩ : S27)] : List (S27)))).bind fun t640 => (if t640 = 0 then ((bound_meet.f a0_0 a0_1 a1_0 a1_1).bind fun bt641 => (if bt641.2.2 = true then (if (bt641.1 == a0_0 && (bt641.2.1 == a0_1)) = true then (some (2, 0)) else (some (1, 0))) else (some (0, 0)))) else (some (0, t640)))
set_option maxHeartbeats 8000000 in
set_option maxRecDepth 100000 in
theorem bound_In.calls (k : Nat) (a0_0 : Int) (a0_1 : Int) (a1_0 : Int) (a1_1 : Int) (r1 : Int) (r2 : Int) (w : World) (h : bound_In.f k a0_0 a0_1 a1_0 a1_1 = some (r1, r2)) :
    Calls Try.prog 128 #[.agg #[.int .i64 a0_0, .int .i64 a0_1], .agg #[.int .i64 a1_0, .int .i64 a1_1]] w fun e w' => e = .returned (.tuple #[.int .i64 r1, .int .i64 r2]) ∧ Below w.heap.size w w' := by
  have hu27 := Try.underlying27
  have HB := Aside0.mk (Below.refl w.heap.size w)
  have H : ((bound_check.f k (([(⟨a0_0, a0_1⟩ : S27), (⟨a1_0, a1_1⟩ : S27)] : List (S27)))).bind fun t640 => (if t640 = 0 then ((bound_meet.f a0_0 a0_1 a1_0 a1_1).bind fun bt641 => (if bt641.2.2 = true then (if (bt641.1 == a0_0 && (bt641.2.1 == a0_1)) = true then (some (2, 0)) else (some (1, 0))) else (some (0, 0)))) else (some (0, t640)))) = some (r1, r2) := h
  clear h
  obtain ⟨y637, hy637⟩ : ∃ y_ : List (S27), y_ = (([(⟨a0_0, a0_1⟩ : S27), (⟨a1_0, a1_1⟩ : S27)] : List (S27))) := ⟨_, rfl⟩
  replace H : ((bound_check.f k y637).bind fun t640 => (if t640 = 0 then ((bound_meet.f a0_0 a0_1 a1_0 a1_1).bind fun bt641 => (if bt641.2.2 = true then (if (bt641.1 == a0_0 && (bt641.2.1 == a0_1)) = true then (some (2, 0)) else (some (1, 0))) else (some (0, 0)))) else (some (0, t640)))) = some (r1, r2) := by first | (rw [hy637]; with_reducible exact H) | (have H2_ := (Option.bind_some _ _).symm.trans H; rw [hy637]; with_reducible exact H2_) | (have H2_ := (Option.bind_some _ _).symm.trans H; with_reducible exact H2_) | with_reducible exact H | (rw [hy637]; exact H) | exact H
  have Ny637 := Aside0.mk hy637
  clear hy637
  replace H := Option.bind_eq_some_iff.mp H
  obtain ⟨t640, A30, H⟩ := H
  replace H : (if t640 = 0 then ((bound_meet.f a0_0 a0_1 a1_0 a1_1).bind fun bt641 => (if bt641.2.2 = true then (if (bt641.1 == a0_0 && (bt641.2.1 == a0_1)) = true then (some (2, 0)) else (some (1, 0))) else (some (0, 0)))) else (some (0, t640))) = some (r1, r2) := H
  have A3 := Aside0.mk A30
  clear A30
  by_cases c4 : t640 = 0
  · rw [if_pos c4] at H
    have c4b0 : (t640 == 0) = true := beq_iff_eq.mpr c4
    have c4b1 : (t640 != 0) = false := bne_eq_false_iff_eq.mpr c4
    clear c4
    replace H := Option.bind_eq_some_iff.mp H
    obtain ⟨⟨t641, t642, t643⟩, A50, H⟩ := H
    replace H : (if t643 = true then (if (t641 == a0_0 && (t642 == a0_1)) = true then (some (2, 0)) else (some (1, 0))) else (some (0, 0))) = some (r1, r2) := H
    have A5 := Aside0.mk A50
    clear A50
    by_cases c6 : t643 = true
    · subst c6
      have H1 : (if (t641 == a0_0 && (t642 == a0_1)) = true then (some (2, 0)) else (some (1, 0))) = some (r1, r2) := by rw [if_pos rfl] at H; exact H
      clear H
      have H := H1
      clear H1
      by_cases c7 : (t641 == a0_0 && (t642 == a0_1)) = true
      · rw [if_pos c7] at H
        have c7b0 : (t641 == a0_0 && (t642 == a0_1)) = true := c7
        (try (have c7b1 : decide (t641 = a0_0 && (t642 == a0_1)) = true := by simpa using c7))
        (try (have c7b2 : (t641 == a0_0 && (t642 == a0_1)) = true := by simpa using c7))
        clear c7
        simp only [Option.some.injEq, Prod.mk.injEq] at H
        obtain ⟨rfl, rfl⟩ := H
        go_enter Try.func128, Try.ntmps128
        go_wp2_with (first | ((with_reducible refine gate_dst (N := 2) rfl ?_); refine box_event (by rfl) (N := 2) (by rfl) (cs := #[.int .i64 a0_0, .int .i64 a0_1]) (t := 27) zq5 ?_; intro gb635 hg w8 hbox hb; have BK635 := Aside0.mk (hbox); have GW635 := zgs HB hg; have GE635 := zgs HB hg; replace HB := zbs HB hb; clear hb hbox hg) | ((with_reducible refine gate_dst (N := 3) rfl ?_); refine box_event (by rfl) (N := 3) (by rfl) (cs := #[.int .i64 a1_0, .int .i64 a1_1]) (t := 27) zq5 ?_; intro gb636 hg w9 hbox hb; have BK636 := Aside0.mk (hbox); have GW636 := zgs HB hg; have GE636 := zgs HB hg; have NB635_636 := znp BK635 hg; have NB636_635 := znq BK635 hg; replace BK635 := zbb BK635 hb; replace HB := zbs HB hb; clear hb hbox hg; have hnb10 := NB635_636.out; have hnc10 := NB636_635.out; obtain ⟨hcz11_0, hcz11_1, hfz11_0, hfz11_1⟩ := zce2 BK635.out; obtain ⟨hcz12_0, hcz12_1, hfz12_0, hfz12_1⟩ := zce2 BK636.out) | ((with_reducible refine gate_dst (N := 11) rfl ?_); refine Kd.R_lit k27 _ 27 (by rfl) (N := 11) (by rfl) (xs := ([(⟨a0_0, a0_1⟩ : S27), (⟨a1_0, a1_1⟩ : S27)] : List (S27))) (inner := [.int .i64 a0_0, .int .i64 a0_1, .int .i64 a1_0, .int .i64 a1_1]) (ok := fun _ => True) (okp := fun _ => True) zq5 zq47 (fun _ hk => hk) trivial (Below.refl _ _) (Nat.le_refl _) (by simp) ?_; intro v638 w13 ho14 hb hg_ hnew_; clear hg_ hnew_; (first | rw [← Ny637.out] at ho14 | (simp only [Int.reduceToNat] at ho14; rw [← Ny637.out] at ho14)); have n0_ := Aside0.mk (Kd.R_lower (Kd.R_newB (Kd.R_newB ho14 (g := gb635) (o := .cells #[.int .i64 a0_0, .int .i64 a0_1] 27 (0, 0)) (by (with_reducible repeat (first | refine blk_drewN ?_ _ | refine blk_drew ?_ | refine blk_alloc ?_ _)); exact BK635.out)) (g := gb636) (o := .cells #[.int .i64 a1_0, .int .i64 a1_1] 27 (0, 0)) (by (with_reducible repeat (first | refine blk_drewN ?_ _ | refine blk_drew ?_ | refine blk_alloc ?_ _)); exact BK636.out)) (below_size zbz)); have n1_ := zbb BK635 hb; have n2_ := zbb BK636 hb; have n3_ := zbs HB hb; clear BK635; clear BK636; clear HB; have HO639 := n0_; have BK635 := n1_; have BK636 := n2_; have HB := n3_; clear n0_ n1_ n2_ n3_; clear hb ho14; obtain ⟨Ao15, co15, eo15⟩ := Kd.R_slice HO639.out; subst eo15) | ((with_reducible refine gate_callee (f := 116) rfl ?_); refine goesL_ (some 12) rfl rfl Try.func116 zq1 rfl #[.slice Ao15 y637.length co15] rfl zq8 ?_; (with_reducible refine (bound_check.calls k _ _ y637 t640 _ ?side1 ?side2 A3.out).mono ?_); (case side1 => repeat (first | exact (Kd.R_reads' HO639.out).2.2 | (with_reducible refine Kd.C_alloc ?_ _) | (with_reducible refine Kd.C_drewN ?_ _) | (with_reducible refine Kd.C_drew ?_))); (case side2 => exact (Kd.R_reads' HO639.out).2.1); rintro e w16 ⟨rfl, hb⟩; refine ⟨_, rfl, ?_⟩; replace HO639 := Aside0.mk (Kd.R_below zq48 hb); replace BK635 := zbb BK635 hb; replace BK636 := zbb BK636 hb; replace HB := zbs HB hb; (try clear hb); (try clear hb2); (try clear hk); (try clear hi); obtain ⟨hcz17_0, hcz17_1, hfz17_0, hfz17_1⟩ := zce2 BK635.out; obtain ⟨hcz18_0, hcz18_1, hfz18_0, hfz18_1⟩ := zce2 BK636.out) | ((with_reducible refine gate_callee (f := 138) rfl ?_); refine goesL_ (some 19) rfl rfl Try.func138 zq1 rfl #[.agg #[.int .i64 a0_0, .int .i64 a0_1], .agg #[.int .i64 a1_0, .int .i64 a1_1]] rfl zq8 ?_; (with_reducible refine (bound_meet.calls a0_0 a0_1 a1_0 a1_1 t641 t642 true _ A5.out).mono ?_); rintro e w19 ⟨rfl, hb⟩; refine ⟨_, rfl, ?_⟩; replace HO639 := Aside0.mk (Kd.R_below zq48 hb); replace BK635 := zbb BK635 hb; replace BK636 := zbb BK636 hb; replace HB := zbs HB hb; (try clear hb); (try clear hb2); (try clear hk); (try clear hi)) | ((with_reducible refine gate_dst (N := 7) rfl ?_); refine box_event (by rfl) (N := 7) (by rfl) (cs := #[.int .i64 0, .int .i64 0]) (t := 27) zq5 ?_; intro gb644 hg w20 hbox hb; have BK644 := Aside0.mk (hbox); have GW644 := zgs HB hg; have GE644 := zgs HB hg; have NB635_644 := znp BK635 hg; have NB644_635 := znq BK635 hg; have NB636_644 := znp BK636 hg; have NB644_636 := znq BK636 hg; replace HO639 := Aside0.mk (Kd.R_below (Kd.R_elderB zq48 gb644 (Nat.le_of_eq hg.symm)) hb); replace BK635 := zbb BK635 hb; replace BK636 := zbb BK636 hb; replace HB := zbs HB hb; clear hb hbox hg; have hnb21 := NB644_635.out; have hnc21 := NB635_644.out; have hnb22 := NB644_636.out; have hnc22 := NB636_644.out; obtain ⟨hcz23_0, hcz23_1, hfz23_0, hfz23_1⟩ := zce2 BK644.out; obtain ⟨hcz24_0, hcz24_1, hfz24_0, hfz24_1⟩ := zce2 BK635.out))
        go_ret2
        exact ⟨zq6, zbz⟩
      · rw [if_neg c7] at H
        have c7b0 : (t641 == a0_0 && (t642 == a0_1)) = false := by simpa using c7
        (try (have c7b1 : decide (t641 = a0_0 && (t642 == a0_1)) = false := by simpa using c7))
        (try (have c7b2 : (t641 == a0_0 && (t642 == a0_1)) = false := by simpa using c7))
        (try (have c7b3 : ¬ (t641 = a0_0 && (t642 == a0_1)) := by simpa using c7))
        clear c7
        simp only [Option.some.injEq, Prod.mk.injEq] at H
        obtain ⟨rfl, rfl⟩ := H
        go_enter Try.func128, Try.ntmps128
        go_wp2_with (first | ((with_reducible refine gate_dst (N := 2) rfl ?_); refine box_event (by rfl) (N := 2) (by rfl) (cs := #[.int .i64 a0_0, .int .i64 a0_1]) (t := 27) zq5 ?_; intro gb635 hg w25 hbox hb; have BK635 := Aside0.mk (hbox); have GW635 := zgs HB hg; have GE635 := zgs HB hg; replace HB := zbs HB hb; clear hb hbox hg) | ((with_reducible refine gate_dst (N := 3) rfl ?_); refine box_event (by rfl) (N := 3) (by rfl) (cs := #[.int .i64 a1_0, .int .i64 a1_1]) (t := 27) zq5 ?_; intro gb636 hg w26 hbox hb; have BK636 := Aside0.mk (hbox); have GW636 := zgs HB hg; have GE636 := zgs HB hg; have NB635_636 := znp BK635 hg; have NB636_635 := znq BK635 hg; replace BK635 := zbb BK635 hb; replace HB := zbs HB hb; clear hb hbox hg; have hnb27 := NB635_636.out; have hnc27 := NB636_635.out; obtain ⟨hcz28_0, hcz28_1, hfz28_0, hfz28_1⟩ := zce2 BK635.out; obtain ⟨hcz29_0, hcz29_1, hfz29_0, hfz29_1⟩ := zce2 BK636.out) | ((with_reducible refine gate_dst (N := 11) rfl ?_); refine Kd.R_lit k27 _ 27 (by rfl) (N := 11) (by rfl) (xs := ([(⟨a0_0, a0_1⟩ : S27), (⟨a1_0, a1_1⟩ : S27)] : List (S27))) (inner := [.int .i64 a0_0, .int .i64 a0_1, .int .i64 a1_0, .int .i64 a1_1]) (ok := fun _ => True) (okp := fun _ => True) zq5 zq47 (fun _ hk => hk) trivial (Below.refl _ _) (Nat.le_refl _) (by simp) ?_; intro v638 w30 ho31 hb hg_ hnew_; clear hg_ hnew_; (first | rw [← Ny637.out] at ho31 | (simp only [Int.reduceToNat] at ho31; rw [← Ny637.out] at ho31)); have n0_ := Aside0.mk (Kd.R_lower (Kd.R_newB (Kd.R_newB ho31 (g := gb635) (o := .cells #[.int .i64 a0_0, .int .i64 a0_1] 27 (0, 0)) (by (with_reducible repeat (first | refine blk_drewN ?_ _ | refine blk_drew ?_ | refine blk_alloc ?_ _)); exact BK635.out)) (g := gb636) (o := .cells #[.int .i64 a1_0, .int .i64 a1_1] 27 (0, 0)) (by (with_reducible repeat (first | refine blk_drewN ?_ _ | refine blk_drew ?_ | refine blk_alloc ?_ _)); exact BK636.out)) (below_size zbz)); have n1_ := zbb BK635 hb; have n2_ := zbb BK636 hb; have n3_ := zbs HB hb; clear BK635; clear BK636; clear HB; have HO639 := n0_; have BK635 := n1_; have BK636 := n2_; have HB := n3_; clear n0_ n1_ n2_ n3_; clear hb ho31; obtain ⟨Ao32, co32, eo32⟩ := Kd.R_slice HO639.out; subst eo32) | ((with_reducible refine gate_callee (f := 116) rfl ?_); refine goesL_ (some 12) rfl rfl Try.func116 zq1 rfl #[.slice Ao32 y637.length co32] rfl zq8 ?_; (with_reducible refine (bound_check.calls k _ _ y637 t640 _ ?side1 ?side2 A3.out).mono ?_); (case side1 => repeat (first | exact (Kd.R_reads' HO639.out).2.2 | (with_reducible refine Kd.C_alloc ?_ _) | (with_reducible refine Kd.C_drewN ?_ _) | (with_reducible refine Kd.C_drew ?_))); (case side2 => exact (Kd.R_reads' HO639.out).2.1); rintro e w33 ⟨rfl, hb⟩; refine ⟨_, rfl, ?_⟩; replace HO639 := Aside0.mk (Kd.R_below zq48 hb); replace BK635 := zbb BK635 hb; replace BK636 := zbb BK636 hb; replace HB := zbs HB hb; (try clear hb); (try clear hb2); (try clear hk); (try clear hi); obtain ⟨hcz34_0, hcz34_1, hfz34_0, hfz34_1⟩ := zce2 BK635.out; obtain ⟨hcz35_0, hcz35_1, hfz35_0, hfz35_1⟩ := zce2 BK636.out) | ((with_reducible refine gate_callee (f := 138) rfl ?_); refine goesL_ (some 19) rfl rfl Try.func138 zq1 rfl #[.agg #[.int .i64 a0_0, .int .i64 a0_1], .agg #[.int .i64 a1_0, .int .i64 a1_1]] rfl zq8 ?_; (with_reducible refine (bound_meet.calls a0_0 a0_1 a1_0 a1_1 t641 t642 true _ A5.out).mono ?_); rintro e w36 ⟨rfl, hb⟩; refine ⟨_, rfl, ?_⟩; replace HO639 := Aside0.mk (Kd.R_below zq48 hb); replace BK635 := zbb BK635 hb; replace BK636 := zbb BK636 hb; replace HB := zbs HB hb; (try clear hb); (try clear hb2); (try clear hk); (try clear hi)) | ((with_reducible refine gate_dst (N := 7) rfl ?_); refine box_event (by rfl) (N := 7) (by rfl) (cs := #[.int .i64 0, .int .i64 0]) (t := 27) zq5 ?_; intro gb644 hg w37 hbox hb; have BK644 := Aside0.mk (hbox); have GW644 := zgs HB hg; have GE644 := zgs HB hg; have NB635_644 := znp BK635 hg; have NB644_635 := znq BK635 hg; have NB636_644 := znp BK636 hg; have NB644_636 := znq BK636 hg; replace HO639 := Aside0.mk (Kd.R_below (Kd.R_elderB zq48 gb644 (Nat.le_of_eq hg.symm)) hb); replace BK635 := zbb BK635 hb; replace BK636 := zbb BK636 hb; replace HB := zbs HB hb; clear hb hbox hg; have hnb38 := NB644_635.out; have hnc38 := NB635_644.out; have hnb39 := NB644_636.out; have hnc39 := NB636_644.out; obtain ⟨hcz40_0, hcz40_1, hfz40_0, hfz40_1⟩ := zce2 BK644.out; obtain ⟨hcz41_0, hcz41_1, hfz41_0, hfz41_1⟩ := zce2 BK635.out))
        go_ret2
        exact ⟨zq6, zbz⟩
    · replace c6 := Bool.eq_false_iff.mpr c6
      subst c6
      have H1 : (some (0, 0)) = some (r1, r2) := by rw [if_neg (show ¬ (false = true) by decide)] at H; exact H
      clear H
      have H := H1
      clear H1
      simp only [Option.some.injEq, Prod.mk.injEq] at H
      obtain ⟨rfl, rfl⟩ := H
      go_enter Try.func128, Try.ntmps128
      go_wp2_with (first | ((with_reducible refine gate_dst (N := 2) rfl ?_); refine box_event (by rfl) (N := 2) (by rfl) (cs := #[.int .i64 a0_0, .int .i64 a0_1]) (t := 27) zq5 ?_; intro gb635 hg w42 hbox hb; have BK635 := Aside0.mk (hbox); have GW635 := zgs HB hg; have GE635 := zgs HB hg; replace HB := zbs HB hb; clear hb hbox hg) | ((with_reducible refine gate_dst (N := 3) rfl ?_); refine box_event (by rfl) (N := 3) (by rfl) (cs := #[.int .i64 a1_0, .int .i64 a1_1]) (t := 27) zq5 ?_; intro gb636 hg w43 hbox hb; have BK636 := Aside0.mk (hbox); have GW636 := zgs HB hg; have GE636 := zgs HB hg; have NB635_636 := znp BK635 hg; have NB636_635 := znq BK635 hg; replace BK635 := zbb BK635 hb; replace HB := zbs HB hb; clear hb hbox hg; have hnb44 := NB635_636.out; have hnc44 := NB636_635.out; obtain ⟨hcz45_0, hcz45_1, hfz45_0, hfz45_1⟩ := zce2 BK635.out; obtain ⟨hcz46_0, hcz46_1, hfz46_0, hfz46_1⟩ := zce2 BK636.out) | ((with_reducible refine gate_dst (N := 11) rfl ?_); refine Kd.R_lit k27 _ 27 (by rfl) (N := 11) (by rfl) (xs := ([(⟨a0_0, a0_1⟩ : S27), (⟨a1_0, a1_1⟩ : S27)] : List (S27))) (inner := [.int .i64 a0_0, .int .i64 a0_1, .int .i64 a1_0, .int .i64 a1_1]) (ok := fun _ => True) (okp := fun _ => True) zq5 zq47 (fun _ hk => hk) trivial (Below.refl _ _) (Nat.le_refl _) (by simp) ?_; intro v638 w47 ho48 hb hg_ hnew_; clear hg_ hnew_; (first | rw [← Ny637.out] at ho48 | (simp only [Int.reduceToNat] at ho48; rw [← Ny637.out] at ho48)); have n0_ := Aside0.mk (Kd.R_lower (Kd.R_newB (Kd.R_newB ho48 (g := gb635) (o := .cells #[.int .i64 a0_0, .int .i64 a0_1] 27 (0, 0)) (by (with_reducible repeat (first | refine blk_drewN ?_ _ | refine blk_drew ?_ | refine blk_alloc ?_ _)); exact BK635.out)) (g := gb636) (o := .cells #[.int .i64 a1_0, .int .i64 a1_1] 27 (0, 0)) (by (with_reducible repeat (first | refine blk_drewN ?_ _ | refine blk_drew ?_ | refine blk_alloc ?_ _)); exact BK636.out)) (below_size zbz)); have n1_ := zbb BK635 hb; have n2_ := zbb BK636 hb; have n3_ := zbs HB hb; clear BK635; clear BK636; clear HB; have HO639 := n0_; have BK635 := n1_; have BK636 := n2_; have HB := n3_; clear n0_ n1_ n2_ n3_; clear hb ho48; obtain ⟨Ao49, co49, eo49⟩ := Kd.R_slice HO639.out; subst eo49) | ((with_reducible refine gate_callee (f := 116) rfl ?_); refine goesL_ (some 12) rfl rfl Try.func116 zq1 rfl #[.slice Ao49 y637.length co49] rfl zq8 ?_; (with_reducible refine (bound_check.calls k _ _ y637 t640 _ ?side1 ?side2 A3.out).mono ?_); (case side1 => repeat (first | exact (Kd.R_reads' HO639.out).2.2 | (with_reducible refine Kd.C_alloc ?_ _) | (with_reducible refine Kd.C_drewN ?_ _) | (with_reducible refine Kd.C_drew ?_))); (case side2 => exact (Kd.R_reads' HO639.out).2.1); rintro e w50 ⟨rfl, hb⟩; refine ⟨_, rfl, ?_⟩; replace HO639 := Aside0.mk (Kd.R_below zq48 hb); replace BK635 := zbb BK635 hb; replace BK636 := zbb BK636 hb; replace HB := zbs HB hb; (try clear hb); (try clear hb2); (try clear hk); (try clear hi); obtain ⟨hcz51_0, hcz51_1, hfz51_0, hfz51_1⟩ := zce2 BK635.out; obtain ⟨hcz52_0, hcz52_1, hfz52_0, hfz52_1⟩ := zce2 BK636.out) | ((with_reducible refine gate_callee (f := 138) rfl ?_); refine goesL_ (some 19) rfl rfl Try.func138 zq1 rfl #[.agg #[.int .i64 a0_0, .int .i64 a0_1], .agg #[.int .i64 a1_0, .int .i64 a1_1]] rfl zq8 ?_; (with_reducible refine (bound_meet.calls a0_0 a0_1 a1_0 a1_1 t641 t642 false _ A5.out).mono ?_); rintro e w53 ⟨rfl, hb⟩; refine ⟨_, rfl, ?_⟩; replace HO639 := Aside0.mk (Kd.R_below zq48 hb); replace BK635 := zbb BK635 hb; replace BK636 := zbb BK636 hb; replace HB := zbs HB hb; (try clear hb); (try clear hb2); (try clear hk); (try clear hi)) | ((with_reducible refine gate_dst (N := 7) rfl ?_); refine box_event (by rfl) (N := 7) (by rfl) (cs := #[.int .i64 0, .int .i64 0]) (t := 27) zq5 ?_; intro gb644 hg w54 hbox hb; have BK644 := Aside0.mk (hbox); have GW644 := zgs HB hg; have GE644 := zgs HB hg; have NB635_644 := znp BK635 hg; have NB644_635 := znq BK635 hg; have NB636_644 := znp BK636 hg; have NB644_636 := znq BK636 hg; replace HO639 := Aside0.mk (Kd.R_below (Kd.R_elderB zq48 gb644 (Nat.le_of_eq hg.symm)) hb); replace BK635 := zbb BK635 hb; replace BK636 := zbb BK636 hb; replace HB := zbs HB hb; clear hb hbox hg; have hnb55 := NB644_635.out; have hnc55 := NB635_644.out; have hnb56 := NB644_636.out; have hnc56 := NB636_644.out; obtain ⟨hcz57_0, hcz57_1, hfz57_0, hfz57_1⟩ := zce2 BK644.out))
      go_ret2
      exact ⟨zq6, zbz⟩
  · rw [if_neg c4] at H
    have c4b0 : (t640 == 0) = false := beq_eq_false_iff_ne.mpr c4
    have c4b1 : (t640 != 0) = true := bne_iff_ne.mpr c4
    simp only [Option.some.injEq, Prod.mk.injEq] at H
    obtain ⟨rfl, rfl⟩ := H
    go_enter Try.func128, Try.ntmps128
    go_wp2_with (first | ((with_reducible refine gate_dst (N := 2) rfl ?_); refine box_event (by rfl) (N := 2) (by rfl) (cs := #[.int .i64 a0_0, .int .i64 a0_1]) (t := 27) zq5 ?_; intro gb635 hg w58 hbox hb; have BK635 := Aside0.mk (hbox); have GW635 := zgs HB hg; have GE635 := zgs HB hg; replace HB := zbs HB hb; clear hb hbox hg) | ((with_reducible refine gate_dst (N := 3) rfl ?_); refine box_event (by rfl) (N := 3) (by rfl) (cs := #[.int .i64 a1_0, .int .i64 a1_1]) (t := 27) zq5 ?_; intro gb636 hg w59 hbox hb; have BK636 := Aside0.mk (hbox); have GW636 := zgs HB hg; have GE636 := zgs HB hg; have NB635_636 := znp BK635 hg; have NB636_635 := znq BK635 hg; replace BK635 := zbb BK635 hb; replace HB := zbs HB hb; clear hb hbox hg; have hnb60 := NB635_636.out; have hnc60 := NB636_635.out; obtain ⟨hcz61_0, hcz61_1, hfz61_0, hfz61_1⟩ := zce2 BK635.out; obtain ⟨hcz62_0, hcz62_1, hfz62_0, hfz62_1⟩ := zce2 BK636.out) | ((with_reducible refine gate_dst (N := 11) rfl ?_); refine Kd.R_lit k27 _ 27 (by rfl) (N := 11) (by rfl) (xs := ([(⟨a0_0, a0_1⟩ : S27), (⟨a1_0, a1_1⟩ : S27)] : List (S27))) (inner := [.int .i64 a0_0, .int .i64 a0_1, .int .i64 a1_0, .int .i64 a1_1]) (ok := fun _ => True) (okp := fun _ => True) zq5 zq47 (fun _ hk => hk) trivial (Below.refl _ _) (Nat.le_refl _) (by simp) ?_; intro v638 w63 ho64 hb hg_ hnew_; clear hg_ hnew_; (first | rw [← Ny637.out] at ho64 | (simp only [Int.reduceToNat] at ho64; rw [← Ny637.out] at ho64)); have n0_ := Aside0.mk (Kd.R_lower (Kd.R_newB (Kd.R_newB ho64 (g := gb635) (o := .cells #[.int .i64 a0_0, .int .i64 a0_1] 27 (0, 0)) (by (with_reducible repeat (first | refine blk_drewN ?_ _ | refine blk_drew ?_ | refine blk_alloc ?_ _)); exact BK635.out)) (g := gb636) (o := .cells #[.int .i64 a1_0, .int .i64 a1_1] 27 (0, 0)) (by (with_reducible repeat (first | refine blk_drewN ?_ _ | refine blk_drew ?_ | refine blk_alloc ?_ _)); exact BK636.out)) (below_size zbz)); have n1_ := zbb BK635 hb; have n2_ := zbb BK636 hb; have n3_ := zbs HB hb; clear BK635; clear BK636; clear HB; have HO639 := n0_; have BK635 := n1_; have BK636 := n2_; have HB := n3_; clear n0_ n1_ n2_ n3_; clear hb ho64; obtain ⟨Ao65, co65, eo65⟩ := Kd.R_slice HO639.out; subst eo65) | ((with_reducible refine gate_callee (f := 116) rfl ?_); refine goesL_ (some 12) rfl rfl Try.func116 zq1 rfl #[.slice Ao65 y637.length co65] rfl zq8 ?_; (with_reducible refine (bound_check.calls k _ _ y637 t640 _ ?side1 ?side2 A3.out).mono ?_); (case side1 => repeat (first | exact (Kd.R_reads' HO639.out).2.2 | (with_reducible refine Kd.C_alloc ?_ _) | (with_reducible refine Kd.C_drewN ?_ _) | (with_reducible refine Kd.C_drew ?_))); (case side2 => exact (Kd.R_reads' HO639.out).2.1); rintro e w66 ⟨rfl, hb⟩; refine ⟨_, rfl, ?_⟩; replace HO639 := Aside0.mk (Kd.R_below zq48 hb); replace BK635 := zbb BK635 hb; replace BK636 := zbb BK636 hb; replace HB := zbs HB hb; (try clear hb); (try clear hb2); (try clear hk); (try clear hi)))
    go_ret2
    exact ⟨zq6, zbz⟩

end Go.Proofs.Ytmhaiihjfgfaoaa.Pr
end
section
/- Is a box in another one, and are boxes valid: what the program answers. -/
namespace Go.Proofs.Ytmhaiihjfgfaoaa.Gl
open Go.RowKit Go.Shelf Go.Proofs.YtmhaiihjfgfaoaaW.PrintWords Go.Proofs.YtmhaiihjfgfaoaaW.PrintLast Go.Proofs.YtmhaiihjfgfaoaaW.PrintMore Go.Proofs.Ytmhaiihjfgfaoaa.Pr Go.Proofs.YtmhaiihjfgfaoaaW.Round
set_option linter.unusedVariables false
set_option linter.unusedSimpArgs false
attribute [local go_sem] max2_int min2_int max_two min_two max_four
/-- Is a span in another one? -/
def inI (a b : S27) : Int := if (okS a.f0 a.f1 && okS b.f0 b.f1) = true then (if max a.f0 b.f0 ≤ min a.f1 b.f1 then (if b.f0 ≤ a.f0 ∧ a.f1 ≤ b.f1 then 2 else 1) else 0) else 0
def inE (a b : S27) : Int := if (okS a.f0 a.f1 && okS b.f0 b.f1) = true then 0 else 2
theorem in_some (a b : S27) : bound_In.f 3 a.f0 a.f1 b.f0 b.f1 = some (inI a b, inE a b) := by
  unfold bound_In.f inI inE
  rw [check_two 0, Option.bind_some]
  cases h : (okS a.f0 a.f1 && okS b.f0 b.f1) with
  | false => rfl
  | true =>
    rw [if_pos rfl, if_pos rfl, if_pos rfl]
    unfold bound_meet.f
    rw [Option.bind_some]
    dsimp only
    have e1 : mx a.f0 b.f0 = max a.f0 b.f0 := mx_max' _ _
    have e2 : mn a.f1 b.f1 = min a.f1 b.f1 := mn_min' _ _
    rw [e1, e2]
    by_cases h1 : max a.f0 b.f0 ≤ min a.f1 b.f1
    · rw [if_pos h1, if_pos (decide_eq_true h1)]
      by_cases h2 : b.f0 ≤ a.f0 ∧ a.f1 ≤ b.f1
      · rw [if_pos h2, if_pos]
        rw [Bool.and_eq_true, beq_iff_eq, beq_iff_eq]
        omega
      · rw [if_neg h2, if_neg]
        rw [Bool.and_eq_true, beq_iff_eq, beq_iff_eq]
        omega
    · rw [if_neg h1, if_neg (by rw [decide_eq_false h1]; decide)]
set_option maxRecDepth 100000 in
set_option maxHeartbeats 2000000 in
theorem one_any (a b : S27) (w : World) : Calls Try.prog 127 #[.func (.func 128) #[] #[], .agg #[.int .i64 a.f0, .int .i64 a.f1], .agg #[.int .i64 b.f0, .int .i64 b.f1]] w (RetB (.int .i64 (inI a b)) w) := by
  have hu27 := Try.underlying27
  have eg : ∀ args w, (callFunc 128 args).run Try.prog w = .ok (.enter 128 args) w := enters_of Try.func128 zq1 rfl
  have hcon := fun W => bound_In.calls 3 a.f0 a.f1 b.f0 b.f1 _ _ W (in_some a b)
  generalize inI a b = r at *
  generalize inE a b = r2 at *
  go_enter Try.func127, Try.ntmps127
  go_wp2_with fail
  have m4 : Blk ((w.alloc (.cells #[.int .i64 a.f0, .int .i64 a.f1] 27)).alloc (.cells #[.int .i64 b.f0, .int .i64 b.f1] 27)) (w.heap.size) #[.int .i64 a.f0, .int .i64 a.f1] 27 := (blk_alloc zq16 _)
  have m5 : Blk ((w.alloc (.cells #[.int .i64 a.f0, .int .i64 a.f1] 27)).alloc (.cells #[.int .i64 b.f0, .int .i64 b.f1] 27)) (w.heap.size + 1) #[.int .i64 b.f0, .int .i64 b.f1] 27 := (by have h_ := blk_new (w.alloc (.cells #[.int .i64 a.f0, .int .i64 a.f1] 27)) (.cells #[.int .i64 b.f0, .int .i64 b.f1] 27); first | exact h_ | (simp only [World.size_alloc] at h_; exact h_))
  have mB : Below w.heap.size w ((w.alloc (.cells #[.int .i64 a.f0, .int .i64 a.f1] 27)).alloc (.cells #[.int .i64 b.f0, .int .i64 b.f1] 27)) := (below_alloc (below_alloc (Below.refl w.heap.size w) _) _)
  have hsz_ : w.heap.size ≤ w.heap.size := Nat.le_refl _
  generalize hW_ : ((w.alloc (.cells #[.int .i64 a.f0, .int .i64 a.f1] 27)).alloc (.cells #[.int .i64 b.f0, .int .i64 b.f1] 27)) = W1 at m4 m5 mB ⊢
  clear hW_
  generalize hg4 : w.heap.size = g4 at m4 m5 ⊢
  have hG4 : w.heap.size ≤ g4 := by omega
  generalize hg5 : g4 + 1 = g5 at m5 ⊢
  have hn_4_5 : g4 ≠ g5 := by omega
  have hn_5_4 : g5 ≠ g4 := hn_4_5.symm
  have hG5 : w.heap.size ≤ g5 := by omega
  clear hsz_
  try clear hg5
  try clear hg4
  have hs_W1 : w.heap.size ≤ W1.heap.size := mB.size
  obtain ⟨c4_0, c4_1⟩ := zcs2 m4
  obtain ⟨c5_0, c5_1⟩ := zcs2 m5
  go_wp2_with fail
  clear c4_0
  clear c4_1
  clear c5_0
  clear c5_1
  have hc1 := hcon W1
  (with_reducible refine hc1.mono ?_)
  clear hc1 hcon
  rintro e W2 ⟨rfl, hb⟩
  replace m4 := blk_below m4 hb
  replace m5 := blk_below m5 hb
  replace mB := below_step mB hb
  clear hb
  go_wp2
  go_ret
  exact ⟨rfl, mB⟩
/-- Is a box in another one? -/
def insI (x y : S31) : Int := min (inI x.f0 y.f0) (inI x.f1 y.f1)
set_option maxRecDepth 100000 in
set_option maxHeartbeats 2000000 in
theorem inside_any (x y : S31) (w : World) : Calls Try.prog 89 #[.agg #[.int .i64 x.f0.f0, .int .i64 x.f0.f1, .int .i64 x.f1.f0, .int .i64 x.f1.f1], .agg #[.int .i64 y.f0.f0, .int .i64 y.f0.f1, .int .i64 y.f1.f0, .int .i64 y.f1.f1]] w (RetB (.int .i64 (insI x y)) w) := by
  have hu31 := Try.underlying31
  have hu27 := Try.underlying27
  have k0 := fun W => one_any x.f0 y.f0 W
  have k1 := fun W => one_any x.f1 y.f1 W
  have HR : Hid (insI x y = min (inI x.f0 y.f0) (inI x.f1 y.f1)) := Lib.hid rfl
  generalize inI x.f0 y.f0 = r0 at *
  generalize inI x.f1 y.f1 = r1 at *
  go_enter Try.func89, Try.ntmps89
  go_wp2_with fail
  have m2 : Blk ((w.alloc (.cells #[.int .i64 x.f0.f0, .int .i64 x.f0.f1, .int .i64 x.f1.f0, .int .i64 x.f1.f1] 31)).alloc (.cells #[.int .i64 y.f0.f0, .int .i64 y.f0.f1, .int .i64 y.f1.f0, .int .i64 y.f1.f1] 31)) (w.heap.size) #[.int .i64 x.f0.f0, .int .i64 x.f0.f1, .int .i64 x.f1.f0, .int .i64 x.f1.f1] 31 := (blk_alloc zq22 _)
  have m3 : Blk ((w.alloc (.cells #[.int .i64 x.f0.f0, .int .i64 x.f0.f1, .int .i64 x.f1.f0, .int .i64 x.f1.f1] 31)).alloc (.cells #[.int .i64 y.f0.f0, .int .i64 y.f0.f1, .int .i64 y.f1.f0, .int .i64 y.f1.f1] 31)) (w.heap.size + 1) #[.int .i64 y.f0.f0, .int .i64 y.f0.f1, .int .i64 y.f1.f0, .int .i64 y.f1.f1] 31 := (by have h_ := blk_new (w.alloc (.cells #[.int .i64 x.f0.f0, .int .i64 x.f0.f1, .int .i64 x.f1.f0, .int .i64 x.f1.f1] 31)) (.cells #[.int .i64 y.f0.f0, .int .i64 y.f0.f1, .int .i64 y.f1.f0, .int .i64 y.f1.f1] 31); first | exact h_ | (simp only [World.size_alloc] at h_; exact h_))
  have mB : Below w.heap.size w ((w.alloc (.cells #[.int .i64 x.f0.f0, .int .i64 x.f0.f1, .int .i64 x.f1.f0, .int .i64 x.f1.f1] 31)).alloc (.cells #[.int .i64 y.f0.f0, .int .i64 y.f0.f1, .int .i64 y.f1.f0, .int .i64 y.f1.f1] 31)) := (below_alloc (below_alloc (Below.refl w.heap.size w) _) _)
  have hsz_ : w.heap.size ≤ w.heap.size := Nat.le_refl _
  generalize hW_ : ((w.alloc (.cells #[.int .i64 x.f0.f0, .int .i64 x.f0.f1, .int .i64 x.f1.f0, .int .i64 x.f1.f1] 31)).alloc (.cells #[.int .i64 y.f0.f0, .int .i64 y.f0.f1, .int .i64 y.f1.f0, .int .i64 y.f1.f1] 31)) = W1 at m2 m3 mB ⊢
  clear hW_
  generalize hg2 : w.heap.size = g2 at m2 m3 ⊢
  have hG2 : w.heap.size ≤ g2 := by omega
  generalize hg3 : g2 + 1 = g3 at m3 ⊢
  have hn_2_3 : g2 ≠ g3 := by omega
  have hn_3_2 : g3 ≠ g2 := hn_2_3.symm
  have hG3 : w.heap.size ≤ g3 := by omega
  clear hsz_
  try clear hg3
  try clear hg2
  have hs_W1 : w.heap.size ≤ W1.heap.size := mB.size
  replace m2 := blk_drew m2
  replace m3 := blk_drew m3
  replace mB := below_drew1 mB
  refine start_ (n := 12) (S := fun w' => w'.cell? ⟨g2, 0, none⟩ = some (.int .i64 x.f0.f0) ∧ w'.cell? ⟨g2, 1, none⟩ = some (.int .i64 x.f0.f1) ∧ w'.cell? ⟨g2, 2, none⟩ = some (.int .i64 x.f1.f0) ∧ w'.cell? ⟨g2, 3, none⟩ = some (.int .i64 x.f1.f1) ∧ w'.cell? ⟨g3, 0, none⟩ = some (.int .i64 y.f0.f0) ∧ w'.cell? ⟨g3, 1, none⟩ = some (.int .i64 y.f0.f1) ∧ w'.cell? ⟨g3, 2, none⟩ = some (.int .i64 y.f1.f0) ∧ w'.cell? ⟨g3, 3, none⟩ = some (.int .i64 y.f1.f1)) (ds := []) #[false, false, false, false, false, false, false, false, false, false, false, false] zq1 rfl rfl ⟨((blk_cell m2 0).trans rfl), ((blk_cell m2 1).trans rfl), ((blk_cell m2 2).trans rfl), ((blk_cell m2 3).trans rfl), ((blk_cell m3 0).trans rfl), ((blk_cell m3 1).trans rfl), ((blk_cell m3 2).trans rfl), ((blk_cell m3 3).trans rfl)⟩ (fun hHeld => ?_)
  generalize hWd : World.drew _ = Wx at m2 m3 mB hHeld ⊢
  clear hWd
  refine zpz (i := 0) (N := some 5) zq1 ?_
  refine zpz (i := 2) (N := some 7) zq1 ?_
  refine zpz (i := 5) (N := some 10) zq1 ?_
  refine zpz (i := 7) (N := some 12) zq1 ?_
  refine ztz (i := 1) (N := some 6) zq1 hHeld ?_
  refine ztz (i := 3) (N := some 8) zq1 hHeld ?_
  refine ztz (i := 6) (N := some 11) zq1 hHeld ?_
  refine ztz (i := 8) (N := some 13) zq1 hHeld ?_
  refine one_ (i := 4) (N := some 9) #[true, true, true, true, true, true, true, true, true, false, false, false] rfl rfl zq1 (by decide) (fun K hK => ?_)
  have hcon_ := k0 Wx
  refine goes_ Try.func127 zq1 rfl #[.func (.func 128) #[] #[], .agg #[.int .i64 x.f0.f0, .int .i64 x.f0.f1], .agg #[.int .i64 y.f0.f0, .int .i64 y.f0.f1]] (by rfl) rfl rfl zq18 ?_
  with_reducible refine (hcon_).mono ?_
  rintro e w4 ⟨rfl, hb⟩
  refine ⟨_, rfl, ?_⟩
  clear hcon_
  replace m2 := blk_below m2 hb
  replace m3 := blk_below m3 hb
  replace mB := below_step mB hb
  clear hb
  refine hK.out _ _ ⟨((blk_cell m2 0).trans rfl), ((blk_cell m2 1).trans rfl), ((blk_cell m2 2).trans rfl), ((blk_cell m2 3).trans rfl), ((blk_cell m3 0).trans rfl), ((blk_cell m3 1).trans rfl), ((blk_cell m3 2).trans rfl), ((blk_cell m3 3).trans rfl)⟩ (fun hHeld => ?_)
  clear hK K
  refine norm_ zq17 ?_
  refine one_ (i := 9) (N := some 14) #[true, true, true, true, true, true, true, true, true, true, false, false] rfl rfl zq1 (by decide) (fun K hK => ?_)
  have hcon_ := k1 w4
  refine goes_ Try.func127 zq1 rfl #[.func (.func 128) #[] #[], .agg #[.int .i64 x.f1.f0, .int .i64 x.f1.f1], .agg #[.int .i64 y.f1.f0, .int .i64 y.f1.f1]] (by rfl) rfl rfl zq18 ?_
  with_reducible refine (hcon_).mono ?_
  rintro e w9 ⟨rfl, hb⟩
  refine ⟨_, rfl, ?_⟩
  clear hcon_
  replace m2 := blk_below m2 hb
  replace m3 := blk_below m3 hb
  replace mB := below_step mB hb
  clear hb
  refine hK.out _ _ ⟨((blk_cell m2 0).trans rfl), ((blk_cell m2 1).trans rfl), ((blk_cell m2 2).trans rfl), ((blk_cell m2 3).trans rfl), ((blk_cell m3 0).trans rfl), ((blk_cell m3 1).trans rfl), ((blk_cell m3 2).trans rfl), ((blk_cell m3 3).trans rfl)⟩ (fun hHeld => ?_)
  clear hK K
  refine norm_ zq39 ?_
  refine zpz (i := 10) (N := some 15) zq1 ?_
  refine zpz (i := 11) (N := some 4) zq1 ?_
  refine done_ zq1 ?_
  go_wp2
  all_goals (go_ret; first | (have hm : insI x y = r0 := (by rw [HR.out]; omega); exact ⟨by rw [hm]; rfl, mB⟩) | (have hm : insI x y = r1 := (by rw [HR.out]; omega); exact ⟨by rw [hm]; rfl, mB⟩))

/-- What is wrong with boxes? -/
def boxesE (l : List S31) : Int := if l.length > 64 then 6 else if l.any (fun x => !boxB x) then 2 else 0
set_option maxRecDepth 100000 in
set_option maxHeartbeats 2000000 in
theorem cb1_any (x : S31) (w : World) : Calls Try.prog 126 #[.agg #[.int .i64 x.f0.f0, .int .i64 x.f0.f1, .int .i64 x.f1.f0, .int .i64 x.f1.f1]] w (RetB (.bool (!boxB x)) w) := by
  have hu31 := Try.underlying31
  have hu27 := Try.underlying27
  have k0 := fun W => box_any x W
  have HE : Hid (boxE x = if boxB x then 0 else 2) := Lib.hid rfl
  go_enter Try.func126, Try.ntmps126
  go_wp2_with fail
  have m1 : Blk (w.alloc (.cells #[.int .i64 x.f0.f0, .int .i64 x.f0.f1, .int .i64 x.f1.f0, .int .i64 x.f1.f1] 31)) (w.heap.size) #[.int .i64 x.f0.f0, .int .i64 x.f0.f1, .int .i64 x.f1.f0, .int .i64 x.f1.f1] 31 := zq22
  have mB : Below w.heap.size w (w.alloc (.cells #[.int .i64 x.f0.f0, .int .i64 x.f0.f1, .int .i64 x.f1.f0, .int .i64 x.f1.f1] 31)) := (below_alloc (Below.refl w.heap.size w) _)
  have hsz_ : w.heap.size ≤ w.heap.size := Nat.le_refl _
  generalize hW_ : (w.alloc (.cells #[.int .i64 x.f0.f0, .int .i64 x.f0.f1, .int .i64 x.f1.f0, .int .i64 x.f1.f1] 31)) = W1 at m1 mB ⊢
  clear hW_
  generalize hg1 : w.heap.size = g1 at m1 ⊢
  have hG1 : w.heap.size ≤ g1 := by omega
  clear hsz_
  try clear hg1
  have hs_W1 : w.heap.size ≤ W1.heap.size := mB.size
  obtain ⟨c1_0, c1_1, c1_2, c1_3⟩ := zcs4 m1
  go_wp2_with fail
  clear c1_0
  clear c1_1
  clear c1_2
  clear c1_3
  have hcon := k0 W1
  (with_reducible refine hcon.mono ?_)
  clear hcon
  rintro e W2 ⟨rfl, hb⟩
  replace m1 := blk_below m1 hb
  replace mB := below_step mB hb
  clear hb
  have hs_W2 : w.heap.size ≤ W2.heap.size := mB.size
  cases h : boxB x with
  | true =>
    have HZ : Hid (boxE x = 0) := Lib.hid (by rw [HE.out, h]; rfl)
    have HB := Lib.hid h
    clear h HE k0
    generalize boxE x = E at *
    have hz := HZ.out
    subst hz
    go_wp2
    go_ret
    exact ⟨by rw [HB.out]; rfl, mB⟩
  | false =>
    have HZ : Hid (boxE x = 2) := Lib.hid (by rw [HE.out, h]; rfl)
    have HB := Lib.hid h
    clear h HE k0
    generalize boxE x = E at *
    have hz := HZ.out
    subst hz
    go_wp2
    go_ret
    exact ⟨by rw [HB.out]; rfl, mB⟩
set_option maxRecDepth 100000 in
set_option maxHeartbeats 2000000 in
theorem boxes_any (A : Option Addr) (c : Nat) (l : List S31) (w : World) (hC : Kd.C k31 w A l.length l) (hc : l.length ≤ c) : Calls Try.prog 88 #[.slice A l.length c] w (RetB (.int .i64 (boxesE l)) w) := by
  have hu31 := Try.underlying31
  have hu27 := Try.underlying27
  have hb := hC.2.1
  have HR : Hid (boxesE l = if l.length > 64 then 6 else if l.any (fun x => !boxB x) then 2 else 0) := Lib.hid rfl
  by_cases h : l.length > 64
  · have hd : decide (64 < (l.length : Int)) = true := decide_eq_true (by omega)
    have HZ := Lib.hid (HR.out.trans (if_pos h))
    clear h HR
    go_enter Try.func88, Try.ntmps88
    go_wp2
    go_ret
    exact ⟨zq15, Below.refl _ _⟩
  · have hd : decide (64 < (l.length : Int)) = false := decide_eq_false (by omega)
    have HZ := Lib.hid (HR.out.trans (if_neg h))
    have hcon := fun W (hW : Below w.heap.size w W) => cont31_any 126 #[] (fun x => !boxB x) A c l W (Kd.C_below hC hW) hc (enters_of Try.func126 zq1 rfl) (fun x W _ => cb1_any x W)
    generalize l.any (fun x => !boxB x) = r at *
    clear h HR
    go_enter Try.func88, Try.ntmps88
    go_wp2_with fail
    (with_reducible refine (hcon _ (Below.refl _ _)).mono ?_)
    clear hcon
    rintro e W1 ⟨rfl, mB⟩
    cases r
    · go_wp2
      go_ret
      exact ⟨zq15, mB⟩
    · go_wp2
      go_ret
      exact ⟨zq15, mB⟩
end Go.Proofs.Ytmhaiihjfgfaoaa.Gl
end
section
/- The contracts of exported functions, as the printed texts ask for them. -/
namespace Go.Proofs.Ytmhaiihjfgfaoaa.Pr
open Go.RowKit Go.Proofs.YtmhaiihjfgfaoaaW.PrintWords Go.Proofs.YtmhaiihjfgfaoaaW.PrintLast Go.Proofs.YtmhaiihjfgfaoaaW.PrintMore Go.Proofs.Ytmhaiihjfgfaoaa.Gl
set_option linter.unusedVariables false
def glider_inside.f (a0_0 : Int) (a0_1 : Int) (a0_2 : Int) (a0_3 : Int) (a1_0 : Int) (a1_1 : Int) (a1_2 : Int) (a1_3 : Int) : Option (Int) := some (insI ⟨⟨a0_0, a0_1⟩, ⟨a0_2, a0_3⟩⟩ ⟨⟨a1_0, a1_1⟩, ⟨a1_2, a1_3⟩⟩)
theorem glider_inside.calls (a0_0 : Int) (a0_1 : Int) (a0_2 : Int) (a0_3 : Int) (a1_0 : Int) (a1_1 : Int) (a1_2 : Int) (a1_3 : Int) (r : Int) (w : World) (h : glider_inside.f a0_0 a0_1 a0_2 a0_3 a1_0 a1_1 a1_2 a1_3 = some r) :
    Calls Try.prog 89 #[.agg #[.int .i64 a0_0, .int .i64 a0_1, .int .i64 a0_2, .int .i64 a0_3], .agg #[.int .i64 a1_0, .int .i64 a1_1, .int .i64 a1_2, .int .i64 a1_3]] w fun e w' => e = .returned (.int .i64 r) ∧ Below w.heap.size w w' := by
  cases h
  exact inside_any ⟨⟨a0_0, a0_1⟩, ⟨a0_2, a0_3⟩⟩ ⟨⟨a1_0, a1_1⟩, ⟨a1_2, a1_3⟩⟩ w
end Go.Proofs.Ytmhaiihjfgfaoaa.Pr
end
section
namespace Go.Proofs.Ytmhaiihjfgfaoaa.Pr
open Go.RowKit Go.Proofs.YtmhaiihjfgfaoaaW.PrintWords Go.Proofs.YtmhaiihjfgfaoaaW.PrintLast Go.Proofs.YtmhaiihjfgfaoaaW.PrintMore
attribute [local go_sem] max2_int min2_int max_two min_two max_four
set_option linter.unusedVariables false
set_option linter.unusedSimpArgs false

/-! ### glider_fetched: function 94 -/
def glider_fetched.l0 : Nat → Int → Int → List (S31) → Int → Int → Int → Int → Int → Int → Int → Int → Int → Int → Int → Int → Int → Int → Int → Option (Int)
  | 0, _, _, _, _, _, _, _, _, _, _, _, _, _, _, _, _, _, _ => none
  | k + 1, x1, x9, x12, x13, x14, x737000, x737001, x737002, x737003, x737004, x737005, x737006, x738000, x738001, x738002, x738003, x738004, x738005 => if x14 < x13 then (if 0 ≤ x14 then (if x14 < (x12.length : Int) then ((glider_between.f (wrap64 (x1 + x737001)) x738004 x738005).bind fun t740 => (if t740 = true then ((glider_inside.f ((rd_T31 x12 x14).f0.f0) ((rd_T31 x12 x14).f0.f1) ((rd_T31 x12 x14).f1.f0) ((rd_T31 x12 x14).f1.f1) x738000 x738001 x738002 x738003).bind fun t741 => (glider_fetched.l0 k (wrap64 (x1 + x737001)) (mx x9 t741) x12 x13 (wrap64 (x14 + 1)) x737000 x737001 x737002 x737003 x737004 x737005 x737006 x738000 x738001 x738002 x738003 x738004 x738005)) else (glider_fetched.l0 k (wrap64 (x1 + x737001)) x9 x12 x13 (wrap64 (x14 + 1)) x737000 x737001 x737002 x737003 x737004 x737005 x737006 x738000 x738001 x738002 x738003 x738004 x738005))) else (none)) else (none)) else (some x9)
def glider_fetched.f (k : Nat) (a0_0 : Int) (a0_1 : Int) (a0_2 : Int) (a0_3 : Int) (a0_4 : Int) (a0_5 : Int) (a0_6 : Int) (a1 : Int) (l2 : List (S31)) (a3_0 : Int) (a3_1 : Int) (a3_2 : Int) (a3_3 : Int) (a3_4 : Int) (a3_5 : Int) : Option (Int) := glider_fetched.l0 k a1 0 l2 (l2.length : Int) 0 a0_0 a0_1 a0_2 a0_3 a0_4 a0_5 a0_6 a3_0 a3_1 a3_2 a3_3 a3_4 a3_5
set_option maxHeartbeats 8000000 in
set_option maxRecDepth 100000 in
theorem glider_fetched.calls (k : Nat) (a0_0 : Int) (a0_1 : Int) (a0_2 : Int) (a0_3 : Int) (a0_4 : Int) (a0_5 : Int) (a0_6 : Int) (a1 : Int) (A2 : Option Addr) (c2 : Nat) (l2 : List (S31)) (a3_0 : Int) (a3_1 : Int) (a3_2 : Int) (a3_3 : Int) (a3_4 : Int) (a3_5 : Int) (r : Int) (w : World) (hr2 : Kd.C k31 w A2 l2.length l2) (hc2 : l2.length ≤ c2) (h : glider_fetched.f k a0_0 a0_1 a0_2 a0_3 a0_4 a0_5 a0_6 a1 l2 a3_0 a3_1 a3_2 a3_3 a3_4 a3_5 = some r) :
    Calls Try.prog 94 #[.agg #[.int .i64 a0_0, .int .i64 a0_1, .int .i64 a0_2, .int .i64 a0_3, .int .i64 a0_4, .int .i64 a0_5, .int .i64 a0_6], .int .i64 a1, .slice A2 l2.length c2, .agg #[.int .i64 a3_0, .int .i64 a3_1, .int .i64 a3_2, .int .i64 a3_3, .int .i64 a3_4, .int .i64 a3_5]] w fun e w' => e = .returned (.int .i64 r) ∧ Below w.heap.size w w' := by
  have hu29 := Try.underlying29
  have hu81 := Try.underlying81
  have hu31 := Try.underlying31
  have HR2 := Aside0.mk hr2
  have HC2 := Aside0.mk hc2
  clear hr2 hc2
  have HB := Aside0.mk (Below.refl w.heap.size w)
  have H : (glider_fetched.l0 k a1 0 l2 (l2.length : Int) 0 a0_0 a0_1 a0_2 a0_3 a0_4 a0_5 a0_6 a3_0 a3_1 a3_2 a3_3 a3_4 a3_5) = some r := h
  clear h
  have H' := Aside0.mk H
  clear H
  go_enter Try.func94, Try.ntmps94
  go_wp2_with (first | ((with_reducible refine gate_dst (N := 4) rfl ?_); refine box_event (by rfl) (N := 4) (by rfl) (cs := #[.int .i64 a0_0, .int .i64 a0_1, .int .i64 a0_2, .int .i64 a0_3, .int .i64 a0_4, .int .i64 a0_5, .int .i64 a0_6]) (t := 29) zq5 ?_; intro gb736 hg w5 hbox hb; have BK736 := Aside0.mk (hbox); have GW736 := zgs HB hg; have GE736 := zgs HB hg; replace HB := zbs HB hb; clear hb hbox hg) | ((with_reducible refine gate_dst (N := 7) rfl ?_); refine box_event (by rfl) (N := 7) (by rfl) (cs := #[.int .i64 a3_0, .int .i64 a3_1, .int .i64 a3_2, .int .i64 a3_3, .int .i64 a3_4, .int .i64 a3_5]) (t := 81) zq5 ?_; intro gb737 hg w6 hbox hb; have BK737 := Aside0.mk (hbox); have GW737 := zgs HB hg; have GE737 := zgs HB hg; have NB736_737 := znp BK736 hg; have NB737_736 := znq BK736 hg; replace BK736 := zbb BK736 hb; replace HB := zbs HB hb; clear hb hbox hg))
  go_loopg [1, 9, 14] k (fun kq v1 v9 v14 w' => ∃ (x1_1 : Int) (x9_1 : Int) (x14_1 : Int), v1 = .int .i64 x1_1 ∧ v9 = .int .i64 x9_1 ∧ v14 = .int .i64 x14_1 ∧ Aside0 (glider_fetched.l0 kq x1_1 x9_1 l2 (l2.length : Int) x14_1 a0_0 a0_1 a0_2 a0_3 a0_4 a0_5 a0_6 a3_0 a3_1 a3_2 a3_3 a3_4 a3_5 = some r) ∧ Aside0 (kq ≤ k) ∧ Aside0 (w'.heap[gb736]? = some (.cells #[.int .i64 a0_0, .int .i64 a0_1, .int .i64 a0_2, .int .i64 a0_3, .int .i64 a0_4, .int .i64 a0_5, .int .i64 a0_6] 29 (0, 0))) ∧ Aside0 (w'.heap[gb737]? = some (.cells #[.int .i64 a3_0, .int .i64 a3_1, .int .i64 a3_2, .int .i64 a3_3, .int .i64 a3_4, .int .i64 a3_5] 81 (0, 0))) ∧ Aside0 (Below w.heap.size w w'))
  case atStart => exact ⟨(a1), (0), (0), zq2, zq2, zq2, H', ⟨Nat.le_refl _⟩, ⟨by (with_reducible repeat (first | refine blk_drewN ?_ _ | refine blk_drew ?_ | refine blk_alloc ?_ _)); exact BK736.out⟩, ⟨by (with_reducible repeat (first | refine blk_drewN ?_ _ | refine blk_drew ?_ | refine blk_alloc ?_ _)); exact BK737.out⟩, ⟨zbz⟩⟩
  case round =>
    clear H'
    try clear c2
    try clear p2
    obtain ⟨x1_1, x9_1, x14_1, rfl, rfl, rfl, HA, HK1, BK736, BK737, HB⟩ := hrel
    cases gk with
    | zero => exact absurd HA.out (by simp [glider_fetched.l0])
    | succ k1 =>
      have H := HA.out
      clear HA
      simp only [glider_fetched.l0] at H
      by_cases c7 : x14_1 < (l2.length : Int)
      · rw [if_pos c7] at H
        have c7b0 : decide (x14_1 < (l2.length : Int)) = true := decide_eq_true c7
        clear c7
        by_cases c8 : 0 ≤ x14_1
        · rw [if_pos c8] at H
          have c8b0 : decide (0 ≤ x14_1) = true := decide_eq_true c8
          clear c8
          by_cases c9 : x14_1 < (l2.length : Int)
          · rw [if_pos c9] at H
            have c9b0 : decide (x14_1 < (l2.length : Int)) = true := decide_eq_true c9
            clear c9
            replace H := Option.bind_eq_some_iff.mp H
            obtain ⟨t740, A100, H⟩ := H
            replace H : (if t740 = true then ((glider_inside.f ((rd_T31 l2 x14_1).f0.f0) ((rd_T31 l2 x14_1).f0.f1) ((rd_T31 l2 x14_1).f1.f0) ((rd_T31 l2 x14_1).f1.f1) a3_0 a3_1 a3_2 a3_3).bind fun t741 => (glider_fetched.l0 k1 (wrap64 (x1_1 + a0_1)) (mx x9_1 t741) l2 (l2.length : Int) (wrap64 (x14_1 + 1)) a0_0 a0_1 a0_2 a0_3 a0_4 a0_5 a0_6 a3_0 a3_1 a3_2 a3_3 a3_4 a3_5)) else (glider_fetched.l0 k1 (wrap64 (x1_1 + a0_1)) x9_1 l2 (l2.length : Int) (wrap64 (x14_1 + 1)) a0_0 a0_1 a0_2 a0_3 a0_4 a0_5 a0_6 a3_0 a3_1 a3_2 a3_3 a3_4 a3_5)) = some r := H
            have A10 := Aside0.mk A100
            clear A100
            by_cases c11 : t740 = true
            · subst c11
              have H1 : ((glider_inside.f ((rd_T31 l2 x14_1).f0.f0) ((rd_T31 l2 x14_1).f0.f1) ((rd_T31 l2 x14_1).f1.f0) ((rd_T31 l2 x14_1).f1.f1) a3_0 a3_1 a3_2 a3_3).bind fun t741 => (glider_fetched.l0 k1 (wrap64 (x1_1 + a0_1)) (mx x9_1 t741) l2 (l2.length : Int) (wrap64 (x14_1 + 1)) a0_0 a0_1 a0_2 a0_3 a0_4 a0_5 a0_6 a3_0 a3_1 a3_2 a3_3 a3_4 a3_5)) = some r := by rw [if_pos rfl] at H; exact H
              clear H
              have H := H1
              clear H1
              replace H := Option.bind_eq_some_iff.mp H
              obtain ⟨t741, A120, H⟩ := H
              replace H : (glider_fetched.l0 k1 (wrap64 (x1_1 + a0_1)) (mx x9_1 t741) l2 (l2.length : Int) (wrap64 (x14_1 + 1)) a0_0 a0_1 a0_2 a0_3 a0_4 a0_5 a0_6 a3_0 a3_1 a3_2 a3_3 a3_4 a3_5) = some r := H
              have A12 := Aside0.mk A120
              clear A120
              obtain ⟨ji13, hji13⟩ : ∃ j_ : Int, (mx x9_1 t741) = j_ := ⟨_, rfl⟩
              replace H : (glider_fetched.l0 k1 (wrap64 (x1_1 + a0_1)) ji13 l2 (l2.length : Int) (wrap64 (x14_1 + 1)) a0_0 a0_1 a0_2 a0_3 a0_4 a0_5 a0_6 a3_0 a3_1 a3_2 a3_3 a3_4 a3_5) = some r := by first | (rw [hji13] at H; exact H) | (simp only [hji13] at H ⊢; exact H)
              (try rw [hji13] at A10)
              (try rw [hji13] at A12)
              have hji13_ : (if x9_1 < t741 then t741 else x9_1) = ji13 := hji13
              have H' := Aside0.mk H
              clear H
              have p738 : 0 ≤ (x14_1 : Int) := of_decide_eq_true zq4
              have q738 : x14_1 < (l2.length : Int) := of_decide_eq_true zq4
              obtain ⟨ad738, e738, hx738_0, hx738_1, hx738_2, hx738_3⟩ := at_T31 HR2.out x14_1 p738 q738
              cases e738
              replace hx738_0 := (HB.out.cell (World.block_lt_of_cell? w _ hx738_0)).trans hx738_0
              replace hx738_1 := (HB.out.cell (World.block_lt_of_cell? w _ hx738_1)).trans hx738_1
              replace hx738_2 := (HB.out.cell (World.block_lt_of_cell? w _ hx738_2)).trans hx738_2
              replace hx738_3 := (HB.out.cell (World.block_lt_of_cell? w _ hx738_3)).trans hx738_3
              replace p738 := eq_true p738
              replace q738 := eq_true q738
              go_wp2_with (first | ((with_reducible refine gate_dst (N := 11) rfl ?_); refine box_event (by rfl) (N := 11) (by rfl) (cs := #[.int .i64 0, .int .i64 0, .int .i64 0, .int .i64 0]) (t := 31) zq5 ?_; intro gb739 hg w14 hbox hb; have BK739 := Aside0.mk (hbox); have GW739 := zgs HB hg; have GE739 := zgs HB hg; have NB736_739 := znp BK736 hg; have NB739_736 := znq BK736 hg; have NB737_739 := znp BK737 hg; have NB739_737 := znq BK737 hg; replace BK736 := zbb BK736 hb; replace BK737 := zbb BK737 hb; replace HB := zbs HB hb; clear hb hbox hg; have hnb15 := NB739_736.out; have hnc15 := NB736_739.out; have hnb16 := NB739_737.out; have hnc16 := NB737_739.out; obtain ⟨hcz17_0, hcz17_1, hcz17_2, hcz17_3, hfz17_0, hfz17_1, hfz17_2, hfz17_3⟩ := zce4 BK739.out; have hnb18 := NB736_737.out; have hnc18 := NB737_736.out; obtain ⟨hcz19_0, hcz19_1, hcz19_2, hcz19_3, hcz19_4, hcz19_5, hcz19_6, hfz19_0, hfz19_1, hfz19_2, hfz19_3, hfz19_4, hfz19_5, hfz19_6⟩ := zce7 BK736.out; obtain ⟨hcz20_0, hcz20_1, hcz20_2, hcz20_3, hcz20_4, hcz20_5, hfz20_0, hfz20_1, hfz20_2, hfz20_3, hfz20_4, hfz20_5⟩ := zce6 BK737.out) | ((with_reducible refine gate_callee (f := 74) rfl ?_); refine goesL_ (some 27) rfl rfl Try.func74 zq1 rfl #[.int .i64 (wrap64 (x1_1 + a0_1)), .int .i64 a3_4, .int .i64 a3_5] rfl zq8 ?_; (with_reducible refine (glider_between.calls (wrap64 (x1_1 + a0_1)) a3_4 a3_5 true _ A10.out).mono ?_); rintro e w' ⟨rfl, ⟨nd, rfl⟩⟩; refine ⟨_, rfl, ?_⟩) | ((with_reducible refine gate_callee (f := 89) rfl ?_); refine goesL_ (some 32) rfl rfl Try.func89 zq1 rfl #[.agg #[.int .i64 ((rd_T31 l2 x14_1).f0.f0), .int .i64 ((rd_T31 l2 x14_1).f0.f1), .int .i64 ((rd_T31 l2 x14_1).f1.f0), .int .i64 ((rd_T31 l2 x14_1).f1.f1)], .agg #[.int .i64 a3_0, .int .i64 a3_1, .int .i64 a3_2, .int .i64 a3_3]] rfl zq8 ?_; (with_reducible refine (glider_inside.calls ((rd_T31 l2 x14_1).f0.f0) ((rd_T31 l2 x14_1).f0.f1) ((rd_T31 l2 x14_1).f1.f0) ((rd_T31 l2 x14_1).f1.f1) a3_0 a3_1 a3_2 a3_3 t741 _ A12.out).mono ?_); rintro e w21 ⟨rfl, hb⟩; refine ⟨_, rfl, ?_⟩; have n0_ := Aside0.mk (blk_below (g := gb736) (o := .cells #[.int .i64 a0_0, .int .i64 a0_1, .int .i64 a0_2, .int .i64 a0_3, .int .i64 a0_4, .int .i64 a0_5, .int .i64 a0_6] 29 (0, 0)) (by (with_reducible repeat (first | refine blk_drewN ?_ _ | refine blk_drew ?_ | refine blk_alloc ?_ _)); refine blk_far ?_ NB736_739.out _; (with_reducible repeat (first | refine blk_drewN ?_ _ | refine blk_drew ?_ | refine blk_alloc ?_ _)); refine blk_far ?_ NB736_739.out _; (with_reducible repeat (first | refine blk_drewN ?_ _ | refine blk_drew ?_ | refine blk_alloc ?_ _)); refine blk_far ?_ NB736_739.out _; (with_reducible repeat (first | refine blk_drewN ?_ _ | refine blk_drew ?_ | refine blk_alloc ?_ _)); refine blk_far ?_ NB736_739.out _; (with_reducible repeat (first | refine blk_drewN ?_ _ | refine blk_drew ?_ | refine blk_alloc ?_ _)); exact BK736.out) hb); have n1_ := Aside0.mk (blk_below (g := gb737) (o := .cells #[.int .i64 a3_0, .int .i64 a3_1, .int .i64 a3_2, .int .i64 a3_3, .int .i64 a3_4, .int .i64 a3_5] 81 (0, 0)) (by (with_reducible repeat (first | refine blk_drewN ?_ _ | refine blk_drew ?_ | refine blk_alloc ?_ _)); refine blk_far ?_ NB737_739.out _; (with_reducible repeat (first | refine blk_drewN ?_ _ | refine blk_drew ?_ | refine blk_alloc ?_ _)); refine blk_far ?_ NB737_739.out _; (with_reducible repeat (first | refine blk_drewN ?_ _ | refine blk_drew ?_ | refine blk_alloc ?_ _)); refine blk_far ?_ NB737_739.out _; (with_reducible repeat (first | refine blk_drewN ?_ _ | refine blk_drew ?_ | refine blk_alloc ?_ _)); refine blk_far ?_ NB737_739.out _; (with_reducible repeat (first | refine blk_drewN ?_ _ | refine blk_drew ?_ | refine blk_alloc ?_ _)); exact BK737.out) hb); have n2_ := Aside0.mk (blk_below (g := gb739) (o := .cells #[.int .i64 ((rd_T31 l2 x14_1).f0.f0), .int .i64 ((rd_T31 l2 x14_1).f0.f1), .int .i64 ((rd_T31 l2 x14_1).f1.f0), .int .i64 ((rd_T31 l2 x14_1).f1.f1)] 31 (0, 0)) (by (with_reducible repeat (first | refine blk_drewN ?_ _ | refine blk_drew ?_ | refine blk_alloc ?_ _)); refine blk_put (cs := #[.int .i64 ((rd_T31 l2 x14_1).f0.f0), .int .i64 ((rd_T31 l2 x14_1).f0.f1), .int .i64 ((rd_T31 l2 x14_1).f1.f0), .int .i64 0]) ?_ 3 _ rfl; (with_reducible repeat (first | refine blk_drewN ?_ _ | refine blk_drew ?_ | refine blk_alloc ?_ _)); refine blk_put (cs := #[.int .i64 ((rd_T31 l2 x14_1).f0.f0), .int .i64 ((rd_T31 l2 x14_1).f0.f1), .int .i64 0, .int .i64 0]) ?_ 2 _ rfl; (with_reducible repeat (first | refine blk_drewN ?_ _ | refine blk_drew ?_ | refine blk_alloc ?_ _)); refine blk_put (cs := #[.int .i64 ((rd_T31 l2 x14_1).f0.f0), .int .i64 0, .int .i64 0, .int .i64 0]) ?_ 1 _ rfl; (with_reducible repeat (first | refine blk_drewN ?_ _ | refine blk_drew ?_ | refine blk_alloc ?_ _)); refine blk_put (cs := #[.int .i64 0, .int .i64 0, .int .i64 0, .int .i64 0]) ?_ 0 _ rfl; (with_reducible repeat (first | refine blk_drewN ?_ _ | refine blk_drew ?_ | refine blk_alloc ?_ _)); exact BK739.out) hb); have n3_ := zbs HB hb; clear BK736; clear BK737; clear BK739; clear HB; have BK736 := n0_; have BK737 := n1_; have BK739 := n2_; have HB := n3_; clear n0_ n1_ n2_ n3_; (try clear hb); (try clear hb2); (try clear hk); (try clear hi)))
              go_roundg k1
              case measure => have := HK1.out; omega
              case rel => exact ⟨(wrap64 (x1_1 + a0_1)), (ji13), (wrap64 (x14_1 + 1)), zq2, (by first | rfl | (simp; done) | (simp only [← hji13] <;> (first | rfl | simp)) | (simp [*]; done)), zq2, H', ⟨zq7⟩, ⟨by (with_reducible repeat (first | refine blk_drewN ?_ _ | refine blk_drew ?_ | refine blk_alloc ?_ _)); exact BK736.out⟩, ⟨by (with_reducible repeat (first | refine blk_drewN ?_ _ | refine blk_drew ?_ | refine blk_alloc ?_ _)); exact BK737.out⟩, ⟨zbz⟩⟩
            · replace c11 := Bool.eq_false_iff.mpr c11
              subst c11
              have H1 : (glider_fetched.l0 k1 (wrap64 (x1_1 + a0_1)) x9_1 l2 (l2.length : Int) (wrap64 (x14_1 + 1)) a0_0 a0_1 a0_2 a0_3 a0_4 a0_5 a0_6 a3_0 a3_1 a3_2 a3_3 a3_4 a3_5) = some r := by rw [if_neg (show ¬ (false = true) by decide)] at H; exact H
              clear H
              have H := H1
              clear H1
              have H' := Aside0.mk H
              clear H
              have p738 : 0 ≤ (x14_1 : Int) := of_decide_eq_true zq4
              have q738 : x14_1 < (l2.length : Int) := of_decide_eq_true zq4
              obtain ⟨ad738, e738, hx738_0, hx738_1, hx738_2, hx738_3⟩ := at_T31 HR2.out x14_1 p738 q738
              cases e738
              replace hx738_0 := (HB.out.cell (World.block_lt_of_cell? w _ hx738_0)).trans hx738_0
              replace hx738_1 := (HB.out.cell (World.block_lt_of_cell? w _ hx738_1)).trans hx738_1
              replace hx738_2 := (HB.out.cell (World.block_lt_of_cell? w _ hx738_2)).trans hx738_2
              replace hx738_3 := (HB.out.cell (World.block_lt_of_cell? w _ hx738_3)).trans hx738_3
              replace p738 := eq_true p738
              replace q738 := eq_true q738
              go_wp2_with (first | ((with_reducible refine gate_dst (N := 11) rfl ?_); refine box_event (by rfl) (N := 11) (by rfl) (cs := #[.int .i64 0, .int .i64 0, .int .i64 0, .int .i64 0]) (t := 31) zq5 ?_; intro gb739 hg w22 hbox hb; have BK739 := Aside0.mk (hbox); have GW739 := zgs HB hg; have GE739 := zgs HB hg; have NB736_739 := znp BK736 hg; have NB739_736 := znq BK736 hg; have NB737_739 := znp BK737 hg; have NB739_737 := znq BK737 hg; replace BK736 := zbb BK736 hb; replace BK737 := zbb BK737 hb; replace HB := zbs HB hb; clear hb hbox hg; have hnb23 := NB739_736.out; have hnc23 := NB736_739.out; have hnb24 := NB739_737.out; have hnc24 := NB737_739.out; obtain ⟨hcz25_0, hcz25_1, hcz25_2, hcz25_3, hfz25_0, hfz25_1, hfz25_2, hfz25_3⟩ := zce4 BK739.out; have hnb26 := NB736_737.out; have hnc26 := NB737_736.out; obtain ⟨hcz27_0, hcz27_1, hcz27_2, hcz27_3, hcz27_4, hcz27_5, hcz27_6, hfz27_0, hfz27_1, hfz27_2, hfz27_3, hfz27_4, hfz27_5, hfz27_6⟩ := zce7 BK736.out; obtain ⟨hcz28_0, hcz28_1, hcz28_2, hcz28_3, hcz28_4, hcz28_5, hfz28_0, hfz28_1, hfz28_2, hfz28_3, hfz28_4, hfz28_5⟩ := zce6 BK737.out) | ((with_reducible refine gate_callee (f := 74) rfl ?_); refine goesL_ (some 27) rfl rfl Try.func74 zq1 rfl #[.int .i64 (wrap64 (x1_1 + a0_1)), .int .i64 a3_4, .int .i64 a3_5] rfl zq8 ?_; (with_reducible refine (glider_between.calls (wrap64 (x1_1 + a0_1)) a3_4 a3_5 false _ A10.out).mono ?_); rintro e w' ⟨rfl, ⟨nd, rfl⟩⟩; refine ⟨_, rfl, ?_⟩))
              go_roundg k1
              case measure => have := HK1.out; omega
              case rel => exact ⟨(wrap64 (x1_1 + a0_1)), (x9_1), (wrap64 (x14_1 + 1)), zq2, zq2, zq2, H', ⟨zq7⟩, ⟨by (with_reducible repeat (first | refine blk_drewN ?_ _ | refine blk_drew ?_ | refine blk_alloc ?_ _)); refine blk_far ?_ NB736_739.out _; (with_reducible repeat (first | refine blk_drewN ?_ _ | refine blk_drew ?_ | refine blk_alloc ?_ _)); refine blk_far ?_ NB736_739.out _; (with_reducible repeat (first | refine blk_drewN ?_ _ | refine blk_drew ?_ | refine blk_alloc ?_ _)); refine blk_far ?_ NB736_739.out _; (with_reducible repeat (first | refine blk_drewN ?_ _ | refine blk_drew ?_ | refine blk_alloc ?_ _)); refine blk_far ?_ NB736_739.out _; (with_reducible repeat (first | refine blk_drewN ?_ _ | refine blk_drew ?_ | refine blk_alloc ?_ _)); exact BK736.out⟩, ⟨by (with_reducible repeat (first | refine blk_drewN ?_ _ | refine blk_drew ?_ | refine blk_alloc ?_ _)); refine blk_far ?_ NB737_739.out _; (with_reducible repeat (first | refine blk_drewN ?_ _ | refine blk_drew ?_ | refine blk_alloc ?_ _)); refine blk_far ?_ NB737_739.out _; (with_reducible repeat (first | refine blk_drewN ?_ _ | refine blk_drew ?_ | refine blk_alloc ?_ _)); refine blk_far ?_ NB737_739.out _; (with_reducible repeat (first | refine blk_drewN ?_ _ | refine blk_drew ?_ | refine blk_alloc ?_ _)); refine blk_far ?_ NB737_739.out _; (with_reducible repeat (first | refine blk_drewN ?_ _ | refine blk_drew ?_ | refine blk_alloc ?_ _)); exact BK737.out⟩, ⟨zbz⟩⟩
          · rw [if_neg c9] at H
            exact absurd H (by simp)
        · rw [if_neg c8] at H
          exact absurd H (by simp)
      · rw [if_neg c7] at H
        have c7b0 : decide (x14_1 < (l2.length : Int)) = false := decide_eq_false c7
        clear c7
        obtain rfl := Option.some.inj H
        go_wp2
        go_ret
        exact ⟨zq6, zbz⟩

end Go.Proofs.Ytmhaiihjfgfaoaa.Pr
end
section
/- The contracts of exported functions, as the printed texts ask for them. -/
namespace Go.Proofs.Ytmhaiihjfgfaoaa.Pr
open Go.RowKit Go.Proofs.YtmhaiihjfgfaoaaW.PrintWords Go.Proofs.YtmhaiihjfgfaoaaW.PrintLast Go.Proofs.YtmhaiihjfgfaoaaW.PrintMore Go.Proofs.Ytmhaiihjfgfaoaa.Gl
set_option linter.unusedVariables false
def glider_checkBoxes.f (l0 : List (S31)) : Option (Int) := some (boxesE l0)
theorem glider_checkBoxes.calls (A0 : Option Addr) (c0 : Nat) (l0 : List (S31)) (r : Int) (w : World) (hr0 : Kd.C k31 w A0 l0.length l0) (hc0 : l0.length ≤ c0) (h : glider_checkBoxes.f l0 = some r) :
    Calls Try.prog 88 #[.slice A0 l0.length c0] w fun e w' => e = .returned (.int .i64 r) ∧ Below w.heap.size w w' := by
  cases h
  exact boxes_any A0 c0 l0 w hr0 hc0
end Go.Proofs.Ytmhaiihjfgfaoaa.Pr
end
