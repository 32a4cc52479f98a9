/- Part 5 of the proof of GliderBest: what the functions compute. No condition. -/
import Derived.Test.YtmhaiihjfgfaoaaGbGliderBest3
section
namespace Go.Proofs.Ytmhaiihjfgfaoaa.Pr
open Go.RowKit Go.Proofs.YtmhaiihjfgfaoaaW.PrintWords Go.Proofs.YtmhaiihjfgfaoaaW.PrintLast Go.Proofs.YtmhaiihjfgfaoaaW.PrintMore
attribute [local go_sem] max2_int min2_int max_two min_two max_four
set_option linter.unusedVariables false
set_option linter.unusedSimpArgs false

/-! ### isobathref03_CheckVehicle: function 28 -/
def isobathref03_CheckVehicle.f (a0_0 : Int) (a0_1 : Int) (a0_2 : Int) (a0_3 : Int) (a0_4 : Int) (a0_5 : Int) (a0_6 : Int) : Option (Int) := if a0_0 < 0 then (some 2) else (if a0_0 > 5000 then (some 2) else (if a0_1 < 1 then (some 2) else (if a0_1 > 131072 then (some 2) else ((isobathref03_bounded.f a0_2 a0_3 0 1073741824).bind fun t113 => (if t113 = true then ((isobathref03_bounded.f a0_4 a0_5 0 1073741824).bind fun t114 => (if t114 = true then (if a0_6 < 0 then (some 2) else (if a0_6 > 1073741824 then (some 2) else (some 0))) else (some 2))) else (some 2))))))
set_option maxHeartbeats 8000000 in
set_option maxRecDepth 100000 in
theorem isobathref03_CheckVehicle.calls (a0_0 : Int) (a0_1 : Int) (a0_2 : Int) (a0_3 : Int) (a0_4 : Int) (a0_5 : Int) (a0_6 : Int) (r : Int) (w : World) (h : isobathref03_CheckVehicle.f a0_0 a0_1 a0_2 a0_3 a0_4 a0_5 a0_6 = some r) :
  Calls Try.prog 28 #[.agg #[.int .i64 a0_0, .int .i64 a0_1, .int .i64 a0_2, .int .i64 a0_3, .int .i64 a0_4, .int .i64 a0_5, .int .i64 a0_6]] w fun e w' => e = .returned (.int .i64 r) ∧ Below w.heap.size w w' := by
 have hu29 := Try.underlying29
 have hu27 := Try.underlying27
 have HB := Aside0.mk (Below.refl w.heap.size w)
 have H : (if a0_0 < 0 then (some 2) else (if a0_0 > 5000 then (some 2) else (if a0_1 < 1 then (some 2) else (if a0_1 > 131072 then (some 2) else ((isobathref03_bounded.f a0_2 a0_3 0 1073741824).bind fun t113 => (if t113 = true then ((isobathref03_bounded.f a0_4 a0_5 0 1073741824).bind fun t114 => (if t114 = true then (if a0_6 < 0 then (some 2) else (if a0_6 > 1073741824 then (some 2) else (some 0))) else (some 2))) else (some 2))))))) = some r := h
 clear h
 by_cases c2 : a0_0 < 0
 ·rw [if_pos c2] at H
  have c2b0 : decide (a0_0 < 0) = true := decide_eq_true c2
  clear c2
  obtain rfl := Option.some.inj H
  go_enter Try.func28, Try.ntmps28
  go_wp2_with (first | ((with_reducible refine gate_dst (N := 1) rfl ?_); refine box_event (by rfl) (N := 1) (by rfl) (cs := #[.int .i64 a0_0, .int .i64 a0_1, .int .i64 a0_2, .int .i64 a0_3, .int .i64 a0_4, .int .i64 a0_5, .int .i64 a0_6]) (t := 29) zq1 ?_; intro gb112 hg w3 hbox hb; have BK112 := Aside0.mk (hbox); have GW112 := zgs HB hg; have GE112 := zgs HB hg; replace HB := zbs HB hb; clear hb hbox hg; obtain ⟨hcz4_0, hcz4_1, hcz4_2, hcz4_3, hcz4_4, hcz4_5, hcz4_6, hfz4_0, hfz4_1, hfz4_2, hfz4_3, hfz4_4, hfz4_5, hfz4_6⟩ := zce7 BK112.out))
  go_ret
  exact ⟨zq2, zbz⟩
 ·rw [if_neg c2] at H
  have c2b0 : decide (a0_0 < 0) = false := decide_eq_false c2
  clear c2
  by_cases c5 : a0_0 > 5000
  ·rw [if_pos c5] at H
   have c5b0 : decide (5000 < a0_0) = true := decide_eq_true c5
   clear c5
   obtain rfl := Option.some.inj H
   go_enter Try.func28, Try.ntmps28
   go_wp2_with (first | ((with_reducible refine gate_dst (N := 1) rfl ?_); refine box_event (by rfl) (N := 1) (by rfl) (cs := #[.int .i64 a0_0, .int .i64 a0_1, .int .i64 a0_2, .int .i64 a0_3, .int .i64 a0_4, .int .i64 a0_5, .int .i64 a0_6]) (t := 29) zq1 ?_; intro gb112 hg w6 hbox hb; have BK112 := Aside0.mk (hbox); have GW112 := zgs HB hg; have GE112 := zgs HB hg; replace HB := zbs HB hb; clear hb hbox hg; obtain ⟨hcz7_0, hcz7_1, hcz7_2, hcz7_3, hcz7_4, hcz7_5, hcz7_6, hfz7_0, hfz7_1, hfz7_2, hfz7_3, hfz7_4, hfz7_5, hfz7_6⟩ := zce7 BK112.out))
   go_ret
   exact ⟨zq2, zbz⟩
  ·rw [if_neg c5] at H
   have c5b0 : decide (5000 < a0_0) = false := decide_eq_false c5
   clear c5
   by_cases c8 : a0_1 < 1
   ·rw [if_pos c8] at H
    have c8b0 : decide (a0_1 < 1) = true := decide_eq_true c8
    clear c8
    obtain rfl := Option.some.inj H
    go_enter Try.func28, Try.ntmps28
    go_wp2_with (first | ((with_reducible refine gate_dst (N := 1) rfl ?_); refine box_event (by rfl) (N := 1) (by rfl) (cs := #[.int .i64 a0_0, .int .i64 a0_1, .int .i64 a0_2, .int .i64 a0_3, .int .i64 a0_4, .int .i64 a0_5, .int .i64 a0_6]) (t := 29) zq1 ?_; intro gb112 hg w9 hbox hb; have BK112 := Aside0.mk (hbox); have GW112 := zgs HB hg; have GE112 := zgs HB hg; replace HB := zbs HB hb; clear hb hbox hg; obtain ⟨hcz10_0, hcz10_1, hcz10_2, hcz10_3, hcz10_4, hcz10_5, hcz10_6, hfz10_0, hfz10_1, hfz10_2, hfz10_3, hfz10_4, hfz10_5, hfz10_6⟩ := zce7 BK112.out))
    go_ret
    exact ⟨zq2, zbz⟩
   ·rw [if_neg c8] at H
    have c8b0 : decide (a0_1 < 1) = false := decide_eq_false c8
    clear c8
    by_cases c11 : a0_1 > 131072
    ·rw [if_pos c11] at H
     have c11b0 : decide (131072 < a0_1) = true := decide_eq_true c11
     clear c11
     obtain rfl := Option.some.inj H
     go_enter Try.func28, Try.ntmps28
     go_wp2_with (first | ((with_reducible refine gate_dst (N := 1) rfl ?_); refine box_event (by rfl) (N := 1) (by rfl) (cs := #[.int .i64 a0_0, .int .i64 a0_1, .int .i64 a0_2, .int .i64 a0_3, .int .i64 a0_4, .int .i64 a0_5, .int .i64 a0_6]) (t := 29) zq1 ?_; intro gb112 hg w12 hbox hb; have BK112 := Aside0.mk (hbox); have GW112 := zgs HB hg; have GE112 := zgs HB hg; replace HB := zbs HB hb; clear hb hbox hg; obtain ⟨hcz13_0, hcz13_1, hcz13_2, hcz13_3, hcz13_4, hcz13_5, hcz13_6, hfz13_0, hfz13_1, hfz13_2, hfz13_3, hfz13_4, hfz13_5, hfz13_6⟩ := zce7 BK112.out))
     go_ret
     exact ⟨zq2, zbz⟩
    ·rw [if_neg c11] at H
     have c11b0 : decide (131072 < a0_1) = false := decide_eq_false c11
     clear c11
     replace H := Option.bind_eq_some_iff.mp H
     obtain ⟨t113, A140, H⟩ := H
     replace H : (if t113 = true then ((isobathref03_bounded.f a0_4 a0_5 0 1073741824).bind fun t114 => (if t114 = true then (if a0_6 < 0 then (some 2) else (if a0_6 > 1073741824 then (some 2) else (some 0))) else (some 2))) else (some 2)) = some r := H
     have A14 := Aside0.mk A140
     clear A140
     by_cases c15 : t113 = true
     ·subst c15
      have H1 : ((isobathref03_bounded.f a0_4 a0_5 0 1073741824).bind fun t114 => (if t114 = true then (if a0_6 < 0 then (some 2) else (if a0_6 > 1073741824 then (some 2) else (some 0))) else (some 2))) = some r := by rw [if_pos rfl] at H; exact H
      clear H
      have H := H1
      clear H1
      replace H := Option.bind_eq_some_iff.mp H
      obtain ⟨t114, A160, H⟩ := H
      replace H : (if t114 = true then (if a0_6 < 0 then (some 2) else (if a0_6 > 1073741824 then (some 2) else (some 0))) else (some 2)) = some r := H
      have A16 := Aside0.mk A160
      clear A160
      by_cases c17 : t114 = true
      ·subst c17
       have H1 : (if a0_6 < 0 then (some 2) else (if a0_6 > 1073741824 then (some 2) else (some 0))) = some r := by rw [if_pos rfl] at H; exact H
       clear H
       have H := H1
       clear H1
       by_cases c18 : a0_6 < 0
       ·rw [if_pos c18] at H
        have c18b0 : decide (a0_6 < 0) = true := decide_eq_true c18
        clear c18
        obtain rfl := Option.some.inj H
        go_enter Try.func28, Try.ntmps28
        go_wp2_with (first | ((with_reducible refine gate_dst (N := 1) rfl ?_); refine box_event (by rfl) (N := 1) (by rfl) (cs := #[.int .i64 a0_0, .int .i64 a0_1, .int .i64 a0_2, .int .i64 a0_3, .int .i64 a0_4, .int .i64 a0_5, .int .i64 a0_6]) (t := 29) zq1 ?_; intro gb112 hg w19 hbox hb; have BK112 := Aside0.mk (hbox); have GW112 := zgs HB hg; have GE112 := zgs HB hg; replace HB := zbs HB hb; clear hb hbox hg; obtain ⟨hcz20_0, hcz20_1, hcz20_2, hcz20_3, hcz20_4, hcz20_5, hcz20_6, hfz20_0, hfz20_1, hfz20_2, hfz20_3, hfz20_4, hfz20_5, hfz20_6⟩ := zce7 BK112.out) | (go_at_call 78; (with_reducible refine (isobathref03_bounded.calls a0_2 a0_3 0 1073741824 true _ A14.out).mono ?_); rintro e w21 ⟨rfl, hb⟩; replace BK112 := zbb BK112 hb; replace HB := zbs HB hb; (try clear hb); (try clear hb2); (try clear hk); (try clear hi); obtain ⟨hcz22_0, hcz22_1, hcz22_2, hcz22_3, hcz22_4, hcz22_5, hcz22_6, hfz22_0, hfz22_1, hfz22_2, hfz22_3, hfz22_4, hfz22_5, hfz22_6⟩ := zce7 BK112.out) | (go_at_call 78; (with_reducible refine (isobathref03_bounded.calls a0_4 a0_5 0 1073741824 true _ A16.out).mono ?_); rintro e w23 ⟨rfl, hb⟩; replace BK112 := zbb BK112 hb; replace HB := zbs HB hb; (try clear hb); (try clear hb2); (try clear hk); (try clear hi); obtain ⟨hcz24_0, hcz24_1, hcz24_2, hcz24_3, hcz24_4, hcz24_5, hcz24_6, hfz24_0, hfz24_1, hfz24_2, hfz24_3, hfz24_4, hfz24_5, hfz24_6⟩ := zce7 BK112.out))
        go_ret
        exact ⟨zq2, zbz⟩
       ·rw [if_neg c18] at H
        have c18b0 : decide (a0_6 < 0) = false := decide_eq_false c18
        clear c18
        by_cases c25 : a0_6 > 1073741824
        ·rw [if_pos c25] at H
         have c25b0 : decide (1073741824 < a0_6) = true := decide_eq_true c25
         clear c25
         obtain rfl := Option.some.inj H
         go_enter Try.func28, Try.ntmps28
         go_wp2_with (first | ((with_reducible refine gate_dst (N := 1) rfl ?_); refine box_event (by rfl) (N := 1) (by rfl) (cs := #[.int .i64 a0_0, .int .i64 a0_1, .int .i64 a0_2, .int .i64 a0_3, .int .i64 a0_4, .int .i64 a0_5, .int .i64 a0_6]) (t := 29) zq1 ?_; intro gb112 hg w26 hbox hb; have BK112 := Aside0.mk (hbox); have GW112 := zgs HB hg; have GE112 := zgs HB hg; replace HB := zbs HB hb; clear hb hbox hg; obtain ⟨hcz27_0, hcz27_1, hcz27_2, hcz27_3, hcz27_4, hcz27_5, hcz27_6, hfz27_0, hfz27_1, hfz27_2, hfz27_3, hfz27_4, hfz27_5, hfz27_6⟩ := zce7 BK112.out) | (go_at_call 78; (with_reducible refine (isobathref03_bounded.calls a0_2 a0_3 0 1073741824 true _ A14.out).mono ?_); rintro e w28 ⟨rfl, hb⟩; replace BK112 := zbb BK112 hb; replace HB := zbs HB hb; (try clear hb); (try clear hb2); (try clear hk); (try clear hi); obtain ⟨hcz29_0, hcz29_1, hcz29_2, hcz29_3, hcz29_4, hcz29_5, hcz29_6, hfz29_0, hfz29_1, hfz29_2, hfz29_3, hfz29_4, hfz29_5, hfz29_6⟩ := zce7 BK112.out) | (go_at_call 78; (with_reducible refine (isobathref03_bounded.calls a0_4 a0_5 0 1073741824 true _ A16.out).mono ?_); rintro e w30 ⟨rfl, hb⟩; replace BK112 := zbb BK112 hb; replace HB := zbs HB hb; (try clear hb); (try clear hb2); (try clear hk); (try clear hi); obtain ⟨hcz31_0, hcz31_1, hcz31_2, hcz31_3, hcz31_4, hcz31_5, hcz31_6, hfz31_0, hfz31_1, hfz31_2, hfz31_3, hfz31_4, hfz31_5, hfz31_6⟩ := zce7 BK112.out))
         go_ret
         exact ⟨zq2, zbz⟩
        ·rw [if_neg c25] at H
         have c25b0 : decide (1073741824 < a0_6) = false := decide_eq_false c25
         clear c25
         obtain rfl := Option.some.inj H
         go_enter Try.func28, Try.ntmps28
         go_wp2_with (first | ((with_reducible refine gate_dst (N := 1) rfl ?_); refine box_event (by rfl) (N := 1) (by rfl) (cs := #[.int .i64 a0_0, .int .i64 a0_1, .int .i64 a0_2, .int .i64 a0_3, .int .i64 a0_4, .int .i64 a0_5, .int .i64 a0_6]) (t := 29) zq1 ?_; intro gb112 hg w32 hbox hb; have BK112 := Aside0.mk (hbox); have GW112 := zgs HB hg; have GE112 := zgs HB hg; replace HB := zbs HB hb; clear hb hbox hg; obtain ⟨hcz33_0, hcz33_1, hcz33_2, hcz33_3, hcz33_4, hcz33_5, hcz33_6, hfz33_0, hfz33_1, hfz33_2, hfz33_3, hfz33_4, hfz33_5, hfz33_6⟩ := zce7 BK112.out) | (go_at_call 78; (with_reducible refine (isobathref03_bounded.calls a0_2 a0_3 0 1073741824 true _ A14.out).mono ?_); rintro e w34 ⟨rfl, hb⟩; replace BK112 := zbb BK112 hb; replace HB := zbs HB hb; (try clear hb); (try clear hb2); (try clear hk); (try clear hi); obtain ⟨hcz35_0, hcz35_1, hcz35_2, hcz35_3, hcz35_4, hcz35_5, hcz35_6, hfz35_0, hfz35_1, hfz35_2, hfz35_3, hfz35_4, hfz35_5, hfz35_6⟩ := zce7 BK112.out) | (go_at_call 78; (with_reducible refine (isobathref03_bounded.calls a0_4 a0_5 0 1073741824 true _ A16.out).mono ?_); rintro e w36 ⟨rfl, hb⟩; replace BK112 := zbb BK112 hb; replace HB := zbs HB hb; (try clear hb); (try clear hb2); (try clear hk); (try clear hi); obtain ⟨hcz37_0, hcz37_1, hcz37_2, hcz37_3, hcz37_4, hcz37_5, hcz37_6, hfz37_0, hfz37_1, hfz37_2, hfz37_3, hfz37_4, hfz37_5, hfz37_6⟩ := zce7 BK112.out))
         go_ret
         exact ⟨zq2, zbz⟩
      ·replace c17 := Bool.eq_false_iff.mpr c17
       subst c17
       have H1 : (some 2) = some r := by rw [if_neg (show ¬ (false = true) by decide)] at H; exact H
       clear H
       have H := H1
       clear H1
       obtain rfl := Option.some.inj H
       go_enter Try.func28, Try.ntmps28
       go_wp2_with (first | ((with_reducible refine gate_dst (N := 1) rfl ?_); refine box_event (by rfl) (N := 1) (by rfl) (cs := #[.int .i64 a0_0, .int .i64 a0_1, .int .i64 a0_2, .int .i64 a0_3, .int .i64 a0_4, .int .i64 a0_5, .int .i64 a0_6]) (t := 29) zq1 ?_; intro gb112 hg w38 hbox hb; have BK112 := Aside0.mk (hbox); have GW112 := zgs HB hg; have GE112 := zgs HB hg; replace HB := zbs HB hb; clear hb hbox hg; obtain ⟨hcz39_0, hcz39_1, hcz39_2, hcz39_3, hcz39_4, hcz39_5, hcz39_6, hfz39_0, hfz39_1, hfz39_2, hfz39_3, hfz39_4, hfz39_5, hfz39_6⟩ := zce7 BK112.out) | (go_at_call 78; (with_reducible refine (isobathref03_bounded.calls a0_2 a0_3 0 1073741824 true _ A14.out).mono ?_); rintro e w40 ⟨rfl, hb⟩; replace BK112 := zbb BK112 hb; replace HB := zbs HB hb; (try clear hb); (try clear hb2); (try clear hk); (try clear hi); obtain ⟨hcz41_0, hcz41_1, hcz41_2, hcz41_3, hcz41_4, hcz41_5, hcz41_6, hfz41_0, hfz41_1, hfz41_2, hfz41_3, hfz41_4, hfz41_5, hfz41_6⟩ := zce7 BK112.out) | (go_at_call 78; (with_reducible refine (isobathref03_bounded.calls a0_4 a0_5 0 1073741824 false _ A16.out).mono ?_); rintro e w42 ⟨rfl, hb⟩; replace BK112 := zbb BK112 hb; replace HB := zbs HB hb; (try clear hb); (try clear hb2); (try clear hk); (try clear hi)))
       go_ret
       exact ⟨zq2, zbz⟩
     ·replace c15 := Bool.eq_false_iff.mpr c15
      subst c15
      have H1 : (some 2) = some r := by rw [if_neg (show ¬ (false = true) by decide)] at H; exact H
      clear H
      have H := H1
      clear H1
      obtain rfl := Option.some.inj H
      go_enter Try.func28, Try.ntmps28
      go_wp2_with (first | ((with_reducible refine gate_dst (N := 1) rfl ?_); refine box_event (by rfl) (N := 1) (by rfl) (cs := #[.int .i64 a0_0, .int .i64 a0_1, .int .i64 a0_2, .int .i64 a0_3, .int .i64 a0_4, .int .i64 a0_5, .int .i64 a0_6]) (t := 29) zq1 ?_; intro gb112 hg w43 hbox hb; have BK112 := Aside0.mk (hbox); have GW112 := zgs HB hg; have GE112 := zgs HB hg; replace HB := zbs HB hb; clear hb hbox hg; obtain ⟨hcz44_0, hcz44_1, hcz44_2, hcz44_3, hcz44_4, hcz44_5, hcz44_6, hfz44_0, hfz44_1, hfz44_2, hfz44_3, hfz44_4, hfz44_5, hfz44_6⟩ := zce7 BK112.out) | (go_at_call 78; (with_reducible refine (isobathref03_bounded.calls a0_2 a0_3 0 1073741824 false _ A14.out).mono ?_); rintro e w45 ⟨rfl, hb⟩; replace BK112 := zbb BK112 hb; replace HB := zbs HB hb; (try clear hb); (try clear hb2); (try clear hk); (try clear hi)))
      go_ret
      exact ⟨zq2, zbz⟩

end Go.Proofs.Ytmhaiihjfgfaoaa.Pr
end
section
namespace Go.Proofs.Ytmhaiihjfgfaoaa.Pr
open Go.RowKit Go.Proofs.YtmhaiihjfgfaoaaW.PrintWords Go.Proofs.YtmhaiihjfgfaoaaW.PrintLast Go.Proofs.YtmhaiihjfgfaoaaW.PrintMore
attribute [local go_sem] max2_int min2_int max_two min_two max_four
set_option linter.unusedVariables false
set_option linter.unusedSimpArgs false

/-! ### isobathref01_ValidBox: function 63 -/
def isobathref01_ValidBox.f (a0_0 : Int) (a0_1 : Int) (a0_2 : Int) (a0_3 : Int) : Option (Bool) := (isobathref01_Valid.f a0_0 a0_1).bind fun t116 => (if t116 = true then ((isobathref01_Valid.f a0_2 a0_3).bind fun t117 => (if t117 = true then ((isobathref01_Within.f a0_0 (-268435456) 268435456).bind fun t118 => (if t118 = true then ((isobathref01_Within.f a0_1 (-268435456) 268435456).bind fun t119 => (if t119 = true then ((isobathref01_Within.f a0_2 (-268435456) 268435456).bind fun t120 => (if t120 = true then ((isobathref01_Within.f a0_3 (-268435456) 268435456).bind fun t121 => (some t121)) else (some false))) else (some false))) else (some false))) else (some false))) else (some false))
set_option maxHeartbeats 8000000 in
set_option maxRecDepth 100000 in
theorem isobathref01_ValidBox.calls (a0_0 : Int) (a0_1 : Int) (a0_2 : Int) (a0_3 : Int) (r : Bool) (w : World) (h : isobathref01_ValidBox.f a0_0 a0_1 a0_2 a0_3 = some r) :
  Calls Try.prog 63 #[.agg #[.int .i64 a0_0, .int .i64 a0_1, .int .i64 a0_2, .int .i64 a0_3]] w fun e w' => e = .returned (.bool r) ∧ Below w.heap.size w w' := by
 have hu31 := Try.underlying31
 have hu27 := Try.underlying27
 have HB := Aside0.mk (Below.refl w.heap.size w)
 have H : ((isobathref01_Valid.f a0_0 a0_1).bind fun t116 => (if t116 = true then ((isobathref01_Valid.f a0_2 a0_3).bind fun t117 => (if t117 = true then ((isobathref01_Within.f a0_0 (-268435456) 268435456).bind fun t118 => (if t118 = true then ((isobathref01_Within.f a0_1 (-268435456) 268435456).bind fun t119 => (if t119 = true then ((isobathref01_Within.f a0_2 (-268435456) 268435456).bind fun t120 => (if t120 = true then ((isobathref01_Within.f a0_3 (-268435456) 268435456).bind fun t121 => (some t121)) else (some false))) else (some false))) else (some false))) else (some false))) else (some false))) = some r := h
 clear h
 replace H := Option.bind_eq_some_iff.mp H
 obtain ⟨t116, A20, H⟩ := H
 replace H : (if t116 = true then ((isobathref01_Valid.f a0_2 a0_3).bind fun t117 => (if t117 = true then ((isobathref01_Within.f a0_0 (-268435456) 268435456).bind fun t118 => (if t118 = true then ((isobathref01_Within.f a0_1 (-268435456) 268435456).bind fun t119 => (if t119 = true then ((isobathref01_Within.f a0_2 (-268435456) 268435456).bind fun t120 => (if t120 = true then ((isobathref01_Within.f a0_3 (-268435456) 268435456).bind fun t121 => (some t121)) else (some false))) else (some false))) else (some false))) else (some false))) else (some false)) = some r := H
 have A2 := Aside0.mk A20
 clear A20
 by_cases c3 : t116 = true
 ·subst c3
  have H1 : ((isobathref01_Valid.f a0_2 a0_3).bind fun t117 => (if t117 = true then ((isobathref01_Within.f a0_0 (-268435456) 268435456).bind fun t118 => (if t118 = true then ((isobathref01_Within.f a0_1 (-268435456) 268435456).bind fun t119 => (if t119 = true then ((isobathref01_Within.f a0_2 (-268435456) 268435456).bind fun t120 => (if t120 = true then ((isobathref01_Within.f a0_3 (-268435456) 268435456).bind fun t121 => (some t121)) else (some false))) else (some false))) else (some false))) else (some false))) = some r := by rw [if_pos rfl] at H; exact H
  clear H
  have H := H1
  clear H1
  replace H := Option.bind_eq_some_iff.mp H
  obtain ⟨t117, A40, H⟩ := H
  replace H : (if t117 = true then ((isobathref01_Within.f a0_0 (-268435456) 268435456).bind fun t118 => (if t118 = true then ((isobathref01_Within.f a0_1 (-268435456) 268435456).bind fun t119 => (if t119 = true then ((isobathref01_Within.f a0_2 (-268435456) 268435456).bind fun t120 => (if t120 = true then ((isobathref01_Within.f a0_3 (-268435456) 268435456).bind fun t121 => (some t121)) else (some false))) else (some false))) else (some false))) else (some false)) = some r := H
  have A4 := Aside0.mk A40
  clear A40
  by_cases c5 : t117 = true
  ·subst c5
   have H1 : ((isobathref01_Within.f a0_0 (-268435456) 268435456).bind fun t118 => (if t118 = true then ((isobathref01_Within.f a0_1 (-268435456) 268435456).bind fun t119 => (if t119 = true then ((isobathref01_Within.f a0_2 (-268435456) 268435456).bind fun t120 => (if t120 = true then ((isobathref01_Within.f a0_3 (-268435456) 268435456).bind fun t121 => (some t121)) else (some false))) else (some false))) else (some false))) = some r := by rw [if_pos rfl] at H; exact H
   clear H
   have H := H1
   clear H1
   replace H := Option.bind_eq_some_iff.mp H
   obtain ⟨t118, A60, H⟩ := H
   replace H : (if t118 = true then ((isobathref01_Within.f a0_1 (-268435456) 268435456).bind fun t119 => (if t119 = true then ((isobathref01_Within.f a0_2 (-268435456) 268435456).bind fun t120 => (if t120 = true then ((isobathref01_Within.f a0_3 (-268435456) 268435456).bind fun t121 => (some t121)) else (some false))) else (some false))) else (some false)) = some r := H
   have A6 := Aside0.mk A60
   clear A60
   by_cases c7 : t118 = true
   ·subst c7
    have H1 : ((isobathref01_Within.f a0_1 (-268435456) 268435456).bind fun t119 => (if t119 = true then ((isobathref01_Within.f a0_2 (-268435456) 268435456).bind fun t120 => (if t120 = true then ((isobathref01_Within.f a0_3 (-268435456) 268435456).bind fun t121 => (some t121)) else (some false))) else (some false))) = some r := by rw [if_pos rfl] at H; exact H
    clear H
    have H := H1
    clear H1
    replace H := Option.bind_eq_some_iff.mp H
    obtain ⟨t119, A80, H⟩ := H
    replace H : (if t119 = true then ((isobathref01_Within.f a0_2 (-268435456) 268435456).bind fun t120 => (if t120 = true then ((isobathref01_Within.f a0_3 (-268435456) 268435456).bind fun t121 => (some t121)) else (some false))) else (some false)) = some r := H
    have A8 := Aside0.mk A80
    clear A80
    by_cases c9 : t119 = true
    ·subst c9
     have H1 : ((isobathref01_Within.f a0_2 (-268435456) 268435456).bind fun t120 => (if t120 = true then ((isobathref01_Within.f a0_3 (-268435456) 268435456).bind fun t121 => (some t121)) else (some false))) = some r := by rw [if_pos rfl] at H; exact H
     clear H
     have H := H1
     clear H1
     replace H := Option.bind_eq_some_iff.mp H
     obtain ⟨t120, A100, H⟩ := H
     replace H : (if t120 = true then ((isobathref01_Within.f a0_3 (-268435456) 268435456).bind fun t121 => (some t121)) else (some false)) = some r := H
     have A10 := Aside0.mk A100
     clear A100
     by_cases c11 : t120 = true
     ·subst c11
      have H1 : ((isobathref01_Within.f a0_3 (-268435456) 268435456).bind fun t121 => (some t121)) = some r := by rw [if_pos rfl] at H; exact H
      clear H
      have H := H1
      clear H1
      replace H := Option.bind_eq_some_iff.mp H
      obtain ⟨t121, A120, H⟩ := H
      replace H : (some t121) = some r := H
      have A12 := Aside0.mk A120
      clear A120
      obtain rfl := Option.some.inj H
      go_enter Try.func63, Try.ntmps63
      go_wp2_with (first | ((with_reducible refine gate_dst (N := 1) rfl ?_); refine box_event (by rfl) (N := 1) (by rfl) (cs := #[.int .i64 a0_0, .int .i64 a0_1, .int .i64 a0_2, .int .i64 a0_3]) (t := 31) zq1 ?_; intro gb115 hg w13 hbox hb; have BK115 := Aside0.mk (hbox); have GW115 := zgs HB hg; have GE115 := zgs HB hg; replace HB := zbs HB hb; clear hb hbox hg; obtain ⟨hcz14_0, hcz14_1, hcz14_2, hcz14_3, hfz14_0, hfz14_1, hfz14_2, hfz14_3⟩ := zce4 BK115.out) | ((with_reducible refine gate_callee (f := 111) rfl ?_); refine goesL_ (some 5) rfl rfl Try.func111 zq5 rfl #[.agg #[.int .i64 a0_0, .int .i64 a0_1]] rfl zq6 ?_; (with_reducible refine (isobathref01_Valid.calls a0_0 a0_1 true _ A2.out).mono ?_); rintro e w15 ⟨rfl, hb⟩; refine ⟨_, rfl, ?_⟩; replace BK115 := zbb BK115 hb; replace HB := zbs HB hb; (try clear hb); (try clear hb2); (try clear hk); (try clear hi); obtain ⟨hcz16_0, hcz16_1, hcz16_2, hcz16_3, hfz16_0, hfz16_1, hfz16_2, hfz16_3⟩ := zce4 BK115.out) | (go_at_call 111; (with_reducible refine (isobathref01_Valid.calls a0_2 a0_3 true _ A4.out).mono ?_); rintro e w17 ⟨rfl, hb⟩; replace BK115 := zbb BK115 hb; replace HB := zbs HB hb; (try clear hb); (try clear hb2); (try clear hk); (try clear hi); obtain ⟨hcz18_0, hcz18_1, hcz18_2, hcz18_3, hfz18_0, hfz18_1, hfz18_2, hfz18_3⟩ := zce4 BK115.out) | (go_at_call 112; (with_reducible refine (isobathref01_Within.calls a0_0 (-268435456) 268435456 true _ A6.out).mono ?_); rintro e w' ⟨rfl, ⟨nd, rfl⟩⟩) | (go_at_call 112; (with_reducible refine (isobathref01_Within.calls a0_1 (-268435456) 268435456 true _ A8.out).mono ?_); rintro e w' ⟨rfl, ⟨nd, rfl⟩⟩) | (go_at_call 112; (with_reducible refine (isobathref01_Within.calls a0_2 (-268435456) 268435456 true _ A10.out).mono ?_); rintro e w' ⟨rfl, ⟨nd, rfl⟩⟩) | (go_at_call 112; (with_reducible refine (isobathref01_Within.calls a0_3 (-268435456) 268435456 t121 _ A12.out).mono ?_); rintro e w' ⟨rfl, ⟨nd, rfl⟩⟩))
      go_ret
      exact ⟨zq2, zbz⟩
     ·replace c11 := Bool.eq_false_iff.mpr c11
      subst c11
      have H1 : (some false) = some r := by rw [if_neg (show ¬ (false = true) by decide)] at H; exact H
      clear H
      have H := H1
      clear H1
      obtain rfl := Option.some.inj H
      go_enter Try.func63, Try.ntmps63
      go_wp2_with (first | ((with_reducible refine gate_dst (N := 1) rfl ?_); refine box_event (by rfl) (N := 1) (by rfl) (cs := #[.int .i64 a0_0, .int .i64 a0_1, .int .i64 a0_2, .int .i64 a0_3]) (t := 31) zq1 ?_; intro gb115 hg w19 hbox hb; have BK115 := Aside0.mk (hbox); have GW115 := zgs HB hg; have GE115 := zgs HB hg; replace HB := zbs HB hb; clear hb hbox hg; obtain ⟨hcz20_0, hcz20_1, hcz20_2, hcz20_3, hfz20_0, hfz20_1, hfz20_2, hfz20_3⟩ := zce4 BK115.out) | ((with_reducible refine gate_callee (f := 111) rfl ?_); refine goesL_ (some 5) rfl rfl Try.func111 zq5 rfl #[.agg #[.int .i64 a0_0, .int .i64 a0_1]] rfl zq6 ?_; (with_reducible refine (isobathref01_Valid.calls a0_0 a0_1 true _ A2.out).mono ?_); rintro e w21 ⟨rfl, hb⟩; refine ⟨_, rfl, ?_⟩; replace BK115 := zbb BK115 hb; replace HB := zbs HB hb; (try clear hb); (try clear hb2); (try clear hk); (try clear hi); obtain ⟨hcz22_0, hcz22_1, hcz22_2, hcz22_3, hfz22_0, hfz22_1, hfz22_2, hfz22_3⟩ := zce4 BK115.out) | (go_at_call 111; (with_reducible refine (isobathref01_Valid.calls a0_2 a0_3 true _ A4.out).mono ?_); rintro e w23 ⟨rfl, hb⟩; replace BK115 := zbb BK115 hb; replace HB := zbs HB hb; (try clear hb); (try clear hb2); (try clear hk); (try clear hi); obtain ⟨hcz24_0, hcz24_1, hcz24_2, hcz24_3, hfz24_0, hfz24_1, hfz24_2, hfz24_3⟩ := zce4 BK115.out) | (go_at_call 112; (with_reducible refine (isobathref01_Within.calls a0_0 (-268435456) 268435456 true _ A6.out).mono ?_); rintro e w' ⟨rfl, ⟨nd, rfl⟩⟩) | (go_at_call 112; (with_reducible refine (isobathref01_Within.calls a0_1 (-268435456) 268435456 true _ A8.out).mono ?_); rintro e w' ⟨rfl, ⟨nd, rfl⟩⟩) | (go_at_call 112; (with_reducible refine (isobathref01_Within.calls a0_2 (-268435456) 268435456 false _ A10.out).mono ?_); rintro e w' ⟨rfl, ⟨nd, rfl⟩⟩))
      go_ret
      exact ⟨zq2, zbz⟩
    ·replace c9 := Bool.eq_false_iff.mpr c9
     subst c9
     have H1 : (some false) = some r := by rw [if_neg (show ¬ (false = true) by decide)] at H; exact H
     clear H
     have H := H1
     clear H1
     obtain rfl := Option.some.inj H
     go_enter Try.func63, Try.ntmps63
     go_wp2_with (first | ((with_reducible refine gate_dst (N := 1) rfl ?_); refine box_event (by rfl) (N := 1) (by rfl) (cs := #[.int .i64 a0_0, .int .i64 a0_1, .int .i64 a0_2, .int .i64 a0_3]) (t := 31) zq1 ?_; intro gb115 hg w25 hbox hb; have BK115 := Aside0.mk (hbox); have GW115 := zgs HB hg; have GE115 := zgs HB hg; replace HB := zbs HB hb; clear hb hbox hg; obtain ⟨hcz26_0, hcz26_1, hcz26_2, hcz26_3, hfz26_0, hfz26_1, hfz26_2, hfz26_3⟩ := zce4 BK115.out) | ((with_reducible refine gate_callee (f := 111) rfl ?_); refine goesL_ (some 5) rfl rfl Try.func111 zq5 rfl #[.agg #[.int .i64 a0_0, .int .i64 a0_1]] rfl zq6 ?_; (with_reducible refine (isobathref01_Valid.calls a0_0 a0_1 true _ A2.out).mono ?_); rintro e w27 ⟨rfl, hb⟩; refine ⟨_, rfl, ?_⟩; replace BK115 := zbb BK115 hb; replace HB := zbs HB hb; (try clear hb); (try clear hb2); (try clear hk); (try clear hi); obtain ⟨hcz28_0, hcz28_1, hcz28_2, hcz28_3, hfz28_0, hfz28_1, hfz28_2, hfz28_3⟩ := zce4 BK115.out) | (go_at_call 111; (with_reducible refine (isobathref01_Valid.calls a0_2 a0_3 true _ A4.out).mono ?_); rintro e w29 ⟨rfl, hb⟩; replace BK115 := zbb BK115 hb; replace HB := zbs HB hb; (try clear hb); (try clear hb2); (try clear hk); (try clear hi); obtain ⟨hcz30_0, hcz30_1, hcz30_2, hcz30_3, hfz30_0, hfz30_1, hfz30_2, hfz30_3⟩ := zce4 BK115.out) | (go_at_call 112; (with_reducible refine (isobathref01_Within.calls a0_0 (-268435456) 268435456 true _ A6.out).mono ?_); rintro e w' ⟨rfl, ⟨nd, rfl⟩⟩) | (go_at_call 112; (with_reducible refine (isobathref01_Within.calls a0_1 (-268435456) 268435456 false _ A8.out).mono ?_); rintro e w' ⟨rfl, ⟨nd, rfl⟩⟩))
     go_ret
     exact ⟨zq2, zbz⟩
   ·replace c7 := Bool.eq_false_iff.mpr c7
    subst c7
    have H1 : (some false) = some r := by rw [if_neg (show ¬ (false = true) by decide)] at H; exact H
    clear H
    have H := H1
    clear H1
    obtain rfl := Option.some.inj H
    go_enter Try.func63, Try.ntmps63
    go_wp2_with (first | ((with_reducible refine gate_dst (N := 1) rfl ?_); refine box_event (by rfl) (N := 1) (by rfl) (cs := #[.int .i64 a0_0, .int .i64 a0_1, .int .i64 a0_2, .int .i64 a0_3]) (t := 31) zq1 ?_; intro gb115 hg w31 hbox hb; have BK115 := Aside0.mk (hbox); have GW115 := zgs HB hg; have GE115 := zgs HB hg; replace HB := zbs HB hb; clear hb hbox hg; obtain ⟨hcz32_0, hcz32_1, hcz32_2, hcz32_3, hfz32_0, hfz32_1, hfz32_2, hfz32_3⟩ := zce4 BK115.out) | ((with_reducible refine gate_callee (f := 111) rfl ?_); refine goesL_ (some 5) rfl rfl Try.func111 zq5 rfl #[.agg #[.int .i64 a0_0, .int .i64 a0_1]] rfl zq6 ?_; (with_reducible refine (isobathref01_Valid.calls a0_0 a0_1 true _ A2.out).mono ?_); rintro e w33 ⟨rfl, hb⟩; refine ⟨_, rfl, ?_⟩; replace BK115 := zbb BK115 hb; replace HB := zbs HB hb; (try clear hb); (try clear hb2); (try clear hk); (try clear hi); obtain ⟨hcz34_0, hcz34_1, hcz34_2, hcz34_3, hfz34_0, hfz34_1, hfz34_2, hfz34_3⟩ := zce4 BK115.out) | (go_at_call 111; (with_reducible refine (isobathref01_Valid.calls a0_2 a0_3 true _ A4.out).mono ?_); rintro e w35 ⟨rfl, hb⟩; replace BK115 := zbb BK115 hb; replace HB := zbs HB hb; (try clear hb); (try clear hb2); (try clear hk); (try clear hi); obtain ⟨hcz36_0, hcz36_1, hcz36_2, hcz36_3, hfz36_0, hfz36_1, hfz36_2, hfz36_3⟩ := zce4 BK115.out) | (go_at_call 112; (with_reducible refine (isobathref01_Within.calls a0_0 (-268435456) 268435456 false _ A6.out).mono ?_); rintro e w' ⟨rfl, ⟨nd, rfl⟩⟩))
    go_ret
    exact ⟨zq2, zbz⟩
  ·replace c5 := Bool.eq_false_iff.mpr c5
   subst c5
   have H1 : (some false) = some r := by rw [if_neg (show ¬ (false = true) by decide)] at H; exact H
   clear H
   have H := H1
   clear H1
   obtain rfl := Option.some.inj H
   go_enter Try.func63, Try.ntmps63
   go_wp2_with (first | ((with_reducible refine gate_dst (N := 1) rfl ?_); refine box_event (by rfl) (N := 1) (by rfl) (cs := #[.int .i64 a0_0, .int .i64 a0_1, .int .i64 a0_2, .int .i64 a0_3]) (t := 31) zq1 ?_; intro gb115 hg w37 hbox hb; have BK115 := Aside0.mk (hbox); have GW115 := zgs HB hg; have GE115 := zgs HB hg; replace HB := zbs HB hb; clear hb hbox hg; obtain ⟨hcz38_0, hcz38_1, hcz38_2, hcz38_3, hfz38_0, hfz38_1, hfz38_2, hfz38_3⟩ := zce4 BK115.out) | ((with_reducible refine gate_callee (f := 111) rfl ?_); refine goesL_ (some 5) rfl rfl Try.func111 zq5 rfl #[.agg #[.int .i64 a0_0, .int .i64 a0_1]] rfl zq6 ?_; (with_reducible refine (isobathref01_Valid.calls a0_0 a0_1 true _ A2.out).mono ?_); rintro e w39 ⟨rfl, hb⟩; refine ⟨_, rfl, ?_⟩; replace BK115 := zbb BK115 hb; replace HB := zbs HB hb; (try clear hb); (try clear hb2); (try clear hk); (try clear hi); obtain ⟨hcz40_0, hcz40_1, hcz40_2, hcz40_3, hfz40_0, hfz40_1, hfz40_2, hfz40_3⟩ := zce4 BK115.out) | (go_at_call 111; (with_reducible refine (isobathref01_Valid.calls a0_2 a0_3 false _ A4.out).mono ?_); rintro e w41 ⟨rfl, hb⟩; replace BK115 := zbb BK115 hb; replace HB := zbs HB hb; (try clear hb); (try clear hb2); (try clear hk); (try clear hi)))
   go_ret
   exact ⟨zq2, zbz⟩
 ·replace c3 := Bool.eq_false_iff.mpr c3
  subst c3
  have H1 : (some false) = some r := by rw [if_neg (show ¬ (false = true) by decide)] at H; exact H
  clear H
  have H := H1
  clear H1
  obtain rfl := Option.some.inj H
  go_enter Try.func63, Try.ntmps63
  go_wp2_with (first | ((with_reducible refine gate_dst (N := 1) rfl ?_); refine box_event (by rfl) (N := 1) (by rfl) (cs := #[.int .i64 a0_0, .int .i64 a0_1, .int .i64 a0_2, .int .i64 a0_3]) (t := 31) zq1 ?_; intro gb115 hg w42 hbox hb; have BK115 := Aside0.mk (hbox); have GW115 := zgs HB hg; have GE115 := zgs HB hg; replace HB := zbs HB hb; clear hb hbox hg; obtain ⟨hcz43_0, hcz43_1, hcz43_2, hcz43_3, hfz43_0, hfz43_1, hfz43_2, hfz43_3⟩ := zce4 BK115.out) | ((with_reducible refine gate_callee (f := 111) rfl ?_); refine goesL_ (some 5) rfl rfl Try.func111 zq5 rfl #[.agg #[.int .i64 a0_0, .int .i64 a0_1]] rfl zq6 ?_; (with_reducible refine (isobathref01_Valid.calls a0_0 a0_1 false _ A2.out).mono ?_); rintro e w44 ⟨rfl, hb⟩; refine ⟨_, rfl, ?_⟩; replace BK115 := zbb BK115 hb; replace HB := zbs HB hb; (try clear hb); (try clear hb2); (try clear hk); (try clear hi)))
  go_ret
  exact ⟨zq2, zbz⟩

end Go.Proofs.Ytmhaiihjfgfaoaa.Pr
end
