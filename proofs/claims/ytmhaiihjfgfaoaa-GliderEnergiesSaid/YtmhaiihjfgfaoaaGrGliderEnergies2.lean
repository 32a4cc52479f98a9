/- Part 2 of the proof of GliderEnergies: what the functions compute. No condition. -/
import Derived.RangeFuncCalls
import Derived.RangeFuncNested
import Derived.OrdersIn
import Derived.RangeFuncBound
import Derived.RangeFuncLeaves
import Derived.Shelf.Abstract
import Derived.Shelf.RegionOpen
import Derived.WalkKit
import Derived.OwnWalkIn
import Derived.TacticsInMore
import Derived.LoopNIn
import Derived.LoopIn
import Derived.Lib.Hide
import Derived.Deep.QuietTactic
import Derived.BigQuiet
import Derived.StillTailTactics
import Derived.Test.YtmhaiihjfgfaoaaGrGliderEnergies1
section
namespace Go.Proofs.Ytmhaiihjfgfaoaa.Pr
open Go.RowKit Go.Proofs.YtmhaiihjfgfaoaaW.PrintWords Go.Proofs.YtmhaiihjfgfaoaaW.PrintLast Go.Proofs.YtmhaiihjfgfaoaaW.PrintMore
attribute [local go_sem] max2_int min2_int max_two min_two max_four
set_option linter.unusedVariables false
set_option linter.unusedSimpArgs false

/-! ### glider_Lasts: function 37 -/
def glider_Lasts.f (k : Nat) (a0_0 : Int) (a0_1 : Int) (a0_2 : Int) (a0_3 : Int) (a0_4 : Int) (a0_5 : Int) (a0_6 : Int) (a1_0 : Int) (a1_1 : Int) : Option (Int × Int) := (glider_CheckVehicle.f k a0_0 a0_1 a0_2 a0_3 a0_4 a0_5 a0_6).bind fun t247 => (if t247 = 0 then ((glider_bounded.f k a1_0 a1_1 0 1073741824).bind fun t248 => (if t248 = true then (if a1_0 < a0_6 then (some (0, 19)) else (if (mx a0_3 a0_5) = 0 then (some (0, 4)) else (some (wrap64 (Int.tdiv (wrap64 (a1_0 - a0_6)) (mx a0_3 a0_5)), 0)))) else (some (0, 2)))) else (some (0, t247)))
theorem glider_Lasts.mono : ∀ a0 a1 a2 a3 a4 a5 a6 a7 a8 k, LeO (glider_Lasts.f k a0 a1 a2 a3 a4 a5 a6 a7 a8) (glider_Lasts.f (k + 1) a0 a1 a2 a3 a4 a5 a6 a7 a8) := by
  intro a0 a1 a2 a3 a4 a5 a6 a7 a8 k
  unfold glider_Lasts.f
  repeat' first
      | (with_reducible exact glider_CheckVehicle.mono _ _ _ _ _ _ _ _)
      | (with_reducible exact glider_bounded.mono _ _ _ _ _)
      | (with_reducible exact LeO.refl _)
      | (with_reducible exact LeO.none _)
      | (with_reducible refine LeO.ite ?_ ?_)
      | (with_reducible refine LeO.bind ?_ (fun _ => ?_))
      | exact glider_CheckVehicle.mono _ _ _ _ _ _ _ _
      | exact glider_bounded.mono _ _ _ _ _
      | exact LeO.none _
      | refine LeO.ite ?_ ?_
      | refine LeO.bind ?_ (fun _ => ?_)
set_option maxHeartbeats 8000000 in
set_option maxRecDepth 100000 in
theorem glider_Lasts.calls (k : Nat) (a0_0 : Int) (a0_1 : Int) (a0_2 : Int) (a0_3 : Int) (a0_4 : Int) (a0_5 : Int) (a0_6 : Int) (a1_0 : Int) (a1_1 : Int) (r1 : Int) (r2 : Int) (w : World) (h : glider_Lasts.f k a0_0 a0_1 a0_2 a0_3 a0_4 a0_5 a0_6 a1_0 a1_1 = some (r1, r2)) :
    Calls Try.prog 37 #[.agg #[.int .i64 a0_0, .int .i64 a0_1, .int .i64 a0_2, .int .i64 a0_3, .int .i64 a0_4, .int .i64 a0_5, .int .i64 a0_6], .agg #[.int .i64 a1_0, .int .i64 a1_1]] w fun e w' => e = .returned (.tuple #[.int .i64 r1, .int .i64 r2]) ∧ Below w.heap.size w w' := by
  have hu29 := Try.underlying29
  have hu27 := Try.underlying27
  have HB := Aside0.mk (Below.refl w.heap.size w)
  have H : ((glider_CheckVehicle.f k a0_0 a0_1 a0_2 a0_3 a0_4 a0_5 a0_6).bind fun t247 => (if t247 = 0 then ((glider_bounded.f k a1_0 a1_1 0 1073741824).bind fun t248 => (if t248 = true then (if a1_0 < a0_6 then (some (0, 19)) else (if (mx a0_3 a0_5) = 0 then (some (0, 4)) else (some (wrap64 (Int.tdiv (wrap64 (a1_0 - a0_6)) (mx a0_3 a0_5)), 0)))) else (some (0, 2)))) else (some (0, t247)))) = some (r1, r2) := h
  clear h
  obtain ⟨ji3, hji3⟩ : ∃ j_ : Int, (mx a0_3 a0_5) = j_ := ⟨_, rfl⟩
  replace H : ((glider_CheckVehicle.f k a0_0 a0_1 a0_2 a0_3 a0_4 a0_5 a0_6).bind fun t247 => (if t247 = 0 then ((glider_bounded.f k a1_0 a1_1 0 1073741824).bind fun t248 => (if t248 = true then (if a1_0 < a0_6 then (some (0, 19)) else (if (ji3) = 0 then (some (0, 4)) else (some (wrap64 (Int.tdiv (wrap64 (a1_0 - a0_6)) (ji3)), 0)))) else (some (0, 2)))) else (some (0, t247)))) = some (r1, r2) := by first | (rw [hji3] at H; exact H) | (simp only [hji3] at H ⊢; exact H)
  have hji3_ : (if a0_3 < a0_5 then a0_5 else a0_3) = ji3 := hji3
  replace H := Option.bind_eq_some_iff.mp H
  obtain ⟨t247, A40, H⟩ := H
  replace H : (if t247 = 0 then ((glider_bounded.f k a1_0 a1_1 0 1073741824).bind fun t248 => (if t248 = true then (if a1_0 < a0_6 then (some (0, 19)) else (if (ji3) = 0 then (some (0, 4)) else (some (wrap64 (Int.tdiv (wrap64 (a1_0 - a0_6)) (ji3)), 0)))) else (some (0, 2)))) else (some (0, t247))) = some (r1, r2) := H
  have A4 := Aside0.mk A40
  clear A40
  by_cases c5 : t247 = 0
  · rw [if_pos c5] at H
    have c5b0 : (t247 == 0) = true := beq_iff_eq.mpr c5
    have c5b1 : (t247 != 0) = false := bne_eq_false_iff_eq.mpr c5
    clear c5
    replace H := Option.bind_eq_some_iff.mp H
    obtain ⟨t248, A60, H⟩ := H
    replace H : (if t248 = true then (if a1_0 < a0_6 then (some (0, 19)) else (if (ji3) = 0 then (some (0, 4)) else (some (wrap64 (Int.tdiv (wrap64 (a1_0 - a0_6)) (ji3)), 0)))) else (some (0, 2))) = some (r1, r2) := H
    have A6 := Aside0.mk A60
    clear A60
    by_cases c7 : t248 = true
    · subst c7
      have H1 : (if a1_0 < a0_6 then (some (0, 19)) else (if (ji3) = 0 then (some (0, 4)) else (some (wrap64 (Int.tdiv (wrap64 (a1_0 - a0_6)) (ji3)), 0)))) = some (r1, r2) := by rw [if_pos rfl] at H; exact H
      clear H
      have H := H1
      clear H1
      by_cases c8 : a1_0 < a0_6
      · rw [if_pos c8] at H
        have c8b0 : decide (a1_0 < a0_6) = true := decide_eq_true c8
        clear c8
        simp only [Option.some.injEq, Prod.mk.injEq] at H
        obtain ⟨rfl, rfl⟩ := H
        go_enter Try.func37, Try.ntmps37
        go_wp2_with (first | ((with_reducible refine gate_dst (N := 2) rfl ?_); refine box_event (by rfl) (N := 2) (by rfl) (cs := #[.int .i64 a0_0, .int .i64 a0_1, .int .i64 a0_2, .int .i64 a0_3, .int .i64 a0_4, .int .i64 a0_5, .int .i64 a0_6]) (t := 29) zq5 ?_; intro gb245 hg w9 hbox hb; have BK245 := Aside0.mk (hbox); have GW245 := zgs HB hg; have GE245 := zgs HB hg; replace HB := zbs HB hb; clear hb hbox hg) | ((with_reducible refine gate_dst (N := 3) rfl ?_); refine box_event (by rfl) (N := 3) (by rfl) (cs := #[.int .i64 a1_0, .int .i64 a1_1]) (t := 27) zq5 ?_; intro gb246 hg w10 hbox hb; have BK246 := Aside0.mk (hbox); have GW246 := zgs HB hg; have GE246 := zgs HB hg; have NB245_246 := znp BK245 hg; have NB246_245 := znq BK245 hg; replace BK245 := zbb BK245 hb; replace HB := zbs HB hb; clear hb hbox hg; have hnb11 := NB245_246.out; have hnc11 := NB246_245.out; obtain ⟨hcz12_0, hcz12_1, hcz12_2, hcz12_3, hcz12_4, hcz12_5, hcz12_6, hfz12_0, hfz12_1, hfz12_2, hfz12_3, hfz12_4, hfz12_5, hfz12_6⟩ := zce7 BK245.out) | ((with_reducible refine gate_callee (f := 27) rfl ?_); refine goesL_ (some 16) rfl rfl Try.func27 zq1 rfl #[.agg #[.int .i64 a0_0, .int .i64 a0_1, .int .i64 a0_2, .int .i64 a0_3, .int .i64 a0_4, .int .i64 a0_5, .int .i64 a0_6]] rfl zq8 ?_; (with_reducible refine (glider_CheckVehicle.calls k a0_0 a0_1 a0_2 a0_3 a0_4 a0_5 a0_6 t247 _ A4.out).mono ?_); rintro e w13 ⟨rfl, hb⟩; refine ⟨_, rfl, ?_⟩; replace BK245 := zbb BK245 hb; replace BK246 := zbb BK246 hb; replace HB := zbs HB hb; (try clear hb); (try clear hb2); (try clear hk); (try clear hi); obtain ⟨hcz14_0, hcz14_1, hfz14_0, hfz14_1⟩ := zce2 BK246.out) | ((with_reducible refine gate_callee (f := 77) rfl ?_); refine goesL_ (some 23) rfl rfl Try.func77 zq1 rfl #[.agg #[.int .i64 a1_0, .int .i64 a1_1], .int .i64 0, .int .i64 1073741824] rfl zq8 ?_; (with_reducible refine (glider_bounded.calls k a1_0 a1_1 0 1073741824 true _ A6.out).mono ?_); rintro e w15 ⟨rfl, hb⟩; refine ⟨_, rfl, ?_⟩; replace BK245 := zbb BK245 hb; replace BK246 := zbb BK246 hb; replace HB := zbs HB hb; (try clear hb); (try clear hb2); (try clear hk); (try clear hi); obtain ⟨hcz16_0, hcz16_1, hfz16_0, hfz16_1⟩ := zce2 BK246.out; obtain ⟨hcz17_0, hcz17_1, hcz17_2, hcz17_3, hcz17_4, hcz17_5, hcz17_6, hfz17_0, hfz17_1, hfz17_2, hfz17_3, hfz17_4, hfz17_5, hfz17_6⟩ := zce7 BK245.out))
        go_ret2
        exact ⟨zq9, zbz⟩
      · rw [if_neg c8] at H
        have c8b0 : decide (a1_0 < a0_6) = false := decide_eq_false c8
        clear c8
        by_cases c18 : (ji3) = 0
        · rw [if_pos c18] at H
          have c18b0 : ((ji3) == 0) = true := beq_iff_eq.mpr c18
          have c18b1 : ((ji3) != 0) = false := bne_eq_false_iff_eq.mpr c18
          clear c18
          simp only [Option.some.injEq, Prod.mk.injEq] at H
          obtain ⟨rfl, rfl⟩ := H
          go_enter Try.func37, Try.ntmps37
          go_wp2_with (first | ((with_reducible refine gate_dst (N := 2) rfl ?_); refine box_event (by rfl) (N := 2) (by rfl) (cs := #[.int .i64 a0_0, .int .i64 a0_1, .int .i64 a0_2, .int .i64 a0_3, .int .i64 a0_4, .int .i64 a0_5, .int .i64 a0_6]) (t := 29) zq5 ?_; intro gb245 hg w19 hbox hb; have BK245 := Aside0.mk (hbox); have GW245 := zgs HB hg; have GE245 := zgs HB hg; replace HB := zbs HB hb; clear hb hbox hg) | ((with_reducible refine gate_dst (N := 3) rfl ?_); refine box_event (by rfl) (N := 3) (by rfl) (cs := #[.int .i64 a1_0, .int .i64 a1_1]) (t := 27) zq5 ?_; intro gb246 hg w20 hbox hb; have BK246 := Aside0.mk (hbox); have GW246 := zgs HB hg; have GE246 := zgs HB hg; have NB245_246 := znp BK245 hg; have NB246_245 := znq BK245 hg; replace BK245 := zbb BK245 hb; replace HB := zbs HB hb; clear hb hbox hg; have hnb21 := NB245_246.out; have hnc21 := NB246_245.out; obtain ⟨hcz22_0, hcz22_1, hcz22_2, hcz22_3, hcz22_4, hcz22_5, hcz22_6, hfz22_0, hfz22_1, hfz22_2, hfz22_3, hfz22_4, hfz22_5, hfz22_6⟩ := zce7 BK245.out) | ((with_reducible refine gate_callee (f := 27) rfl ?_); refine goesL_ (some 16) rfl rfl Try.func27 zq1 rfl #[.agg #[.int .i64 a0_0, .int .i64 a0_1, .int .i64 a0_2, .int .i64 a0_3, .int .i64 a0_4, .int .i64 a0_5, .int .i64 a0_6]] rfl zq8 ?_; (with_reducible refine (glider_CheckVehicle.calls k a0_0 a0_1 a0_2 a0_3 a0_4 a0_5 a0_6 t247 _ A4.out).mono ?_); rintro e w23 ⟨rfl, hb⟩; refine ⟨_, rfl, ?_⟩; replace BK245 := zbb BK245 hb; replace BK246 := zbb BK246 hb; replace HB := zbs HB hb; (try clear hb); (try clear hb2); (try clear hk); (try clear hi); obtain ⟨hcz24_0, hcz24_1, hfz24_0, hfz24_1⟩ := zce2 BK246.out) | ((with_reducible refine gate_callee (f := 77) rfl ?_); refine goesL_ (some 23) rfl rfl Try.func77 zq1 rfl #[.agg #[.int .i64 a1_0, .int .i64 a1_1], .int .i64 0, .int .i64 1073741824] rfl zq8 ?_; (with_reducible refine (glider_bounded.calls k a1_0 a1_1 0 1073741824 true _ A6.out).mono ?_); rintro e w25 ⟨rfl, hb⟩; refine ⟨_, rfl, ?_⟩; replace BK245 := zbb BK245 hb; replace BK246 := zbb BK246 hb; replace HB := zbs HB hb; (try clear hb); (try clear hb2); (try clear hk); (try clear hi); obtain ⟨hcz26_0, hcz26_1, hfz26_0, hfz26_1⟩ := zce2 BK246.out; obtain ⟨hcz27_0, hcz27_1, hcz27_2, hcz27_3, hcz27_4, hcz27_5, hcz27_6, hfz27_0, hfz27_1, hfz27_2, hfz27_3, hfz27_4, hfz27_5, hfz27_6⟩ := zce7 BK245.out))
          go_ret2
          exact ⟨zq9, zbz⟩
        · rw [if_neg c18] at H
          have c18b0 : ((ji3) == 0) = false := beq_eq_false_iff_ne.mpr c18
          have c18b1 : ((ji3) != 0) = true := bne_iff_ne.mpr c18
          simp only [Option.some.injEq, Prod.mk.injEq] at H
          obtain ⟨rfl, rfl⟩ := H
          go_enter Try.func37, Try.ntmps37
          go_wp2_with (first | ((with_reducible refine gate_dst (N := 2) rfl ?_); refine box_event (by rfl) (N := 2) (by rfl) (cs := #[.int .i64 a0_0, .int .i64 a0_1, .int .i64 a0_2, .int .i64 a0_3, .int .i64 a0_4, .int .i64 a0_5, .int .i64 a0_6]) (t := 29) zq5 ?_; intro gb245 hg w28 hbox hb; have BK245 := Aside0.mk (hbox); have GW245 := zgs HB hg; have GE245 := zgs HB hg; replace HB := zbs HB hb; clear hb hbox hg) | ((with_reducible refine gate_dst (N := 3) rfl ?_); refine box_event (by rfl) (N := 3) (by rfl) (cs := #[.int .i64 a1_0, .int .i64 a1_1]) (t := 27) zq5 ?_; intro gb246 hg w29 hbox hb; have BK246 := Aside0.mk (hbox); have GW246 := zgs HB hg; have GE246 := zgs HB hg; have NB245_246 := znp BK245 hg; have NB246_245 := znq BK245 hg; replace BK245 := zbb BK245 hb; replace HB := zbs HB hb; clear hb hbox hg; have hnb30 := NB245_246.out; have hnc30 := NB246_245.out; obtain ⟨hcz31_0, hcz31_1, hcz31_2, hcz31_3, hcz31_4, hcz31_5, hcz31_6, hfz31_0, hfz31_1, hfz31_2, hfz31_3, hfz31_4, hfz31_5, hfz31_6⟩ := zce7 BK245.out) | ((with_reducible refine gate_callee (f := 27) rfl ?_); refine goesL_ (some 16) rfl rfl Try.func27 zq1 rfl #[.agg #[.int .i64 a0_0, .int .i64 a0_1, .int .i64 a0_2, .int .i64 a0_3, .int .i64 a0_4, .int .i64 a0_5, .int .i64 a0_6]] rfl zq8 ?_; (with_reducible refine (glider_CheckVehicle.calls k a0_0 a0_1 a0_2 a0_3 a0_4 a0_5 a0_6 t247 _ A4.out).mono ?_); rintro e w32 ⟨rfl, hb⟩; refine ⟨_, rfl, ?_⟩; replace BK245 := zbb BK245 hb; replace BK246 := zbb BK246 hb; replace HB := zbs HB hb; (try clear hb); (try clear hb2); (try clear hk); (try clear hi); obtain ⟨hcz33_0, hcz33_1, hfz33_0, hfz33_1⟩ := zce2 BK246.out) | ((with_reducible refine gate_callee (f := 77) rfl ?_); refine goesL_ (some 23) rfl rfl Try.func77 zq1 rfl #[.agg #[.int .i64 a1_0, .int .i64 a1_1], .int .i64 0, .int .i64 1073741824] rfl zq8 ?_; (with_reducible refine (glider_bounded.calls k a1_0 a1_1 0 1073741824 true _ A6.out).mono ?_); rintro e w34 ⟨rfl, hb⟩; refine ⟨_, rfl, ?_⟩; replace BK245 := zbb BK245 hb; replace BK246 := zbb BK246 hb; replace HB := zbs HB hb; (try clear hb); (try clear hb2); (try clear hk); (try clear hi); obtain ⟨hcz35_0, hcz35_1, hfz35_0, hfz35_1⟩ := zce2 BK246.out; obtain ⟨hcz36_0, hcz36_1, hcz36_2, hcz36_3, hcz36_4, hcz36_5, hcz36_6, hfz36_0, hfz36_1, hfz36_2, hfz36_3, hfz36_4, hfz36_5, hfz36_6⟩ := zce7 BK245.out))
          go_ret2
          exact ⟨zq9, zbz⟩
    · replace c7 := Bool.eq_false_iff.mpr c7
      subst c7
      have H1 : (some (0, 2)) = some (r1, r2) := by rw [if_neg (show ¬ (false = true) by decide)] at H; exact H
      clear H
      have H := H1
      clear H1
      simp only [Option.some.injEq, Prod.mk.injEq] at H
      obtain ⟨rfl, rfl⟩ := H
      go_enter Try.func37, Try.ntmps37
      go_wp2_with (first | ((with_reducible refine gate_dst (N := 2) rfl ?_); refine box_event (by rfl) (N := 2) (by rfl) (cs := #[.int .i64 a0_0, .int .i64 a0_1, .int .i64 a0_2, .int .i64 a0_3, .int .i64 a0_4, .int .i64 a0_5, .int .i64 a0_6]) (t := 29) zq5 ?_; intro gb245 hg w37 hbox hb; have BK245 := Aside0.mk (hbox); have GW245 := zgs HB hg; have GE245 := zgs HB hg; replace HB := zbs HB hb; clear hb hbox hg) | ((with_reducible refine gate_dst (N := 3) rfl ?_); refine box_event (by rfl) (N := 3) (by rfl) (cs := #[.int .i64 a1_0, .int .i64 a1_1]) (t := 27) zq5 ?_; intro gb246 hg w38 hbox hb; have BK246 := Aside0.mk (hbox); have GW246 := zgs HB hg; have GE246 := zgs HB hg; have NB245_246 := znp BK245 hg; have NB246_245 := znq BK245 hg; replace BK245 := zbb BK245 hb; replace HB := zbs HB hb; clear hb hbox hg; have hnb39 := NB245_246.out; have hnc39 := NB246_245.out; obtain ⟨hcz40_0, hcz40_1, hcz40_2, hcz40_3, hcz40_4, hcz40_5, hcz40_6, hfz40_0, hfz40_1, hfz40_2, hfz40_3, hfz40_4, hfz40_5, hfz40_6⟩ := zce7 BK245.out) | ((with_reducible refine gate_callee (f := 27) rfl ?_); refine goesL_ (some 16) rfl rfl Try.func27 zq1 rfl #[.agg #[.int .i64 a0_0, .int .i64 a0_1, .int .i64 a0_2, .int .i64 a0_3, .int .i64 a0_4, .int .i64 a0_5, .int .i64 a0_6]] rfl zq8 ?_; (with_reducible refine (glider_CheckVehicle.calls k a0_0 a0_1 a0_2 a0_3 a0_4 a0_5 a0_6 t247 _ A4.out).mono ?_); rintro e w41 ⟨rfl, hb⟩; refine ⟨_, rfl, ?_⟩; replace BK245 := zbb BK245 hb; replace BK246 := zbb BK246 hb; replace HB := zbs HB hb; (try clear hb); (try clear hb2); (try clear hk); (try clear hi); obtain ⟨hcz42_0, hcz42_1, hfz42_0, hfz42_1⟩ := zce2 BK246.out) | ((with_reducible refine gate_callee (f := 77) rfl ?_); refine goesL_ (some 23) rfl rfl Try.func77 zq1 rfl #[.agg #[.int .i64 a1_0, .int .i64 a1_1], .int .i64 0, .int .i64 1073741824] rfl zq8 ?_; (with_reducible refine (glider_bounded.calls k a1_0 a1_1 0 1073741824 false _ A6.out).mono ?_); rintro e w43 ⟨rfl, hb⟩; refine ⟨_, rfl, ?_⟩; replace BK245 := zbb BK245 hb; replace BK246 := zbb BK246 hb; replace HB := zbs HB hb; (try clear hb); (try clear hb2); (try clear hk); (try clear hi)))
      go_ret2
      exact ⟨zq9, zbz⟩
  · rw [if_neg c5] at H
    have c5b0 : (t247 == 0) = false := beq_eq_false_iff_ne.mpr c5
    have c5b1 : (t247 != 0) = true := bne_iff_ne.mpr c5
    simp only [Option.some.injEq, Prod.mk.injEq] at H
    obtain ⟨rfl, rfl⟩ := H
    go_enter Try.func37, Try.ntmps37
    go_wp2_with (first | ((with_reducible refine gate_dst (N := 2) rfl ?_); refine box_event (by rfl) (N := 2) (by rfl) (cs := #[.int .i64 a0_0, .int .i64 a0_1, .int .i64 a0_2, .int .i64 a0_3, .int .i64 a0_4, .int .i64 a0_5, .int .i64 a0_6]) (t := 29) zq5 ?_; intro gb245 hg w44 hbox hb; have BK245 := Aside0.mk (hbox); have GW245 := zgs HB hg; have GE245 := zgs HB hg; replace HB := zbs HB hb; clear hb hbox hg) | ((with_reducible refine gate_dst (N := 3) rfl ?_); refine box_event (by rfl) (N := 3) (by rfl) (cs := #[.int .i64 a1_0, .int .i64 a1_1]) (t := 27) zq5 ?_; intro gb246 hg w45 hbox hb; have BK246 := Aside0.mk (hbox); have GW246 := zgs HB hg; have GE246 := zgs HB hg; have NB245_246 := znp BK245 hg; have NB246_245 := znq BK245 hg; replace BK245 := zbb BK245 hb; replace HB := zbs HB hb; clear hb hbox hg; have hnb46 := NB245_246.out; have hnc46 := NB246_245.out; obtain ⟨hcz47_0, hcz47_1, hcz47_2, hcz47_3, hcz47_4, hcz47_5, hcz47_6, hfz47_0, hfz47_1, hfz47_2, hfz47_3, hfz47_4, hfz47_5, hfz47_6⟩ := zce7 BK245.out) | ((with_reducible refine gate_callee (f := 27) rfl ?_); refine goesL_ (some 16) rfl rfl Try.func27 zq1 rfl #[.agg #[.int .i64 a0_0, .int .i64 a0_1, .int .i64 a0_2, .int .i64 a0_3, .int .i64 a0_4, .int .i64 a0_5, .int .i64 a0_6]] rfl zq8 ?_; (with_reducible refine (glider_CheckVehicle.calls k a0_0 a0_1 a0_2 a0_3 a0_4 a0_5 a0_6 t247 _ A4.out).mono ?_); rintro e w48 ⟨rfl, hb⟩; refine ⟨_, rfl, ?_⟩; replace BK245 := zbb BK245 hb; replace BK246 := zbb BK246 hb; replace HB := zbs HB hb; (try clear hb); (try clear hb2); (try clear hk); (try clear hi)))
    go_ret2
    exact ⟨zq9, zbz⟩

end Go.Proofs.Ytmhaiihjfgfaoaa.Pr
end
section
namespace Go.Proofs.Ytmhaiihjfgfaoaa.Pr
open Go.RowKit Go.Proofs.YtmhaiihjfgfaoaaW.PrintWords Go.Proofs.YtmhaiihjfgfaoaaW.PrintLast Go.Proofs.YtmhaiihjfgfaoaaW.PrintMore
attribute [local go_sem] max2_int min2_int max_two min_two max_four
set_option linter.unusedVariables false
set_option linter.unusedSimpArgs false

/-! ### isobathlaw03_Example: function 61 -/
def isobathlaw03_Example.l0 : Nat → Int → Int → Int → Int → Int → Int → Int → Int → List Bool → List (S40) → Option (Int × Int × Int × Int × Int × Int × Int × List Bool × (List (S40)) × Int × Int × Int × Int × Int × Int × Int)
  | 0, _, _, _, _, _, _, _, _, _, _ => none
  | k + 1, x3, x255000, x255001, x255002, x255003, x255004, x255005, x255006, x255007, x255008 => if x3 < 16 then (if x255008.length < 4398046511104 then (isobathlaw03_Example.l0 k (wrap64 (x3 + 1)) x255000 x255001 x255002 x255003 x255004 x255005 x255006 x255007 (x255008 ++ [(⟨(⟨(-100), 100⟩ : S27), (⟨0, 0⟩ : S27)⟩ : S40)])) else (none)) else (some (x255000, x255001, x255002, x255003, x255004, x255005, x255006, x255007, x255008, 300, 1000, 50, 60, 5, 6, 100))
def isobathlaw03_Example.f (k : Nat)  : Option (Int × Int × Int × Int × Int × Int × Int × List Bool × (List (S40)) × Int × Int × Int × Int × Int × Int × Int) := if 16 ≤ 281474976710656 then (isobathlaw03_Example.l0 k 0 4 4 1000 10000 1 1 200 (List.replicate 16 false) ([] : List (S40))) else (none)
theorem isobathlaw03_Example.mono_l : ∀ k, (∀ y0 y1 y2 y3 y4 y5 y6 y7 y8 y9, LeO (isobathlaw03_Example.l0 k y0 y1 y2 y3 y4 y5 y6 y7 y8 y9) (isobathlaw03_Example.l0 (k + 1) y0 y1 y2 y3 y4 y5 y6 y7 y8 y9))
  | 0 => fun _ _ _ _ _ _ _ _ _ _ r h => by simp [isobathlaw03_Example.l0] at h
  | k + 1 => by
    have ih0 := isobathlaw03_Example.mono_l k
    · intro y0 y1 y2 y3 y4 y5 y6 y7 y8 y9
      unfold isobathlaw03_Example.l0
      repeat' first
      | (with_reducible exact ih0 _ _ _ _ _ _ _ _ _ _)
      | (with_reducible exact LeO.refl _)
      | (with_reducible exact LeO.none _)
      | (with_reducible refine LeO.ite ?_ ?_)
      | (with_reducible refine LeO.bind ?_ (fun _ => ?_))
      | exact ih0 _ _ _ _ _ _ _ _ _ _
      | exact LeO.none _
      | refine LeO.ite ?_ ?_
      | refine LeO.bind ?_ (fun _ => ?_)
theorem isobathlaw03_Example.mono : ∀ k, LeO (isobathlaw03_Example.f k ) (isobathlaw03_Example.f (k + 1) ) := by
  intro  k
  have ih0 := isobathlaw03_Example.mono_l k
  unfold isobathlaw03_Example.f
  repeat' first
      | (with_reducible exact ih0 _ _ _ _ _ _ _ _ _ _)
      | (with_reducible exact LeO.refl _)
      | (with_reducible exact LeO.none _)
      | (with_reducible refine LeO.ite ?_ ?_)
      | (with_reducible refine LeO.bind ?_ (fun _ => ?_))
      | exact ih0 _ _ _ _ _ _ _ _ _ _
      | exact LeO.none _
      | refine LeO.ite ?_ ?_
      | refine LeO.bind ?_ (fun _ => ?_)
set_option maxHeartbeats 8000000 in
set_option maxRecDepth 100000 in
theorem isobathlaw03_Example.calls (k : Nat)  (r1 : Int) (r2 : Int) (r3 : Int) (r4 : Int) (r5 : Int) (r6 : Int) (r7 : Int) (r8 : List Bool) (r9 : List (S40)) (r10 : Int) (r11 : Int) (r12 : Int) (r13 : Int) (r14 : Int) (r15 : Int) (r16 : Int) (w : World) (h : isobathlaw03_Example.f k  = some (r1, r2, r3, r4, r5, r6, r7, r8, r9, r10, r11, r12, r13, r14, r15, r16)) :
    Calls Try.prog 61 #[] w fun e w' => ∃ v7_ v8_ : Value, e = .returned (.tuple #[.agg #[.int .i64 r1, .int .i64 r2, .int .i64 r3, .int .i64 r4, .int .i64 r5, .int .i64 r6, .int .i64 r7, v7_, v8_], .agg #[.int .i64 r10, .int .i64 r11, .int .i64 r12, .int .i64 r13, .int .i64 r14, .int .i64 r15, .int .i64 r16]]) ∧ Kd.R Kd.bool 4 w' w.heap.size (fun _ => True) v7_ r8 ∧ Kd.R k40 40 w' w.heap.size (fun _ => True) v8_ r9 ∧ Below w.heap.size w w' := by
  have hu25 := Try.underlying25
  have hu29 := Try.underlying29
  have hu27 := Try.underlying27
  have hu40 := Try.underlying40
  have HB := Aside0.mk (Below.refl w.heap.size w)
  have H : (if 16 ≤ 281474976710656 then (isobathlaw03_Example.l0 k 0 4 4 1000 10000 1 1 200 (List.replicate 16 false) ([] : List (S40))) else (none)) = some (r1, r2, r3, r4, r5, r6, r7, r8, r9, r10, r11, r12, r13, r14, r15, r16) := h
  clear h
  by_cases c1 : 16 ≤ 281474976710656
  · rw [if_pos c1] at H
    have c1b0 := eq_true c1
    have c1b1 : decide (16 ≤ 281474976710656) = true := decide_eq_true c1
    clear c1
    obtain ⟨y251, hy251⟩ : ∃ y_ : List Bool, y_ = (List.replicate 16 false) := ⟨_, rfl⟩
    replace H : (isobathlaw03_Example.l0 k 0 4 4 1000 10000 1 1 200 y251 ([] : List (S40))) = some (r1, r2, r3, r4, r5, r6, r7, r8, r9, r10, r11, r12, r13, r14, r15, r16) := by first | (rw [hy251]; with_reducible exact H) | (have H2_ := (Option.bind_some _ _).symm.trans H; rw [hy251]; with_reducible exact H2_) | (have H2_ := (Option.bind_some _ _).symm.trans H; with_reducible exact H2_) | with_reducible exact H | (rw [hy251]; exact H) | exact H
    have Ny251 := Aside0.mk hy251
    clear hy251
    have H' := Aside0.mk H
    clear H
    go_enter Try.func61, Try.ntmps61
    go_wp2_with (first | ((with_reducible refine gate_dst (N := 0) rfl ?_); refine box_event (by rfl) (N := 0) (by rfl) (cs := #[.int .i64 0, .int .i64 0, .int .i64 0, .int .i64 0, .int .i64 0, .int .i64 0, .int .i64 0, .slice none 0 0, .slice none 0 0]) (t := 25) zq5 ?_; intro gb249 hg w2 hbox hb; have BK249 := Aside0.mk (hbox); have GW249 := zgs HB hg; have GE249 := zgs HB hg; replace HB := zbs HB hb; clear hb hbox hg) | ((with_reducible refine gate_dst (N := 1) rfl ?_); refine box_event (by rfl) (N := 1) (by rfl) (cs := #[.int .i64 0, .int .i64 0, .int .i64 0, .int .i64 0, .int .i64 0, .int .i64 0, .int .i64 0]) (t := 29) zq5 ?_; intro gb250 hg w3 hbox hb; have BK250 := Aside0.mk (hbox); have GW250 := zgs HB hg; have GE250 := zgs HB hg; have NB249_250 := znp BK249 hg; have NB250_249 := znq BK249 hg; replace BK249 := zbb BK249 hb; replace HB := zbs HB hb; clear hb hbox hg) | ((with_reducible refine gate_dst (N := 4) rfl ?_); refine Kd.R_make Kd.bool _ 4 rfl (N := 4) rfl 22 _ _ rfl 16 rfl rfl Try.underlying22 (.bool false) 1 info4 rfl (by decide) (by omega) false (ok := fun _ => True) (okp := fun _ => True) rfl (fun _ hk => hk) trivial (by omega) (by omega) (Below.refl _ _) (Nat.le_refl _) ?_; intro v252 w4 ho5 hb hg_ hnew_; clear hg_ hnew_; (first | rw [← Ny251.out] at ho5 | (simp only [Int.reduceToNat] at ho5; rw [← Ny251.out] at ho5)); have HO253 := Aside0.mk (Kd.R_lower ho5 (below_size zbz)); replace BK249 := zbb BK249 hb; replace BK250 := zbb BK250 hb; replace HB := zbs HB hb; clear hb ho5; obtain ⟨Ao6, co6, eo6⟩ := Kd.R_slice HO253.out; subst eo6) | ((with_reducible refine gate_dst (N := 2) rfl ?_); refine box_event (by rfl) (N := 2) (by rfl) (cs := #[.int .i64 0, .int .i64 0, .int .i64 0, .int .i64 0, .int .i64 0, .int .i64 0, .int .i64 0, .slice none 0 0, .slice none 0 0]) (t := 25) zq5 ?_; intro gb254 hg w7 hbox hb; have n0_ := Aside0.mk (Kd.R_below (by (with_reducible repeat (first | apply Kd.R_alloc | apply Kd.R_drewN | apply Kd.R_drew)); exact HO253.out) hb); have n1_ := zbb BK249 hb; have n2_ := zbb BK250 hb; have n3_ := zbs HB hb; have n4_ := Aside0.mk (hbox); have n5_ := zgs HB hg; have n6_ := zgs HB hg; have n7_ := znp BK249 hg; have n8_ := znq BK249 hg; have n9_ := znp BK250 hg; have n10_ := znq BK250 hg; clear HO253; clear BK249; clear BK250; clear HB; have HO253 := n0_; have BK249 := n1_; have BK250 := n2_; have HB := n3_; have BK254 := n4_; have GW254 := n5_; have GE254 := n6_; have NB249_254 := n7_; have NB254_249 := n8_; have NB250_254 := n9_; have NB254_250 := n10_; clear n0_ n1_ n2_ n3_ n4_ n5_ n6_ n7_ n8_ n9_ n10_; clear hb hbox hg; have hnb8 := NB254_249.out; have hnc8 := NB249_254.out; have hnb9 := NB254_250.out; have hnc9 := NB250_254.out; obtain ⟨hcz10_0, hcz10_1, hcz10_2, hcz10_3, hcz10_4, hcz10_5, hcz10_6, hcz10_7, hcz10_8, hfz10_0, hfz10_1, hfz10_2, hfz10_3, hfz10_4, hfz10_5, hfz10_6, hfz10_7, hfz10_8⟩ := zce9 BK254.out))
    go_loopg [3] k (fun kq v3 w' => ∃ (x3_1 : Int) (x255008_1 : List (S40)) (u255008 : Value), v3 = .int .i64 x3_1 ∧ Aside0 (isobathlaw03_Example.l0 kq x3_1 4 4 1000 10000 1 1 200 y251 x255008_1 = some (r1, r2, r3, r4, r5, r6, r7, r8, r9, r10, r11, r12, r13, r14, r15, r16)) ∧ Aside0 (kq ≤ k) ∧ Aside0 (Kd.R Kd.bool 4 w' w.heap.size (fun _ => True) (.slice Ao6 y251.length co6) y251) ∧ Aside0 (Kd.R k40 40 w' w.heap.size (fun _ => True) u255008 x255008_1) ∧ Aside0 (w'.heap[gb249]? = some (.cells #[.int .i64 0, .int .i64 0, .int .i64 0, .int .i64 0, .int .i64 0, .int .i64 0, .int .i64 0, (.slice none 0 0), (.slice none 0 0)] 25 (0, 0))) ∧ Aside0 (w'.heap[gb250]? = some (.cells #[.int .i64 0, .int .i64 0, .int .i64 0, .int .i64 0, .int .i64 0, .int .i64 0, .int .i64 0] 29 (0, 0))) ∧ Aside0 (w'.heap[gb254]? = some (.cells #[.int .i64 4, .int .i64 4, .int .i64 1000, .int .i64 10000, .int .i64 1, .int .i64 1, .int .i64 200, (.slice Ao6 y251.length co6), u255008] 25 (0, 0))) ∧ Aside0 (Below w.heap.size w w'))
    case atStart => exact ⟨(0), (([] : List (S40))), (.slice none 0 0), zq2, H', ⟨Nat.le_refl _⟩, ⟨by (with_reducible repeat (first | apply Kd.R_alloc | apply Kd.R_drewN | apply Kd.R_drew)); exact Kd.R_mono (Kd.R_far (p := ⟨gb254, 8, none⟩) (Kd.R_far (p := ⟨gb254, 7, none⟩) (Kd.R_far (p := ⟨gb254, 6, none⟩) (Kd.R_far (p := ⟨gb254, 5, none⟩) (Kd.R_far (p := ⟨gb254, 4, none⟩) (Kd.R_far (p := ⟨gb254, 3, none⟩) (Kd.R_far (p := ⟨gb254, 2, none⟩) (Kd.R_far (p := ⟨gb254, 1, none⟩) (Kd.R_far (p := ⟨gb254, 0, none⟩) (Kd.R_types HO253.out BK254.out (by decide)) (fun _ hk => hk.2) (.int .i64 4)) (fun _ hk => hk.2) (.int .i64 4)) (fun _ hk => hk.2) (.int .i64 1000)) (fun _ hk => hk.2) (.int .i64 10000)) (fun _ hk => hk.2) (.int .i64 1)) (fun _ hk => hk.2) (.int .i64 1)) (fun _ hk => hk.2) (.int .i64 200)) (fun _ hk => hk.2) (.slice Ao6 y251.length co6)) (fun _ hk => hk.2) (.slice none 0 0)) (fun _ hk => trivial)⟩, ⟨zq10⟩, ⟨by (with_reducible repeat (first | refine blk_drewN ?_ _ | refine blk_drew ?_ | refine blk_alloc ?_ _)); refine blk_far ?_ NB249_254.out _; (with_reducible repeat (first | refine blk_drewN ?_ _ | refine blk_drew ?_ | refine blk_alloc ?_ _)); refine blk_far ?_ NB249_254.out _; (with_reducible repeat (first | refine blk_drewN ?_ _ | refine blk_drew ?_ | refine blk_alloc ?_ _)); refine blk_far ?_ NB249_254.out _; (with_reducible repeat (first | refine blk_drewN ?_ _ | refine blk_drew ?_ | refine blk_alloc ?_ _)); refine blk_far ?_ NB249_254.out _; (with_reducible repeat (first | refine blk_drewN ?_ _ | refine blk_drew ?_ | refine blk_alloc ?_ _)); refine blk_far ?_ NB249_254.out _; (with_reducible repeat (first | refine blk_drewN ?_ _ | refine blk_drew ?_ | refine blk_alloc ?_ _)); refine blk_far ?_ NB249_254.out _; (with_reducible repeat (first | refine blk_drewN ?_ _ | refine blk_drew ?_ | refine blk_alloc ?_ _)); refine blk_far ?_ NB249_254.out _; (with_reducible repeat (first | refine blk_drewN ?_ _ | refine blk_drew ?_ | refine blk_alloc ?_ _)); refine blk_far ?_ NB249_254.out _; (with_reducible repeat (first | refine blk_drewN ?_ _ | refine blk_drew ?_ | refine blk_alloc ?_ _)); refine blk_far ?_ NB249_254.out _; (with_reducible repeat (first | refine blk_drewN ?_ _ | refine blk_drew ?_ | refine blk_alloc ?_ _)); exact BK249.out⟩, ⟨by (with_reducible repeat (first | refine blk_drewN ?_ _ | refine blk_drew ?_ | refine blk_alloc ?_ _)); refine blk_far ?_ NB250_254.out _; (with_reducible repeat (first | refine blk_drewN ?_ _ | refine blk_drew ?_ | refine blk_alloc ?_ _)); refine blk_far ?_ NB250_254.out _; (with_reducible repeat (first | refine blk_drewN ?_ _ | refine blk_drew ?_ | refine blk_alloc ?_ _)); refine blk_far ?_ NB250_254.out _; (with_reducible repeat (first | refine blk_drewN ?_ _ | refine blk_drew ?_ | refine blk_alloc ?_ _)); refine blk_far ?_ NB250_254.out _; (with_reducible repeat (first | refine blk_drewN ?_ _ | refine blk_drew ?_ | refine blk_alloc ?_ _)); refine blk_far ?_ NB250_254.out _; (with_reducible repeat (first | refine blk_drewN ?_ _ | refine blk_drew ?_ | refine blk_alloc ?_ _)); refine blk_far ?_ NB250_254.out _; (with_reducible repeat (first | refine blk_drewN ?_ _ | refine blk_drew ?_ | refine blk_alloc ?_ _)); refine blk_far ?_ NB250_254.out _; (with_reducible repeat (first | refine blk_drewN ?_ _ | refine blk_drew ?_ | refine blk_alloc ?_ _)); refine blk_far ?_ NB250_254.out _; (with_reducible repeat (first | refine blk_drewN ?_ _ | refine blk_drew ?_ | refine blk_alloc ?_ _)); refine blk_far ?_ NB250_254.out _; (with_reducible repeat (first | refine blk_drewN ?_ _ | refine blk_drew ?_ | refine blk_alloc ?_ _)); exact BK250.out⟩, ⟨by (with_reducible repeat (first | refine blk_drewN ?_ _ | refine blk_drew ?_ | refine blk_alloc ?_ _)); refine blk_put (cs := #[.int .i64 4, .int .i64 4, .int .i64 1000, .int .i64 10000, .int .i64 1, .int .i64 1, .int .i64 200, .slice Ao6 y251.length co6, .slice none 0 0]) ?_ 8 _ rfl; (with_reducible repeat (first | refine blk_drewN ?_ _ | refine blk_drew ?_ | refine blk_alloc ?_ _)); refine blk_put (cs := #[.int .i64 4, .int .i64 4, .int .i64 1000, .int .i64 10000, .int .i64 1, .int .i64 1, .int .i64 200, .slice none 0 0, .slice none 0 0]) ?_ 7 _ rfl; (with_reducible repeat (first | refine blk_drewN ?_ _ | refine blk_drew ?_ | refine blk_alloc ?_ _)); refine blk_put (cs := #[.int .i64 4, .int .i64 4, .int .i64 1000, .int .i64 10000, .int .i64 1, .int .i64 1, .int .i64 0, .slice none 0 0, .slice none 0 0]) ?_ 6 _ rfl; (with_reducible repeat (first | refine blk_drewN ?_ _ | refine blk_drew ?_ | refine blk_alloc ?_ _)); refine blk_put (cs := #[.int .i64 4, .int .i64 4, .int .i64 1000, .int .i64 10000, .int .i64 1, .int .i64 0, .int .i64 0, .slice none 0 0, .slice none 0 0]) ?_ 5 _ rfl; (with_reducible repeat (first | refine blk_drewN ?_ _ | refine blk_drew ?_ | refine blk_alloc ?_ _)); refine blk_put (cs := #[.int .i64 4, .int .i64 4, .int .i64 1000, .int .i64 10000, .int .i64 0, .int .i64 0, .int .i64 0, .slice none 0 0, .slice none 0 0]) ?_ 4 _ rfl; (with_reducible repeat (first | refine blk_drewN ?_ _ | refine blk_drew ?_ | refine blk_alloc ?_ _)); refine blk_put (cs := #[.int .i64 4, .int .i64 4, .int .i64 1000, .int .i64 0, .int .i64 0, .int .i64 0, .int .i64 0, .slice none 0 0, .slice none 0 0]) ?_ 3 _ rfl; (with_reducible repeat (first | refine blk_drewN ?_ _ | refine blk_drew ?_ | refine blk_alloc ?_ _)); refine blk_put (cs := #[.int .i64 4, .int .i64 4, .int .i64 0, .int .i64 0, .int .i64 0, .int .i64 0, .int .i64 0, .slice none 0 0, .slice none 0 0]) ?_ 2 _ rfl; (with_reducible repeat (first | refine blk_drewN ?_ _ | refine blk_drew ?_ | refine blk_alloc ?_ _)); refine blk_put (cs := #[.int .i64 4, .int .i64 0, .int .i64 0, .int .i64 0, .int .i64 0, .int .i64 0, .int .i64 0, .slice none 0 0, .slice none 0 0]) ?_ 1 _ rfl; (with_reducible repeat (first | refine blk_drewN ?_ _ | refine blk_drew ?_ | refine blk_alloc ?_ _)); refine blk_put (cs := #[.int .i64 0, .int .i64 0, .int .i64 0, .int .i64 0, .int .i64 0, .int .i64 0, .int .i64 0, .slice none 0 0, .slice none 0 0]) ?_ 0 _ rfl; (with_reducible repeat (first | refine blk_drewN ?_ _ | refine blk_drew ?_ | refine blk_alloc ?_ _)); exact BK254.out⟩, ⟨zbz⟩⟩
    case round =>
      clear H'
      try clear c1
      try clear c1b0
      try clear c1b1
      try clear p2
      try clear c6
      try clear c8
      try clear c9
      try clear hcz10_0
      try clear hcz10_1
      try clear hcz10_2
      try clear hcz10_3
      try clear hcz10_4
      try clear hcz10_5
      try clear hcz10_6
      try clear hcz10_7
      try clear hcz10_8
      try clear hfz10_0
      try clear hfz10_1
      try clear hfz10_2
      try clear hfz10_3
      try clear hfz10_4
      try clear hfz10_5
      try clear hfz10_6
      try clear hfz10_7
      try clear hfz10_8
      obtain ⟨x3_1, x255008_1, u255008, rfl, HA, HK1, HO_255007, HO_255008, BK249, BK250, BK254, HB⟩ := hrel
      cases gk with
      | zero => exact absurd HA.out (by simp [isobathlaw03_Example.l0])
      | succ k1 =>
        have H := HA.out
        clear HA
        simp only [isobathlaw03_Example.l0] at H
        by_cases c11 : x3_1 < 16
        · rw [if_pos c11] at H
          have c11b0 : decide (x3_1 < 16) = true := decide_eq_true c11
          clear c11
          by_cases c12 : x255008_1.length < 4398046511104
          · rw [if_pos c12] at H
            have LMc12 := Aside0.mk c12
            clear c12
            obtain ⟨y255, hy255⟩ : ∃ y_ : List (S40), y_ = (x255008_1 ++ [(⟨(⟨(-100), 100⟩ : S27), (⟨0, 0⟩ : S27)⟩ : S40)]) := ⟨_, rfl⟩
            replace H : (isobathlaw03_Example.l0 k1 (wrap64 (x3_1 + 1)) 4 4 1000 10000 1 1 200 y251 y255) = some (r1, r2, r3, r4, r5, r6, r7, r8, r9, r10, r11, r12, r13, r14, r15, r16) := by first | (rw [hy255]; with_reducible exact H) | (have H2_ := (Option.bind_some _ _).symm.trans H; rw [hy255]; with_reducible exact H2_) | (have H2_ := (Option.bind_some _ _).symm.trans H; with_reducible exact H2_) | with_reducible exact H | (rw [hy255]; exact H) | exact H
            have Ny255 := Aside0.mk hy255
            clear hy255
            have H' := Aside0.mk H
            clear H
            have hnb13 := NB254_249.out
            have hnc13 := NB249_254.out
            have hnb14 := NB254_250.out
            have hnc14 := NB250_254.out
            obtain ⟨hcz15_0, hcz15_1, hcz15_2, hcz15_3, hcz15_4, hcz15_5, hcz15_6, hcz15_7, hcz15_8, hfz15_0, hfz15_1, hfz15_2, hfz15_3, hfz15_4, hfz15_5, hfz15_6, hfz15_7, hfz15_8⟩ := zce9 BK254.out
            go_wp2_with (((with_reducible refine gate_builtin (b := .append) (xs := #[.tmp 11, .tmp 14]) rfl ?_); at_builtin; refine Kd.R_append k40 (w0 := w) w.heap.size rfl (.tmp 11) (.tmp 14) 23 40 (.agg #[(.int .i64 0), (.int .i64 0), (.int .i64 0), (.int .i64 0)]) 32 rfl Try.underlying23 info40 rfl (by decide) (by omega) u255008 x255008_1 (⟨(⟨(-100), 100⟩ : S27), (⟨0, 0⟩ : S27)⟩ : S40) [.int .i64 (-100), .int .i64 100, .int .i64 0, .int .i64 0] (fun _ => True) (fun _ => False) rfl rfl ?aP (fun _ hk => hk.elim) ?aF ?aO ?aB ?aS ?aL ?_; (case aP => exact k40_mkM _ _ _ (⟨(⟨(-100), 100⟩ : S27), (⟨0, 0⟩ : S27)⟩ : S40)); (case aB => exact zbz); (case aF => exact (fun _ _ => trivial)); (case aO => exact zq11); (case aS => exact (below_size zbz)); (case aL => have := LMc12.out; omega); intro v256 w16 ho hb hg hat; rw [← Ny255.out] at ho; have n0_ := Aside0.mk (Kd.R_over' (by (with_reducible repeat (first | apply Kd.R_alloc | apply Kd.R_drewN | apply Kd.R_drew)); exact HO_255007.out) (Kd.R_typed zq11) (by decide) hg); have n1_ := Aside0.mk (blk_grown (g := gb249) (o := .cells #[.int .i64 0, .int .i64 0, .int .i64 0, .int .i64 0, .int .i64 0, .int .i64 0, .int .i64 0, .slice none 0 0, .slice none 0 0] 25 (0, 0)) (by (with_reducible repeat (first | refine blk_drewN ?_ _ | refine blk_drew ?_ | refine blk_alloc ?_ _)); exact BK249.out) hg (Kd.R_ne HO_255008.out BK249.out (by decide))); have n2_ := Aside0.mk (blk_grown (g := gb250) (o := .cells #[.int .i64 0, .int .i64 0, .int .i64 0, .int .i64 0, .int .i64 0, .int .i64 0, .int .i64 0] 29 (0, 0)) (by (with_reducible repeat (first | refine blk_drewN ?_ _ | refine blk_drew ?_ | refine blk_alloc ?_ _)); exact BK250.out) hg (Kd.R_ne HO_255008.out BK250.out (by decide))); have n3_ := Aside0.mk (blk_grown (g := gb254) (o := .cells #[.int .i64 4, .int .i64 4, .int .i64 1000, .int .i64 10000, .int .i64 1, .int .i64 1, .int .i64 200, .slice Ao6 y251.length co6, u255008] 25 (0, 0)) (by (with_reducible repeat (first | refine blk_drewN ?_ _ | refine blk_drew ?_ | refine blk_alloc ?_ _)); exact BK254.out) hg (Kd.R_ne HO_255008.out BK254.out (by decide))); have n4_ := Aside0.mk (hb); have n5_ := Aside0.mk (ho); clear HO_255007; clear BK249; clear BK250; clear BK254; clear HB; clear HO_255008; have HO_255007 := n0_; have BK249 := n1_; have BK250 := n2_; have BK254 := n3_; have HB := n4_; have HO257 := n5_; clear n0_ n1_ n2_ n3_ n4_ n5_; clear ho hb hg hat; obtain ⟨Ao17, co17, eo17⟩ := Kd.R_slice HO257.out; subst eo17; obtain ⟨hcz18_0, hcz18_1, hcz18_2, hcz18_3, hcz18_4, hcz18_5, hcz18_6, hcz18_7, hcz18_8, hfz18_0, hfz18_1, hfz18_2, hfz18_3, hfz18_4, hfz18_5, hfz18_6, hfz18_7, hfz18_8⟩ := zce9 BK254.out))
            go_roundg k1
            case measure => have := HK1.out; omega
            case rel => exact ⟨(wrap64 (x3_1 + 1)), (y255), (.slice Ao17 y255.length co17), zq2, H', ⟨zq7⟩, ⟨by (with_reducible repeat (first | apply Kd.R_alloc | apply Kd.R_drewN | apply Kd.R_drew)); exact Kd.R_mono (Kd.R_far (p := ⟨gb254, 8, none⟩) (Kd.R_types HO_255007.out BK254.out (by decide)) (fun _ hk => hk.2) (.slice Ao17 y255.length co17)) (fun _ hk => trivial)⟩, ⟨by (with_reducible repeat (first | apply Kd.R_alloc | apply Kd.R_drewN | apply Kd.R_drew)); exact Kd.R_mono (Kd.R_far (p := ⟨gb254, 8, none⟩) (Kd.R_types HO257.out BK254.out (by decide)) (fun _ hk => hk.2) (.slice Ao17 y255.length co17)) (fun _ hk => trivial)⟩, ⟨by (with_reducible repeat (first | refine blk_drewN ?_ _ | refine blk_drew ?_ | refine blk_alloc ?_ _)); refine blk_far ?_ NB249_254.out _; (with_reducible repeat (first | refine blk_drewN ?_ _ | refine blk_drew ?_ | refine blk_alloc ?_ _)); exact BK249.out⟩, ⟨by (with_reducible repeat (first | refine blk_drewN ?_ _ | refine blk_drew ?_ | refine blk_alloc ?_ _)); refine blk_far ?_ NB250_254.out _; (with_reducible repeat (first | refine blk_drewN ?_ _ | refine blk_drew ?_ | refine blk_alloc ?_ _)); exact BK250.out⟩, ⟨by (with_reducible repeat (first | refine blk_drewN ?_ _ | refine blk_drew ?_ | refine blk_alloc ?_ _)); refine blk_put (cs := #[.int .i64 4, .int .i64 4, .int .i64 1000, .int .i64 10000, .int .i64 1, .int .i64 1, .int .i64 200, .slice Ao6 y251.length co6, u255008]) ?_ 8 _ rfl; (with_reducible repeat (first | refine blk_drewN ?_ _ | refine blk_drew ?_ | refine blk_alloc ?_ _)); exact BK254.out⟩, ⟨zbz⟩⟩
          · rw [if_neg c12] at H
            exact absurd H (by simp)
        · rw [if_neg c11] at H
          have c11b0 : decide (x3_1 < 16) = false := decide_eq_false c11
          clear c11
          simp only [Option.some.injEq, Prod.mk.injEq] at H
          obtain ⟨rfl, rfl, rfl, rfl, rfl, rfl, rfl, rfl, rfl, rfl, rfl, rfl, rfl, rfl, rfl, rfl⟩ := H
          have hnb19 := NB254_249.out
          have hnc19 := NB249_254.out
          have hnb20 := NB254_250.out
          have hnc20 := NB250_254.out
          obtain ⟨hcz21_0, hcz21_1, hcz21_2, hcz21_3, hcz21_4, hcz21_5, hcz21_6, hcz21_7, hcz21_8, hfz21_0, hfz21_1, hfz21_2, hfz21_3, hfz21_4, hfz21_5, hfz21_6, hfz21_7, hfz21_8⟩ := zce9 BK254.out
          have hnb22 := NB249_250.out
          have hnc22 := NB250_249.out
          obtain ⟨hcz23_0, hcz23_1, hcz23_2, hcz23_3, hcz23_4, hcz23_5, hcz23_6, hcz23_7, hcz23_8, hfz23_0, hfz23_1, hfz23_2, hfz23_3, hfz23_4, hfz23_5, hfz23_6, hfz23_7, hfz23_8⟩ := zce9 BK249.out
          obtain ⟨Ao24, co24, eo24⟩ := Kd.R_slice HO_255008.out
          subst eo24
          obtain ⟨hcz25_0, hcz25_1, hcz25_2, hcz25_3, hcz25_4, hcz25_5, hcz25_6, hfz25_0, hfz25_1, hfz25_2, hfz25_3, hfz25_4, hfz25_5, hfz25_6⟩ := zce7 BK250.out
          go_wp2
          refine bodyPost_ret (results_cc rfl _ _ gb249 gb250 25 29 #[.int .i64 4, .int .i64 4, .int .i64 1000, .int .i64 10000, .int .i64 1, .int .i64 1, .int .i64 200, .slice Ao6 y251.length co6, .slice Ao24 x255008_1.length co24] #[.int .i64 300, .int .i64 1000, .int .i64 50, .int .i64 60, .int .i64 5, .int .i64 6, .int .i64 100] (0, 0) (0, 0) _ _ rfl (by (with_reducible repeat (first | refine blk_drewN ?_ _ | refine blk_drew ?_ | refine blk_alloc ?_ _)); refine blk_far ?_ NB249_250.out _; (with_reducible repeat (first | refine blk_drewN ?_ _ | refine blk_drew ?_ | refine blk_alloc ?_ _)); refine blk_far ?_ NB249_250.out _; (with_reducible repeat (first | refine blk_drewN ?_ _ | refine blk_drew ?_ | refine blk_alloc ?_ _)); refine blk_far ?_ NB249_250.out _; (with_reducible repeat (first | refine blk_drewN ?_ _ | refine blk_drew ?_ | refine blk_alloc ?_ _)); refine blk_far ?_ NB249_250.out _; (with_reducible repeat (first | refine blk_drewN ?_ _ | refine blk_drew ?_ | refine blk_alloc ?_ _)); refine blk_far ?_ NB249_250.out _; (with_reducible repeat (first | refine blk_drewN ?_ _ | refine blk_drew ?_ | refine blk_alloc ?_ _)); refine blk_far ?_ NB249_250.out _; (with_reducible repeat (first | refine blk_drewN ?_ _ | refine blk_drew ?_ | refine blk_alloc ?_ _)); refine blk_far ?_ NB249_250.out _; (with_reducible repeat (first | refine blk_drewN ?_ _ | refine blk_drew ?_ | refine blk_alloc ?_ _)); refine blk_put (cs := #[.int .i64 4, .int .i64 4, .int .i64 1000, .int .i64 10000, .int .i64 1, .int .i64 1, .int .i64 200, .slice Ao6 y251.length co6, .slice none 0 0]) ?_ 8 _ rfl; (with_reducible repeat (first | refine blk_drewN ?_ _ | refine blk_drew ?_ | refine blk_alloc ?_ _)); refine blk_put (cs := #[.int .i64 4, .int .i64 4, .int .i64 1000, .int .i64 10000, .int .i64 1, .int .i64 1, .int .i64 200, .slice none 0 0, .slice none 0 0]) ?_ 7 _ rfl; (with_reducible repeat (first | refine blk_drewN ?_ _ | refine blk_drew ?_ | refine blk_alloc ?_ _)); refine blk_put (cs := #[.int .i64 4, .int .i64 4, .int .i64 1000, .int .i64 10000, .int .i64 1, .int .i64 1, .int .i64 0, .slice none 0 0, .slice none 0 0]) ?_ 6 _ rfl; (with_reducible repeat (first | refine blk_drewN ?_ _ | refine blk_drew ?_ | refine blk_alloc ?_ _)); refine blk_put (cs := #[.int .i64 4, .int .i64 4, .int .i64 1000, .int .i64 10000, .int .i64 1, .int .i64 0, .int .i64 0, .slice none 0 0, .slice none 0 0]) ?_ 5 _ rfl; (with_reducible repeat (first | refine blk_drewN ?_ _ | refine blk_drew ?_ | refine blk_alloc ?_ _)); refine blk_put (cs := #[.int .i64 4, .int .i64 4, .int .i64 1000, .int .i64 10000, .int .i64 0, .int .i64 0, .int .i64 0, .slice none 0 0, .slice none 0 0]) ?_ 4 _ rfl; (with_reducible repeat (first | refine blk_drewN ?_ _ | refine blk_drew ?_ | refine blk_alloc ?_ _)); refine blk_put (cs := #[.int .i64 4, .int .i64 4, .int .i64 1000, .int .i64 0, .int .i64 0, .int .i64 0, .int .i64 0, .slice none 0 0, .slice none 0 0]) ?_ 3 _ rfl; (with_reducible repeat (first | refine blk_drewN ?_ _ | refine blk_drew ?_ | refine blk_alloc ?_ _)); refine blk_put (cs := #[.int .i64 4, .int .i64 4, .int .i64 0, .int .i64 0, .int .i64 0, .int .i64 0, .int .i64 0, .slice none 0 0, .slice none 0 0]) ?_ 2 _ rfl; (with_reducible repeat (first | refine blk_drewN ?_ _ | refine blk_drew ?_ | refine blk_alloc ?_ _)); refine blk_put (cs := #[.int .i64 4, .int .i64 0, .int .i64 0, .int .i64 0, .int .i64 0, .int .i64 0, .int .i64 0, .slice none 0 0, .slice none 0 0]) ?_ 1 _ rfl; (with_reducible repeat (first | refine blk_drewN ?_ _ | refine blk_drew ?_ | refine blk_alloc ?_ _)); refine blk_put (cs := #[.int .i64 0, .int .i64 0, .int .i64 0, .int .i64 0, .int .i64 0, .int .i64 0, .int .i64 0, .slice none 0 0, .slice none 0 0]) ?_ 0 _ rfl; (with_reducible repeat (first | refine blk_drewN ?_ _ | refine blk_drew ?_ | refine blk_alloc ?_ _)); exact BK249.out) Try.underlying25 rfl zq1 rfl (by (with_reducible repeat (first | refine blk_drewN ?_ _ | refine blk_drew ?_ | refine blk_alloc ?_ _)); refine blk_put (cs := #[.int .i64 300, .int .i64 1000, .int .i64 50, .int .i64 60, .int .i64 5, .int .i64 6, .int .i64 0]) ?_ 6 _ rfl; (with_reducible repeat (first | refine blk_drewN ?_ _ | refine blk_drew ?_ | refine blk_alloc ?_ _)); refine blk_put (cs := #[.int .i64 300, .int .i64 1000, .int .i64 50, .int .i64 60, .int .i64 5, .int .i64 0, .int .i64 0]) ?_ 5 _ rfl; (with_reducible repeat (first | refine blk_drewN ?_ _ | refine blk_drew ?_ | refine blk_alloc ?_ _)); refine blk_put (cs := #[.int .i64 300, .int .i64 1000, .int .i64 50, .int .i64 60, .int .i64 0, .int .i64 0, .int .i64 0]) ?_ 4 _ rfl; (with_reducible repeat (first | refine blk_drewN ?_ _ | refine blk_drew ?_ | refine blk_alloc ?_ _)); refine blk_put (cs := #[.int .i64 300, .int .i64 1000, .int .i64 50, .int .i64 0, .int .i64 0, .int .i64 0, .int .i64 0]) ?_ 3 _ rfl; (with_reducible repeat (first | refine blk_drewN ?_ _ | refine blk_drew ?_ | refine blk_alloc ?_ _)); refine blk_put (cs := #[.int .i64 300, .int .i64 1000, .int .i64 0, .int .i64 0, .int .i64 0, .int .i64 0, .int .i64 0]) ?_ 2 _ rfl; (with_reducible repeat (first | refine blk_drewN ?_ _ | refine blk_drew ?_ | refine blk_alloc ?_ _)); refine blk_put (cs := #[.int .i64 300, .int .i64 0, .int .i64 0, .int .i64 0, .int .i64 0, .int .i64 0, .int .i64 0]) ?_ 1 _ rfl; (with_reducible repeat (first | refine blk_drewN ?_ _ | refine blk_drew ?_ | refine blk_alloc ?_ _)); refine blk_put (cs := #[.int .i64 0, .int .i64 0, .int .i64 0, .int .i64 0, .int .i64 0, .int .i64 0, .int .i64 0]) ?_ 0 _ rfl; (with_reducible repeat (first | refine blk_drewN ?_ _ | refine blk_drew ?_ | refine blk_alloc ?_ _)); refine blk_far ?_ NB250_249.out _; (with_reducible repeat (first | refine blk_drewN ?_ _ | refine blk_drew ?_ | refine blk_alloc ?_ _)); refine blk_far ?_ NB250_249.out _; (with_reducible repeat (first | refine blk_drewN ?_ _ | refine blk_drew ?_ | refine blk_alloc ?_ _)); refine blk_far ?_ NB250_249.out _; (with_reducible repeat (first | refine blk_drewN ?_ _ | refine blk_drew ?_ | refine blk_alloc ?_ _)); refine blk_far ?_ NB250_249.out _; (with_reducible repeat (first | refine blk_drewN ?_ _ | refine blk_drew ?_ | refine blk_alloc ?_ _)); refine blk_far ?_ NB250_249.out _; (with_reducible repeat (first | refine blk_drewN ?_ _ | refine blk_drew ?_ | refine blk_alloc ?_ _)); refine blk_far ?_ NB250_249.out _; (with_reducible repeat (first | refine blk_drewN ?_ _ | refine blk_drew ?_ | refine blk_alloc ?_ _)); refine blk_far ?_ NB250_249.out _; (with_reducible repeat (first | refine blk_drewN ?_ _ | refine blk_drew ?_ | refine blk_alloc ?_ _)); refine blk_far ?_ NB250_249.out _; (with_reducible repeat (first | refine blk_drewN ?_ _ | refine blk_drew ?_ | refine blk_alloc ?_ _)); refine blk_far ?_ NB250_249.out _; (with_reducible repeat (first | refine blk_drewN ?_ _ | refine blk_drew ?_ | refine blk_alloc ?_ _)); exact BK250.out) Try.underlying29 rfl zq1) rfl ?_
          exact ⟨_, _, zq6, by (with_reducible repeat (first | apply Kd.R_alloc | apply Kd.R_drewN | apply Kd.R_drew)); exact Kd.R_mono (Kd.R_far (p := ⟨gb250, 6, none⟩) (Kd.R_far (p := ⟨gb250, 5, none⟩) (Kd.R_far (p := ⟨gb250, 4, none⟩) (Kd.R_far (p := ⟨gb250, 3, none⟩) (Kd.R_far (p := ⟨gb250, 2, none⟩) (Kd.R_far (p := ⟨gb250, 1, none⟩) (Kd.R_far (p := ⟨gb250, 0, none⟩) (Kd.R_far (p := ⟨gb249, 8, none⟩) (Kd.R_far (p := ⟨gb249, 7, none⟩) (Kd.R_far (p := ⟨gb249, 6, none⟩) (Kd.R_far (p := ⟨gb249, 5, none⟩) (Kd.R_far (p := ⟨gb249, 4, none⟩) (Kd.R_far (p := ⟨gb249, 3, none⟩) (Kd.R_far (p := ⟨gb249, 2, none⟩) (Kd.R_far (p := ⟨gb249, 1, none⟩) (Kd.R_far (p := ⟨gb249, 0, none⟩) (Kd.R_types (Kd.R_types HO_255007.out BK249.out (by decide)) BK250.out (by decide)) (fun _ hk => hk.1.2) (.int .i64 4)) (fun _ hk => hk.1.2) (.int .i64 4)) (fun _ hk => hk.1.2) (.int .i64 1000)) (fun _ hk => hk.1.2) (.int .i64 10000)) (fun _ hk => hk.1.2) (.int .i64 1)) (fun _ hk => hk.1.2) (.int .i64 1)) (fun _ hk => hk.1.2) (.int .i64 200)) (fun _ hk => hk.1.2) (.slice Ao6 y251.length co6)) (fun _ hk => hk.1.2) (.slice Ao24 x255008_1.length co24)) (fun _ hk => hk.2) (.int .i64 300)) (fun _ hk => hk.2) (.int .i64 1000)) (fun _ hk => hk.2) (.int .i64 50)) (fun _ hk => hk.2) (.int .i64 60)) (fun _ hk => hk.2) (.int .i64 5)) (fun _ hk => hk.2) (.int .i64 6)) (fun _ hk => hk.2) (.int .i64 100)) (fun _ hk => trivial), by (with_reducible repeat (first | apply Kd.R_alloc | apply Kd.R_drewN | apply Kd.R_drew)); exact Kd.R_mono (Kd.R_far (p := ⟨gb250, 6, none⟩) (Kd.R_far (p := ⟨gb250, 5, none⟩) (Kd.R_far (p := ⟨gb250, 4, none⟩) (Kd.R_far (p := ⟨gb250, 3, none⟩) (Kd.R_far (p := ⟨gb250, 2, none⟩) (Kd.R_far (p := ⟨gb250, 1, none⟩) (Kd.R_far (p := ⟨gb250, 0, none⟩) (Kd.R_far (p := ⟨gb249, 8, none⟩) (Kd.R_far (p := ⟨gb249, 7, none⟩) (Kd.R_far (p := ⟨gb249, 6, none⟩) (Kd.R_far (p := ⟨gb249, 5, none⟩) (Kd.R_far (p := ⟨gb249, 4, none⟩) (Kd.R_far (p := ⟨gb249, 3, none⟩) (Kd.R_far (p := ⟨gb249, 2, none⟩) (Kd.R_far (p := ⟨gb249, 1, none⟩) (Kd.R_far (p := ⟨gb249, 0, none⟩) (Kd.R_types (Kd.R_types HO_255008.out BK249.out (by decide)) BK250.out (by decide)) (fun _ hk => hk.1.2) (.int .i64 4)) (fun _ hk => hk.1.2) (.int .i64 4)) (fun _ hk => hk.1.2) (.int .i64 1000)) (fun _ hk => hk.1.2) (.int .i64 10000)) (fun _ hk => hk.1.2) (.int .i64 1)) (fun _ hk => hk.1.2) (.int .i64 1)) (fun _ hk => hk.1.2) (.int .i64 200)) (fun _ hk => hk.1.2) (.slice Ao6 y251.length co6)) (fun _ hk => hk.1.2) (.slice Ao24 x255008_1.length co24)) (fun _ hk => hk.2) (.int .i64 300)) (fun _ hk => hk.2) (.int .i64 1000)) (fun _ hk => hk.2) (.int .i64 50)) (fun _ hk => hk.2) (.int .i64 60)) (fun _ hk => hk.2) (.int .i64 5)) (fun _ hk => hk.2) (.int .i64 6)) (fun _ hk => hk.2) (.int .i64 100)) (fun _ hk => trivial), zbz⟩
  · rw [if_neg c1] at H
    exact absurd H (by simp)

end Go.Proofs.Ytmhaiihjfgfaoaa.Pr
end
section
namespace Go.Proofs.Ytmhaiihjfgfaoaa.Pr
open Go.RowKit Go.Proofs.YtmhaiihjfgfaoaaW.PrintWords Go.Proofs.YtmhaiihjfgfaoaaW.PrintLast Go.Proofs.YtmhaiihjfgfaoaaW.PrintMore
attribute [local go_sem] max2_int min2_int max_two min_two max_four
set_option linter.unusedVariables false
set_option linter.unusedSimpArgs false

/-! ### isobathlaw03_point: function 62 -/
def isobathlaw03_point.f (a0 : Int) (a1 : Int) : Option (Int × Int × Int × Int) := some (a0, a0, a1, a1)
set_option maxHeartbeats 8000000 in
set_option maxRecDepth 100000 in
theorem isobathlaw03_point.calls (a0 : Int) (a1 : Int) (r1 : Int) (r2 : Int) (r3 : Int) (r4 : Int) (w : World) (h : isobathlaw03_point.f a0 a1 = some (r1, r2, r3, r4)) :
    Calls Try.prog 62 #[.int .i64 a0, .int .i64 a1] w fun e w' => e = .returned (.agg #[.int .i64 r1, .int .i64 r2, .int .i64 r3, .int .i64 r4]) ∧ Below w.heap.size w w' := by
  have hu31 := Try.underlying31
  have hu27 := Try.underlying27
  have HB := Aside0.mk (Below.refl w.heap.size w)
  have H : (some (a0, a0, a1, a1)) = some (r1, r2, r3, r4) := h
  clear h
  simp only [Option.some.injEq, Prod.mk.injEq] at H
  obtain ⟨rfl, rfl, rfl, rfl⟩ := H
  go_enter Try.func62, Try.ntmps62
  go_wp2_with (first | ((with_reducible refine gate_dst (N := 4) rfl ?_); refine box_event (by rfl) (N := 4) (by rfl) (cs := #[.int .i64 0, .int .i64 0, .int .i64 0, .int .i64 0]) (t := 31) zq5 ?_; intro gb258 hg w3 hbox hb; have BK258 := Aside0.mk (hbox); have GW258 := zgs HB hg; have GE258 := zgs HB hg; replace HB := zbs HB hb; clear hb hbox hg; obtain ⟨hcz4_0, hcz4_1, hcz4_2, hcz4_3, hfz4_0, hfz4_1, hfz4_2, hfz4_3⟩ := zce4 BK258.out))
  refine bodyPost_ret (results_cell_row rfl _ _ gb258 31 #[.int .i64 a0, .int .i64 a0, .int .i64 a1, .int .i64 a1] (0, 0) _ rfl (by (with_reducible repeat (first | refine blk_drewN ?_ _ | refine blk_drew ?_ | refine blk_alloc ?_ _)); refine blk_put (cs := #[.int .i64 a0, .int .i64 a0, .int .i64 a1, .int .i64 0]) ?_ 3 _ rfl; (with_reducible repeat (first | refine blk_drewN ?_ _ | refine blk_drew ?_ | refine blk_alloc ?_ _)); refine blk_put (cs := #[.int .i64 a0, .int .i64 a0, .int .i64 0, .int .i64 0]) ?_ 2 _ rfl; (with_reducible repeat (first | refine blk_drewN ?_ _ | refine blk_drew ?_ | refine blk_alloc ?_ _)); refine blk_put (cs := #[.int .i64 a0, .int .i64 0, .int .i64 0, .int .i64 0]) ?_ 1 _ rfl; (with_reducible repeat (first | refine blk_drewN ?_ _ | refine blk_drew ?_ | refine blk_alloc ?_ _)); refine blk_put (cs := #[.int .i64 0, .int .i64 0, .int .i64 0, .int .i64 0]) ?_ 0 _ rfl; (with_reducible repeat (first | refine blk_drewN ?_ _ | refine blk_drew ?_ | refine blk_alloc ?_ _)); exact BK258.out) Try.underlying31 rfl zq1) rfl ?_
  exact ⟨zq6, zbz⟩

end Go.Proofs.Ytmhaiihjfgfaoaa.Pr
end
section
/- A region that draws its order, in a round of a loop over a function: it is walked as anywhere else (no operation of it is a deferred call). -/
namespace Go.Proofs.YtmhaiihjfgfaoaaW.Round
open Go.RowKit Go.Proofs.YtmhaiihjfgfaoaaW.PrintWords Go.Proofs.YtmhaiihjfgfaoaaW.PrintLast
section
variable {P : Program} {n l : Nat}

theorem oper_round {o : Oper} {a : Act} {w : World} {K : Act → World → Prop} {Q : Exit → Act → World → Prop} (hd : ∀ c, o.op ≠ .defer c) (h : o.wp P a w K Q) : o.wpIn (Fence.wide.inRound l) n P a w K Q := by
  refine ⟨fun _ _ => trivial, ?_⟩
  rw [Oper.semAt_eq _ _ _ hd]
  unfold Oper.wp at h
  generalize (execOp a.eval o).run P w = r at h
  cases r with
  | ok x w' =>
    cases x with
    | value v => exact h
    | skip => exact h
    | defer d => exact h
    | enter f args => exact ⟨fun h0 => (by cases h0), CallsIn.inRound l (callsIn_wide.2 h)⟩
    | row row args => exact ⟨fun h0 => (by cases h0), fun c cs _ => by obtain ⟨v, w2, r, s⟩ := h c cs; exact ⟨v, w2, r, stepsIn_wide.2 s⟩⟩
    | _ => exact h.elim
  | halt x w' =>
    cases x with
    | panic v => exact h
    | _ => exact h.elim

/-- No operation is a deferred call. -/
def noDefer (ops : Array Oper) : Bool := ops.all fun o => match o.op with | .defer _ => false | _ => true
theorem noDefer_get {ops : Array Oper} (h : noDefer ops = true) {i : Nat} {o : Oper} (ho : ops[i]? = some o) : ∀ c, o.op ≠ .defer c := by
  intro c e
  unfold noDefer at h
  rw [Array.all_eq_true] at h
  obtain ⟨hi, he⟩ := Array.getElem?_eq_some_iff.1 ho
  have := h i hi
  rw [he, e] at this
  simp at this
theorem wpAny_round {ops : Array Oper} {Q : Exit → Act → World → Prop} {md : Region.Mode} (hn : noDefer ops = true) (hQ : ¬ LetsOut Q) : ∀ (fuel : Nat) (listed : Array Bool) (a : Act) (w : World),
    wpAny P md ops Q fuel listed a w → wpAnyIn (Fence.wide.inRound l) n P md ops Q fuel listed a w
  | 0, _, _, _, h => h
  | fuel + 1, listed, a, w, h => by
    refine ⟨h.1, fun i hi => ?_⟩
    have h1 := h.2 i hi
    unfold wpOp at h1
    unfold wpOpIn
    cases ho : ops[i]? with
    | none =>
      rw [ho] at h1
      exact wpAny_round hn hQ fuel _ _ _ h1
    | some o =>
      rw [ho] at h1
      dsimp only at h1 ⊢
      split at h1
      · rename_i hw
        rw [if_pos hw]
        rcases h1 with h1 | ⟨_, h1⟩
        · exact Oper.wpIn_mono (fun a w h => wpAny_round hn hQ fuel _ a w h) (oper_round (noDefer_get hn ho) h1)
        · exact absurd h1 hQ
      · rename_i hw
        rw [if_neg hw]
        exact ⟨fun _ _ => trivial, wpAny_round hn hQ fuel _ _ _ h1⟩
theorem letsOut_ownG {α : Type} {B : Nat} {Kp : World → World → Prop} {I : List α → World → Prop} {Ix : Code → List α → World → Prop} {xs : List α} {W : World} : ¬ LetsOut (ownPostG B Kp I Ix xs W) := fun ⟨_, _, h⟩ => h
theorem letsOut_inBlock {id : Nat} {Q : Exit → Act → World → Prop} (h : ¬ LetsOut Q) : ¬ LetsOut (Exit.inBlock id Q) := fun ⟨a, w, h1⟩ => h ⟨a, w, h1⟩
theorem letsOut_then {K : Act → World → Prop} {Q : Exit → Act → World → Prop} (h : ¬ LetsOut Q) : ¬ LetsOut (Exit.then K Q) := fun ⟨a, w, h1⟩ => h ⟨a, w, h1⟩
/-- The head of such a region's walk, in a round. -/
theorem startIn_ {ops : Array Oper} {Q : Exit → Act → World → Prop} {S : World → Prop} {ds : List Nat} {id m : Nat} {a : Act} {w : World} (lit : Array Bool) (hd : noDefer ops = true) (hQ : ¬ LetsOut Q) (hm : P.follows .mixedOrders = true) (hn : ops.size = m) (hl : Array.replicate m false = lit) (hS : S w.drew)
    (h : S w.drew → wpAnyLast P .any ops Q S ds m lit a w.drew) : (Code.region id ops true).wpIn (Fence.wide.inRound l) n P Q a w := by
  subst hn
  subst hl
  exact wpIn_region_any hm (wpAny_round hd hQ _ _ _ _ (wpAny_of_last _ _ _ _ (h hS)))
/-- A post that speaks of the normal way out alone. -/
def onlyN (K : Act → World → Prop) : Exit → Act → World → Prop
  | .normal, a, w => K a w
  | _, _, _ => False
theorem onlyN_normal {Q : Exit → Act → World → Prop} {a : Act} {w : World} (h : Q .normal a w) : onlyN (Q .normal) .normal a w := h
theorem wpIn_only {F : Fence} {c : Code} {Q : Exit → Act → World → Prop} {a : Act} {w : World} (h : c.wpIn F n P (onlyN (Q .normal)) a w) : c.wpIn F n P Q a w := wpIn_mono h (fun e a w h => by cases e <;> first | exact h | exact h.elim)
end
end Go.Proofs.YtmhaiihjfgfaoaaW.Round
end
section
/- A trip in memory, and what its small methods compute. -/
namespace Go.Proofs.Ytmhaiihjfgfaoaa.Gl
open Go.RowKit Go.Shelf Go.Proofs.YtmhaiihjfgfaoaaW.PrintWords Go.Proofs.YtmhaiihjfgfaoaaW.PrintLast Go.Proofs.YtmhaiihjfgfaoaaW.PrintMore Go.Proofs.Ytmhaiihjfgfaoaa.Pr Go.Proofs.YtmhaiihjfgfaoaaW.Round
set_option linter.unusedVariables false
set_option linter.unusedSimpArgs false
attribute [local go_sem] max2_int min2_int max_two min_two max_four
/-- A sea. -/
structure Sea where
  nx : Int
  ny : Int
  cell : Int
  slot : Int
  slots : Int
  layers : Int
  most : Int
  shores : List Bool
  currents : List S40
/-- A vehicle. -/
structure Veh where
  speed : Int
  dive : Int
  use : S27
  drift : S27
  reserve : Int
/-- A block of memory, whole. -/
def Blk (W : World) (b : Nat) (c : Array Value) (t : TypeId) : Prop := W.heap[b]? = some (.cells c t (0, 0))
theorem Blk.below {W W1 : World} {b : Nat} {c : Array Value} {t : TypeId} (h : Blk W b c t) (hb : Below W.heap.size W W1) : Blk W1 b c t := (hb.block b (Array.getElem?_eq_some_iff.1 h).1).trans h
/-- A call returns a value; what was there before is as it was. -/
def RetB (v : Value) (w : World) (e : Ending) (w' : World) : Prop := e = .returned v ∧ Below w.heap.size w w'
/-- A trip in memory. -/
def TripAt (W : World) (b : Nat) (s : Sea) (v : Veh) : Prop := ∃ A7 c7 A8 c8, Blk W b #[.int .i64 s.nx, .int .i64 s.ny, .int .i64 s.cell, .int .i64 s.slot, .int .i64 s.slots, .int .i64 s.layers, .int .i64 s.most, .slice A7 s.shores.length c7, .slice A8 s.currents.length c8, .int .i64 v.speed, .int .i64 v.dive, .int .i64 v.use.f0, .int .i64 v.use.f1, .int .i64 v.drift.f0, .int .i64 v.drift.f1, .int .i64 v.reserve] 110 ∧ s.shores.length ≤ c7 ∧ Kd.C Kd.bool W A7 s.shores.length s.shores ∧ s.currents.length ≤ c8 ∧ Kd.C k40 W A8 s.currents.length s.currents
theorem TripAt.below {W W1 : World} {b : Nat} {s : Sea} {v : Veh} (h : TripAt W b s v) (hb : Below W.heap.size W W1) : TripAt W1 b s v := by
  obtain ⟨A7, c7, A8, c8, h1, h2, h3, h4, h5⟩ := h
  exact ⟨A7, c7, A8, c8, h1.below hb, h2, Kd.C_below h3 hb, h4, Kd.C_below h5 hb⟩
/-- The numbers of a valid sea. -/
structure SeaN (s : Sea) : Prop where
  nx : 1 ≤ s.nx ∧ s.nx ≤ 12
  ny : 1 ≤ s.ny ∧ s.ny ≤ 12
  cell : 100 ≤ s.cell ∧ s.cell ≤ 65536
  slot : 1 ≤ s.slot ∧ s.slot ≤ 1048576
  slots : 1 ≤ s.slots ∧ s.slots ≤ 16
  layers : 1 ≤ s.layers ∧ s.layers ≤ 3
  most : 0 ≤ s.most ∧ s.most ≤ 5000
/-- The numbers of a valid vehicle. -/
structure VehN (v : Veh) : Prop where
  speed : 0 ≤ v.speed ∧ v.speed ≤ 5000
  dive : 1 ≤ v.dive ∧ v.dive ≤ 131072
theorem ret_two {a b c d : Int} (h : a = c) (h2 : b = d) : Ending.returned (.tuple #[.int .i64 a, .int .i64 b]) = Ending.returned (.tuple #[.int .i64 c, .int .i64 d]) := by rw [h, h2]
theorem mul_in {a b m n : Int} (h0 : 0 ≤ a) (h1 : a ≤ m) (h2 : 0 ≤ b) (h3 : b ≤ n) : 0 ≤ a * b ∧ a * b ≤ m * n :=
  ⟨Int.mul_nonneg h0 h2, Int.le_trans (Int.mul_le_mul_of_nonneg_right h1 h2) (Int.mul_le_mul_of_nonneg_left h3 (Int.le_trans h0 h1))⟩
/-- Is a box in the sea? -/
def containsI (s : Sea) (x : S31) : Bool := decide (0 ≤ x.f0.f0) && decide (0 ≤ x.f1.f0) && decide (x.f0.f1 ≤ s.nx * s.cell) && decide (x.f1.f1 ≤ s.ny * s.cell)
/-- Are all seconds in slots? -/
def knownI (s : Sea) (t u : Int) : Bool := decide (0 ≤ t) && decide (u ≤ s.slots * s.slot)
set_option maxRecDepth 100000 in
set_option maxHeartbeats 2000000 in
theorem contains_any (b : Nat) (s : Sea) (v : Veh) (x : S31) (w : World) (hT : TripAt w b s v) (hS : SeaN s) :
    Calls Try.prog 68 #[.pointer (some ⟨b, 0, none⟩), .agg #[.int .i64 x.f0.f0, .int .i64 x.f0.f1, .int .i64 x.f1.f0, .int .i64 x.f1.f1]] w (RetB (.bool (containsI s x)) w) := by
  obtain ⟨A7, c7, A8, c8, hB, _⟩ := hT
  have hx := mul_in (show 0 ≤ s.nx by have := hS.nx; omega) hS.nx.2 (show 0 ≤ s.cell by have := hS.cell; omega) hS.cell.2
  have hy := mul_in (show 0 ≤ s.ny by have := hS.ny; omega) hS.ny.2 (show 0 ≤ s.cell by have := hS.cell; omega) hS.cell.2
  clear hS
  have hC0 : ∀ o_, (w.alloc o_).cell? ⟨b, 0, none⟩ = some (.int .i64 s.nx) := fun o_ => (blk_cell (blk_alloc hB o_) 0).trans rfl
  have hC1 : ∀ o_, (w.alloc o_).cell? ⟨b, 1, none⟩ = some (.int .i64 s.ny) := fun o_ => (blk_cell (blk_alloc hB o_) 1).trans rfl
  have hC2 : ∀ o_, (w.alloc o_).cell? ⟨b, 2, none⟩ = some (.int .i64 s.cell) := fun o_ => (blk_cell (blk_alloc hB o_) 2).trans rfl
  by_cases q0 : 0 ≤ x.f0.f0
  · have q0_ : decide (0 ≤ x.f0.f0) = true := decide_eq_true q0
    by_cases q1 : 0 ≤ x.f1.f0
    · have q1_ : decide (0 ≤ x.f1.f0) = true := decide_eq_true q1
      by_cases q2 : x.f0.f1 ≤ s.nx * s.cell
      · have q2_ : decide (x.f0.f1 ≤ s.nx * s.cell) = true := decide_eq_true q2
        by_cases q3 : x.f1.f1 ≤ s.ny * s.cell
        · have q3_ : decide (x.f1.f1 ≤ s.ny * s.cell) = true := decide_eq_true q3
          have HR : Hid (containsI s x = true) := Lib.hid (by unfold containsI; simp only [q0_, q1_, q2_, q3_]; rfl)
          go_enter Try.func68, Try.ntmps68
          go_wp2
          go_quiet (fail)
          go_wp2
          go_ret
          exact ⟨zq12, zq13⟩
        · have q3_ : decide (x.f1.f1 ≤ s.ny * s.cell) = false := decide_eq_false q3
          have HR : Hid (containsI s x = false) := Lib.hid (by unfold containsI; simp only [q0_, q1_, q2_, q3_]; rfl)
          go_enter Try.func68, Try.ntmps68
          go_wp2
          go_quiet (fail)
          go_wp2
          go_ret
          exact ⟨zq12, zq13⟩
      · have q2_ : decide (x.f0.f1 ≤ s.nx * s.cell) = false := decide_eq_false q2
        have HR : Hid (containsI s x = false) := Lib.hid (by unfold containsI; simp only [q0_, q1_, q2_]; rfl)
        go_enter Try.func68, Try.ntmps68
        go_wp2
        go_quiet (fail)
        go_wp2
        go_ret
        exact ⟨zq12, zq13⟩
    · have q1_ : decide (0 ≤ x.f1.f0) = false := decide_eq_false q1
      have HR : Hid (containsI s x = false) := Lib.hid (by unfold containsI; simp only [q0_, q1_]; rfl)
      go_enter Try.func68, Try.ntmps68
      go_wp2
      go_quiet (fail)
      go_wp2
      go_ret
      exact ⟨zq12, zq13⟩
  · have q0_ : decide (0 ≤ x.f0.f0) = false := decide_eq_false q0
    have HR : Hid (containsI s x = false) := Lib.hid (by unfold containsI; simp only [q0_]; rfl)
    go_enter Try.func68, Try.ntmps68
    go_wp2
    go_quiet (fail)
    go_wp2
    go_ret
    exact ⟨zq12, zq13⟩
set_option maxRecDepth 100000 in
set_option maxHeartbeats 2000000 in
theorem known_any (b : Nat) (s : Sea) (v : Veh) (t u : Int) (w : World) (hT : TripAt w b s v) (hS : SeaN s) :
    Calls Try.prog 69 #[.pointer (some ⟨b, 0, none⟩), .int .i64 t, .int .i64 u] w (RetB (.bool (knownI s t u)) w) := by
  obtain ⟨A7, c7, A8, c8, hB, _⟩ := hT
  have hx := mul_in (show 0 ≤ s.slots by have := hS.slots; omega) hS.slots.2 (show 0 ≤ s.slot by have := hS.slot; omega) hS.slot.2
  clear hS
  have hC3 : w.cell? ⟨b, 3, none⟩ = some (.int .i64 s.slot) := (blk_cell hB 3).trans rfl
  have hC4 : w.cell? ⟨b, 4, none⟩ = some (.int .i64 s.slots) := (blk_cell hB 4).trans rfl
  by_cases q0 : 0 ≤ t
  · have q0_ : decide (0 ≤ t) = true := decide_eq_true q0
    by_cases q1 : u ≤ s.slots * s.slot
    · have q1_ : decide (u ≤ s.slots * s.slot) = true := decide_eq_true q1
      have HR : Hid (knownI s t u = true) := Lib.hid (by unfold knownI; simp only [q0_, q1_]; rfl)
      go_enter Try.func69, Try.ntmps69
      go_wp2
      go_quiet (fail)
      go_wp2
      go_ret
      exact ⟨zq12, zq13⟩
    · have q1_ : decide (u ≤ s.slots * s.slot) = false := decide_eq_false q1
      have HR : Hid (knownI s t u = false) := Lib.hid (by unfold knownI; simp only [q0_, q1_]; rfl)
      go_enter Try.func69, Try.ntmps69
      go_wp2
      go_quiet (fail)
      go_wp2
      go_ret
      exact ⟨zq12, zq13⟩
  · have q0_ : decide (0 ≤ t) = false := decide_eq_false q0
    have HR : Hid (knownI s t u = false) := Lib.hid (by unfold knownI; simp only [q0_]; rfl)
    go_enter Try.func69, Try.ntmps69
    go_wp2
    go_quiet (fail)
    go_wp2
    go_ret
    exact ⟨zq12, zq13⟩

/-- The first cell, along a side, that a span from lo on touches. -/
def firstI (c lo : Int) : Int := if 0 < lo / c ∧ lo % c = 0 then lo / c - 1 else lo / c
def numI (c : Int) (a : S27) (most : Int) : Int × Int := (min (firstI c a.f0) (most - 1), min (a.f1 / c) (most - 1))
theorem div_in {x c : Int} (h0 : 0 ≤ x) (hc : 1 ≤ c) : 0 ≤ x / c ∧ x / c ≤ x :=
  ⟨Int.ediv_nonneg h0 (by omega), Int.ediv_le_self _ h0⟩
theorem mod_in {x c : Int} (hc : 1 ≤ c) : 0 ≤ x % c ∧ x % c ≤ c := by
  have h1 := Int.emod_nonneg x (show c ≠ 0 by omega)
  have h2 := Int.emod_lt_of_pos x (show 0 < c by omega)
  omega
set_option maxRecDepth 100000 in
set_option maxHeartbeats 2000000 in
theorem numbers_any (b : Nat) (s : Sea) (v : Veh) (a : S27) (most : Int) (w : World) (hT : TripAt w b s v) (hS : SeaN s) (h0 : 0 ≤ a.f0) (h1 : a.f0 ≤ 1099511627776) (h2 : 0 ≤ a.f1) (h3 : a.f1 ≤ 1099511627776) (hm0 : 1 ≤ most) (hm1 : most ≤ 12) :
    Calls Try.prog 136 #[.pointer (some ⟨b, 0, none⟩), .agg #[.int .i64 a.f0, .int .i64 a.f1], .int .i64 most] w (RetB (.tuple #[.int .i64 (numI s.cell a most).1, .int .i64 (numI s.cell a most).2]) w) := by
  obtain ⟨A7, c7, A8, c8, hB, _⟩ := hT
  have hc := hS.cell
  have hd := div_in h0 (show 1 ≤ s.cell by omega)
  have hd2 := div_in h2 (show 1 ≤ s.cell by omega)
  have hr := mod_in (x := a.f0) (show 1 ≤ s.cell by omega)
  have hne : s.cell ≠ 0 := by omega
  have hbq : (s.cell == 0) = false := beq_eq_false_iff_ne.2 hne
  clear hS
  have hC2 : ∀ o_, (w.alloc o_).cell? ⟨b, 2, none⟩ = some (.int .i64 s.cell) := fun o_ => (blk_cell (blk_alloc hB o_) 2).trans rfl
  have e1 : Int.tdiv a.f0 s.cell = a.f0 / s.cell := Int.tdiv_eq_ediv_of_nonneg h0
  have e2 : Int.tdiv a.f1 s.cell = a.f1 / s.cell := Int.tdiv_eq_ediv_of_nonneg h2
  have e3 : Int.tmod a.f0 s.cell = a.f0 % s.cell := Int.tmod_eq_emod_of_nonneg h0
  have HR : Hid (numI s.cell a most = (min (firstI s.cell a.f0) (most - 1), min (a.f1 / s.cell) (most - 1))) := Lib.hid rfl
  have HF : Hid (firstI s.cell a.f0 = if 0 < a.f0 / s.cell ∧ a.f0 % s.cell = 0 then a.f0 / s.cell - 1 else a.f0 / s.cell) := Lib.hid rfl
  generalize a.f0 / s.cell = Q at *
  generalize a.f1 / s.cell = R at *
  generalize a.f0 % s.cell = M at *
  by_cases q0 : 0 < Q
  · have q0_ : decide (0 < Q) = true := decide_eq_true q0
    by_cases q1 : M = 0
    · have q1_ : (M == 0) = true := beq_iff_eq.2 q1
      have HG := Lib.hid (HF.out.trans (if_pos ⟨q0, q1⟩))
      clear q1 HF
      go_enter Try.func136, Try.ntmps136
      go_wp2
      go_quiet (fail)
      go_wp2
      go_quiet (fail)
      go_wp2
      go_quiet (fail)
      go_wp2
      all_goals (go_ret2; exact ⟨ret_two (by rw [HR.out]; dsimp only; rw [HG.out]; omega) (by rw [HR.out]; dsimp only; omega), zq13⟩)
    · have q1_ : (M == 0) = false := beq_eq_false_iff_ne.2 q1
      have HG := Lib.hid (HF.out.trans (if_neg (fun h => q1 h.2)))
      clear q1 HF
      go_enter Try.func136, Try.ntmps136
      go_wp2
      go_quiet (fail)
      go_wp2
      go_quiet (fail)
      go_wp2
      go_quiet (fail)
      go_wp2
      all_goals (go_ret2; exact ⟨ret_two (by rw [HR.out]; dsimp only; rw [HG.out]; omega) (by rw [HR.out]; dsimp only; omega), zq13⟩)
  · have q0_ : decide (0 < Q) = false := decide_eq_false q0
    have HG := Lib.hid (HF.out.trans (if_neg (fun h => q0 h.1)))
    clear HF
    go_enter Try.func136, Try.ntmps136
    go_wp2
    go_quiet (fail)
    go_wp2
    go_quiet (fail)
    go_wp2
    go_quiet (fail)
    go_wp2
    all_goals (go_ret2; exact ⟨ret_two (by rw [HR.out]; dsimp only; rw [HG.out]; omega) (by rw [HR.out]; dsimp only; omega), zq13⟩)
end Go.Proofs.Ytmhaiihjfgfaoaa.Gl
end
section
/- Which seas are valid: what the program answers. -/
namespace Go.Proofs.Ytmhaiihjfgfaoaa.Gl
open Go.RowKit Go.Shelf Go.Proofs.YtmhaiihjfgfaoaaW.PrintWords Go.Proofs.YtmhaiihjfgfaoaaW.PrintLast Go.Proofs.YtmhaiihjfgfaoaaW.PrintMore Go.Proofs.Ytmhaiihjfgfaoaa.Pr Go.Proofs.YtmhaiihjfgfaoaaW.Round
set_option linter.unusedVariables false
set_option linter.unusedSimpArgs false
attribute [local go_sem] max2_int min2_int max_two min_two max_four
def btwB (x lo hi : Int) : Bool := decide (lo ≤ x) && decide (x ≤ hi)
theorem btwB_iff {x lo hi : Int} : btwB x lo hi = true ↔ lo ≤ x ∧ x ≤ hi := by unfold btwB; simp
theorem btw_any (x lo hi : Int) (w : World) : Calls Try.prog 74 #[.int .i64 x, .int .i64 lo, .int .i64 hi] w (RetB (.bool (btwB x lo hi)) w) :=
  (glider_between.calls x lo hi (btwB x lo hi) w (by
    unfold glider_between.f btwB
    by_cases h : x ≥ lo
    · rw [if_pos h, show decide (lo ≤ x) = true from decide_eq_true h]; simp
    · rw [if_neg h, show decide (lo ≤ x) = false from decide_eq_false h]; simp)).mono fun _ _ h => ⟨h.1, h.2.below⟩
/-- Is a span valid? -/
def okS (lo hi : Int) : Bool := !(decide (lo > hi) || decide (lo < -1073741824) || decide (hi > 1073741824))
theorem okS_iff {lo hi : Int} : okS lo hi = true ↔ lo ≤ hi ∧ -1073741824 ≤ lo ∧ hi ≤ 1073741824 := by
  unfold okS
  simp only [Bool.not_eq_true', Bool.or_eq_false_iff, decide_eq_false_iff_not]
  omega
theorem check_span (k : Nat) (lo hi : Int) : bound_Check.f (k + 2) lo hi = some (if okS lo hi then 0 else 2) := by
  unfold bound_Check.f bound_check.f okS
  simp only [bound_check.l0, rd_T27]
  by_cases h1 : hi < lo
  · simp [h1]
    try omega
  · by_cases h2 : lo < -1073741824
    · simp [h1, h2]
      try omega
    · by_cases h3 : 1073741824 < hi
      · simp [h1, h2, h3]
      · have h3' : hi ≤ 1073741824 := by omega
        have h2' : -1073741824 ≤ lo := by omega
        have h1' : lo ≤ hi := by omega
        simp [h1, h2, h3, wrap64, h3', h2', h1']
def bndB (lo hi a b : Int) : Bool := okS lo hi && decide (a ≤ lo) && decide (hi ≤ b)
theorem bnd_some (k : Nat) (lo hi a b : Int) : glider_bounded.f (k + 2) lo hi a b = some (bndB lo hi a b) := by
  unfold glider_bounded.f bndB
  rw [check_span, Option.bind_some]
  cases okS lo hi with
  | false => rfl
  | true =>
    by_cases h : lo ≥ a
    · rw [if_pos rfl, if_pos rfl, if_pos h, show decide (a ≤ lo) = true from decide_eq_true h]; simp
    · rw [if_pos rfl, if_pos rfl, if_neg h, show decide (a ≤ lo) = false from decide_eq_false h]; simp
theorem bnd_any (lo hi a b : Int) (w : World) : Calls Try.prog 77 #[.agg #[.int .i64 lo, .int .i64 hi], .int .i64 a, .int .i64 b] w (RetB (.bool (bndB lo hi a b)) w) := glider_bounded.calls 2 _ _ _ _ _ w (bnd_some 0 lo hi a b)
theorem findIdx_at {α : Type} {p : α → Bool} {l : List α} {k : Nat} {x : α} (hk : l[k]? = some x) (h0 : (l.take k).any p = false) (hx : p x = true) : l.findIdx? p = some k := by
  have hlt := (List.getElem?_eq_some_iff.1 hk).1
  rw [List.findIdx?_eq_some_iff_getElem]
  refine ⟨hlt, by rw [(List.getElem?_eq_some_iff.1 hk).2]; exact hx, fun j hj => ?_⟩
  have := List.any_eq_false.1 h0 l[j] (by rw [List.mem_take_iff_getElem]; exact ⟨j, by omega, rfl⟩)
  simpa using this
/-- The first one, or -1. -/
def idxI {α : Type} (p : α → Bool) (l : List α) : Int := match l.findIdx? p with | none => -1 | some i => i
theorem idxI_any {α : Type} (p : α → Bool) (l : List α) : (idxI p l < 0 ∧ l.any p = false) ∨ (0 ≤ idxI p l ∧ l.any p = true) := by
  unfold idxI
  cases h : l.findIdx? p with
  | none =>
    refine .inl ⟨by decide, ?_⟩
    rw [List.any_eq_false]
    intro x hx
    have := List.findIdx?_eq_none_iff.1 h x hx
    simp [this]
  | some i =>
    obtain ⟨h1, h2, _⟩ := List.findIdx?_eq_some_iff_getElem.1 h
    exact .inr ⟨by dsimp only; omega, List.any_eq_true.2 ⟨_, List.getElem_mem h1, h2⟩⟩
section
variable {P : Program} {Q : Exit → Act → World → Prop} {ops : Array Oper}
end

set_option maxRecDepth 100000 in
set_option maxHeartbeats 2000000 in
theorem idx40_any (gs : Nat) (lb : Array Value) (g : S40 → Bool) (A : Option Addr) (c : Nat) (l : List S40) (w : World) (hC : Kd.C k40 w A l.length l) (hc : l.length ≤ c)
    (egs : ∀ args w, (callFunc gs args).run Try.prog w = .ok (.enter gs args) w)
    (hg : ∀ x W, Below w.heap.size w W → Calls Try.prog gs (#[.agg #[.int .i64 x.f0.f0, .int .i64 x.f0.f1, .int .i64 x.f1.f0, .int .i64 x.f1.f1]] ++ lb) W (RetB (.bool (g x)) W)) :
    Calls Try.prog 121 #[.slice A l.length c, .func (.func gs) #[] lb] w (RetB (.int .i64 (idxI g l)) w) := by
  have hu40 := Try.underlying40
  have hu27 := Try.underlying27
  have hb := hC.2.1
  have HI : Hid (idxI g l = match l.findIdx? g with | none => -1 | some i => (i : Int)) := Lib.hid rfl
  go_enter Try.func121, Try.ntmps121
  go_wp2
  go_loopw [8] (fun i wr => ∃ (k : Nat), k ≤ l.length ∧ i = .int .i64 k ∧ Hid ((l.take k).any g = false) ∧ Below w.heap.size w wr) (fun i _ => l.length - (intOf i).toNat)
  case atStart => exact ⟨0, Nat.zero_le _, rfl, Lib.hid (by simp), Below.refl _ _⟩
  case round =>
    obtain ⟨k, hk, rfl, HA, mB⟩ := hrel
    by_cases hlt : k < l.length
    · obtain ⟨ad, rfl, hx0, hx1, hx2, hx3⟩ := at_T40 hC k (by omega) (by omega)
      simp only [Int.toNat_natCast] at hx0 hx1 hx2 hx3
      replace hx0 := (mB.cell (World.block_lt_of_cell? w _ hx0)).trans hx0
      replace hx1 := (mB.cell (World.block_lt_of_cell? w _ hx1)).trans hx1
      replace hx2 := (mB.cell (World.block_lt_of_cell? w _ hx2)).trans hx2
      replace hx3 := (mB.cell (World.block_lt_of_cell? w _ hx3)).trans hx3
      have hlk : l[k]? = some (rd_T40 l (k : Int)) := by simp [rd_T40, List.getD_eq_getElem?_getD, hlt]
      have htk : l.take (k + 1) = l.take k ++ [rd_T40 l (k : Int)] := by rw [List.take_add_one, hlk]; rfl
      generalize rd_T40 l (k : Int) = x at *
      have HT := Lib.hid htk
      have HK := Lib.hid hlk
      clear htk hlk
      go_wp2_with fail
      have hcon := hg x wr mB
      (with_reducible refine hcon.mono ?_)
      clear hcon hx0 hx1 hx2 hx3
      rintro e W1 ⟨rfl, hb1⟩
      replace mB := below_step mB hb1
      clear hb1
      cases hbx : g x with
      | true =>
        have HE := Lib.hid (HI.out.trans (by rw [findIdx_at HK.out HA.out hbx]))
        clear hbx
        go_wp2
        go_ret
        exact ⟨by rw [HE.out]; rfl, mB⟩
      | false =>
        have HB := Lib.hid hbx
        clear hbx
        go_wp2
        go_roundw
        case rel => exact ⟨k + 1, by omega, by simp, Lib.hid (by rw [HT.out, List.any_append, HA.out, List.any_cons, HB.out]; rfl), mB⟩
        case measure => simp [intOf]; omega
    · obtain rfl : k = l.length := by omega
      rw [List.take_length] at HA
      have hn : l.findIdx? g = none := by
        rw [List.findIdx?_eq_none_iff]
        intro x hx
        have := List.any_eq_false.1 HA.out x hx
        simpa using this
      have HE := Lib.hid (HI.out.trans (by rw [hn]))
      clear hn
      go_wp2
      go_ret
      exact ⟨by rw [HE.out]; rfl, mB⟩
set_option maxHeartbeats 1000000 in
theorem cont40_any (gs : Nat) (lb : Array Value) (g : S40 → Bool) (A : Option Addr) (c : Nat) (l : List S40) (w : World) (hC : Kd.C k40 w A l.length l) (hc : l.length ≤ c)
    (egs : ∀ args w, (callFunc gs args).run Try.prog w = .ok (.enter gs args) w)
    (hg : ∀ x W, Below w.heap.size w W → Calls Try.prog gs (#[.agg #[.int .i64 x.f0.f0, .int .i64 x.f0.f1, .int .i64 x.f1.f0, .int .i64 x.f1.f1]] ++ lb) W (RetB (.bool (g x)) W)) :
    Calls Try.prog 75 #[.slice A l.length c, .func (.func gs) #[] lb] w (RetB (.bool (l.any g)) w) := by
  have hcon := idx40_any gs lb g A c l w hC hc egs hg
  clear hg egs
  go_enter Try.func75, Try.ntmps75
  go_wp2_with fail
  (with_reducible refine hcon.mono ?_)
  clear hcon
  rintro e W1 ⟨rfl, mB⟩
  rcases idxI_any g l with ⟨h1, h2⟩ | ⟨h1, h2⟩
  · have HA := Lib.hid h2
    have hd : decide (0 ≤ idxI g l) = false := decide_eq_false (by omega)
    clear h1 h2
    go_wp2
    go_ret
    exact ⟨by rw [HA.out]; rfl, mB⟩
  · have HA := Lib.hid h2
    have hd : decide (0 ≤ idxI g l) = true := decide_eq_true (by omega)
    clear h1 h2
    go_wp2
    go_ret
    exact ⟨by rw [HA.out]; rfl, mB⟩

set_option maxRecDepth 100000 in
set_option maxHeartbeats 2000000 in
theorem idx31_any (gs : Nat) (lb : Array Value) (g : S31 → Bool) (A : Option Addr) (c : Nat) (l : List S31) (w : World) (hC : Kd.C k31 w A l.length l) (hc : l.length ≤ c)
    (egs : ∀ args w, (callFunc gs args).run Try.prog w = .ok (.enter gs args) w)
    (hg : ∀ x W, Below w.heap.size w W → Calls Try.prog gs (#[.agg #[.int .i64 x.f0.f0, .int .i64 x.f0.f1, .int .i64 x.f1.f0, .int .i64 x.f1.f1]] ++ lb) W (RetB (.bool (g x)) W)) :
    Calls Try.prog 137 #[.slice A l.length c, .func (.func gs) #[] lb] w (RetB (.int .i64 (idxI g l)) w) := by
  have hu31 := Try.underlying31
  have hu27 := Try.underlying27
  have hb := hC.2.1
  have HI : Hid (idxI g l = match l.findIdx? g with | none => -1 | some i => (i : Int)) := Lib.hid rfl
  go_enter Try.func137, Try.ntmps137
  go_wp2
  go_loopw [8] (fun i wr => ∃ (k : Nat), k ≤ l.length ∧ i = .int .i64 k ∧ Hid ((l.take k).any g = false) ∧ Below w.heap.size w wr) (fun i _ => l.length - (intOf i).toNat)
  case atStart => exact ⟨0, Nat.zero_le _, rfl, Lib.hid (by simp), Below.refl _ _⟩
  case round =>
    obtain ⟨k, hk, rfl, HA, mB⟩ := hrel
    by_cases hlt : k < l.length
    · obtain ⟨ad, rfl, hx0, hx1, hx2, hx3⟩ := at_T31 hC k (by omega) (by omega)
      simp only [Int.toNat_natCast] at hx0 hx1 hx2 hx3
      replace hx0 := (mB.cell (World.block_lt_of_cell? w _ hx0)).trans hx0
      replace hx1 := (mB.cell (World.block_lt_of_cell? w _ hx1)).trans hx1
      replace hx2 := (mB.cell (World.block_lt_of_cell? w _ hx2)).trans hx2
      replace hx3 := (mB.cell (World.block_lt_of_cell? w _ hx3)).trans hx3
      have hlk : l[k]? = some (rd_T31 l (k : Int)) := by simp [rd_T31, List.getD_eq_getElem?_getD, hlt]
      have htk : l.take (k + 1) = l.take k ++ [rd_T31 l (k : Int)] := by rw [List.take_add_one, hlk]; rfl
      generalize rd_T31 l (k : Int) = x at *
      have HT := Lib.hid htk
      have HK := Lib.hid hlk
      clear htk hlk
      go_wp2_with fail
      have hcon := hg x wr mB
      (with_reducible refine hcon.mono ?_)
      clear hcon hx0 hx1 hx2 hx3
      rintro e W1 ⟨rfl, hb1⟩
      replace mB := below_step mB hb1
      clear hb1
      cases hbx : g x with
      | true =>
        have HE := Lib.hid (HI.out.trans (by rw [findIdx_at HK.out HA.out hbx]))
        clear hbx
        go_wp2
        go_ret
        exact ⟨by rw [HE.out]; rfl, mB⟩
      | false =>
        have HB := Lib.hid hbx
        clear hbx
        go_wp2
        go_roundw
        case rel => exact ⟨k + 1, by omega, by simp, Lib.hid (by rw [HT.out, List.any_append, HA.out, List.any_cons, HB.out]; rfl), mB⟩
        case measure => simp [intOf]; omega
    · obtain rfl : k = l.length := by omega
      rw [List.take_length] at HA
      have hn : l.findIdx? g = none := by
        rw [List.findIdx?_eq_none_iff]
        intro x hx
        have := List.any_eq_false.1 HA.out x hx
        simpa using this
      have HE := Lib.hid (HI.out.trans (by rw [hn]))
      clear hn
      go_wp2
      go_ret
      exact ⟨by rw [HE.out]; rfl, mB⟩
set_option maxHeartbeats 1000000 in
theorem cont31_any (gs : Nat) (lb : Array Value) (g : S31 → Bool) (A : Option Addr) (c : Nat) (l : List S31) (w : World) (hC : Kd.C k31 w A l.length l) (hc : l.length ≤ c)
    (egs : ∀ args w, (callFunc gs args).run Try.prog w = .ok (.enter gs args) w)
    (hg : ∀ x W, Below w.heap.size w W → Calls Try.prog gs (#[.agg #[.int .i64 x.f0.f0, .int .i64 x.f0.f1, .int .i64 x.f1.f0, .int .i64 x.f1.f1]] ++ lb) W (RetB (.bool (g x)) W)) :
    Calls Try.prog 125 #[.slice A l.length c, .func (.func gs) #[] lb] w (RetB (.bool (l.any g)) w) := by
  have hcon := idx31_any gs lb g A c l w hC hc egs hg
  clear hg egs
  go_enter Try.func125, Try.ntmps125
  go_wp2_with fail
  (with_reducible refine hcon.mono ?_)
  clear hcon
  rintro e W1 ⟨rfl, mB⟩
  rcases idxI_any g l with ⟨h1, h2⟩ | ⟨h1, h2⟩
  · have HA := Lib.hid h2
    have hd : decide (0 ≤ idxI g l) = false := decide_eq_false (by omega)
    clear h1 h2
    go_wp2
    go_ret
    exact ⟨by rw [HA.out]; rfl, mB⟩
  · have HA := Lib.hid h2
    have hd : decide (0 ≤ idxI g l) = true := decide_eq_true (by omega)
    clear h1 h2
    go_wp2
    go_ret
    exact ⟨by rw [HA.out]; rfl, mB⟩

/-- Is a current not valid? -/
def badC (most : Int) (c : S40) : Bool := !bndB c.f0.f0 c.f0.f1 (-most) most || !bndB c.f1.f0 c.f1.f1 (-most) most
set_option maxRecDepth 100000 in
set_option maxHeartbeats 2000000 in
theorem cs1_any (g1 : Nat) (s : Sea) (A7 A8 : Option Addr) (c7 c8 : Nat) (c : S40) (w : World) (hm0 : 0 ≤ s.most) (hm1 : s.most ≤ 5000) (hB : Blk w g1 #[.int .i64 s.nx, .int .i64 s.ny, .int .i64 s.cell, .int .i64 s.slot, .int .i64 s.slots, .int .i64 s.layers, .int .i64 s.most, .slice A7 s.shores.length c7, .slice A8 s.currents.length c8] 25) :
    Calls Try.prog 76 #[.agg #[.int .i64 c.f0.f0, .int .i64 c.f0.f1, .int .i64 c.f1.f0, .int .i64 c.f1.f1], .pointer (some ⟨g1, 0, none⟩)] w (RetB (.bool (badC s.most c)) w) := by
  have hu40 := Try.underlying40
  have hu27 := Try.underlying27
  have HB : Hid (badC s.most c = (!bndB c.f0.f0 c.f0.f1 (-s.most) s.most || !bndB c.f1.f0 c.f1.f1 (-s.most) s.most)) := Lib.hid rfl
  have c6 : ∀ o_, (w.alloc o_).cell? ⟨g1, 6, none⟩ = some (.int .i64 s.most) := fun o_ => (blk_cell (blk_alloc hB o_) 6).trans rfl
  go_enter Try.func76, Try.ntmps76
  go_wp2_with fail
  clear c6
  have m1 := hB
  clear hB
  have hl_1 := blk_lt m1
  have m2 : Blk (w.alloc (.cells #[.int .i64 c.f0.f0, .int .i64 c.f0.f1, .int .i64 c.f1.f0, .int .i64 c.f1.f1] 40)) (w.heap.size) #[.int .i64 c.f0.f0, .int .i64 c.f0.f1, .int .i64 c.f1.f0, .int .i64 c.f1.f1] 40 := (by have h_ := blk_new w (.cells #[.int .i64 c.f0.f0, .int .i64 c.f0.f1, .int .i64 c.f1.f0, .int .i64 c.f1.f1] 40); first | exact h_ | (simp only [World.size_alloc] at h_; exact h_))
  replace m1 : Blk (w.alloc (.cells #[.int .i64 c.f0.f0, .int .i64 c.f0.f1, .int .i64 c.f1.f0, .int .i64 c.f1.f1] 40)) g1 #[.int .i64 s.nx, .int .i64 s.ny, .int .i64 s.cell, .int .i64 s.slot, .int .i64 s.slots, .int .i64 s.layers, .int .i64 s.most, .slice A7 s.shores.length c7, .slice A8 s.currents.length c8] 25 := (blk_alloc m1 _)
  have mB : Below w.heap.size w (w.alloc (.cells #[.int .i64 c.f0.f0, .int .i64 c.f0.f1, .int .i64 c.f1.f0, .int .i64 c.f1.f1] 40)) := (below_alloc (Below.refl w.heap.size w) _)
  have hsz_ : w.heap.size ≤ w.heap.size := Nat.le_refl _
  generalize hW_ : (w.alloc (.cells #[.int .i64 c.f0.f0, .int .i64 c.f0.f1, .int .i64 c.f1.f0, .int .i64 c.f1.f1] 40)) = W1 at m1 m2 mB ⊢
  clear hW_
  generalize hg2 : w.heap.size = g2 at m2 ⊢
  have hn_1_2 : g1 ≠ g2 := by omega
  have hn_2_1 : g2 ≠ g1 := hn_1_2.symm
  have hG2 : w.heap.size ≤ g2 := by omega
  clear hsz_ hl_1
  try clear hg2
  have hs_W1 : w.heap.size ≤ W1.heap.size := mB.size
  have hcon := bnd_any c.f0.f0 c.f0.f1 (-s.most) s.most W1
  (with_reducible refine hcon.mono ?_)
  clear hcon
  rintro e W2 ⟨rfl, hb⟩
  replace m1 := blk_below m1 hb
  replace m2 := blk_below m2 hb
  replace mB := below_step mB hb
  clear hb
  have hs_W2 : w.heap.size ≤ W2.heap.size := mB.size
  cases h0 : bndB c.f0.f0 c.f0.f1 (-s.most) s.most with
  | false =>
    have HR := Lib.hid (HB.out.trans (by rw [h0]; rfl : _ = true))
    clear h0 HB
    go_wp2
    go_ret
    exact ⟨zq12, mB⟩
  | true =>
    have H0 := Lib.hid h0
    clear h0
    obtain ⟨c2_0, c2_1, c2_2, c2_3⟩ := zcs4 m2
    have c6 := (blk_cell m1 6).trans rfl
    go_wp2_with fail
    clear c2_0
    clear c2_1
    clear c2_2
    clear c2_3
    clear c6
    have hcon := bnd_any c.f1.f0 c.f1.f1 (-s.most) s.most W2
    (with_reducible refine hcon.mono ?_)
    clear hcon
    rintro e W3 ⟨rfl, hb⟩
    replace m1 := blk_below m1 hb
    replace m2 := blk_below m2 hb
    replace mB := below_step mB hb
    clear hb
    have hs_W3 : w.heap.size ≤ W3.heap.size := mB.size
    cases h1 : bndB c.f1.f0 c.f1.f1 (-s.most) s.most with
    | false =>
      have HR := Lib.hid (HB.out.trans (by rw [H0.out, h1]; rfl : _ = true))
      clear h1 HB
      go_wp2
      go_ret
      exact ⟨zq12, mB⟩
    | true =>
      have HR := Lib.hid (HB.out.trans (by rw [H0.out, h1]; rfl : _ = false))
      clear h1 HB
      go_wp2
      go_ret
      exact ⟨zq12, mB⟩

/-- Is a sea valid? -/
def seaB (s : Sea) : Bool := btwB s.nx 1 12 && btwB s.ny 1 12 && btwB s.cell 100 65536 && btwB s.slot 1 1048576 && btwB s.slots 1 16 && btwB s.layers 1 3 && btwB s.most 0 5000 && decide ((s.shores.length : Int) = s.nx * s.ny) && decide ((s.currents.length : Int) = s.slots * s.layers * (s.nx * s.ny)) && !s.currents.any (badC s.most)
def seaE (s : Sea) : Int := if seaB s then 0 else 2
set_option maxRecDepth 100000 in
set_option maxHeartbeats 8000000 in
theorem sea_any (s : Sea) (A7 A8 : Option Addr) (c7 c8 : Nat) (w : World) (h7 : s.shores.length ≤ c7) (hC7 : Kd.C Kd.bool w A7 s.shores.length s.shores) (h8 : s.currents.length ≤ c8) (hC8 : Kd.C k40 w A8 s.currents.length s.currents) :
    Calls Try.prog 25 #[.agg #[.int .i64 s.nx, .int .i64 s.ny, .int .i64 s.cell, .int .i64 s.slot, .int .i64 s.slots, .int .i64 s.layers, .int .i64 s.most, .slice A7 s.shores.length c7, .slice A8 s.currents.length c8]] w (RetB (.int .i64 (seaE s)) w) := by
  have hu25 := Try.underlying25
  have hb7 := hC7.2.1
  have hb8 := hC8.2.1
  have HE : Hid (seaE s = if seaB s then 0 else 2) := Lib.hid rfl
  have HB : Hid (seaB s = (btwB s.nx 1 12 && btwB s.ny 1 12 && btwB s.cell 100 65536 && btwB s.slot 1 1048576 && btwB s.slots 1 16 && btwB s.layers 1 3 && btwB s.most 0 5000 && decide ((s.shores.length : Int) = s.nx * s.ny) && decide ((s.currents.length : Int) = s.slots * s.layers * (s.nx * s.ny)) && !s.currents.any (badC s.most))) := Lib.hid rfl
  go_enter Try.func25, Try.ntmps25
  go_wp2_with fail
  have m1 : Blk (w.alloc (.cells #[.int .i64 s.nx, .int .i64 s.ny, .int .i64 s.cell, .int .i64 s.slot, .int .i64 s.slots, .int .i64 s.layers, .int .i64 s.most, .slice A7 s.shores.length c7, .slice A8 s.currents.length c8] 25)) (w.heap.size) #[.int .i64 s.nx, .int .i64 s.ny, .int .i64 s.cell, .int .i64 s.slot, .int .i64 s.slots, .int .i64 s.layers, .int .i64 s.most, .slice A7 s.shores.length c7, .slice A8 s.currents.length c8] 25 := zq14
  have mB : Below w.heap.size w (w.alloc (.cells #[.int .i64 s.nx, .int .i64 s.ny, .int .i64 s.cell, .int .i64 s.slot, .int .i64 s.slots, .int .i64 s.layers, .int .i64 s.most, .slice A7 s.shores.length c7, .slice A8 s.currents.length c8] 25)) := (below_alloc (Below.refl w.heap.size w) _)
  have hsz_ : w.heap.size ≤ w.heap.size := Nat.le_refl _
  generalize hW_ : (w.alloc (.cells #[.int .i64 s.nx, .int .i64 s.ny, .int .i64 s.cell, .int .i64 s.slot, .int .i64 s.slots, .int .i64 s.layers, .int .i64 s.most, .slice A7 s.shores.length c7, .slice A8 s.currents.length c8] 25)) = W0 at m1 mB ⊢
  clear hW_
  generalize hg1 : w.heap.size = g1 at m1 ⊢
  have hG1 : w.heap.size ≤ g1 := by omega
  clear hsz_
  try clear hg1
  have hs_W0 : w.heap.size ≤ W0.heap.size := mB.size
  have hcon := btw_any s.nx 1 12 W0
  (with_reducible refine hcon.mono ?_)
  clear hcon
  rintro e W1 ⟨rfl, hb⟩
  replace m1 := blk_below m1 hb
  replace mB := below_step mB hb
  clear hb
  have hs_W1 : w.heap.size ≤ W1.heap.size := mB.size
  cases h_ : btwB s.nx 1 12 with
  | false =>
    have HZ : Hid (seaE s = 2) := Lib.hid (by rw [HE.out, HB.out, h_]; simp)
    clear h_ HE HB
    go_wp2
    go_ret
    exact ⟨zq15, mB⟩
  | true =>
    have b0 := btwB_iff.1 h_
    have H0 := Lib.hid h_
    clear h_
    obtain ⟨c1_0, c1_1, c1_2, c1_3, c1_4, c1_5, c1_6, c1_7, c1_8⟩ := zcs9 m1
    go_wp2_with fail
    clear c1_0
    clear c1_1
    clear c1_2
    clear c1_3
    clear c1_4
    clear c1_5
    clear c1_6
    clear c1_7
    clear c1_8
    have hcon := btw_any s.ny 1 12 W1
    (with_reducible refine hcon.mono ?_)
    clear hcon
    rintro e W2 ⟨rfl, hb⟩
    replace m1 := blk_below m1 hb
    replace mB := below_step mB hb
    clear hb
    have hs_W2 : w.heap.size ≤ W2.heap.size := mB.size
    cases h_ : btwB s.ny 1 12 with
    | false =>
      have HZ : Hid (seaE s = 2) := Lib.hid (by rw [HE.out, HB.out, H0.out, h_]; simp)
      clear h_ HE HB
      go_wp2
      go_ret
      exact ⟨zq15, mB⟩
    | true =>
      have b1 := btwB_iff.1 h_
      have H1 := Lib.hid h_
      clear h_
      obtain ⟨c1_0, c1_1, c1_2, c1_3, c1_4, c1_5, c1_6, c1_7, c1_8⟩ := zcs9 m1
      go_wp2_with fail
      clear c1_0
      clear c1_1
      clear c1_2
      clear c1_3
      clear c1_4
      clear c1_5
      clear c1_6
      clear c1_7
      clear c1_8
      have hcon := btw_any s.cell 100 65536 W2
      (with_reducible refine hcon.mono ?_)
      clear hcon
      rintro e W3 ⟨rfl, hb⟩
      replace m1 := blk_below m1 hb
      replace mB := below_step mB hb
      clear hb
      have hs_W3 : w.heap.size ≤ W3.heap.size := mB.size
      cases h_ : btwB s.cell 100 65536 with
      | false =>
        have HZ : Hid (seaE s = 2) := Lib.hid (by rw [HE.out, HB.out, H0.out, H1.out, h_]; simp)
        clear h_ HE HB
        go_wp2
        go_ret
        exact ⟨zq15, mB⟩
      | true =>
        have b2 := btwB_iff.1 h_
        have H2 := Lib.hid h_
        clear h_
        obtain ⟨c1_0, c1_1, c1_2, c1_3, c1_4, c1_5, c1_6, c1_7, c1_8⟩ := zcs9 m1
        go_wp2_with fail
        clear c1_0
        clear c1_1
        clear c1_2
        clear c1_3
        clear c1_4
        clear c1_5
        clear c1_6
        clear c1_7
        clear c1_8
        have hcon := btw_any s.slot 1 1048576 W3
        (with_reducible refine hcon.mono ?_)
        clear hcon
        rintro e W4 ⟨rfl, hb⟩
        replace m1 := blk_below m1 hb
        replace mB := below_step mB hb
        clear hb
        have hs_W4 : w.heap.size ≤ W4.heap.size := mB.size
        cases h_ : btwB s.slot 1 1048576 with
        | false =>
          have HZ : Hid (seaE s = 2) := Lib.hid (by rw [HE.out, HB.out, H0.out, H1.out, H2.out, h_]; simp)
          clear h_ HE HB
          go_wp2
          go_ret
          exact ⟨zq15, mB⟩
        | true =>
          have b3 := btwB_iff.1 h_
          have H3 := Lib.hid h_
          clear h_
          obtain ⟨c1_0, c1_1, c1_2, c1_3, c1_4, c1_5, c1_6, c1_7, c1_8⟩ := zcs9 m1
          go_wp2_with fail
          clear c1_0
          clear c1_1
          clear c1_2
          clear c1_3
          clear c1_4
          clear c1_5
          clear c1_6
          clear c1_7
          clear c1_8
          have hcon := btw_any s.slots 1 16 W4
          (with_reducible refine hcon.mono ?_)
          clear hcon
          rintro e W5 ⟨rfl, hb⟩
          replace m1 := blk_below m1 hb
          replace mB := below_step mB hb
          clear hb
          have hs_W5 : w.heap.size ≤ W5.heap.size := mB.size
          cases h_ : btwB s.slots 1 16 with
          | false =>
            have HZ : Hid (seaE s = 2) := Lib.hid (by rw [HE.out, HB.out, H0.out, H1.out, H2.out, H3.out, h_]; simp)
            clear h_ HE HB
            go_wp2
            go_ret
            exact ⟨zq15, mB⟩
          | true =>
            have b4 := btwB_iff.1 h_
            have H4 := Lib.hid h_
            clear h_
            obtain ⟨c1_0, c1_1, c1_2, c1_3, c1_4, c1_5, c1_6, c1_7, c1_8⟩ := zcs9 m1
            go_wp2_with fail
            clear c1_0
            clear c1_1
            clear c1_2
            clear c1_3
            clear c1_4
            clear c1_5
            clear c1_6
            clear c1_7
            clear c1_8
            have hcon := btw_any s.layers 1 3 W5
            (with_reducible refine hcon.mono ?_)
            clear hcon
            rintro e W6 ⟨rfl, hb⟩
            replace m1 := blk_below m1 hb
            replace mB := below_step mB hb
            clear hb
            have hs_W6 : w.heap.size ≤ W6.heap.size := mB.size
            cases h_ : btwB s.layers 1 3 with
            | false =>
              have HZ : Hid (seaE s = 2) := Lib.hid (by rw [HE.out, HB.out, H0.out, H1.out, H2.out, H3.out, H4.out, h_]; simp)
              clear h_ HE HB
              go_wp2
              go_ret
              exact ⟨zq15, mB⟩
            | true =>
              have b5 := btwB_iff.1 h_
              have H5 := Lib.hid h_
              clear h_
              obtain ⟨c1_0, c1_1, c1_2, c1_3, c1_4, c1_5, c1_6, c1_7, c1_8⟩ := zcs9 m1
              go_wp2_with fail
              clear c1_0
              clear c1_1
              clear c1_2
              clear c1_3
              clear c1_4
              clear c1_5
              clear c1_6
              clear c1_7
              clear c1_8
              have hcon := btw_any s.most 0 5000 W6
              (with_reducible refine hcon.mono ?_)
              clear hcon
              rintro e W7 ⟨rfl, hb⟩
              replace m1 := blk_below m1 hb
              replace mB := below_step mB hb
              clear hb
              have hs_W7 : w.heap.size ≤ W7.heap.size := mB.size
              cases h_ : btwB s.most 0 5000 with
              | false =>
                have HZ : Hid (seaE s = 2) := Lib.hid (by rw [HE.out, HB.out, H0.out, H1.out, H2.out, H3.out, H4.out, H5.out, h_]; simp)
                clear h_ HE HB
                go_wp2
                go_ret
                exact ⟨zq15, mB⟩
              | true =>
                have b6 := btwB_iff.1 h_
                have H6 := Lib.hid h_
                clear h_
                have p1 := mul_in (show 0 ≤ s.nx by omega) b0.2 (show 0 ≤ s.ny by omega) b1.2
                have p2 := mul_in (show 0 ≤ s.slots by omega) b4.2 (show 0 ≤ s.layers by omega) b5.2
                have p3 := mul_in p2.1 p2.2 p1.1 p1.2
                have e1 : wrap64 (s.nx * s.ny) = s.nx * s.ny := by unfold wrap64; omega
                have HN := Lib.hid e1
                try rw [e1]
                clear e1
                by_cases q7 : (s.shores.length : Int) = s.nx * s.ny
                case neg =>
                  have h_ : decide ((s.shores.length : Int) = s.nx * s.ny) = false := decide_eq_false q7
                  have e_ : ((s.shores.length : Int) == s.nx * s.ny) = false := beq_eq_false_iff_ne.2 q7
                  have e2_ : ((s.shores.length : Int) != s.nx * s.ny) = true := by rw [bne, e_]; rfl
                  clear q7
                  obtain ⟨c1_0, c1_1, c1_2, c1_3, c1_4, c1_5, c1_6, c1_7, c1_8⟩ := zcs9 m1
                  have HZ : Hid (seaE s = 2) := Lib.hid (by rw [HE.out, HB.out, H0.out, H1.out, H2.out, H3.out, H4.out, H5.out, H6.out, h_]; simp)
                  clear h_ HE HB
                  go_wp2
                  go_ret
                  exact ⟨zq15, mB⟩
                case pos =>
                  have h_ : decide ((s.shores.length : Int) = s.nx * s.ny) = true := decide_eq_true q7
                  have H7 := Lib.hid h_
                  have f7 : ((s.shores.length : Int) == s.nx * s.ny) = true := beq_iff_eq.2 q7
                  have g7 : ((s.shores.length : Int) != s.nx * s.ny) = false := by rw [bne, f7]; rfl
                  clear h_ q7
                  by_cases q8 : (s.currents.length : Int) = s.slots * s.layers * (s.nx * s.ny)
                  case neg =>
                    have h_ : decide ((s.currents.length : Int) = s.slots * s.layers * (s.nx * s.ny)) = false := decide_eq_false q8
                    have e_ : ((s.currents.length : Int) == s.slots * s.layers * (s.nx * s.ny)) = false := beq_eq_false_iff_ne.2 q8
                    have e2_ : ((s.currents.length : Int) != s.slots * s.layers * (s.nx * s.ny)) = true := by rw [bne, e_]; rfl
                    clear q8
                    obtain ⟨c1_0, c1_1, c1_2, c1_3, c1_4, c1_5, c1_6, c1_7, c1_8⟩ := zcs9 m1
                    have HZ : Hid (seaE s = 2) := Lib.hid (by rw [HE.out, HB.out, H0.out, H1.out, H2.out, H3.out, H4.out, H5.out, H6.out, H7.out, h_]; simp)
                    clear h_ HE HB
                    go_wp2
                    go_ret
                    exact ⟨zq15, mB⟩
                  case pos =>
                    have h_ : decide ((s.currents.length : Int) = s.slots * s.layers * (s.nx * s.ny)) = true := decide_eq_true q8
                    have H8 := Lib.hid h_
                    have f8 : ((s.currents.length : Int) == s.slots * s.layers * (s.nx * s.ny)) = true := beq_iff_eq.2 q8
                    have g8 : ((s.currents.length : Int) != s.slots * s.layers * (s.nx * s.ny)) = false := by rw [bne, f8]; rfl
                    clear h_ q8
                    obtain ⟨c1_0, c1_1, c1_2, c1_3, c1_4, c1_5, c1_6, c1_7, c1_8⟩ := zcs9 m1
                    go_wp2_with fail
                    clear c1_0
                    clear c1_1
                    clear c1_2
                    clear c1_3
                    clear c1_4
                    clear c1_5
                    clear c1_6
                    clear c1_7
                    clear c1_8
                    have hcon := cont40_any 76 #[.pointer (some ⟨g1, 0, none⟩)] (badC s.most) A8 c8 s.currents W7 (Kd.C_below hC8 mB) h8 (enters_of Try.func76 zq1 rfl) (fun x W hW => cs1_any g1 s A7 A8 c7 c8 x W b6.1 b6.2 (blk_below m1 hW))
                    (with_reducible refine hcon.mono ?_)
                    clear hcon
                    rintro e W8 ⟨rfl, hb⟩
                    replace m1 := blk_below m1 hb
                    replace mB := below_step mB hb
                    clear hb
                    have hs_W8 : w.heap.size ≤ W8.heap.size := mB.size
                    cases h_ : s.currents.any (badC s.most) with
                    | true =>
                      have HZ : Hid (seaE s = 2) := Lib.hid (by rw [HE.out, HB.out, H0.out, H1.out, H2.out, H3.out, H4.out, H5.out, H6.out, H7.out, H8.out, h_]; simp)
                      clear h_ HE HB
                      go_wp2
                      go_ret
                      exact ⟨zq15, mB⟩
                    | false =>
                      have HZ : Hid (seaE s = 0) := Lib.hid (by rw [HE.out, HB.out, H0.out, H1.out, H2.out, H3.out, H4.out, H5.out, H6.out, H7.out, H8.out, h_]; simp)
                      clear h_ HE HB
                      go_wp2
                      go_ret
                      exact ⟨zq15, mB⟩
end Go.Proofs.Ytmhaiihjfgfaoaa.Gl
end
section
/- A span that is moved for a dive. -/
namespace Go.Proofs.Ytmhaiihjfgfaoaa.Gl
open Go.RowKit Go.Shelf Go.Proofs.YtmhaiihjfgfaoaaW.PrintWords Go.Proofs.YtmhaiihjfgfaoaaW.PrintLast Go.Proofs.YtmhaiihjfgfaoaaW.PrintMore Go.Proofs.Ytmhaiihjfgfaoaa.Pr Go.Proofs.YtmhaiihjfgfaoaaW.Round
set_option linter.unusedVariables false
set_option linter.unusedSimpArgs false
attribute [local go_sem] max2_int min2_int max_two min_two max_four
/-- Down and up to whole numbers of a million. -/
def downM (x : Int) : Int := x / 1000000
def upM (x : Int) : Int := -((-x) / 1000000)
/-- A span that is moved by a speed and a current, for a dive. -/
def shiftI (dive : Int) (a : S27) (speed : Int) (u : S27) : S27 := ⟨a.f0 + downM ((speed + 1000 * u.f0) * dive), a.f1 + upM ((speed + 1000 * u.f1) * dive)⟩
theorem mul_abs {a b m n : Int} (h0 : -m ≤ a) (h1 : a ≤ m) (h2 : 0 ≤ b) (h3 : b ≤ n) (hm : 0 ≤ m) : -(m * n) ≤ a * b ∧ a * b ≤ m * n := by
  have k1 := Int.mul_le_mul_of_nonneg_right h1 h2
  have k2 := Int.mul_le_mul_of_nonneg_left h3 hm
  have k3 := Int.mul_le_mul_of_nonneg_right h0 h2
  rw [Int.neg_mul] at k3
  omega
theorem tdm (X : Int) : X = 1000000 * Int.tdiv X 1000000 + Int.tmod X 1000000 ∧ (0 ≤ X → 0 ≤ Int.tmod X 1000000 ∧ Int.tmod X 1000000 < 1000000) ∧ (X < 0 → -1000000 < Int.tmod X 1000000 ∧ Int.tmod X 1000000 ≤ 0) := by
  refine ⟨(Int.mul_tdiv_add_tmod X 1000000).symm, fun h => ?_, fun h => ?_⟩
  · rw [Int.tmod_eq_emod_of_nonneg h]
    omega
  · have e : X = -(-X) := by omega
    rw [e, Int.neg_tmod, Int.tmod_eq_emod_of_nonneg (show 0 ≤ -X by omega)]
    omega
theorem ret_span {a b c d : Int} (h : a = c) (h2 : b = d) : Ending.returned (.agg #[.int .i64 a, .int .i64 b]) = Ending.returned (.agg #[.int .i64 c, .int .i64 d]) := by rw [h, h2]
set_option maxRecDepth 100000 in
set_option maxHeartbeats 4000000 in
theorem shift_any (b : Nat) (s : Sea) (v : Veh) (a : S27) (speed : Int) (u : S27) (w : World) (hT : TripAt w b s v) (hV : VehN v) (ha0 : -1099511627776 ≤ a.f0 ∧ a.f0 ≤ 1099511627776) (ha1 : -1099511627776 ≤ a.f1 ∧ a.f1 ≤ 1099511627776) (hs0 : -5000000 ≤ speed ∧ speed ≤ 5000000) (hu0 : -5000 ≤ u.f0 ∧ u.f0 ≤ 5000) (hu1 : -5000 ≤ u.f1 ∧ u.f1 ≤ 5000) :
    Calls Try.prog 131 #[.pointer (some ⟨b, 0, none⟩), .agg #[.int .i64 a.f0, .int .i64 a.f1], .int .i64 speed, .agg #[.int .i64 u.f0, .int .i64 u.f1]] w (RetB (.agg #[.int .i64 (shiftI v.dive a speed u).f0, .int .i64 (shiftI v.dive a speed u).f1]) w) := by
  have hu27 := Try.underlying27
  obtain ⟨A7, c7, A8, c8, hB, _⟩ := hT
  have hd := hV.dive
  have m0 := mul_abs (a := speed + 1000 * u.f0) (b := v.dive) (m := 10000000) (n := 131072) (by omega) (by omega) (by omega) (by omega) (by omega)
  have m1 := mul_abs (a := speed + 1000 * u.f1) (b := v.dive) (m := 10000000) (n := 131072) (by omega) (by omega) (by omega) (by omega) (by omega)
  clear hV
  have HR : Hid (shiftI v.dive a speed u = ⟨a.f0 + downM ((speed + 1000 * u.f0) * v.dive), a.f1 + upM ((speed + 1000 * u.f1) * v.dive)⟩) := Lib.hid rfl
  go_enter Try.func131, Try.ntmps131
  go_wp2_with fail
  have mT := hB
  clear hB
  have hl_T := blk_lt mT
  have m5 : Blk (((w.alloc (.cells #[.int .i64 a.f0, .int .i64 a.f1] 27)).alloc (.cells #[.int .i64 u.f0, .int .i64 u.f1] 27)).alloc (.cells #[.int .i64 0, .int .i64 0] 27)) (w.heap.size) #[.int .i64 a.f0, .int .i64 a.f1] 27 := (blk_alloc (blk_alloc zq16 _) _)
  have m7 : Blk (((w.alloc (.cells #[.int .i64 a.f0, .int .i64 a.f1] 27)).alloc (.cells #[.int .i64 u.f0, .int .i64 u.f1] 27)).alloc (.cells #[.int .i64 0, .int .i64 0] 27)) (w.heap.size + 1) #[.int .i64 u.f0, .int .i64 u.f1] 27 := (blk_alloc (by have h_ := blk_new (w.alloc (.cells #[.int .i64 a.f0, .int .i64 a.f1] 27)) (.cells #[.int .i64 u.f0, .int .i64 u.f1] 27); first | exact h_ | (simp only [World.size_alloc] at h_; exact h_)) _)
  have m8 : Blk (((w.alloc (.cells #[.int .i64 a.f0, .int .i64 a.f1] 27)).alloc (.cells #[.int .i64 u.f0, .int .i64 u.f1] 27)).alloc (.cells #[.int .i64 0, .int .i64 0] 27)) (w.heap.size + 1 + 1) #[.int .i64 0, .int .i64 0] 27 := (by have h_ := blk_new ((w.alloc (.cells #[.int .i64 a.f0, .int .i64 a.f1] 27)).alloc (.cells #[.int .i64 u.f0, .int .i64 u.f1] 27)) (.cells #[.int .i64 0, .int .i64 0] 27); first | exact h_ | (simp only [World.size_alloc] at h_; exact h_))
  replace mT : Blk (((w.alloc (.cells #[.int .i64 a.f0, .int .i64 a.f1] 27)).alloc (.cells #[.int .i64 u.f0, .int .i64 u.f1] 27)).alloc (.cells #[.int .i64 0, .int .i64 0] 27)) b #[.int .i64 s.nx, .int .i64 s.ny, .int .i64 s.cell, .int .i64 s.slot, .int .i64 s.slots, .int .i64 s.layers, .int .i64 s.most, .slice A7 s.shores.length c7, .slice A8 s.currents.length c8, .int .i64 v.speed, .int .i64 v.dive, .int .i64 v.use.f0, .int .i64 v.use.f1, .int .i64 v.drift.f0, .int .i64 v.drift.f1, .int .i64 v.reserve] 110 := (blk_alloc (blk_alloc (blk_alloc mT _) _) _)
  have mB : Below w.heap.size w (((w.alloc (.cells #[.int .i64 a.f0, .int .i64 a.f1] 27)).alloc (.cells #[.int .i64 u.f0, .int .i64 u.f1] 27)).alloc (.cells #[.int .i64 0, .int .i64 0] 27)) := (below_alloc (below_alloc (below_alloc (Below.refl w.heap.size w) _) _) _)
  have hsz_ : w.heap.size ≤ w.heap.size := Nat.le_refl _
  generalize hW_ : (((w.alloc (.cells #[.int .i64 a.f0, .int .i64 a.f1] 27)).alloc (.cells #[.int .i64 u.f0, .int .i64 u.f1] 27)).alloc (.cells #[.int .i64 0, .int .i64 0] 27)) = W1 at mT m5 m7 m8 mB ⊢
  clear hW_
  generalize hg5 : w.heap.size = g5 at m5 m7 m8 ⊢
  have hn_T_5 : b ≠ g5 := by omega
  have hn_5_T : g5 ≠ b := hn_T_5.symm
  have hG5 : w.heap.size ≤ g5 := by omega
  generalize hg7 : g5 + 1 = g7 at m7 m8 ⊢
  have hn_T_7 : b ≠ g7 := by omega
  have hn_5_7 : g5 ≠ g7 := by omega
  have hn_7_T : g7 ≠ b := hn_T_7.symm
  have hn_7_5 : g7 ≠ g5 := hn_5_7.symm
  have hG7 : w.heap.size ≤ g7 := by omega
  generalize hg8 : g7 + 1 = g8 at m8 ⊢
  have hn_T_8 : b ≠ g8 := by omega
  have hn_5_8 : g5 ≠ g8 := by omega
  have hn_7_8 : g7 ≠ g8 := by omega
  have hn_8_T : g8 ≠ b := hn_T_8.symm
  have hn_8_5 : g8 ≠ g5 := hn_5_8.symm
  have hn_8_7 : g8 ≠ g7 := hn_7_8.symm
  have hG8 : w.heap.size ≤ g8 := by omega
  clear hsz_ hl_T
  try clear hg8
  try clear hg7
  try clear hg5
  have hs_W1 : w.heap.size ≤ W1.heap.size := mB.size
  replace mT := blk_drew mT
  replace m5 := blk_drew m5
  replace m7 := blk_drew m7
  replace m8 := blk_drew m8
  replace mB := below_drew1 mB
  have wf0_1 : wrap64 (1000 * u.f0) = 1000 * u.f0 := by unfold wrap64; omega
  have wf0_2 : wrap64 (speed + 1000 * u.f0) = speed + 1000 * u.f0 := by unfold wrap64; omega
  have wf0_3 : wrap64 ((speed + 1000 * u.f0) * v.dive) = (speed + 1000 * u.f0) * v.dive := by unfold wrap64; omega
  have wf1_1 : wrap64 (1000 * u.f1) = 1000 * u.f1 := by unfold wrap64; omega
  have wf1_2 : wrap64 (speed + 1000 * u.f1) = speed + 1000 * u.f1 := by unfold wrap64; omega
  have wf1_3 : wrap64 ((speed + 1000 * u.f1) * v.dive) = (speed + 1000 * u.f1) * v.dive := by unfold wrap64; omega
  refine start_ (n := 25) (S := fun w' => w'.cell? ⟨g7, 0, none⟩ = some (.int .i64 u.f0) ∧ w'.cell? ⟨g7, 1, none⟩ = some (.int .i64 u.f1) ∧ w'.cell? ⟨g5, 0, none⟩ = some (.int .i64 a.f0) ∧ w'.cell? ⟨g5, 1, none⟩ = some (.int .i64 a.f1) ∧ w'.cell? ⟨b, 10, none⟩ = some (.int .i64 v.dive)) (ds := [24]) #[false, false, false, false, false, false, false, false, false, false, false, false, false, false, false, false, false, false, false, false, false, false, false, false, false] zq1 rfl rfl ⟨((blk_cell m7 0).trans rfl), ((blk_cell m7 1).trans rfl), ((blk_cell m5 0).trans rfl), ((blk_cell m5 1).trans rfl), ((blk_cell mT 10).trans rfl)⟩ (fun hHeld => ?_)
  generalize hWd : World.drew _ = Wx at mB mT m5 m7 m8 hHeld ⊢
  clear hWd
  refine zpz (i := 0) (N := some 12) zq1 ?_
  refine zpz (i := 1) (N := some 13) zq1 ?_
  refine zpz (i := 5) (N := some 17) zq1 ?_
  refine zpz (i := 6) (N := some 18) zq1 ?_
  refine zpz (i := 7) (N := some 19) zq1 ?_
  refine zpz (i := 8) (N := some 20) zq1 ?_
  refine zpz (i := 11) (N := some 23) zq1 ?_
  refine zpz (i := 12) (N := some 24) zq1 ?_
  refine zpz (i := 16) (N := some 28) zq1 ?_
  refine zpz (i := 17) (N := some 29) zq1 ?_
  refine zpz (i := 18) (N := some 30) zq1 ?_
  refine zpz (i := 19) (N := some 31) zq1 ?_
  refine ztz (i := 2) (N := some 14) zq1 hHeld ?_
  refine zpz (i := 3) (N := some 15) zq1 ?_
  refine zpz (i := 4) (N := some 16) zq1 ?_
  refine ztz (i := 9) (N := some 21) zq1 hHeld ?_
  refine zpz (i := 10) (N := some 22) zq1 ?_
  refine ztz (i := 13) (N := some 25) zq1 hHeld ?_
  refine zpz (i := 14) (N := some 26) zq1 ?_
  refine zpz (i := 15) (N := some 27) zq1 ?_
  refine ztz (i := 20) (N := some 32) zq1 hHeld ?_
  refine zpz (i := 21) (N := some 33) zq1 ?_
  refine zpz (i := 22) (N := some 34) zq1 ?_
  refine one_ (i := 23) (N := some 9) #[true, true, true, true, true, true, true, true, true, true, true, true, true, true, true, true, true, true, true, true, true, true, true, true, false] rfl rfl zq1 (by decide) (fun K hK => ?_)
  refine value_ (w1 := ?_) (v := ?_) (by rfl) rfl ?_ ?_
  rotate_left 2
  · go_simp
    constructor
    · rfl
    · rfl
  refine hK.out _ _ ⟨((blk_cell (blk_alloc m7 (.cells #[.int .i64 0, .int .i64 0] 27)) 0).trans rfl), ((blk_cell (blk_alloc m7 (.cells #[.int .i64 0, .int .i64 0] 27)) 1).trans rfl), ((blk_cell (blk_alloc m5 (.cells #[.int .i64 0, .int .i64 0] 27)) 0).trans rfl), ((blk_cell (blk_alloc m5 (.cells #[.int .i64 0, .int .i64 0] 27)) 1).trans rfl), ((blk_cell (blk_alloc mT (.cells #[.int .i64 0, .int .i64 0] 27)) 10).trans rfl)⟩ (fun hHeld => ?_)
  clear hK K
  refine norm_ zq17 ?_
  refine last_ (i := 24) (N := none) #[true, true, true, true, true, true, true, true, true, true, true, true, true, true, true, true, true, true, true, true, true, true, true, true, true] rfl rfl zq1 (by decide) (fun K hK => ?_)
  have hq_ := blk_new Wx (.cells #[.int .i64 0, .int .i64 0] 27)
  have hf0_ := blk_frozen hq_ 0
  have hf1_ := blk_frozen hq_ 1
  have hc0_ := (blk_cell hq_ 0).trans rfl
  have hc1_ := (blk_cell hq_ 1).trans rfl
  refine skip_ (w1 := ?_) (by rfl) rfl ?_ ?_
  rotate_left
  · go_simp
    rfl
  clear hq_ hf0_ hf1_ hc0_ hc1_
  refine hK.out _ _ ?_
  clear hK K
  refine done_ zq1 ?_
  clear wf0_1 wf0_2 wf0_3
  clear wf1_1 wf1_2 wf1_3
  have hs_Wx : w.heap.size ≤ Wx.heap.size := mB.size
  have hl_T := blk_lt mT
  have hl_5 := blk_lt m5
  have hl_7 := blk_lt m7
  have hl_8 := blk_lt m8
  have m9 : Blk (Wx.alloc (.cells #[.int .i64 ((speed + 1000 * u.f0) * v.dive), .int .i64 ((speed + 1000 * u.f1) * v.dive)] 27)) (Wx.heap.size) #[.int .i64 ((speed + 1000 * u.f0) * v.dive), .int .i64 ((speed + 1000 * u.f1) * v.dive)] 27 := (by have h_ := blk_new Wx (.cells #[.int .i64 ((speed + 1000 * u.f0) * v.dive), .int .i64 ((speed + 1000 * u.f1) * v.dive)] 27); first | exact h_ | (simp only [World.size_alloc] at h_; exact h_))
  replace mT : Blk (Wx.alloc (.cells #[.int .i64 ((speed + 1000 * u.f0) * v.dive), .int .i64 ((speed + 1000 * u.f1) * v.dive)] 27)) b #[.int .i64 s.nx, .int .i64 s.ny, .int .i64 s.cell, .int .i64 s.slot, .int .i64 s.slots, .int .i64 s.layers, .int .i64 s.most, .slice A7 s.shores.length c7, .slice A8 s.currents.length c8, .int .i64 v.speed, .int .i64 v.dive, .int .i64 v.use.f0, .int .i64 v.use.f1, .int .i64 v.drift.f0, .int .i64 v.drift.f1, .int .i64 v.reserve] 110 := (blk_alloc mT _)
  replace m5 : Blk (Wx.alloc (.cells #[.int .i64 ((speed + 1000 * u.f0) * v.dive), .int .i64 ((speed + 1000 * u.f1) * v.dive)] 27)) g5 #[.int .i64 a.f0, .int .i64 a.f1] 27 := (blk_alloc m5 _)
  replace m7 : Blk (Wx.alloc (.cells #[.int .i64 ((speed + 1000 * u.f0) * v.dive), .int .i64 ((speed + 1000 * u.f1) * v.dive)] 27)) g7 #[.int .i64 u.f0, .int .i64 u.f1] 27 := (blk_alloc m7 _)
  replace m8 : Blk (Wx.alloc (.cells #[.int .i64 ((speed + 1000 * u.f0) * v.dive), .int .i64 ((speed + 1000 * u.f1) * v.dive)] 27)) g8 #[.int .i64 0, .int .i64 0] 27 := (blk_alloc m8 _)
  replace mB : Below w.heap.size w (Wx.alloc (.cells #[.int .i64 ((speed + 1000 * u.f0) * v.dive), .int .i64 ((speed + 1000 * u.f1) * v.dive)] 27)) := (below_alloc mB _)
  have hsz_ : w.heap.size ≤ Wx.heap.size := hs_Wx
  generalize hW_ : (Wx.alloc (.cells #[.int .i64 ((speed + 1000 * u.f0) * v.dive), .int .i64 ((speed + 1000 * u.f1) * v.dive)] 27)) = W2 at mT m5 m7 m8 m9 mB ⊢
  clear hW_
  generalize hg9 : Wx.heap.size = g9 at m9 ⊢
  have hn_T_9 : b ≠ g9 := by omega
  have hn_5_9 : g5 ≠ g9 := by omega
  have hn_7_9 : g7 ≠ g9 := by omega
  have hn_8_9 : g8 ≠ g9 := by omega
  have hn_9_T : g9 ≠ b := hn_T_9.symm
  have hn_9_5 : g9 ≠ g5 := hn_5_9.symm
  have hn_9_7 : g9 ≠ g7 := hn_7_9.symm
  have hn_9_8 : g9 ≠ g8 := hn_8_9.symm
  have hG9 : w.heap.size ≤ g9 := by omega
  clear hsz_ hl_T hl_5 hl_7 hl_8
  try clear hg9
  have hs_W2 : w.heap.size ≤ W2.heap.size := mB.size
  have t0 := tdm ((speed + 1000 * u.f0) * v.dive)
  have t1 := tdm ((speed + 1000 * u.f1) * v.dive)
  generalize (speed + 1000 * u.f0) * v.dive = X at *
  generalize (speed + 1000 * u.f1) * v.dive = Y at *
  generalize hq0 : Int.tdiv X 1000000 = q0 at *
  generalize hr0 : Int.tmod X 1000000 = r0 at *
  generalize hq1 : Int.tdiv Y 1000000 = q1 at *
  generalize hr1 : Int.tmod Y 1000000 = r1 at *
  have bq0 : -10000000000000 ≤ q0 ∧ q0 ≤ 10000000000000 := by omega
  have bq1 : -10000000000000 ≤ q1 ∧ q1 ≤ 10000000000000 := by omega
  have T0 := Lib.hid t0
  have T1 := Lib.hid t1
  clear t0 t1
  obtain ⟨c5_0, c5_1⟩ := zcs2 m5
  obtain ⟨c9_0, c9_1⟩ := zcs2 m9
  obtain ⟨c8_0, c8_1, f8_0, f8_1⟩ := zce2 m8
  go_wp2_with fail
  go_quiet (fail)
  clear hq0 hq1
  go_wp2
  all_goals
    have t0 := T0.out
    have t1 := T1.out
    try simp only [bne_iff_ne, ne_eq, bne_eq_false_iff_eq] at *
    exact bodyPost_ret (results_cell_row rfl _ _ g8 27 #[_, _] (0, 0) _ rfl (blk_put (blk_put (blk_drewN m8 _) 0 _ rfl) 1 _ rfl) Try.underlying27 rfl zq1) rfl ⟨ret_span (by rw [HR.out]; unfold downM; dsimp only; omega) (by rw [HR.out]; unfold upM; dsimp only; omega), (((pw_below_drewN mB) _).setCell hG8 _).setCell hG8 _⟩
end Go.Proofs.Ytmhaiihjfgfaoaa.Gl
end
section
/- The cells that a box touches, one after another. -/
namespace Go.Proofs.Ytmhaiihjfgfaoaa.Gl
open Go.RowKit Go.Shelf Go.Proofs.YtmhaiihjfgfaoaaW.PrintWords Go.Proofs.YtmhaiihjfgfaoaaW.PrintLast Go.Proofs.YtmhaiihjfgfaoaaW.PrintMore Go.Proofs.Ytmhaiihjfgfaoaa.Pr Go.Proofs.YtmhaiihjfgfaoaaW.Round
set_option linter.unusedVariables false
set_option linter.unusedSimpArgs false
attribute [local go_sem] max2_int min2_int max_two min_two max_four
attribute [local go_sem] Oper.semAt_some
def rowT (nx i0 : Int) (n : Nat) (k : Int) : List Int := (List.range n).map fun j : Nat => k * nx + (i0 + (j : Int))
def allT (nx i0 : Int) (n : Nat) (k0 : Int) (m : Nat) : List Int := (List.range m).flatMap fun r : Nat => rowT nx i0 n (k0 + (r : Int))
def uptoT (nx i0 : Int) (n : Nat) (k0 : Int) (q j : Nat) : List Int := allT nx i0 n k0 q ++ rowT nx i0 j (k0 + (q : Int))
theorem uptoT_zero (nx i0 : Int) (n : Nat) (k0 : Int) : uptoT nx i0 n k0 0 0 = [] := rfl
theorem uptoT_row (nx i0 : Int) (n : Nat) (k0 : Int) (q : Nat) : uptoT nx i0 n k0 q 0 = allT nx i0 n k0 q := by unfold uptoT rowT; simp
theorem uptoT_succ (nx i0 : Int) (n : Nat) (k0 : Int) (q j : Nat) : uptoT nx i0 n k0 q (j + 1) = uptoT nx i0 n k0 q j ++ [(k0 + (q : Int)) * nx + (i0 + (j : Int))] := by
  unfold uptoT rowT
  rw [List.range_succ, List.map_append, List.map_singleton, List.append_assoc]
theorem allT_succ (nx i0 : Int) (n : Nat) (k0 : Int) (q : Nat) : allT nx i0 n k0 (q + 1) = uptoT nx i0 n k0 q n := by
  unfold uptoT allT
  rw [List.range_succ, List.flatMap_append, List.flatMap_singleton]
theorem allT_pre (nx i0 : Int) (n : Nat) (k0 : Int) : ∀ (d q : Nat), allT nx i0 n k0 q <+: allT nx i0 n k0 (q + d)
  | 0, q => List.prefix_refl _
  | d + 1, q => by
    refine (allT_pre nx i0 n k0 d q).trans ?_
    rw [show q + (d + 1) = (q + d) + 1 by omega, allT_succ]
    exact List.prefix_append _ _
theorem uptoT_pre {nx i0 : Int} {n : Nat} {k0 : Int} {m q j : Nat} (hq : q < m) (hj : j ≤ n) : uptoT nx i0 n k0 q j <+: allT nx i0 n k0 m := by
  have h1 : uptoT nx i0 n k0 q j <+: uptoT nx i0 n k0 q n := by
    unfold uptoT
    refine (List.prefix_append_right_inj _).2 ?_
    unfold rowT
    refine List.IsPrefix.map _ ?_
    rw [show n = j + (n - j) by omega, List.range_add]
    exact List.prefix_append _ _
  rw [← allT_succ] at h1
  have h2 := allT_pre nx i0 n k0 (m - (q + 1)) (q + 1)
  rw [show q + 1 + (m - (q + 1)) = m by omega] at h2
  exact h1.trans h2
/-- The number of a cell. -/
abbrev CellN (s : Sea) := { c : Int // 0 ≤ c ∧ c < s.nx * s.ny }
/-- The cells that a box touches. -/
def touchL (s : Sea) (x : S31) : List Int := allT s.nx (numI s.cell x.f0 s.nx).1 ((numI s.cell x.f0 s.nx).2 + 1 - (numI s.cell x.f0 s.nx).1).toNat (numI s.cell x.f1 s.ny).1 ((numI s.cell x.f1 s.ny).2 + 1 - (numI s.cell x.f1 s.ny).1).toNat
def AllT (s : Sea) (x : S31) (xs : List (CellN s)) : Prop := xs.map Subtype.val = touchL s x
def PreT (s : Sea) (x : S31) (xs : List (CellN s)) : Prop := xs.map Subtype.val <+: touchL s x
theorem numI_in {c : Int} {a : S27} {most : Int} (hc : 1 ≤ c) (h0 : 0 ≤ a.f0) (h1 : 0 ≤ a.f1) (hm : 1 ≤ most) : (0 ≤ (numI c a most).1 ∧ (numI c a most).1 ≤ most - 1) ∧ (0 ≤ (numI c a most).2 ∧ (numI c a most).2 ≤ most - 1) := by
  have d0 := div_in h0 hc
  have d1 := div_in h1 hc
  unfold numI firstI
  dsimp only
  split <;> omega
/-- A box in the sea. -/
def InSea (s : Sea) (x : S31) : Prop := (0 ≤ x.f0.f0 ∧ x.f0.f0 ≤ 1099511627776) ∧ (0 ≤ x.f0.f1 ∧ x.f0.f1 ≤ 1099511627776) ∧ (0 ≤ x.f1.f0 ∧ x.f1.f0 ≤ 1099511627776) ∧ (0 ≤ x.f1.f1 ∧ x.f1.f1 ≤ 1099511627776)
set_option maxHeartbeats 1000000 in
theorem touched_any (b : Nat) (x : S31) (w : World) : Calls Try.prog 118 #[.pointer (some ⟨b, 0, none⟩), .agg #[.int .i64 x.f0.f0, .int .i64 x.f0.f1, .int .i64 x.f1.f0, .int .i64 x.f1.f1]] w fun e w' => e = .returned (.func (.func 135) #[] #[.pointer (some ⟨w.heap.size, 0, none⟩), .pointer (some ⟨w.heap.size + 1, 0, none⟩)]) ∧ w' = (w.alloc (.cells #[.pointer (some ⟨b, 0, none⟩)] 104)).alloc (.cells #[.int .i64 x.f0.f0, .int .i64 x.f0.f1, .int .i64 x.f1.f0, .int .i64 x.f1.f1] 31) := by
  have hu31 := Try.underlying31
  go_enter Try.func118, Try.ntmps118
  go_wp2
  go_ret
  exact ⟨rfl, rfl⟩
theorem row_in {nx ny k : Int} (hx : 1 ≤ nx) (h0 : 0 ≤ k) (h1 : k ≤ ny - 1) : 0 ≤ k * nx ∧ k * nx ≤ nx * ny - nx := by
  refine ⟨Int.mul_nonneg h0 (by omega), ?_⟩
  have h := Int.mul_le_mul_of_nonneg_right h1 (show 0 ≤ nx by omega)
  rw [Int.sub_mul, Int.one_mul, Int.mul_comm ny nx] at h
  exact h

/-- What the iterator reads. -/
def Env (w0 : World) (bp bx b : Nat) (x : S31) (W : World) : Prop := Below w0.heap.size w0 W ∧ Blk W bp #[.pointer (some ⟨b, 0, none⟩)] 104 ∧ Blk W bx #[.int .i64 x.f0.f0, .int .i64 x.f0.f1, .int .i64 x.f1.f0, .int .i64 x.f1.f1] 31
theorem Env.below {w0 : World} {bp bx b : Nat} {x : S31} {W W1 : World} (h : Env w0 bp bx b x W) (hb : Below W.heap.size W W1) : Env w0 bp bx b x W1 := ⟨below_step h.1 hb, h.2.1.below hb, h.2.2.below hb⟩
set_option maxRecDepth 100000 in
set_option maxHeartbeats 4000000 in
theorem touched1_in (n : Nat) (hn : 1 ≤ n) (l bp bx : Nat) (w0 : World) (b : Nat) (s : Sea) (v : Veh) (x : S31) (hT : TripAt w0 b s v) (hS : SeaN s) (hx : InSea s x) (Kp : World → World → Prop) (hKp : ∀ A B, Kp A B → Env w0 bp bx b x A → Env w0 bp bx b x B) (J Jx : List (CellN s) → World → Prop)
    (hY : ∀ pre c W, J pre W → pre.length < (touchL s x).length → YieldAt Fence.wide (n - 1) Try.prog l #[.int .i64 c.1] W fun e W' =>
      (e = .returned (.bool true) ∧ J (pre ++ [c]) W' ∧ Kp W W') ∨ (e = .returned (.bool false) ∧ Jx (pre ++ [c]) W'))
    (hJa : ∀ (f : List (CellN s)) W W', J f W → Below W.heap.size W W' → J f W')
    (W : World) (hE : Env w0 bp bx b x W) (h0 : J [] W) :
    CallsIn Fence.wide n Try.prog 135 #[.func (.yield l) #[] #[], .pointer (some ⟨bp, 0, none⟩), .pointer (some ⟨bx, 0, none⟩)] W fun e W' => (∃ v, e = .returned v) ∧
      ((∃ xs, AllT s x xs ∧ J xs W') ∨ (∃ pre, PreT s x pre ∧ Jx pre W')) := by
  have hu31 := Try.underlying31
  have hu27 := Try.underlying27
  obtain ⟨⟨x0, x1⟩, ⟨x2, x3⟩, ⟨x4, x5⟩, x6, x7⟩ := hx
  have hcl := hS.cell
  have hnx := hS.nx
  have hny := hS.ny
  have gI := numI_in (c := s.cell) (a := x.f0) (most := s.nx) (by omega) x0 x2 hnx.1
  have gK := numI_in (c := s.cell) (a := x.f1) (most := s.ny) (by omega) x4 x6 hny.1
  have kN := fun W (h : TripAt W b s v) => numbers_any b s v x.f0 s.nx W h hS x0 x1 x2 x3 hnx.1 hnx.2
  have kM := fun W (h : TripAt W b s v) => numbers_any b s v x.f1 s.ny W h hS x4 x5 x6 x7 hny.1 hny.2
  have hAll : touchL s x = allT s.nx (numI s.cell x.f0 s.nx).1 ((numI s.cell x.f0 s.nx).2 + 1 - (numI s.cell x.f0 s.nx).1).toNat (numI s.cell x.f1 s.ny).1 ((numI s.cell x.f1 s.ny).2 + 1 - (numI s.cell x.f1 s.ny).1).toNat := rfl
  generalize numI s.cell x.f0 s.nx = I at *
  generalize numI s.cell x.f1 s.ny = K at *
  obtain ⟨i0, i1⟩ := I
  obtain ⟨k0, k1⟩ := K
  dsimp only at gI gK kN kM hAll
  obtain ⟨⟨i2, i3⟩, i4, i5⟩ := gI
  obtain ⟨⟨k2, k3⟩, k4, k5⟩ := gK
  have HAll := Lib.hid hAll
  clear hAll hcl
  have hE0 := hE
  obtain ⟨hb0, mP, mX⟩ := hE0
  obtain ⟨A7, c7, A8, c8, mT, _⟩ := hT.below hb0
  clear hb0
  refine callsIn_of_wp Try.func135 rfl trivial ?_ rfl
  simp only [Try.ntmps135, List.size_toArray, List.length_cons, List.length_nil, Nat.reduceAdd, Nat.reduceSub, Array.replicate_succ, Array.replicate_zero, List.push_toArray, List.append_toArray, List.nil_append, List.cons_append]
  gi_wp2_with fail
  refine wpIn_only (wpIn_wide.2 ?_)
  replace mT := blk_drew mT
  replace mP := blk_drew mP
  replace mX := blk_drew mX
  replace h0 := hJa _ _ _ h0 (below_drew1 (Below.refl _ _))
  replace hE := hE.below (below_drew1 (Below.refl _ _))
  refine start_ (n := 14) (S := fun w' => w'.cell? ⟨bp, 0, none⟩ = some (.pointer (some ⟨b, 0, none⟩)) ∧ w'.cell? ⟨bx, 0, none⟩ = some (.int .i64 x.f0.f0) ∧ w'.cell? ⟨bx, 1, none⟩ = some (.int .i64 x.f0.f1) ∧ w'.cell? ⟨b, 0, none⟩ = some (.int .i64 s.nx)) (ds := []) #[false, false, false, false, false, false, false, false, false, false, false, false, false, false] zq1 rfl rfl ⟨((blk_cell mP 0).trans rfl), ((blk_cell mX 0).trans rfl), ((blk_cell mX 1).trans rfl), ((blk_cell mT 0).trans rfl)⟩ (fun hHeld => ?_)
  generalize hWd : World.drew _ = Wx at *
  clear hWd
  refine zpz (i := 1) (N := some 12) zq1 ?_
  refine ztz (i := 0) (N := some 11) zq1 hHeld ?_
  refine ztz (i := 2) (N := some 13) zq1 hHeld ?_
  refine ztz (i := 3) (N := some 14) zq1 hHeld ?_
  refine zpz (i := 4) (N := some 15) zq1 ?_
  refine zpz (i := 5) (N := some 16) zq1 ?_
  refine zpz (i := 6) (N := some 17) zq1 ?_
  refine ztz (i := 7) (N := some 18) zq1 hHeld ?_
  refine one_ (i := 8) (N := some 19) #[true, true, true, true, true, true, true, true, true, false, false, false, false, false] rfl rfl zq1 (by decide) (fun K hK => ?_)
  have hcon_ := kN Wx (hT.below hE.1)
  refine goes_ Try.func136 zq1 rfl #[.pointer (some ⟨b, 0, none⟩), .agg #[.int .i64 x.f0.f0, .int .i64 x.f0.f1], .int .i64 s.nx] (by rfl) rfl rfl zq18 ?_
  with_reducible refine (hcon_).mono ?_
  rintro e W1 ⟨rfl, hb2⟩
  refine ⟨_, rfl, ?_⟩
  clear hcon_
  replace mT := blk_below mT hb2
  replace mP := blk_below mP hb2
  replace mX := blk_below mX hb2
  replace h0 := hJa _ _ _ h0 hb2
  replace hE := hE.below hb2
  clear hb2
  refine hK.out _ _ ⟨((blk_cell mP 0).trans rfl), ((blk_cell mX 0).trans rfl), ((blk_cell mX 1).trans rfl), ((blk_cell mT 0).trans rfl)⟩ (fun hHeld => ?_)
  clear hK K
  refine norm_ (by show Act.put _ (some 19) _ = _; simp only [Act.put, List.setIfInBounds_toArray, List.set_cons_zero, List.set_cons_succ, i64_w, i32_w]; rfl) ?_
  refine zpz (i := 9) (N := some 10) zq1 ?_
  refine zpz (i := 10) (N := some 20) zq1 ?_
  refine zpz (i := 11) (N := some 21) zq1 ?_
  refine zpz (i := 12) (N := some 4) zq1 ?_
  refine zpz (i := 13) (N := some 5) zq1 ?_
  refine done_ zq1 ?_
  refine onlyN_normal ?_
  gi_wp2_with fail
  refine wpIn_only (wpIn_wide.2 ?_)
  replace mT := blk_drew mT
  replace mP := blk_drew mP
  replace mX := blk_drew mX
  replace h0 := hJa _ _ _ h0 (below_drew1 (Below.refl _ _))
  replace hE := hE.below (below_drew1 (Below.refl _ _))
  refine start_ (n := 14) (S := fun w' => w'.cell? ⟨bp, 0, none⟩ = some (.pointer (some ⟨b, 0, none⟩)) ∧ w'.cell? ⟨bx, 2, none⟩ = some (.int .i64 x.f1.f0) ∧ w'.cell? ⟨bx, 3, none⟩ = some (.int .i64 x.f1.f1) ∧ w'.cell? ⟨b, 1, none⟩ = some (.int .i64 s.ny)) (ds := []) #[false, false, false, false, false, false, false, false, false, false, false, false, false, false] zq1 rfl rfl ⟨((blk_cell mP 0).trans rfl), ((blk_cell mX 2).trans rfl), ((blk_cell mX 3).trans rfl), ((blk_cell mT 1).trans rfl)⟩ (fun hHeld => ?_)
  generalize hWd : World.drew _ = Wx at *
  clear hWd
  refine zpz (i := 1) (N := some 24) zq1 ?_
  refine ztz (i := 0) (N := some 23) zq1 hHeld ?_
  refine ztz (i := 2) (N := some 25) zq1 hHeld ?_
  refine ztz (i := 3) (N := some 26) zq1 hHeld ?_
  refine zpz (i := 4) (N := some 27) zq1 ?_
  refine zpz (i := 5) (N := some 28) zq1 ?_
  refine zpz (i := 6) (N := some 29) zq1 ?_
  refine ztz (i := 7) (N := some 30) zq1 hHeld ?_
  refine one_ (i := 8) (N := some 31) #[true, true, true, true, true, true, true, true, true, false, false, false, false, false] rfl rfl zq1 (by decide) (fun K hK => ?_)
  have hcon_ := kM Wx (hT.below hE.1)
  refine goes_ Try.func136 zq1 rfl #[.pointer (some ⟨b, 0, none⟩), .agg #[.int .i64 x.f1.f0, .int .i64 x.f1.f1], .int .i64 s.ny] (by rfl) rfl rfl zq18 ?_
  with_reducible refine (hcon_).mono ?_
  rintro e W2 ⟨rfl, hb2⟩
  refine ⟨_, rfl, ?_⟩
  clear hcon_
  replace mT := blk_below mT hb2
  replace mP := blk_below mP hb2
  replace mX := blk_below mX hb2
  replace h0 := hJa _ _ _ h0 hb2
  replace hE := hE.below hb2
  clear hb2
  refine hK.out _ _ ⟨((blk_cell mP 0).trans rfl), ((blk_cell mX 2).trans rfl), ((blk_cell mX 3).trans rfl), ((blk_cell mT 1).trans rfl)⟩ (fun hHeld => ?_)
  clear hK K
  refine norm_ (by show Act.put _ (some 31) _ = _; simp only [Act.put, List.setIfInBounds_toArray, List.set_cons_zero, List.set_cons_succ, i64_w, i32_w]; rfl) ?_
  refine zpz (i := 9) (N := some 22) zq1 ?_
  refine zpz (i := 10) (N := some 32) zq1 ?_
  refine zpz (i := 11) (N := some 33) zq1 ?_
  refine zpz (i := 12) (N := some 6) zq1 ?_
  refine zpz (i := 13) (N := some 7) zq1 ?_
  refine done_ zq1 ?_
  refine onlyN_normal ?_
  clear mT mP mX kN kM
  gi_wp2
  gi_loopw [8] (fun i wr => ∃ (q : Nat) (pre : List (CellN s)), q ≤ (k1 + 1 - k0).toNat ∧ i = .int .i64 (k0 + (q : Int)) ∧ Hid (pre.map Subtype.val = uptoT s.nx i0 (i1 + 1 - i0).toNat k0 q 0) ∧ Env w0 bp bx b x wr ∧ J pre wr) (fun i _ => (k1 + 1 - intOf i).toNat)
  case atStart => exact ⟨0, [], Nat.zero_le _, by simp, Lib.hid (by rw [uptoT_zero]; rfl), hE, h0⟩
  case round =>
    clear hE h0
    obtain ⟨q, pre, hq, rfl, HP, hE, hJs⟩ := hrel
    by_cases hlt : k0 + (q : Int) ≤ k1
    · gi_wp2
      gi_loopw [9] (fun i wr2 => ∃ (j : Nat) (pre2 : List (CellN s)), j ≤ (i1 + 1 - i0).toNat ∧ i = .int .i64 (i0 + (j : Int)) ∧ Hid (pre2.map Subtype.val = uptoT s.nx i0 (i1 + 1 - i0).toNat k0 q j) ∧ Env w0 bp bx b x wr2 ∧ J pre2 wr2) (fun i _ => (i1 + 1 - intOf i).toNat)
      case atStart => exact ⟨0, pre, Nat.zero_le _, by simp, HP, hE, hJs⟩
      case round =>
        clear hE hJs
        obtain ⟨j, pre2, hj, rfl, HQ, hE, hJ2⟩ := hrel
        by_cases hjk : i0 + (j : Int) ≤ i1
        · have hlen : pre2.length < (touchL s x).length := by
            have h1 := uptoT_pre (nx := s.nx) (i0 := i0) (k0 := k0) (show q < (k1 + 1 - k0).toNat by omega) (show j + 1 ≤ (i1 + 1 - i0).toNat by omega)
            have h2 := h1.length_le
            rw [uptoT_succ, ← HQ.out, ← HAll.out] at h2
            simp at h2
            omega
          have hr := row_in (ny := s.ny) (k := k0 + (q : Int)) hnx.1 (by omega) (by omega)
          have hxy := mul_in (show 0 ≤ s.nx by omega) hnx.2 (show 0 ≤ s.ny by omega) hny.2
          obtain ⟨fn, tmps, assign, body, hy, hR⟩ := hY pre2 ⟨(k0 + (q : Int)) * s.nx + (i0 + (j : Int)), by omega, by omega⟩ _ hJ2 hlen
          dsimp only at hy
          have hE0 := hE
          obtain ⟨hb0, mP, _⟩ := hE0
          obtain ⟨A7, c7, A8, c8, mT, _⟩ := hT.below hb0
          clear hb0
          have cP := (blk_cell mP 0).trans rfl
          have cT := (blk_cell mT 0).trans rfl
          clear mT mP
          gi_wp2
          refine hR.mono ?_
          rintro e W3 (⟨rfl, hJ3, hk3⟩ | ⟨rfl, hJx3⟩)
          · clear cP cT
            have hE3 := hKp _ _ hk3 hE
            clear hk3 hE
            gi_wp2
            go_roundw
            case rel => exact ⟨j + 1, _, by omega, by simp; omega, Lib.hid (by rw [List.map_append, HQ.out, uptoT_succ]; rfl), hE3, hJ3⟩
            case measure => simp [intOf]; omega
          · gi_wp2
            refine bodyPost_ret (results_none rfl _ _ _) rfl ?_
            refine ⟨⟨_, rfl⟩, .inr ⟨_, ?_, hJx3⟩⟩
            show List.map Subtype.val _ <+: _
            rw [List.map_append, HQ.out, List.map_singleton, ← uptoT_succ, HAll.out]
            exact uptoT_pre (by omega) (by omega)
        · obtain rfl : j = (i1 + 1 - i0).toNat := by omega
          gi_wp2
          go_roundw
          case rel => exact ⟨q + 1, pre2, by omega, by simp; omega, Lib.hid (by rw [HQ.out, uptoT_row, ← allT_succ]), hE, hJ2⟩
          case measure => simp [intOf]; omega
    · obtain rfl : q = (k1 + 1 - k0).toNat := by omega
      gi_wp2
      go_end0
      exact ⟨⟨_, rfl⟩, .inl ⟨pre, by unfold AllT; rw [HAll.out, HP.out, uptoT_row], hJs⟩⟩
end Go.Proofs.Ytmhaiihjfgfaoaa.Gl
end
section
/- Does a box touch a shore? -/
namespace Go.Proofs.Ytmhaiihjfgfaoaa.Gl
open Go.RowKit Go.Shelf Go.Proofs.YtmhaiihjfgfaoaaW.PrintWords Go.Proofs.YtmhaiihjfgfaoaaW.PrintLast Go.Proofs.YtmhaiihjfgfaoaaW.PrintMore Go.Proofs.Ytmhaiihjfgfaoaa.Pr Go.Proofs.YtmhaiihjfgfaoaaW.Round
set_option linter.unusedVariables false
set_option linter.unusedSimpArgs false
attribute [local go_sem] max2_int min2_int max_two min_two max_four
attribute [local go_sem] Oper.semAt_some
theorem Blk.belowH {W W1 : World} {b : Nat} {c : Array Value} {t : TypeId} (h : W.heap[b]? = some (.cells c t (0, 0))) (hb : Below W.heap.size W W1) : Blk W1 b c t := (hb.block b (Array.getElem?_eq_some_iff.1 h).1).trans h
theorem blk_grownO {B b : Nat} {c : Array Value} {t : TypeId} {X Y : World} {row : Option Nat} (hs : Blk X b c t) (hg : X.grownBy Y row) (hr : ∀ r, row = some r → B ≤ r ∧ ∃ o : Obj, X.heap[r]? = some o ∧ o.isCells = false) : Blk Y b c t :=
  (hg.block b (Array.getElem?_eq_some_iff.1 hs).1 (fun e => by obtain ⟨_, o, ho, hc⟩ := hr b e.symm; rw [show X.heap[b]? = _ from hs] at ho; cases ho; cases hc)).trans hs
theorem keepsFrom_below {B : Nat} {W W1 : World} (hb : Below W.heap.size W W1) : KeepsFrom B W W1 :=
  ⟨hb.size, fun k o _ h0 _ => (hb.block k (Array.getElem?_eq_some_iff.1 h0).1).trans h0⟩
theorem blk_ownFrom {β : Type} (B b : Nat) (f : β → Array Value) (t : TypeId) : OwnFrom B (fun s W => Blk W b (f s) t) := fun s X Y row hs hg hr => blk_grownO hs hg hr
theorem ownFrom_pure {β : Type} (B : Nat) (f : β → Prop) : OwnFrom B (fun s (_ : World) => f s) := fun s X Y row hs hg hr => hs
/-- A result in a cell of one number. -/
theorem results_ci {P : Program} {fn : Func} {p : Tmp} {ty : TypeId} {k : IntKind} (h : fn.results = #[.cell p ty]) (tmps : Array Value) (w : World) (g : Nat) (t : TypeId) (v : Value) (hp : tmps.getD p undef = .pointer (some ⟨g, 0, none⟩)) (hg : w.heap[g]? = some (.cells #[v] t (0, 0))) (hu : P.underlying ty = some (.int k)) :
    (results fn tmps).run P w = .ok v w := by
  have hp' : tmps[p]?.getD undef = .pointer (some ⟨g, 0, none⟩) := by simpa using hp
  have hc : w.cell? ⟨g, 0, none⟩ = some v := (blk_cell hg 0).trans rfl
  have hb : (loadVar ty ⟨g, 0, none⟩).run P w = .ok v w := by
    have ha : (isAgg ty).run P w = .ok false w := by
      unfold isAgg
      rw [Sem.run_bind, run_underlying hu w]
      rfl
    unfold loadVar
    rw [Sem.run_bind, ha]
    go_simp
  simp [results, h, hp', asAddr, hb]
/-- The error of a box that touches a shore. -/
def safeE (s : Sea) (x : S31) : Int := if (touchL s x).any (fun c => rdOf false s.shores c) then 21 else 0
theorem safe_no {s : Sea} {x : S31} {xs : List (CellN s)} (h : AllT s x xs) (hf : ∀ c ∈ xs, rdOf false s.shores c.1 = false) : safeE s x = 0 := by
  unfold safeE
  rw [← show xs.map Subtype.val = touchL s x from h, if_neg]
  rw [List.any_map, List.any_eq_true]
  rintro ⟨c, hc, h1⟩
  have h2 := hf c hc
  rw [show rdOf false s.shores c.1 = true from h1] at h2
  cases h2
theorem safe_yes {s : Sea} {x : S31} {ini : List (CellN s)} {last : CellN s} (h : PreT s x (ini ++ [last])) (hl : rdOf false s.shores last.1 = true) : safeE s x = 21 := by
  unfold safeE
  obtain ⟨t, ht⟩ := h
  rw [← ht, if_pos]
  rw [List.map_append, List.any_append, List.any_append]
  simp [hl]
set_option maxRecDepth 100000 in
set_option maxHeartbeats 4000000 in
theorem safe_any (b : Nat) (s : Sea) (v : Veh) (x : S31) (w : World) (hT : TripAt w b s v) (hS : SeaN s) (hx : InSea s x) (hsh : (s.shores.length : Int) = s.nx * s.ny) :
    Calls Try.prog 115 #[.pointer (some ⟨b, 0, none⟩), .agg #[.int .i64 x.f0.f0, .int .i64 x.f0.f1, .int .i64 x.f1.f0, .int .i64 x.f1.f1]] w (RetB (.int .i64 (safeE s x)) w) := by
  have hu31 := Try.underlying31
  have hxy := mul_in (show 0 ≤ s.nx by have := hS.nx; omega) hS.nx.2 (show 0 ≤ s.ny by have := hS.ny; omega) hS.ny.2
  have HSH := Lib.hid hsh
  clear hsh
  refine (callsIn_wide (n := 6)).1 ?_
  refine callsIn_of_wp_marks Try.func115 rfl trivial ?_ rfl
  simp only [Try.ntmps115, List.size_toArray, List.length_cons, List.length_nil, Nat.reduceAdd, Nat.reduceSub, Array.replicate_succ, Array.replicate_zero, List.push_toArray, List.append_toArray, List.nil_append, List.cons_append]
  gi_wp2_with fail
  refine ⟨trivial, (callsIn_wide.2 (touched_any _ _ _)).mono ?_⟩
  rintro e W_ ⟨rfl, rfl⟩
  gi_wp2_with fail
  have m2 : Blk (((((w.alloc (.cells #[.pointer (some ⟨b, 0, none⟩)] 104)).alloc (.cells #[.int .i64 x.f0.f0, .int .i64 x.f0.f1, .int .i64 x.f1.f0, .int .i64 x.f1.f1] 31)).alloc (.cells #[.int .i64 0] 36)).alloc (.cells #[.pointer (some ⟨b, 0, none⟩)] 104)).alloc (.cells #[.int .i64 x.f0.f0, .int .i64 x.f0.f1, .int .i64 x.f1.f0, .int .i64 x.f1.f1] 31)) (w.heap.size) #[.pointer (some ⟨b, 0, none⟩)] 104 := (blk_alloc (blk_alloc (blk_alloc (blk_alloc zq19 _) _) _) _)
  have m3 : Blk (((((w.alloc (.cells #[.pointer (some ⟨b, 0, none⟩)] 104)).alloc (.cells #[.int .i64 x.f0.f0, .int .i64 x.f0.f1, .int .i64 x.f1.f0, .int .i64 x.f1.f1] 31)).alloc (.cells #[.int .i64 0] 36)).alloc (.cells #[.pointer (some ⟨b, 0, none⟩)] 104)).alloc (.cells #[.int .i64 x.f0.f0, .int .i64 x.f0.f1, .int .i64 x.f1.f0, .int .i64 x.f1.f1] 31)) (w.heap.size + 1) #[.int .i64 x.f0.f0, .int .i64 x.f0.f1, .int .i64 x.f1.f0, .int .i64 x.f1.f1] 31 := (blk_alloc (blk_alloc (blk_alloc zq20 _) _) _)
  have m4 : Blk (((((w.alloc (.cells #[.pointer (some ⟨b, 0, none⟩)] 104)).alloc (.cells #[.int .i64 x.f0.f0, .int .i64 x.f0.f1, .int .i64 x.f1.f0, .int .i64 x.f1.f1] 31)).alloc (.cells #[.int .i64 0] 36)).alloc (.cells #[.pointer (some ⟨b, 0, none⟩)] 104)).alloc (.cells #[.int .i64 x.f0.f0, .int .i64 x.f0.f1, .int .i64 x.f1.f0, .int .i64 x.f1.f1] 31)) (w.heap.size + 1 + 1) #[.int .i64 0] 36 := (blk_alloc (blk_alloc (by have h_ := blk_new ((w.alloc (.cells #[.pointer (some ⟨b, 0, none⟩)] 104)).alloc (.cells #[.int .i64 x.f0.f0, .int .i64 x.f0.f1, .int .i64 x.f1.f0, .int .i64 x.f1.f1] 31)) (.cells #[.int .i64 0] 36); first | exact h_ | (simp only [World.size_alloc] at h_; exact h_)) _) _)
  have mP : Blk (((((w.alloc (.cells #[.pointer (some ⟨b, 0, none⟩)] 104)).alloc (.cells #[.int .i64 x.f0.f0, .int .i64 x.f0.f1, .int .i64 x.f1.f0, .int .i64 x.f1.f1] 31)).alloc (.cells #[.int .i64 0] 36)).alloc (.cells #[.pointer (some ⟨b, 0, none⟩)] 104)).alloc (.cells #[.int .i64 x.f0.f0, .int .i64 x.f0.f1, .int .i64 x.f1.f0, .int .i64 x.f1.f1] 31)) (w.heap.size + 1 + 1 + 1) #[.pointer (some ⟨b, 0, none⟩)] 104 := (blk_alloc (by have h_ := blk_new (((w.alloc (.cells #[.pointer (some ⟨b, 0, none⟩)] 104)).alloc (.cells #[.int .i64 x.f0.f0, .int .i64 x.f0.f1, .int .i64 x.f1.f0, .int .i64 x.f1.f1] 31)).alloc (.cells #[.int .i64 0] 36)) (.cells #[.pointer (some ⟨b, 0, none⟩)] 104); first | exact h_ | (simp only [World.size_alloc] at h_; exact h_)) _)
  have mX : Blk (((((w.alloc (.cells #[.pointer (some ⟨b, 0, none⟩)] 104)).alloc (.cells #[.int .i64 x.f0.f0, .int .i64 x.f0.f1, .int .i64 x.f1.f0, .int .i64 x.f1.f1] 31)).alloc (.cells #[.int .i64 0] 36)).alloc (.cells #[.pointer (some ⟨b, 0, none⟩)] 104)).alloc (.cells #[.int .i64 x.f0.f0, .int .i64 x.f0.f1, .int .i64 x.f1.f0, .int .i64 x.f1.f1] 31)) (w.heap.size + 1 + 1 + 1 + 1) #[.int .i64 x.f0.f0, .int .i64 x.f0.f1, .int .i64 x.f1.f0, .int .i64 x.f1.f1] 31 := (by have h_ := blk_new ((((w.alloc (.cells #[.pointer (some ⟨b, 0, none⟩)] 104)).alloc (.cells #[.int .i64 x.f0.f0, .int .i64 x.f0.f1, .int .i64 x.f1.f0, .int .i64 x.f1.f1] 31)).alloc (.cells #[.int .i64 0] 36)).alloc (.cells #[.pointer (some ⟨b, 0, none⟩)] 104)) (.cells #[.int .i64 x.f0.f0, .int .i64 x.f0.f1, .int .i64 x.f1.f0, .int .i64 x.f1.f1] 31); first | exact h_ | (simp only [World.size_alloc] at h_; exact h_))
  have mB : Below w.heap.size w (((((w.alloc (.cells #[.pointer (some ⟨b, 0, none⟩)] 104)).alloc (.cells #[.int .i64 x.f0.f0, .int .i64 x.f0.f1, .int .i64 x.f1.f0, .int .i64 x.f1.f1] 31)).alloc (.cells #[.int .i64 0] 36)).alloc (.cells #[.pointer (some ⟨b, 0, none⟩)] 104)).alloc (.cells #[.int .i64 x.f0.f0, .int .i64 x.f0.f1, .int .i64 x.f1.f0, .int .i64 x.f1.f1] 31)) := (below_alloc (below_alloc (below_alloc (below_alloc (below_alloc (Below.refl w.heap.size w) _) _) _) _) _)
  have hsz_ : w.heap.size ≤ w.heap.size := Nat.le_refl _
  generalize hW_ : (((((w.alloc (.cells #[.pointer (some ⟨b, 0, none⟩)] 104)).alloc (.cells #[.int .i64 x.f0.f0, .int .i64 x.f0.f1, .int .i64 x.f1.f0, .int .i64 x.f1.f1] 31)).alloc (.cells #[.int .i64 0] 36)).alloc (.cells #[.pointer (some ⟨b, 0, none⟩)] 104)).alloc (.cells #[.int .i64 x.f0.f0, .int .i64 x.f0.f1, .int .i64 x.f1.f0, .int .i64 x.f1.f1] 31)) = W0 at m2 m3 m4 mP mX mB ⊢
  clear hW_
  generalize hg2 : w.heap.size = g2 at m2 m3 m4 mP mX ⊢
  have hG2 : w.heap.size ≤ g2 := by omega
  generalize hg3 : g2 + 1 = g3 at m3 m4 mP mX ⊢
  have hn_2_3 : g2 ≠ g3 := by omega
  have hn_3_2 : g3 ≠ g2 := hn_2_3.symm
  have hG3 : w.heap.size ≤ g3 := by omega
  generalize hg4 : g3 + 1 = g4 at m4 mP mX ⊢
  have hn_2_4 : g2 ≠ g4 := by omega
  have hn_3_4 : g3 ≠ g4 := by omega
  have hn_4_2 : g4 ≠ g2 := hn_2_4.symm
  have hn_4_3 : g4 ≠ g3 := hn_3_4.symm
  have hG4 : w.heap.size ≤ g4 := by omega
  generalize hgP : g4 + 1 = gP at mP mX ⊢
  have hn_2_P : g2 ≠ gP := by omega
  have hn_3_P : g3 ≠ gP := by omega
  have hn_4_P : g4 ≠ gP := by omega
  have hn_P_2 : gP ≠ g2 := hn_2_P.symm
  have hn_P_3 : gP ≠ g3 := hn_3_P.symm
  have hn_P_4 : gP ≠ g4 := hn_4_P.symm
  have hGP : w.heap.size ≤ gP := by omega
  generalize hgX : gP + 1 = gX at mX ⊢
  have hn_2_X : g2 ≠ gX := by omega
  have hn_3_X : g3 ≠ gX := by omega
  have hn_4_X : g4 ≠ gX := by omega
  have hn_P_X : gP ≠ gX := by omega
  have hn_X_2 : gX ≠ g2 := hn_2_X.symm
  have hn_X_3 : gX ≠ g3 := hn_3_X.symm
  have hn_X_4 : gX ≠ g4 := hn_4_X.symm
  have hn_X_P : gX ≠ gP := hn_P_X.symm
  have hGX : w.heap.size ≤ gX := by omega
  clear hsz_
  try clear hgX
  try clear hgP
  try clear hg4
  try clear hg3
  try clear hg2
  have hs_W0 : w.heap.size ≤ W0.heap.size := mB.size
  refine wpIn_rangeFunc_ownH rfl (by omega) (gf := 135) (lb := #[.pointer (some ⟨gP, 0, none⟩), .pointer (some ⟨gX, 0, none⟩)]) rfl trivial (enters_of Try.func135 zq1 rfl)
    (encs := fun c : CellN s => #[.int .i64 c.1]) (Kp := Below W0.heap.size) (S := AllT s x) (Sp := PreT s x) (N := (touchL s x).length) (w0 := W0)
    (fun l J Jx W hW hJ _ hY h0 => touched1_in 5 (by omega) l gP gX W0 b s v x (hT.below mB) hS hx (Below W0.heap.size) (fun A B h hE => ⟨hE.1.trans h, (h.block gP (blk_lt mP)).trans hE.2.1, (h.block gX (blk_lt mX)).trans hE.2.2⟩) J Jx hY (fun f X Y h hB => hJ f X Y none h ⟨hB.os, hB.tape, hB.output, hB.size, fun k hk _ => hB.block k hk⟩ (fun r e => by cases e)) W ⟨hW, Blk.belowH mP hW, Blk.belowH mX hW⟩ h0) belowK_t (belowK_b (by omega)) (Below.refl _ _) (fun _ => rfl)
    (fun pre W => (∀ c ∈ pre, rdOf false s.shores c.1 = false) ∧ Blk W g2 #[.pointer (some ⟨b, 0, none⟩)] 104 ∧ Blk W g4 #[.int .i64 0] 36 ∧ Below w.heap.size w W)
    (fun c pre W => ∃ ini last, (c = .ret ∧ pre = ini ++ [last] ∧ rdOf false s.shores last.1 = true) ∧ Blk W g4 #[.int .i64 21] 36 ∧ Below w.heap.size w W)
    (OwnFrom.and (ownFrom_pure _ _) (OwnFrom.and (blk_ownFrom _ _ (fun _ => _) _) (OwnFrom.and (blk_ownFrom _ _ (fun _ => _) _) (ownFrom_below (by omega) (by omega)))))
    (fun c pre X Y row hs hg hr => by
      obtain ⟨ini, last, h1, h2, h3⟩ := hs
      exact ⟨ini, last, h1, blk_grownO h2 hg hr, ownFrom_below (by omega) (by omega) () X Y row h3 hg hr⟩)
    ⟨by simp, m2, m4, mB⟩
    (fun c a' W => a' = { tmps := #[.pointer (some ⟨b, 0, none⟩), .agg #[.int .i64 x.f0.f0, .int .i64 x.f0.f1, .int .i64 x.f1.f0, .int .i64 x.f1.f1], .pointer (some ⟨g2, 0, none⟩), .pointer (some ⟨g3, 0, none⟩), .pointer (some ⟨g4, 0, none⟩), .int .i64 c.1, .pointer (some ⟨b, 0, none⟩), .agg #[.int .i64 x.f0.f0, .int .i64 x.f0.f1, .int .i64 x.f1.f0, .int .i64 x.f1.f1], .func (.func 135) #[] #[.pointer (some ⟨gP, 0, none⟩), .pointer (some ⟨gX, 0, none⟩)], .int .i64 c.1, undef, undef, undef, undef, undef, undef, undef, undef], defers := [] })
    (fun c a' s X Y row hs hg hr => hs) ?assign ?body ?done ?stop
  case assign =>
    rintro l pre c W K hI hK
    gi_wp2
    exact hK _ _ ((KeepsOthers.refl W).from _) (Below.refl _ _) hI rfl
  case body =>
    rintro l pre c a' W hlW ⟨r, hr⟩ ⟨h0, h2, h4, hB⟩ rfl hlen
    have hT2 := hT.below hB
    obtain ⟨A7, c7, A8, c8, hBt, q1, q2, _⟩ := hT2
    have hlt : c.1 < (s.shores.length : Int) := by rw [HSH.out]; exact c.2.2
    have hge := c.2.1
    obtain ⟨ad, e_, hx_⟩ := Kd.at_bool q2 c.1 hge hlt
    cases e_
    have c2 := (blk_cell h2 0).trans rfl
    have ct := (blk_cell hBt 7).trans rfl
    clear hBt q1 q2 hr
    cases hv : rdOf false s.shores c.1 with
    | false =>
      rw [hv] at hx_
      have HV := Lib.hid hv
      clear hv
      gi_wp2
      exact ⟨(KeepsOthers.refl W).from _, Below.refl _ _, by
        intro p hp
        rcases List.mem_append.1 hp with hp | hp
        · exact h0 p hp
        · obtain rfl := List.mem_singleton.1 hp
          exact HV.out, h2, h4, hB⟩
    | true =>
      rw [hv] at hx_
      have HV := Lib.hid hv
      clear hv
      have c4 := (blk_cell h4 0).trans rfl
      have f4 := blk_frozen h4 0
      gi_wp2
      exact ⟨(KeepsOthers.setCell _ _ _).from _, pre, c, ⟨rfl, rfl, HV.out⟩, blk_put h4 0 _ rfl, hB.setCell hG4 _⟩
  case done =>
    rintro D_ xs W hD hxs ⟨h0, h2, h4, hB⟩ hK
    have hE := Lib.hid (safe_no hxs h0)
    clear h0
    have c4 := (blk_cell h4 0).trans rfl
    have f4 := blk_frozen h4 0
    gi_wp2
    have hne : D_ ≠ g4 := by have h_ := blk_lt m4; omega
    refine ⟨by simp, .inl ⟨_, _, rfl, run_takeDeferred ((Below.heap_setCell _ _ _ D_ hne).trans hK), ?_⟩⟩
    exact ⟨_, results_ci rfl _ _ g4 36 (.int .i64 0) rfl ((World.putObj_heap_other (fun e => hne e.symm)).trans (blk_put h4 0 _ rfl)) Try.underlying36, by rw [hE.out], (hB.setCell hG4 _).trans (belowK_b (w := w) (Nat.le_refl _) _ D_ _ _ (by have h_ := hB.size; omega) ((Below.heap_setCell _ _ _ D_ hne).trans hK) rfl rfl)⟩
  case stop =>
    rintro D_ c pre W hD hp ⟨ini, last, ⟨rfl, rfl, h1⟩, h4, hB⟩ hK
    have hE := Lib.hid (safe_yes hp h1)
    gi_wp2
    have hne : D_ ≠ g4 := by have h_ := blk_lt m4; omega
    refine ⟨by simp, .inl ⟨_, _, rfl, run_takeDeferred hK, ?_⟩⟩
    exact ⟨_, results_ci rfl _ _ g4 36 (.int .i64 21) rfl ((World.putObj_heap_other (fun e => hne e.symm)).trans h4) Try.underlying36, by rw [hE.out], hB.trans (belowK_b (w := w) (Nat.le_refl _) _ D_ _ _ (by omega) hK rfl rfl)⟩
end Go.Proofs.Ytmhaiihjfgfaoaa.Gl
end
section
namespace Go.Proofs.Ytmhaiihjfgfaoaa.Pr
open Go.RowKit Go.Proofs.YtmhaiihjfgfaoaaW.PrintWords Go.Proofs.YtmhaiihjfgfaoaaW.PrintLast Go.Proofs.YtmhaiihjfgfaoaaW.PrintMore
attribute [local go_sem] max2_int min2_int max_two min_two max_four
set_option linter.unusedVariables false
set_option linter.unusedSimpArgs false

/-! ### glider_hull: function 119 -/
def glider_hull.f (a0_0 : Int) (a0_1 : Int) (a0_2 : Int) (a0_3 : Int) (a1_0 : Int) (a1_1 : Int) (a1_2 : Int) (a1_3 : Int) : Option (Int × Int × Int × Int) := some (mn a0_0 a1_0, mx a0_1 a1_1, mn a0_2 a1_2, mx a0_3 a1_3)
set_option maxHeartbeats 8000000 in
set_option maxRecDepth 100000 in
theorem glider_hull.calls (a0_0 : Int) (a0_1 : Int) (a0_2 : Int) (a0_3 : Int) (a1_0 : Int) (a1_1 : Int) (a1_2 : Int) (a1_3 : Int) (r1 : Int) (r2 : Int) (r3 : Int) (r4 : Int) (w : World) (h : glider_hull.f a0_0 a0_1 a0_2 a0_3 a1_0 a1_1 a1_2 a1_3 = some (r1, r2, r3, r4)) :
    Calls Try.prog 119 #[.agg #[.int .i64 a0_0, .int .i64 a0_1, .int .i64 a0_2, .int .i64 a0_3], .agg #[.int .i64 a1_0, .int .i64 a1_1, .int .i64 a1_2, .int .i64 a1_3]] w fun e w' => e = .returned (.agg #[.int .i64 r1, .int .i64 r2, .int .i64 r3, .int .i64 r4]) ∧ Below w.heap.size w w' := by
  have hu31 := Try.underlying31
  have hu27 := Try.underlying27
  have HB := Aside0.mk (Below.refl w.heap.size w)
  have H : (some (mn a0_0 a1_0, mx a0_1 a1_1, mn a0_2 a1_2, mx a0_3 a1_3)) = some (r1, r2, r3, r4) := h
  clear h
  obtain ⟨ji3, hji3⟩ : ∃ j_ : Int, (mn a0_0 a1_0) = j_ := ⟨_, rfl⟩
  replace H : (some (ji3, mx a0_1 a1_1, mn a0_2 a1_2, mx a0_3 a1_3)) = some (r1, r2, r3, r4) := by first | (rw [hji3] at H; exact H) | (simp only [hji3] at H ⊢; exact H)
  have hji3_ : (if a1_0 < a0_0 then a1_0 else a0_0) = ji3 := hji3
  obtain ⟨ji4, hji4⟩ : ∃ j_ : Int, (mx a0_1 a1_1) = j_ := ⟨_, rfl⟩
  replace H : (some (ji3, ji4, mn a0_2 a1_2, mx a0_3 a1_3)) = some (r1, r2, r3, r4) := by first | (rw [hji4] at H; exact H) | (simp only [hji4] at H ⊢; exact H)
  have hji4_ : (if a0_1 < a1_1 then a1_1 else a0_1) = ji4 := hji4
  obtain ⟨ji5, hji5⟩ : ∃ j_ : Int, (mn a0_2 a1_2) = j_ := ⟨_, rfl⟩
  replace H : (some (ji3, ji4, ji5, mx a0_3 a1_3)) = some (r1, r2, r3, r4) := by first | (rw [hji5] at H; exact H) | (simp only [hji5] at H ⊢; exact H)
  have hji5_ : (if a1_2 < a0_2 then a1_2 else a0_2) = ji5 := hji5
  obtain ⟨ji6, hji6⟩ : ∃ j_ : Int, (mx a0_3 a1_3) = j_ := ⟨_, rfl⟩
  replace H : (some (ji3, ji4, ji5, ji6)) = some (r1, r2, r3, r4) := by first | (rw [hji6] at H; exact H) | (simp only [hji6] at H ⊢; exact H)
  have hji6_ : (if a0_3 < a1_3 then a1_3 else a0_3) = ji6 := hji6
  simp only [Option.some.injEq, Prod.mk.injEq] at H
  obtain ⟨rfl, rfl, rfl, rfl⟩ := H
  go_enter Try.func119, Try.ntmps119
  go_wp2_with (first | ((with_reducible refine gate_dst (N := 2) rfl ?_); refine box_event (by rfl) (N := 2) (by rfl) (cs := #[.int .i64 a0_0, .int .i64 a0_1, .int .i64 a0_2, .int .i64 a0_3]) (t := 31) zq5 ?_; intro gb192 hg w7 hbox hb; have BK192 := Aside0.mk (hbox); have GW192 := zgs HB hg; have GE192 := zgs HB hg; replace HB := zbs HB hb; clear hb hbox hg) | ((with_reducible refine gate_dst (N := 3) rfl ?_); refine box_event (by rfl) (N := 3) (by rfl) (cs := #[.int .i64 a1_0, .int .i64 a1_1, .int .i64 a1_2, .int .i64 a1_3]) (t := 31) zq5 ?_; intro gb193 hg w8 hbox hb; have BK193 := Aside0.mk (hbox); have GW193 := zgs HB hg; have GE193 := zgs HB hg; have NB192_193 := znp BK192 hg; have NB193_192 := znq BK192 hg; replace BK192 := zbb BK192 hb; replace HB := zbs HB hb; clear hb hbox hg) | ((with_reducible refine gate_dst (N := 4) rfl ?_); refine box_event (by rfl) (N := 4) (by rfl) (cs := #[.int .i64 0, .int .i64 0, .int .i64 0, .int .i64 0]) (t := 31) zq5 ?_; intro gb194 hg w9 hbox hb; have BK194 := Aside0.mk (hbox); have GW194 := zgs HB hg; have GE194 := zgs HB hg; have NB192_194 := znp BK192 hg; have NB194_192 := znq BK192 hg; have NB193_194 := znp BK193 hg; have NB194_193 := znq BK193 hg; replace BK192 := zbb BK192 hb; replace BK193 := zbb BK193 hb; replace HB := zbs HB hb; clear hb hbox hg; have hnb10 := NB192_193.out; have hnc10 := NB193_192.out; have hnb11 := NB192_194.out; have hnc11 := NB194_192.out; obtain ⟨hcz12_0, hcz12_1, hcz12_2, hcz12_3, hfz12_0, hfz12_1, hfz12_2, hfz12_3⟩ := zce4 BK192.out; have hnb13 := NB193_194.out; have hnc13 := NB194_193.out; obtain ⟨hcz14_0, hcz14_1, hcz14_2, hcz14_3, hfz14_0, hfz14_1, hfz14_2, hfz14_3⟩ := zce4 BK193.out; obtain ⟨hcz15_0, hcz15_1, hcz15_2, hcz15_3, hfz15_0, hfz15_1, hfz15_2, hfz15_3⟩ := zce4 BK194.out))
  refine bodyPost_ret (results_cell_row rfl _ _ gb194 31 #[.int .i64 ji3, .int .i64 ji4, .int .i64 ji5, .int .i64 ji6] (0, 0) _ rfl (by (with_reducible repeat (first | refine blk_drewN ?_ _ | refine blk_drew ?_ | refine blk_alloc ?_ _)); refine blk_put (cs := #[.int .i64 ji3, .int .i64 ji4, .int .i64 ji5, .int .i64 0]) ?_ 3 _ rfl; (with_reducible repeat (first | refine blk_drewN ?_ _ | refine blk_drew ?_ | refine blk_alloc ?_ _)); refine blk_put (cs := #[.int .i64 ji3, .int .i64 ji4, .int .i64 0, .int .i64 0]) ?_ 2 _ rfl; (with_reducible repeat (first | refine blk_drewN ?_ _ | refine blk_drew ?_ | refine blk_alloc ?_ _)); refine blk_put (cs := #[.int .i64 ji3, .int .i64 0, .int .i64 0, .int .i64 0]) ?_ 1 _ rfl; (with_reducible repeat (first | refine blk_drewN ?_ _ | refine blk_drew ?_ | refine blk_alloc ?_ _)); refine blk_put (cs := #[.int .i64 0, .int .i64 0, .int .i64 0, .int .i64 0]) ?_ 0 _ rfl; (with_reducible repeat (first | refine blk_drewN ?_ _ | refine blk_drew ?_ | refine blk_alloc ?_ _)); exact BK194.out) Try.underlying31 rfl zq1) rfl ?_
  exact ⟨by first | rfl | (simp [errW_none, errW_some] <;> rfl) | (simp only [← hji3, ← hji4, ← hji5, ← hji6]; first | rfl | (simp [errW_none, errW_some] <;> rfl)) | (simp [*, errW_none, errW_some] <;> rfl), zbz⟩

end Go.Proofs.Ytmhaiihjfgfaoaa.Pr
end
