/- Part 5 of the proof of TopSearched: what the functions compute. No condition. -/
import Derived.Test.YthglkoddmpicdaaTsTopSearched3
import Derived.Test.YthglkoddmpicdaaTsTopSearched4
set_option linter.unusedVariables false
set_option linter.unusedSimpArgs false
section
namespace Go.Proofs.Ythglkoddmpicdaa.Pr
open Go.RowKit Go.Proofs.YthglkoddmpicdaaW.PrintWords Go.Proofs.YthglkoddmpicdaaW.PrintLast Go.Proofs.YthglkoddmpicdaaW.PrintMore
attribute [local go_sem] max2_int min2_int max_two min_two max_four
set_option linter.unusedVariables false
set_option linter.unusedSimpArgs false

/-! ### glider_Lasts: function 49 -/
def glider_Lasts.f (k : Nat) (a0_0 : Int) (a0_1 : Int) (a0_2 : Int) (a0_3 : Int) (a0_4 : Int) (a0_5 : Int) (a0_6 : Int) (a1_0 : Int) (a1_1 : Int) : Option (Int × Int) := (glider_CheckVehicle.f k a0_0 a0_1 a0_2 a0_3 a0_4 a0_5 a0_6).bind fun t135 => (if t135 = 0 then ((glider_bounded.f k a1_0 a1_1 0 1073741824).bind fun t136 => (if t136 = true then (if a1_0 < a0_6 then (some (0, 19)) else (if (mx a0_3 a0_5) = 0 then (some (0, 4)) else (some (wrap64 (Int.tdiv (wrap64 (a1_0 - a0_6)) (mx a0_3 a0_5)), 0)))) else (some (0, 2)))) else (some (0, t135)))
theorem glider_Lasts.mono : ∀ a0 a1 a2 a3 a4 a5 a6 a7 a8 k, LeO (glider_Lasts.f k a0 a1 a2 a3 a4 a5 a6 a7 a8) (glider_Lasts.f (k + 1) a0 a1 a2 a3 a4 a5 a6 a7 a8) := by
 intro a0 a1 a2 a3 a4 a5 a6 a7 a8 k
 unfold glider_Lasts.f
 repeat' first
   | (with_reducible exact glider_CheckVehicle.mono _ _ _ _ _ _ _ _)
   | (with_reducible exact glider_bounded.mono _ _ _ _ _)
   | (with_reducible exact LeO.refl _)
   | (with_reducible exact LeO.none _)
   | (with_reducible refine LeO.ite ?_ ?_)
   | (with_reducible refine LeO.bind ?_ (fun _ => ?_))
   | exact glider_CheckVehicle.mono _ _ _ _ _ _ _ _
   | exact glider_bounded.mono _ _ _ _ _
   | exact LeO.none _
   | refine LeO.ite ?_ ?_
   | refine LeO.bind ?_ (fun _ => ?_)
set_option maxHeartbeats 8000000 in
set_option maxRecDepth 100000 in
theorem glider_Lasts.calls (k : Nat) (a0_0 : Int) (a0_1 : Int) (a0_2 : Int) (a0_3 : Int) (a0_4 : Int) (a0_5 : Int) (a0_6 : Int) (a1_0 : Int) (a1_1 : Int) (r1 : Int) (r2 : Int) (w : World) (h : glider_Lasts.f k a0_0 a0_1 a0_2 a0_3 a0_4 a0_5 a0_6 a1_0 a1_1 = some (r1, r2)) :
  Calls Try.prog 49 #[.agg #[.int .i64 a0_0, .int .i64 a0_1, .int .i64 a0_2, .int .i64 a0_3, .int .i64 a0_4, .int .i64 a0_5, .int .i64 a0_6], .agg #[.int .i64 a1_0, .int .i64 a1_1]] w fun e w' => e = .returned (.tuple #[.int .i64 r1, .int .i64 r2]) ∧ Below w.heap.size w w' := by
 have hu41 := Try.underlying41
 have hu27 := Try.underlying27
 have HB := Aside0.mk (Below.refl w.heap.size w)
 have H : ((glider_CheckVehicle.f k a0_0 a0_1 a0_2 a0_3 a0_4 a0_5 a0_6).bind fun t135 => (if t135 = 0 then ((glider_bounded.f k a1_0 a1_1 0 1073741824).bind fun t136 => (if t136 = true then (if a1_0 < a0_6 then (some (0, 19)) else (if (mx a0_3 a0_5) = 0 then (some (0, 4)) else (some (wrap64 (Int.tdiv (wrap64 (a1_0 - a0_6)) (mx a0_3 a0_5)), 0)))) else (some (0, 2)))) else (some (0, t135)))) = some (r1, r2) := h
 clear h
 obtain ⟨ji3, hji3⟩ : ∃ j_ : Int, (mx a0_3 a0_5) = j_ := ⟨_, rfl⟩
 replace H : ((glider_CheckVehicle.f k a0_0 a0_1 a0_2 a0_3 a0_4 a0_5 a0_6).bind fun t135 => (if t135 = 0 then ((glider_bounded.f k a1_0 a1_1 0 1073741824).bind fun t136 => (if t136 = true then (if a1_0 < a0_6 then (some (0, 19)) else (if (ji3) = 0 then (some (0, 4)) else (some (wrap64 (Int.tdiv (wrap64 (a1_0 - a0_6)) (ji3)), 0)))) else (some (0, 2)))) else (some (0, t135)))) = some (r1, r2) := by first | (rw [hji3] at H; exact H) | (simp only [hji3] at H ⊢; exact H)
 have hji3_ : (if a0_3 < a0_5 then a0_5 else a0_3) = ji3 := hji3
 replace H := Option.bind_eq_some_iff.mp H
 obtain ⟨t135, A40, H⟩ := H
 replace H : (if t135 = 0 then ((glider_bounded.f k a1_0 a1_1 0 1073741824).bind fun t136 => (if t136 = true then (if a1_0 < a0_6 then (some (0, 19)) else (if (ji3) = 0 then (some (0, 4)) else (some (wrap64 (Int.tdiv (wrap64 (a1_0 - a0_6)) (ji3)), 0)))) else (some (0, 2)))) else (some (0, t135))) = some (r1, r2) := H
 have A4 := Aside0.mk A40
 clear A40
 by_cases c5 : t135 = 0
 ·rw [if_pos c5] at H
  have c5b0 : (t135 == 0) = true := beq_iff_eq.mpr c5
  have c5b1 : (t135 != 0) = false := bne_eq_false_iff_eq.mpr c5
  clear c5
  replace H := Option.bind_eq_some_iff.mp H
  obtain ⟨t136, A60, H⟩ := H
  replace H : (if t136 = true then (if a1_0 < a0_6 then (some (0, 19)) else (if (ji3) = 0 then (some (0, 4)) else (some (wrap64 (Int.tdiv (wrap64 (a1_0 - a0_6)) (ji3)), 0)))) else (some (0, 2))) = some (r1, r2) := H
  have A6 := Aside0.mk A60
  clear A60
  by_cases c7 : t136 = true
  ·subst c7
   have H1 : (if a1_0 < a0_6 then (some (0, 19)) else (if (ji3) = 0 then (some (0, 4)) else (some (wrap64 (Int.tdiv (wrap64 (a1_0 - a0_6)) (ji3)), 0)))) = some (r1, r2) := by rw [if_pos rfl] at H; exact H
   clear H
   have H := H1
   clear H1
   by_cases c8 : a1_0 < a0_6
   ·rw [if_pos c8] at H
    have c8b0 : decide (a1_0 < a0_6) = true := decide_eq_true c8
    clear c8
    simp only [Option.some.injEq, Prod.mk.injEq] at H
    obtain ⟨rfl, rfl⟩ := H
    go_enter Try.func49, Try.ntmps49
    go_wp2_with (first | ((with_reducible refine gate_dst (N := 2) rfl ?_); refine box_event (by rfl) (N := 2) (by rfl) (cs := #[.int .i64 a0_0, .int .i64 a0_1, .int .i64 a0_2, .int .i64 a0_3, .int .i64 a0_4, .int .i64 a0_5, .int .i64 a0_6]) (t := 41) zq1 ?_; intro gb133 hg w9 hbox hb; have BK133 := Aside0.mk (hbox); have GW133 := zgs HB hg; have GE133 := zgs HB hg; replace HB := zbs HB hb; clear hb hbox hg) | ((with_reducible refine gate_dst (N := 3) rfl ?_); refine box_event (by rfl) (N := 3) (by rfl) (cs := #[.int .i64 a1_0, .int .i64 a1_1]) (t := 27) zq1 ?_; intro gb134 hg w10 hbox hb; have BK134 := Aside0.mk (hbox); have GW134 := zgs HB hg; have GE134 := zgs HB hg; have NB133_134 := znp BK133 hg; have NB134_133 := znq BK133 hg; replace BK133 := zbb BK133 hb; replace HB := zbs HB hb; clear hb hbox hg; have hnb11 := NB133_134.out; have hnc11 := NB134_133.out; obtain ⟨hcz12_0, hcz12_1, hcz12_2, hcz12_3, hcz12_4, hcz12_5, hcz12_6, hfz12_0, hfz12_1, hfz12_2, hfz12_3, hfz12_4, hfz12_5, hfz12_6⟩ := zce7 BK133.out) | ((with_reducible refine gate_callee (f := 62) rfl ?_); refine goesL_ (some 16) rfl rfl Try.func62 zq3 rfl #[.agg #[.int .i64 a0_0, .int .i64 a0_1, .int .i64 a0_2, .int .i64 a0_3, .int .i64 a0_4, .int .i64 a0_5, .int .i64 a0_6]] rfl zq8 ?_; (with_reducible refine (glider_CheckVehicle.calls k a0_0 a0_1 a0_2 a0_3 a0_4 a0_5 a0_6 t135 _ A4.out).mono ?_); rintro e w13 ⟨rfl, hb⟩; refine ⟨_, rfl, ?_⟩; replace BK133 := zbb BK133 hb; replace BK134 := zbb BK134 hb; replace HB := zbs HB hb; (try clear hb); (try clear hb2); (try clear hk); (try clear hi); obtain ⟨hcz14_0, hcz14_1, hfz14_0, hfz14_1⟩ := zce2 BK134.out) | ((with_reducible refine gate_callee (f := 109) rfl ?_); refine goesL_ (some 23) rfl rfl Try.func109 zq3 rfl #[.agg #[.int .i64 a1_0, .int .i64 a1_1], .int .i64 0, .int .i64 1073741824] rfl zq8 ?_; (with_reducible refine (glider_bounded.calls k a1_0 a1_1 0 1073741824 true _ A6.out).mono ?_); rintro e w15 ⟨rfl, hb⟩; refine ⟨_, rfl, ?_⟩; replace BK133 := zbb BK133 hb; replace BK134 := zbb BK134 hb; replace HB := zbs HB hb; (try clear hb); (try clear hb2); (try clear hk); (try clear hi); obtain ⟨hcz16_0, hcz16_1, hfz16_0, hfz16_1⟩ := zce2 BK134.out; obtain ⟨hcz17_0, hcz17_1, hcz17_2, hcz17_3, hcz17_4, hcz17_5, hcz17_6, hfz17_0, hfz17_1, hfz17_2, hfz17_3, hfz17_4, hfz17_5, hfz17_6⟩ := zce7 BK133.out))
    go_ret2
    exact ⟨zq10, zbz⟩
   ·rw [if_neg c8] at H
    have c8b0 : decide (a1_0 < a0_6) = false := decide_eq_false c8
    clear c8
    by_cases c18 : (ji3) = 0
    ·rw [if_pos c18] at H
     have c18b0 : ((ji3) == 0) = true := beq_iff_eq.mpr c18
     have c18b1 : ((ji3) != 0) = false := bne_eq_false_iff_eq.mpr c18
     clear c18
     simp only [Option.some.injEq, Prod.mk.injEq] at H
     obtain ⟨rfl, rfl⟩ := H
     go_enter Try.func49, Try.ntmps49
     go_wp2_with (first | ((with_reducible refine gate_dst (N := 2) rfl ?_); refine box_event (by rfl) (N := 2) (by rfl) (cs := #[.int .i64 a0_0, .int .i64 a0_1, .int .i64 a0_2, .int .i64 a0_3, .int .i64 a0_4, .int .i64 a0_5, .int .i64 a0_6]) (t := 41) zq1 ?_; intro gb133 hg w19 hbox hb; have BK133 := Aside0.mk (hbox); have GW133 := zgs HB hg; have GE133 := zgs HB hg; replace HB := zbs HB hb; clear hb hbox hg) | ((with_reducible refine gate_dst (N := 3) rfl ?_); refine box_event (by rfl) (N := 3) (by rfl) (cs := #[.int .i64 a1_0, .int .i64 a1_1]) (t := 27) zq1 ?_; intro gb134 hg w20 hbox hb; have BK134 := Aside0.mk (hbox); have GW134 := zgs HB hg; have GE134 := zgs HB hg; have NB133_134 := znp BK133 hg; have NB134_133 := znq BK133 hg; replace BK133 := zbb BK133 hb; replace HB := zbs HB hb; clear hb hbox hg; have hnb21 := NB133_134.out; have hnc21 := NB134_133.out; obtain ⟨hcz22_0, hcz22_1, hcz22_2, hcz22_3, hcz22_4, hcz22_5, hcz22_6, hfz22_0, hfz22_1, hfz22_2, hfz22_3, hfz22_4, hfz22_5, hfz22_6⟩ := zce7 BK133.out) | ((with_reducible refine gate_callee (f := 62) rfl ?_); refine goesL_ (some 16) rfl rfl Try.func62 zq3 rfl #[.agg #[.int .i64 a0_0, .int .i64 a0_1, .int .i64 a0_2, .int .i64 a0_3, .int .i64 a0_4, .int .i64 a0_5, .int .i64 a0_6]] rfl zq8 ?_; (with_reducible refine (glider_CheckVehicle.calls k a0_0 a0_1 a0_2 a0_3 a0_4 a0_5 a0_6 t135 _ A4.out).mono ?_); rintro e w23 ⟨rfl, hb⟩; refine ⟨_, rfl, ?_⟩; replace BK133 := zbb BK133 hb; replace BK134 := zbb BK134 hb; replace HB := zbs HB hb; (try clear hb); (try clear hb2); (try clear hk); (try clear hi); obtain ⟨hcz24_0, hcz24_1, hfz24_0, hfz24_1⟩ := zce2 BK134.out) | ((with_reducible refine gate_callee (f := 109) rfl ?_); refine goesL_ (some 23) rfl rfl Try.func109 zq3 rfl #[.agg #[.int .i64 a1_0, .int .i64 a1_1], .int .i64 0, .int .i64 1073741824] rfl zq8 ?_; (with_reducible refine (glider_bounded.calls k a1_0 a1_1 0 1073741824 true _ A6.out).mono ?_); rintro e w25 ⟨rfl, hb⟩; refine ⟨_, rfl, ?_⟩; replace BK133 := zbb BK133 hb; replace BK134 := zbb BK134 hb; replace HB := zbs HB hb; (try clear hb); (try clear hb2); (try clear hk); (try clear hi); obtain ⟨hcz26_0, hcz26_1, hfz26_0, hfz26_1⟩ := zce2 BK134.out; obtain ⟨hcz27_0, hcz27_1, hcz27_2, hcz27_3, hcz27_4, hcz27_5, hcz27_6, hfz27_0, hfz27_1, hfz27_2, hfz27_3, hfz27_4, hfz27_5, hfz27_6⟩ := zce7 BK133.out))
     go_ret2
     exact ⟨zq10, zbz⟩
    ·rw [if_neg c18] at H
     have c18b0 : ((ji3) == 0) = false := beq_eq_false_iff_ne.mpr c18
     have c18b1 : ((ji3) != 0) = true := bne_iff_ne.mpr c18
     simp only [Option.some.injEq, Prod.mk.injEq] at H
     obtain ⟨rfl, rfl⟩ := H
     go_enter Try.func49, Try.ntmps49
     go_wp2_with (first | ((with_reducible refine gate_dst (N := 2) rfl ?_); refine box_event (by rfl) (N := 2) (by rfl) (cs := #[.int .i64 a0_0, .int .i64 a0_1, .int .i64 a0_2, .int .i64 a0_3, .int .i64 a0_4, .int .i64 a0_5, .int .i64 a0_6]) (t := 41) zq1 ?_; intro gb133 hg w28 hbox hb; have BK133 := Aside0.mk (hbox); have GW133 := zgs HB hg; have GE133 := zgs HB hg; replace HB := zbs HB hb; clear hb hbox hg) | ((with_reducible refine gate_dst (N := 3) rfl ?_); refine box_event (by rfl) (N := 3) (by rfl) (cs := #[.int .i64 a1_0, .int .i64 a1_1]) (t := 27) zq1 ?_; intro gb134 hg w29 hbox hb; have BK134 := Aside0.mk (hbox); have GW134 := zgs HB hg; have GE134 := zgs HB hg; have NB133_134 := znp BK133 hg; have NB134_133 := znq BK133 hg; replace BK133 := zbb BK133 hb; replace HB := zbs HB hb; clear hb hbox hg; have hnb30 := NB133_134.out; have hnc30 := NB134_133.out; obtain ⟨hcz31_0, hcz31_1, hcz31_2, hcz31_3, hcz31_4, hcz31_5, hcz31_6, hfz31_0, hfz31_1, hfz31_2, hfz31_3, hfz31_4, hfz31_5, hfz31_6⟩ := zce7 BK133.out) | ((with_reducible refine gate_callee (f := 62) rfl ?_); refine goesL_ (some 16) rfl rfl Try.func62 zq3 rfl #[.agg #[.int .i64 a0_0, .int .i64 a0_1, .int .i64 a0_2, .int .i64 a0_3, .int .i64 a0_4, .int .i64 a0_5, .int .i64 a0_6]] rfl zq8 ?_; (with_reducible refine (glider_CheckVehicle.calls k a0_0 a0_1 a0_2 a0_3 a0_4 a0_5 a0_6 t135 _ A4.out).mono ?_); rintro e w32 ⟨rfl, hb⟩; refine ⟨_, rfl, ?_⟩; replace BK133 := zbb BK133 hb; replace BK134 := zbb BK134 hb; replace HB := zbs HB hb; (try clear hb); (try clear hb2); (try clear hk); (try clear hi); obtain ⟨hcz33_0, hcz33_1, hfz33_0, hfz33_1⟩ := zce2 BK134.out) | ((with_reducible refine gate_callee (f := 109) rfl ?_); refine goesL_ (some 23) rfl rfl Try.func109 zq3 rfl #[.agg #[.int .i64 a1_0, .int .i64 a1_1], .int .i64 0, .int .i64 1073741824] rfl zq8 ?_; (with_reducible refine (glider_bounded.calls k a1_0 a1_1 0 1073741824 true _ A6.out).mono ?_); rintro e w34 ⟨rfl, hb⟩; refine ⟨_, rfl, ?_⟩; replace BK133 := zbb BK133 hb; replace BK134 := zbb BK134 hb; replace HB := zbs HB hb; (try clear hb); (try clear hb2); (try clear hk); (try clear hi); obtain ⟨hcz35_0, hcz35_1, hfz35_0, hfz35_1⟩ := zce2 BK134.out; obtain ⟨hcz36_0, hcz36_1, hcz36_2, hcz36_3, hcz36_4, hcz36_5, hcz36_6, hfz36_0, hfz36_1, hfz36_2, hfz36_3, hfz36_4, hfz36_5, hfz36_6⟩ := zce7 BK133.out))
     go_ret2
     exact ⟨zq10, zbz⟩
  ·replace c7 := Bool.eq_false_iff.mpr c7
   subst c7
   have H1 : (some (0, 2)) = some (r1, r2) := by rw [if_neg (show ¬ (false = true) by decide)] at H; exact H
   clear H
   have H := H1
   clear H1
   simp only [Option.some.injEq, Prod.mk.injEq] at H
   obtain ⟨rfl, rfl⟩ := H
   go_enter Try.func49, Try.ntmps49
   go_wp2_with (first | ((with_reducible refine gate_dst (N := 2) rfl ?_); refine box_event (by rfl) (N := 2) (by rfl) (cs := #[.int .i64 a0_0, .int .i64 a0_1, .int .i64 a0_2, .int .i64 a0_3, .int .i64 a0_4, .int .i64 a0_5, .int .i64 a0_6]) (t := 41) zq1 ?_; intro gb133 hg w37 hbox hb; have BK133 := Aside0.mk (hbox); have GW133 := zgs HB hg; have GE133 := zgs HB hg; replace HB := zbs HB hb; clear hb hbox hg) | ((with_reducible refine gate_dst (N := 3) rfl ?_); refine box_event (by rfl) (N := 3) (by rfl) (cs := #[.int .i64 a1_0, .int .i64 a1_1]) (t := 27) zq1 ?_; intro gb134 hg w38 hbox hb; have BK134 := Aside0.mk (hbox); have GW134 := zgs HB hg; have GE134 := zgs HB hg; have NB133_134 := znp BK133 hg; have NB134_133 := znq BK133 hg; replace BK133 := zbb BK133 hb; replace HB := zbs HB hb; clear hb hbox hg; have hnb39 := NB133_134.out; have hnc39 := NB134_133.out; obtain ⟨hcz40_0, hcz40_1, hcz40_2, hcz40_3, hcz40_4, hcz40_5, hcz40_6, hfz40_0, hfz40_1, hfz40_2, hfz40_3, hfz40_4, hfz40_5, hfz40_6⟩ := zce7 BK133.out) | ((with_reducible refine gate_callee (f := 62) rfl ?_); refine goesL_ (some 16) rfl rfl Try.func62 zq3 rfl #[.agg #[.int .i64 a0_0, .int .i64 a0_1, .int .i64 a0_2, .int .i64 a0_3, .int .i64 a0_4, .int .i64 a0_5, .int .i64 a0_6]] rfl zq8 ?_; (with_reducible refine (glider_CheckVehicle.calls k a0_0 a0_1 a0_2 a0_3 a0_4 a0_5 a0_6 t135 _ A4.out).mono ?_); rintro e w41 ⟨rfl, hb⟩; refine ⟨_, rfl, ?_⟩; replace BK133 := zbb BK133 hb; replace BK134 := zbb BK134 hb; replace HB := zbs HB hb; (try clear hb); (try clear hb2); (try clear hk); (try clear hi); obtain ⟨hcz42_0, hcz42_1, hfz42_0, hfz42_1⟩ := zce2 BK134.out) | ((with_reducible refine gate_callee (f := 109) rfl ?_); refine goesL_ (some 23) rfl rfl Try.func109 zq3 rfl #[.agg #[.int .i64 a1_0, .int .i64 a1_1], .int .i64 0, .int .i64 1073741824] rfl zq8 ?_; (with_reducible refine (glider_bounded.calls k a1_0 a1_1 0 1073741824 false _ A6.out).mono ?_); rintro e w43 ⟨rfl, hb⟩; refine ⟨_, rfl, ?_⟩; replace BK133 := zbb BK133 hb; replace BK134 := zbb BK134 hb; replace HB := zbs HB hb; (try clear hb); (try clear hb2); (try clear hk); (try clear hi)))
   go_ret2
   exact ⟨zq10, zbz⟩
 ·rw [if_neg c5] at H
  have c5b0 : (t135 == 0) = false := beq_eq_false_iff_ne.mpr c5
  have c5b1 : (t135 != 0) = true := bne_iff_ne.mpr c5
  simp only [Option.some.injEq, Prod.mk.injEq] at H
  obtain ⟨rfl, rfl⟩ := H
  go_enter Try.func49, Try.ntmps49
  go_wp2_with (first | ((with_reducible refine gate_dst (N := 2) rfl ?_); refine box_event (by rfl) (N := 2) (by rfl) (cs := #[.int .i64 a0_0, .int .i64 a0_1, .int .i64 a0_2, .int .i64 a0_3, .int .i64 a0_4, .int .i64 a0_5, .int .i64 a0_6]) (t := 41) zq1 ?_; intro gb133 hg w44 hbox hb; have BK133 := Aside0.mk (hbox); have GW133 := zgs HB hg; have GE133 := zgs HB hg; replace HB := zbs HB hb; clear hb hbox hg) | ((with_reducible refine gate_dst (N := 3) rfl ?_); refine box_event (by rfl) (N := 3) (by rfl) (cs := #[.int .i64 a1_0, .int .i64 a1_1]) (t := 27) zq1 ?_; intro gb134 hg w45 hbox hb; have BK134 := Aside0.mk (hbox); have GW134 := zgs HB hg; have GE134 := zgs HB hg; have NB133_134 := znp BK133 hg; have NB134_133 := znq BK133 hg; replace BK133 := zbb BK133 hb; replace HB := zbs HB hb; clear hb hbox hg; have hnb46 := NB133_134.out; have hnc46 := NB134_133.out; obtain ⟨hcz47_0, hcz47_1, hcz47_2, hcz47_3, hcz47_4, hcz47_5, hcz47_6, hfz47_0, hfz47_1, hfz47_2, hfz47_3, hfz47_4, hfz47_5, hfz47_6⟩ := zce7 BK133.out) | ((with_reducible refine gate_callee (f := 62) rfl ?_); refine goesL_ (some 16) rfl rfl Try.func62 zq3 rfl #[.agg #[.int .i64 a0_0, .int .i64 a0_1, .int .i64 a0_2, .int .i64 a0_3, .int .i64 a0_4, .int .i64 a0_5, .int .i64 a0_6]] rfl zq8 ?_; (with_reducible refine (glider_CheckVehicle.calls k a0_0 a0_1 a0_2 a0_3 a0_4 a0_5 a0_6 t135 _ A4.out).mono ?_); rintro e w48 ⟨rfl, hb⟩; refine ⟨_, rfl, ?_⟩; replace BK133 := zbb BK133 hb; replace BK134 := zbb BK134 hb; replace HB := zbs HB hb; (try clear hb); (try clear hb2); (try clear hk); (try clear hi)))
  go_ret2
  exact ⟨zq10, zbz⟩

end Go.Proofs.Ythglkoddmpicdaa.Pr
end
section
namespace Go.Proofs.Ythglkoddmpicdaa.Pr
open Go.RowKit Go.Proofs.YthglkoddmpicdaaW.PrintWords Go.Proofs.YthglkoddmpicdaaW.PrintLast Go.Proofs.YthglkoddmpicdaaW.PrintMore
attribute [local go_sem] max2_int min2_int max_two min_two max_four
set_option linter.unusedVariables false
set_option linter.unusedSimpArgs false

attribute [local go_sem high] eqA27
/-! ### isobathtop_works03: function 12 -/
def isobathtop_works03.f (k : Nat)  : Option (Bool) := (bound_Sub.f k (-3) 5 2 4).bind fun bt137 => ((glider_Lasts.f k 0 1 5 6 0 0 0 20 30).bind fun bt141 => (if (wrap64 (bt137.2.2 + bt141.2)) = 0 then (if (bt137.1 == (-7) && (bt137.2.1 == 3)) = true then (some (bt141.1 == 3)) else (some false)) else (some false)))
theorem isobathtop_works03.mono : ∀ k, LeO (isobathtop_works03.f k ) (isobathtop_works03.f (k + 1) ) := by
 intro  k
 unfold isobathtop_works03.f
 repeat' first
   | (with_reducible exact bound_Sub.mono _ _ _ _ _)
   | (with_reducible exact glider_Lasts.mono _ _ _ _ _ _ _ _ _ _)
   | (with_reducible exact LeO.refl _)
   | (with_reducible exact LeO.none _)
   | (with_reducible refine LeO.ite ?_ ?_)
   | (with_reducible refine LeO.bind ?_ (fun _ => ?_))
   | exact bound_Sub.mono _ _ _ _ _
   | exact glider_Lasts.mono _ _ _ _ _ _ _ _ _ _
   | exact LeO.none _
   | refine LeO.ite ?_ ?_
   | refine LeO.bind ?_ (fun _ => ?_)
set_option maxHeartbeats 8000000 in
set_option maxRecDepth 100000 in
theorem isobathtop_works03.calls (k : Nat)  (r : Bool) (w : World) (h : isobathtop_works03.f k  = some r) :
  Calls Try.prog 12 #[] w fun e w' => e = .returned (.bool r) ∧ Below w.heap.size w w' := by
 have hu27 := Try.underlying27
 have hu41 := Try.underlying41
 have HB := Aside0.mk (Below.refl w.heap.size w)
 have H : ((bound_Sub.f k (-3) 5 2 4).bind fun bt137 => ((glider_Lasts.f k 0 1 5 6 0 0 0 20 30).bind fun bt141 => (if (wrap64 (bt137.2.2 + bt141.2)) = 0 then (if (bt137.1 == (-7) && (bt137.2.1 == 3)) = true then (some (bt141.1 == 3)) else (some false)) else (some false)))) = some r := h
 clear h
 replace H := Option.bind_eq_some_iff.mp H
 obtain ⟨⟨t137, t138, t139⟩, A10, H⟩ := H
 replace H : ((glider_Lasts.f k 0 1 5 6 0 0 0 20 30).bind fun bt141 => (if (wrap64 (t139 + bt141.2)) = 0 then (if (t137 == (-7) && (t138 == 3)) = true then (some (bt141.1 == 3)) else (some false)) else (some false))) = some r := H
 have A1 := Aside0.mk A10
 clear A10
 replace H := Option.bind_eq_some_iff.mp H
 obtain ⟨⟨t141, t142⟩, A20, H⟩ := H
 replace H : (if (wrap64 (t139 + t142)) = 0 then (if (t137 == (-7) && (t138 == 3)) = true then (some (t141 == 3)) else (some false)) else (some false)) = some r := H
 have A2 := Aside0.mk A20
 clear A20
 by_cases c3 : (wrap64 (t139 + t142)) = 0
 ·rw [if_pos c3] at H
  have c3b0 : ((wrap64 (t139 + t142)) == 0) = true := beq_iff_eq.mpr c3
  have c3b1 : ((wrap64 (t139 + t142)) != 0) = false := bne_eq_false_iff_eq.mpr c3
  clear c3
  by_cases c4 : (t137 == (-7) && (t138 == 3)) = true
  ·rw [if_pos c4] at H
   have c4b0 : (t137 == (-7) && (t138 == 3)) = true := c4
   (try (have c4b1 : decide (t137 = (-7) && (t138 == 3)) = true := by simpa using c4))
   (try (have c4b2 : (t137 == (-7) && (t138 == 3)) = true := by simpa using c4))
   clear c4
   obtain rfl := Option.some.inj H
   go_enter Try.func12, Try.ntmps12
   go_wp2_with (first | ((with_reducible refine gate_callee (f := 39) rfl ?_); refine goesL_ (some 8) rfl rfl Try.func39 zq3 rfl #[.agg #[.int .i64 (-3), .int .i64 5], .agg #[.int .i64 2, .int .i64 4]] rfl zq8 ?_; (with_reducible refine (bound_Sub.calls k (-3) 5 2 4 t137 t138 t139 _ A1.out).mono ?_); rintro e w5 ⟨rfl, hb⟩; refine ⟨_, rfl, ?_⟩; replace HB := zbs HB hb; (try clear hb); (try clear hb2); (try clear hk); (try clear hi)) | ((with_reducible refine gate_dst (N := 1) rfl ?_); refine box_event (by rfl) (N := 1) (by rfl) (cs := #[.int .i64 0, .int .i64 0]) (t := 27) zq1 ?_; intro gb140 hg w6 hbox hb; have BK140 := Aside0.mk (hbox); have GW140 := zgs HB hg; have GE140 := zgs HB hg; replace HB := zbs HB hb; clear hb hbox hg; obtain ⟨hcz7_0, hcz7_1, hfz7_0, hfz7_1⟩ := zce2 BK140.out) | ((with_reducible refine gate_callee (f := 49) rfl ?_); refine goesL_ (some 15) rfl rfl Try.func49 zq3 rfl #[.agg #[.int .i64 0, .int .i64 1, .int .i64 5, .int .i64 6, .int .i64 0, .int .i64 0, .int .i64 0], .agg #[.int .i64 20, .int .i64 30]] rfl zq8 ?_; (with_reducible refine (glider_Lasts.calls k 0 1 5 6 0 0 0 20 30 t141 t142 _ A2.out).mono ?_); rintro e w8 ⟨rfl, hb⟩; refine ⟨_, rfl, ?_⟩; have n0_ := Aside0.mk (blk_below (g := gb140) (o := .cells #[.int .i64 t137, .int .i64 t138] 27 (0, 0)) (by (with_reducible repeat (first | refine blk_drewN ?_ _ | refine blk_drew ?_ | refine blk_alloc ?_ _)); refine blk_put (cs := #[.int .i64 t137, .int .i64 0]) ?_ 1 _ rfl; (with_reducible repeat (first | refine blk_drewN ?_ _ | refine blk_drew ?_ | refine blk_alloc ?_ _)); refine blk_put (cs := #[.int .i64 0, .int .i64 0]) ?_ 0 _ rfl; (with_reducible repeat (first | refine blk_drewN ?_ _ | refine blk_drew ?_ | refine blk_alloc ?_ _)); exact BK140.out) hb); have n1_ := zbs HB hb; clear BK140; clear HB; have BK140 := n0_; have HB := n1_; clear n0_ n1_; (try clear hb); (try clear hb2); (try clear hk); (try clear hi); obtain ⟨hcz9_0, hcz9_1, hfz9_0, hfz9_1⟩ := zce2 BK140.out))
   go_ret
   exact ⟨zq2, zbz⟩
  ·rw [if_neg c4] at H
   have c4b0 : (t137 == (-7) && (t138 == 3)) = false := by simpa using c4
   (try (have c4b1 : decide (t137 = (-7) && (t138 == 3)) = false := by simpa using c4))
   (try (have c4b2 : (t137 == (-7) && (t138 == 3)) = false := by simpa using c4))
   (try (have c4b3 : ¬ (t137 = (-7) && (t138 == 3)) := by simpa using c4))
   clear c4
   obtain rfl := Option.some.inj H
   go_enter Try.func12, Try.ntmps12
   go_wp2_with (first | ((with_reducible refine gate_callee (f := 39) rfl ?_); refine goesL_ (some 8) rfl rfl Try.func39 zq3 rfl #[.agg #[.int .i64 (-3), .int .i64 5], .agg #[.int .i64 2, .int .i64 4]] rfl zq8 ?_; (with_reducible refine (bound_Sub.calls k (-3) 5 2 4 t137 t138 t139 _ A1.out).mono ?_); rintro e w10 ⟨rfl, hb⟩; refine ⟨_, rfl, ?_⟩; replace HB := zbs HB hb; (try clear hb); (try clear hb2); (try clear hk); (try clear hi)) | ((with_reducible refine gate_dst (N := 1) rfl ?_); refine box_event (by rfl) (N := 1) (by rfl) (cs := #[.int .i64 0, .int .i64 0]) (t := 27) zq1 ?_; intro gb140 hg w11 hbox hb; have BK140 := Aside0.mk (hbox); have GW140 := zgs HB hg; have GE140 := zgs HB hg; replace HB := zbs HB hb; clear hb hbox hg; obtain ⟨hcz12_0, hcz12_1, hfz12_0, hfz12_1⟩ := zce2 BK140.out) | ((with_reducible refine gate_callee (f := 49) rfl ?_); refine goesL_ (some 15) rfl rfl Try.func49 zq3 rfl #[.agg #[.int .i64 0, .int .i64 1, .int .i64 5, .int .i64 6, .int .i64 0, .int .i64 0, .int .i64 0], .agg #[.int .i64 20, .int .i64 30]] rfl zq8 ?_; (with_reducible refine (glider_Lasts.calls k 0 1 5 6 0 0 0 20 30 t141 t142 _ A2.out).mono ?_); rintro e w13 ⟨rfl, hb⟩; refine ⟨_, rfl, ?_⟩; have n0_ := Aside0.mk (blk_below (g := gb140) (o := .cells #[.int .i64 t137, .int .i64 t138] 27 (0, 0)) (by (with_reducible repeat (first | refine blk_drewN ?_ _ | refine blk_drew ?_ | refine blk_alloc ?_ _)); refine blk_put (cs := #[.int .i64 t137, .int .i64 0]) ?_ 1 _ rfl; (with_reducible repeat (first | refine blk_drewN ?_ _ | refine blk_drew ?_ | refine blk_alloc ?_ _)); refine blk_put (cs := #[.int .i64 0, .int .i64 0]) ?_ 0 _ rfl; (with_reducible repeat (first | refine blk_drewN ?_ _ | refine blk_drew ?_ | refine blk_alloc ?_ _)); exact BK140.out) hb); have n1_ := zbs HB hb; clear BK140; clear HB; have BK140 := n0_; have HB := n1_; clear n0_ n1_; (try clear hb); (try clear hb2); (try clear hk); (try clear hi); obtain ⟨hcz14_0, hcz14_1, hfz14_0, hfz14_1⟩ := zce2 BK140.out))
   go_ret
   exact ⟨zq2, zbz⟩
 ·rw [if_neg c3] at H
  have c3b0 : ((wrap64 (t139 + t142)) == 0) = false := beq_eq_false_iff_ne.mpr c3
  have c3b1 : ((wrap64 (t139 + t142)) != 0) = true := bne_iff_ne.mpr c3
  obtain rfl := Option.some.inj H
  go_enter Try.func12, Try.ntmps12
  go_wp2_with (first | ((with_reducible refine gate_callee (f := 39) rfl ?_); refine goesL_ (some 8) rfl rfl Try.func39 zq3 rfl #[.agg #[.int .i64 (-3), .int .i64 5], .agg #[.int .i64 2, .int .i64 4]] rfl zq8 ?_; (with_reducible refine (bound_Sub.calls k (-3) 5 2 4 t137 t138 t139 _ A1.out).mono ?_); rintro e w15 ⟨rfl, hb⟩; refine ⟨_, rfl, ?_⟩; replace HB := zbs HB hb; (try clear hb); (try clear hb2); (try clear hk); (try clear hi)) | ((with_reducible refine gate_dst (N := 1) rfl ?_); refine box_event (by rfl) (N := 1) (by rfl) (cs := #[.int .i64 0, .int .i64 0]) (t := 27) zq1 ?_; intro gb140 hg w16 hbox hb; have BK140 := Aside0.mk (hbox); have GW140 := zgs HB hg; have GE140 := zgs HB hg; replace HB := zbs HB hb; clear hb hbox hg; obtain ⟨hcz17_0, hcz17_1, hfz17_0, hfz17_1⟩ := zce2 BK140.out) | ((with_reducible refine gate_callee (f := 49) rfl ?_); refine goesL_ (some 15) rfl rfl Try.func49 zq3 rfl #[.agg #[.int .i64 0, .int .i64 1, .int .i64 5, .int .i64 6, .int .i64 0, .int .i64 0, .int .i64 0], .agg #[.int .i64 20, .int .i64 30]] rfl zq8 ?_; (with_reducible refine (glider_Lasts.calls k 0 1 5 6 0 0 0 20 30 t141 t142 _ A2.out).mono ?_); rintro e w18 ⟨rfl, hb⟩; refine ⟨_, rfl, ?_⟩; have n0_ := Aside0.mk (blk_below (g := gb140) (o := .cells #[.int .i64 t137, .int .i64 t138] 27 (0, 0)) (by (with_reducible repeat (first | refine blk_drewN ?_ _ | refine blk_drew ?_ | refine blk_alloc ?_ _)); refine blk_put (cs := #[.int .i64 t137, .int .i64 0]) ?_ 1 _ rfl; (with_reducible repeat (first | refine blk_drewN ?_ _ | refine blk_drew ?_ | refine blk_alloc ?_ _)); refine blk_put (cs := #[.int .i64 0, .int .i64 0]) ?_ 0 _ rfl; (with_reducible repeat (first | refine blk_drewN ?_ _ | refine blk_drew ?_ | refine blk_alloc ?_ _)); exact BK140.out) hb); have n1_ := zbs HB hb; clear BK140; clear HB; have BK140 := n0_; have HB := n1_; clear n0_ n1_; (try clear hb); (try clear hb2); (try clear hk); (try clear hi)))
  go_ret
  exact ⟨zq2, zbz⟩

end Go.Proofs.Ythglkoddmpicdaa.Pr
end
section
namespace Go.Proofs.Ythglkoddmpicdaa.Pr
open Go.RowKit Go.Proofs.YthglkoddmpicdaaW.PrintWords Go.Proofs.YthglkoddmpicdaaW.PrintLast Go.Proofs.YthglkoddmpicdaaW.PrintMore
attribute [local go_sem] max2_int min2_int max_two min_two max_four
set_option linter.unusedVariables false
set_option linter.unusedSimpArgs false

/-! ### bound_amount: function 84 -/
def bound_amount.f (a0 : Int) : Option (Int) := some (mx a0 (wrap64 (-a0)))
set_option maxHeartbeats 8000000 in
set_option maxRecDepth 100000 in
theorem bound_amount.calls (a0 : Int) (r : Int) (w : World) (h : bound_amount.f a0 = some r) :
  Calls Try.prog 84 #[.int .i64 a0] w fun e w' => e = .returned (.int .i64 r) ∧ Below w.heap.size w w' := by
 have HB := Aside0.mk (Below.refl w.heap.size w)
 have H : (some (mx a0 (wrap64 (-a0)))) = some r := h
 clear h
 obtain ⟨ji2, hji2⟩ : ∃ j_ : Int, (mx a0 (wrap64 (-a0))) = j_ := ⟨_, rfl⟩
 replace H : (some ji2) = some r := by first | (rw [hji2] at H; exact H) | (simp only [hji2] at H ⊢; exact H)
 have hji2_ : (if a0 < (wrap64 (-a0)) then (wrap64 (-a0)) else a0) = ji2 := hji2
 obtain rfl := Option.some.inj H
 go_enter Try.func84, Try.ntmps84
 go_wp2
 go_ret
 exact ⟨by first | rfl | (simp [errW_none, errW_some] <;> rfl) | (simp only [← hji2]; first | rfl | (simp [errW_none, errW_some] <;> rfl)) | (simp [*, errW_none, errW_some] <;> rfl), zbz⟩

end Go.Proofs.Ythglkoddmpicdaa.Pr
end
section
namespace Go.Proofs.Ythglkoddmpicdaa.Pr
open Go.RowKit Go.Proofs.YthglkoddmpicdaaW.PrintWords Go.Proofs.YthglkoddmpicdaaW.PrintLast Go.Proofs.YthglkoddmpicdaaW.PrintMore
attribute [local go_sem] max2_int min2_int max_two min_two max_four
set_option linter.unusedVariables false
set_option linter.unusedSimpArgs false

/-! ### bound_CheckBox: function 51 -/
def bound_CheckBox.f (k : Nat) (a0_0 : Int) (a0_1 : Int) (a0_2 : Int) (a0_3 : Int) : Option (Int) := (bound_check.f k (([(⟨a0_0, a0_1⟩ : S27), (⟨a0_2, a0_3⟩ : S27)] : List (S27)))).bind fun t147 => (if t147 = 0 then ((bound_amount.f a0_0).bind fun t148 => ((bound_amount.f a0_1).bind fun t149 => ((bound_amount.f a0_2).bind fun t150 => ((bound_amount.f a0_3).bind fun t151 => (if (mx (mx (mx t148 t149) t150) t151) > 268435456 then (some 2) else (some 0)))))) else (some t147))
theorem bound_CheckBox.mono : ∀ a0 a1 a2 a3 k, LeO (bound_CheckBox.f k a0 a1 a2 a3) (bound_CheckBox.f (k + 1) a0 a1 a2 a3) := by
 intro a0 a1 a2 a3 k
 unfold bound_CheckBox.f
 repeat' first
   | (with_reducible exact bound_check.mono _ _)
   | (with_reducible exact LeO.refl _)
   | (with_reducible exact LeO.none _)
   | (with_reducible refine LeO.ite ?_ ?_)
   | (with_reducible refine LeO.bind ?_ (fun _ => ?_))
   | exact bound_check.mono _ _
   | exact LeO.none _
   | refine LeO.ite ?_ ?_
   | refine LeO.bind ?_ (fun _ => ?_)
def bound_CheckBox.T4 : Bool × List (List Nat × List Nat) := (true, [([], []), ([0], [0]), ([1], [1]), ([2], [2]), ([], []), ([4], [4]), ([5], [5]), ([6, 3], [6]), ([], []), ([8], [8]), ([9], [9]), ([10, 7], [10]), ([], []), ([12], [12]), ([13], [13]), ([14, 11], [14]), ([3, 7, 11, 15], [3, 7, 11, 15]), ([16], [16])])
def bound_CheckBox.B4 : List Nat := [0, 1, 3, 7, 0, 16, 48, 127, 0, 256, 768, 2047, 0, 4096, 12288, 32767, 65535, 131071]
theorem bound_CheckBox.tab4 : rtab .any (opsOf Try.f51 4) = bound_CheckBox.T4 := by kernel_rfl
theorem bound_CheckBox.bits4 : waitsOk bound_CheckBox.T4.2 bound_CheckBox.B4 = true := by kernel_rfl
set_option maxHeartbeats 8000000 in
set_option maxRecDepth 100000 in
theorem bound_CheckBox.calls (k : Nat) (a0_0 : Int) (a0_1 : Int) (a0_2 : Int) (a0_3 : Int) (r : Int) (w : World) (h : bound_CheckBox.f k a0_0 a0_1 a0_2 a0_3 = some r) :
  Calls Try.prog 51 #[.agg #[.int .i64 a0_0, .int .i64 a0_1, .int .i64 a0_2, .int .i64 a0_3]] w fun e w' => e = .returned (.int .i64 r) ∧ Below w.heap.size w w' := by
 have hu29 := Try.underlying29
 have hu27 := Try.underlying27
 have HB := Aside0.mk (Below.refl w.heap.size w)
 have H : ((bound_check.f k (([(⟨a0_0, a0_1⟩ : S27), (⟨a0_2, a0_3⟩ : S27)] : List (S27)))).bind fun t147 => (if t147 = 0 then ((bound_amount.f a0_0).bind fun t148 => ((bound_amount.f a0_1).bind fun t149 => ((bound_amount.f a0_2).bind fun t150 => ((bound_amount.f a0_3).bind fun t151 => (if (mx (mx (mx t148 t149) t150) t151) > 268435456 then (some 2) else (some 0)))))) else (some t147))) = some r := h
 clear h
 obtain ⟨y144, hy144⟩ : ∃ y_ : List (S27), y_ = (([(⟨a0_0, a0_1⟩ : S27), (⟨a0_2, a0_3⟩ : S27)] : List (S27))) := ⟨_, rfl⟩
 replace H : ((bound_check.f k y144).bind fun t147 => (if t147 = 0 then ((bound_amount.f a0_0).bind fun t148 => ((bound_amount.f a0_1).bind fun t149 => ((bound_amount.f a0_2).bind fun t150 => ((bound_amount.f a0_3).bind fun t151 => (if (mx (mx (mx t148 t149) t150) t151) > 268435456 then (some 2) else (some 0)))))) else (some t147))) = some r := by first | (rw [hy144]; with_reducible exact H) | (have H2_ := (Option.bind_some _ _).symm.trans H; rw [hy144]; with_reducible exact H2_) | (have H2_ := (Option.bind_some _ _).symm.trans H; with_reducible exact H2_) | with_reducible exact H | (rw [hy144]; exact H) | exact H
 have Ny144 := Aside0.mk hy144
 clear hy144
 replace H := Option.bind_eq_some_iff.mp H
 obtain ⟨t147, A20, H⟩ := H
 replace H : (if t147 = 0 then ((bound_amount.f a0_0).bind fun t148 => ((bound_amount.f a0_1).bind fun t149 => ((bound_amount.f a0_2).bind fun t150 => ((bound_amount.f a0_3).bind fun t151 => (if (mx (mx (mx t148 t149) t150) t151) > 268435456 then (some 2) else (some 0)))))) else (some t147)) = some r := H
 have A2 := Aside0.mk A20
 clear A20
 by_cases c3 : t147 = 0
 ·rw [if_pos c3] at H
  have c3b0 : (t147 == 0) = true := beq_iff_eq.mpr c3
  have c3b1 : (t147 != 0) = false := bne_eq_false_iff_eq.mpr c3
  clear c3
  replace H := Option.bind_eq_some_iff.mp H
  obtain ⟨t148, A40, H⟩ := H
  replace H : ((bound_amount.f a0_1).bind fun t149 => ((bound_amount.f a0_2).bind fun t150 => ((bound_amount.f a0_3).bind fun t151 => (if (mx (mx (mx t148 t149) t150) t151) > 268435456 then (some 2) else (some 0))))) = some r := H
  have A4 := Aside0.mk A40
  clear A40
  replace H := Option.bind_eq_some_iff.mp H
  obtain ⟨t149, A50, H⟩ := H
  replace H : ((bound_amount.f a0_2).bind fun t150 => ((bound_amount.f a0_3).bind fun t151 => (if (mx (mx (mx t148 t149) t150) t151) > 268435456 then (some 2) else (some 0)))) = some r := H
  have A5 := Aside0.mk A50
  clear A50
  replace H := Option.bind_eq_some_iff.mp H
  obtain ⟨t150, A60, H⟩ := H
  replace H : ((bound_amount.f a0_3).bind fun t151 => (if (mx (mx (mx t148 t149) t150) t151) > 268435456 then (some 2) else (some 0))) = some r := H
  have A6 := Aside0.mk A60
  clear A60
  replace H := Option.bind_eq_some_iff.mp H
  obtain ⟨t151, A70, H⟩ := H
  replace H : (if (mx (mx (mx t148 t149) t150) t151) > 268435456 then (some 2) else (some 0)) = some r := H
  have A7 := Aside0.mk A70
  clear A70
  obtain ⟨ji8, hji8⟩ : ∃ j_ : Int, (mx t148 t149) = j_ := ⟨_, rfl⟩
  replace H : (if (mx (mx (ji8) t150) t151) > 268435456 then (some 2) else (some 0)) = some r := by first | (rw [hji8] at H; exact H) | (simp only [hji8] at H ⊢; exact H)
  (try rw [hji8] at A2)
  (try rw [hji8] at A4)
  (try rw [hji8] at A5)
  (try rw [hji8] at A6)
  (try rw [hji8] at A7)
  have hji8_ : (if t148 < t149 then t149 else t148) = ji8 := hji8
  obtain ⟨ji9, hji9⟩ : ∃ j_ : Int, (mx (ji8) t150) = j_ := ⟨_, rfl⟩
  replace H : (if (mx (ji9) t151) > 268435456 then (some 2) else (some 0)) = some r := by first | (rw [hji9] at H; exact H) | (simp only [hji9] at H ⊢; exact H)
  (try rw [hji9] at A2)
  (try rw [hji9] at A4)
  (try rw [hji9] at A5)
  (try rw [hji9] at A6)
  (try rw [hji9] at A7)
  have hji9_ : (if (ji8) < t150 then t150 else (ji8)) = ji9 := hji9
  obtain ⟨ji10, hji10⟩ : ∃ j_ : Int, (mx (ji9) t151) = j_ := ⟨_, rfl⟩
  replace H : (if (ji10) > 268435456 then (some 2) else (some 0)) = some r := by first | (rw [hji10] at H; exact H) | (simp only [hji10] at H ⊢; exact H)
  (try rw [hji10] at A2)
  (try rw [hji10] at A4)
  (try rw [hji10] at A5)
  (try rw [hji10] at A6)
  (try rw [hji10] at A7)
  have hji10_ : (if (ji9) < t151 then t151 else (ji9)) = ji10 := hji10
  by_cases c11 : (ji10) > 268435456
  ·rw [if_pos c11] at H
   have c11b0 : decide (268435456 < (ji10)) = true := decide_eq_true c11
   clear c11
   obtain rfl := Option.some.inj H
   go_enter Try.func51, Try.ntmps51
   try go_wp2_with (first | ((with_reducible refine gate_dst (N := 1) rfl ?_); refine box_event (by rfl) (N := 1) (by rfl) (cs := #[.int .i64 a0_0, .int .i64 a0_1, .int .i64 a0_2, .int .i64 a0_3]) (t := 29) zq1 ?_; intro gb143 hg w12 hbox hb; have BK143 := Aside0.mk (hbox); have GW143 := zgs HB hg; have GE143 := zgs HB hg; replace HB := zbs HB hb; clear hb hbox hg; obtain ⟨hcz13_0, hcz13_1, hcz13_2, hcz13_3, hfz13_0, hfz13_1, hfz13_2, hfz13_3⟩ := zce4 BK143.out) | ((with_reducible refine gate_dst (N := 8) rfl ?_); refine Kd.R_lit k27 _ 27 (by rfl) (N := 8) (by rfl) (xs := ([(⟨a0_0, a0_1⟩ : S27), (⟨a0_2, a0_3⟩ : S27)] : List (S27))) (inner := [.int .i64 a0_0, .int .i64 a0_1, .int .i64 a0_2, .int .i64 a0_3]) (ok := fun _ => True) (okp := fun _ => True) zq1 zq11 (fun _ hk => hk) trivial (Below.refl _ _) (Nat.le_refl _) (by simp) ?_; intro v145 w14 ho15 hb hg_ hnew_; clear hg_ hnew_; (first | rw [← Ny144.out] at ho15 | (simp only [Int.reduceToNat] at ho15; rw [← Ny144.out] at ho15)); have HO146 := Aside0.mk (Kd.R_lower ho15 (below_size zbz)); replace BK143 := zbb BK143 hb; replace HB := zbs HB hb; clear hb ho15; obtain ⟨Ao16, co16, eo16⟩ := Kd.R_slice HO146.out; subst eo16) | ((with_reducible refine gate_callee (f := 59) rfl ?_); refine goesL_ (some 9) rfl rfl Try.func59 zq3 rfl #[.slice Ao16 y144.length co16] rfl zq8 ?_; (with_reducible refine (bound_check.calls k _ _ y144 t147 _ ?side1 ?side2 A2.out).mono ?_); (case side1 => repeat (first | exact (Kd.R_reads' HO146.out).2.2 | (with_reducible refine Kd.C_alloc ?_ _) | (with_reducible refine Kd.C_drewN ?_ _) | (with_reducible refine Kd.C_drew ?_))); (case side2 => exact (Kd.R_reads' HO146.out).2.1); rintro e w17 ⟨rfl, hb⟩; refine ⟨_, rfl, ?_⟩; replace HO146 := zrb HO146 hb; replace BK143 := zbb BK143 hb; replace HB := zbs HB hb; (try clear hb); (try clear hb2); (try clear hk); (try clear hi)))
   replace HO146 := Aside0.mk (Kd.R_drew HO146.out)
   replace BK143 := Aside0.mk (blk_drew BK143.out)
   replace HB := Aside0.mk (below_drew1 HB.out)
   refine start_ (n := 18) (S := fun w' => w'.cell? ⟨gb143, 0, none⟩ = some (.int .i64 a0_0) ∧ w'.cell? ⟨gb143, 1, none⟩ = some (.int .i64 a0_1) ∧ w'.cell? ⟨gb143, 2, none⟩ = some (.int .i64 a0_2) ∧ w'.cell? ⟨gb143, 3, none⟩ = some (.int .i64 a0_3)) (ds := []) #[false, false, false, false, false, false, false, false, false, false, false, false, false, false, false, false, false, false] zq3 rfl rfl (zcs4 BK143.out) (fun hHeld => ?_); refine with_tabW bound_CheckBox.tab4 bound_CheckBox.bits4 (fun HT_ HW_ => ?_)
   generalize w17.drew = w18 at HO146 BK143 HB hHeld ⊢
   refine zpz (i := 0) (N := some 13) (any_of HT_.out zq3) ?_
   refine zpz (i := 1) (N := some 14) (any_of HT_.out zq3) ?_
   refine zpz (i := 4) (N := some 17) (any_of HT_.out zq3) ?_
   refine zpz (i := 5) (N := some 18) (any_of HT_.out zq3) ?_
   refine zpz (i := 8) (N := some 21) (any_of HT_.out zq3) ?_
   refine zpz (i := 9) (N := some 22) (any_of HT_.out zq3) ?_
   refine zpz (i := 12) (N := some 25) (any_of HT_.out zq3) ?_
   refine zpz (i := 13) (N := some 26) (any_of HT_.out zq3) ?_
   refine ztz (i := 2) (N := some 15) (take_ofW HT_.out HW_.out zq3) hHeld ?_
   refine ztz (i := 6) (N := some 19) (take_ofW HT_.out HW_.out zq3) hHeld ?_
   refine ztz (i := 10) (N := some 23) (take_ofW HT_.out HW_.out zq3) hHeld ?_
   refine ztz (i := 14) (N := some 27) (take_ofW HT_.out HW_.out zq3) hHeld ?_
   refine one_ (i := 3) (N := some 16) #[true, true, true, true, true, true, true, false, true, true, true, false, true, true, true, false, false, false] rfl rfl (one_of HT_.out zq3) (by decide) (fun K hK => ?_)
   refine goes_ Try.func84 zq3 rfl #[.int .i64 a0_0] (by rfl) rfl rfl zq8 ?_
   with_reducible refine (bound_amount.calls a0_0 t148 _ A4.out).mono ?_
   rintro e w19 ⟨rfl, hb⟩
   refine ⟨_, rfl, ?_⟩
   replace HO146 := zrb HO146 hb
   replace BK143 := zbb BK143 hb
   replace HB := zbs HB hb
   (try clear hb)
   (try clear hb2)
   (try clear hk)
   (try clear hi)
   refine hK.out _ _ (zcs4 BK143.out) (fun hHeld => ?_)
   clear hK K
   refine norm_ zq12 ?_
   refine one_ (i := 7) (N := some 20) #[true, true, true, true, true, true, true, true, true, true, true, false, true, true, true, false, false, false] rfl rfl (one_of HT_.out zq3) (by decide) (fun K hK => ?_)
   refine goes_ Try.func84 zq3 rfl #[.int .i64 a0_1] (by rfl) rfl rfl zq8 ?_
   with_reducible refine (bound_amount.calls a0_1 t149 _ A5.out).mono ?_
   rintro e w20 ⟨rfl, hb⟩
   refine ⟨_, rfl, ?_⟩
   replace HO146 := zrb HO146 hb
   replace BK143 := zbb BK143 hb
   replace HB := zbs HB hb
   (try clear hb)
   (try clear hb2)
   (try clear hk)
   (try clear hi)
   refine hK.out _ _ (zcs4 BK143.out) (fun hHeld => ?_)
   clear hK K
   refine norm_ zq13 ?_
   refine one_ (i := 11) (N := some 24) #[true, true, true, true, true, true, true, true, true, true, true, true, true, true, true, false, false, false] rfl rfl (one_of HT_.out zq3) (by decide) (fun K hK => ?_)
   refine goes_ Try.func84 zq3 rfl #[.int .i64 a0_2] (by rfl) rfl rfl zq8 ?_
   with_reducible refine (bound_amount.calls a0_2 t150 _ A6.out).mono ?_
   rintro e w21 ⟨rfl, hb⟩
   refine ⟨_, rfl, ?_⟩
   replace HO146 := zrb HO146 hb
   replace BK143 := zbb BK143 hb
   replace HB := zbs HB hb
   (try clear hb)
   (try clear hb2)
   (try clear hk)
   (try clear hi)
   refine hK.out _ _ (zcs4 BK143.out) (fun hHeld => ?_)
   clear hK K
   refine norm_ zq14 ?_
   refine one_ (i := 15) (N := some 28) #[true, true, true, true, true, true, true, true, true, true, true, true, true, true, true, true, false, false] rfl rfl (one_of HT_.out zq3) (by decide) (fun K hK => ?_)
   refine goes_ Try.func84 zq3 rfl #[.int .i64 a0_3] (by rfl) rfl rfl zq8 ?_
   with_reducible refine (bound_amount.calls a0_3 t151 _ A7.out).mono ?_
   rintro e w22 ⟨rfl, hb⟩
   refine ⟨_, rfl, ?_⟩
   replace HO146 := zrb HO146 hb
   replace BK143 := zbb BK143 hb
   replace HB := zbs HB hb
   (try clear hb)
   (try clear hb2)
   (try clear hk)
   (try clear hi)
   refine hK.out _ _ (zcs4 BK143.out) (fun hHeld => ?_)
   clear hK K
   refine norm_ zq15 ?_
   refine zpz (i := 16) (N := some 29) (any_of HT_.out zq3) ?_
   refine zpz (i := 17) (N := some 30) (any_of HT_.out zq3) ?_
   refine done_ (done_of HT_.out zq3) ?_
   try go_wp2
   go_ret
   exact ⟨zq16, zbz⟩
  ·rw [if_neg c11] at H
   have c11b0 : decide (268435456 < (ji10)) = false := decide_eq_false c11
   clear c11
   obtain rfl := Option.some.inj H
   go_enter Try.func51, Try.ntmps51
   try go_wp2_with (first | ((with_reducible refine gate_dst (N := 1) rfl ?_); refine box_event (by rfl) (N := 1) (by rfl) (cs := #[.int .i64 a0_0, .int .i64 a0_1, .int .i64 a0_2, .int .i64 a0_3]) (t := 29) zq1 ?_; intro gb143 hg w23 hbox hb; have BK143 := Aside0.mk (hbox); have GW143 := zgs HB hg; have GE143 := zgs HB hg; replace HB := zbs HB hb; clear hb hbox hg; obtain ⟨hcz24_0, hcz24_1, hcz24_2, hcz24_3, hfz24_0, hfz24_1, hfz24_2, hfz24_3⟩ := zce4 BK143.out) | ((with_reducible refine gate_dst (N := 8) rfl ?_); refine Kd.R_lit k27 _ 27 (by rfl) (N := 8) (by rfl) (xs := ([(⟨a0_0, a0_1⟩ : S27), (⟨a0_2, a0_3⟩ : S27)] : List (S27))) (inner := [.int .i64 a0_0, .int .i64 a0_1, .int .i64 a0_2, .int .i64 a0_3]) (ok := fun _ => True) (okp := fun _ => True) zq1 zq11 (fun _ hk => hk) trivial (Below.refl _ _) (Nat.le_refl _) (by simp) ?_; intro v145 w25 ho26 hb hg_ hnew_; clear hg_ hnew_; (first | rw [← Ny144.out] at ho26 | (simp only [Int.reduceToNat] at ho26; rw [← Ny144.out] at ho26)); have HO146 := Aside0.mk (Kd.R_lower ho26 (below_size zbz)); replace BK143 := zbb BK143 hb; replace HB := zbs HB hb; clear hb ho26; obtain ⟨Ao27, co27, eo27⟩ := Kd.R_slice HO146.out; subst eo27) | ((with_reducible refine gate_callee (f := 59) rfl ?_); refine goesL_ (some 9) rfl rfl Try.func59 zq3 rfl #[.slice Ao27 y144.length co27] rfl zq8 ?_; (with_reducible refine (bound_check.calls k _ _ y144 t147 _ ?side1 ?side2 A2.out).mono ?_); (case side1 => repeat (first | exact (Kd.R_reads' HO146.out).2.2 | (with_reducible refine Kd.C_alloc ?_ _) | (with_reducible refine Kd.C_drewN ?_ _) | (with_reducible refine Kd.C_drew ?_))); (case side2 => exact (Kd.R_reads' HO146.out).2.1); rintro e w28 ⟨rfl, hb⟩; refine ⟨_, rfl, ?_⟩; replace HO146 := zrb HO146 hb; replace BK143 := zbb BK143 hb; replace HB := zbs HB hb; (try clear hb); (try clear hb2); (try clear hk); (try clear hi)))
   replace HO146 := Aside0.mk (Kd.R_drew HO146.out)
   replace BK143 := Aside0.mk (blk_drew BK143.out)
   replace HB := Aside0.mk (below_drew1 HB.out)
   refine start_ (n := 18) (S := fun w' => w'.cell? ⟨gb143, 0, none⟩ = some (.int .i64 a0_0) ∧ w'.cell? ⟨gb143, 1, none⟩ = some (.int .i64 a0_1) ∧ w'.cell? ⟨gb143, 2, none⟩ = some (.int .i64 a0_2) ∧ w'.cell? ⟨gb143, 3, none⟩ = some (.int .i64 a0_3)) (ds := []) #[false, false, false, false, false, false, false, false, false, false, false, false, false, false, false, false, false, false] zq3 rfl rfl (zcs4 BK143.out) (fun hHeld => ?_); refine with_tabW bound_CheckBox.tab4 bound_CheckBox.bits4 (fun HT_ HW_ => ?_)
   generalize w28.drew = w29 at HO146 BK143 HB hHeld ⊢
   refine zpz (i := 0) (N := some 13) (any_of HT_.out zq3) ?_
   refine zpz (i := 1) (N := some 14) (any_of HT_.out zq3) ?_
   refine zpz (i := 4) (N := some 17) (any_of HT_.out zq3) ?_
   refine zpz (i := 5) (N := some 18) (any_of HT_.out zq3) ?_
   refine zpz (i := 8) (N := some 21) (any_of HT_.out zq3) ?_
   refine zpz (i := 9) (N := some 22) (any_of HT_.out zq3) ?_
   refine zpz (i := 12) (N := some 25) (any_of HT_.out zq3) ?_
   refine zpz (i := 13) (N := some 26) (any_of HT_.out zq3) ?_
   refine ztz (i := 2) (N := some 15) (take_ofW HT_.out HW_.out zq3) hHeld ?_
   refine ztz (i := 6) (N := some 19) (take_ofW HT_.out HW_.out zq3) hHeld ?_
   refine ztz (i := 10) (N := some 23) (take_ofW HT_.out HW_.out zq3) hHeld ?_
   refine ztz (i := 14) (N := some 27) (take_ofW HT_.out HW_.out zq3) hHeld ?_
   refine one_ (i := 3) (N := some 16) #[true, true, true, true, true, true, true, false, true, true, true, false, true, true, true, false, false, false] rfl rfl (one_of HT_.out zq3) (by decide) (fun K hK => ?_)
   refine goes_ Try.func84 zq3 rfl #[.int .i64 a0_0] (by rfl) rfl rfl zq8 ?_
   with_reducible refine (bound_amount.calls a0_0 t148 _ A4.out).mono ?_
   rintro e w30 ⟨rfl, hb⟩
   refine ⟨_, rfl, ?_⟩
   replace HO146 := zrb HO146 hb
   replace BK143 := zbb BK143 hb
   replace HB := zbs HB hb
   (try clear hb)
   (try clear hb2)
   (try clear hk)
   (try clear hi)
   refine hK.out _ _ (zcs4 BK143.out) (fun hHeld => ?_)
   clear hK K
   refine norm_ zq12 ?_
   refine one_ (i := 7) (N := some 20) #[true, true, true, true, true, true, true, true, true, true, true, false, true, true, true, false, false, false] rfl rfl (one_of HT_.out zq3) (by decide) (fun K hK => ?_)
   refine goes_ Try.func84 zq3 rfl #[.int .i64 a0_1] (by rfl) rfl rfl zq8 ?_
   with_reducible refine (bound_amount.calls a0_1 t149 _ A5.out).mono ?_
   rintro e w31 ⟨rfl, hb⟩
   refine ⟨_, rfl, ?_⟩
   replace HO146 := zrb HO146 hb
   replace BK143 := zbb BK143 hb
   replace HB := zbs HB hb
   (try clear hb)
   (try clear hb2)
   (try clear hk)
   (try clear hi)
   refine hK.out _ _ (zcs4 BK143.out) (fun hHeld => ?_)
   clear hK K
   refine norm_ zq13 ?_
   refine one_ (i := 11) (N := some 24) #[true, true, true, true, true, true, true, true, true, true, true, true, true, true, true, false, false, false] rfl rfl (one_of HT_.out zq3) (by decide) (fun K hK => ?_)
   refine goes_ Try.func84 zq3 rfl #[.int .i64 a0_2] (by rfl) rfl rfl zq8 ?_
   with_reducible refine (bound_amount.calls a0_2 t150 _ A6.out).mono ?_
   rintro e w32 ⟨rfl, hb⟩
   refine ⟨_, rfl, ?_⟩
   replace HO146 := zrb HO146 hb
   replace BK143 := zbb BK143 hb
   replace HB := zbs HB hb
   (try clear hb)
   (try clear hb2)
   (try clear hk)
   (try clear hi)
   refine hK.out _ _ (zcs4 BK143.out) (fun hHeld => ?_)
   clear hK K
   refine norm_ zq14 ?_
   refine one_ (i := 15) (N := some 28) #[true, true, true, true, true, true, true, true, true, true, true, true, true, true, true, true, false, false] rfl rfl (one_of HT_.out zq3) (by decide) (fun K hK => ?_)
   refine goes_ Try.func84 zq3 rfl #[.int .i64 a0_3] (by rfl) rfl rfl zq8 ?_
   with_reducible refine (bound_amount.calls a0_3 t151 _ A7.out).mono ?_
   rintro e w33 ⟨rfl, hb⟩
   refine ⟨_, rfl, ?_⟩
   replace HO146 := zrb HO146 hb
   replace BK143 := zbb BK143 hb
   replace HB := zbs HB hb
   (try clear hb)
   (try clear hb2)
   (try clear hk)
   (try clear hi)
   refine hK.out _ _ (zcs4 BK143.out) (fun hHeld => ?_)
   clear hK K
   refine norm_ zq15 ?_
   refine zpz (i := 16) (N := some 29) (any_of HT_.out zq3) ?_
   refine zpz (i := 17) (N := some 30) (any_of HT_.out zq3) ?_
   refine done_ (done_of HT_.out zq3) ?_
   try go_wp2
   go_ret
   exact ⟨zq16, zbz⟩
 ·rw [if_neg c3] at H
  have c3b0 : (t147 == 0) = false := beq_eq_false_iff_ne.mpr c3
  have c3b1 : (t147 != 0) = true := bne_iff_ne.mpr c3
  obtain rfl := Option.some.inj H
  go_enter Try.func51, Try.ntmps51
  go_wp2_with (first | ((with_reducible refine gate_dst (N := 1) rfl ?_); refine box_event (by rfl) (N := 1) (by rfl) (cs := #[.int .i64 a0_0, .int .i64 a0_1, .int .i64 a0_2, .int .i64 a0_3]) (t := 29) zq1 ?_; intro gb143 hg w34 hbox hb; have BK143 := Aside0.mk (hbox); have GW143 := zgs HB hg; have GE143 := zgs HB hg; replace HB := zbs HB hb; clear hb hbox hg; obtain ⟨hcz35_0, hcz35_1, hcz35_2, hcz35_3, hfz35_0, hfz35_1, hfz35_2, hfz35_3⟩ := zce4 BK143.out) | ((with_reducible refine gate_dst (N := 8) rfl ?_); refine Kd.R_lit k27 _ 27 (by rfl) (N := 8) (by rfl) (xs := ([(⟨a0_0, a0_1⟩ : S27), (⟨a0_2, a0_3⟩ : S27)] : List (S27))) (inner := [.int .i64 a0_0, .int .i64 a0_1, .int .i64 a0_2, .int .i64 a0_3]) (ok := fun _ => True) (okp := fun _ => True) zq1 zq11 (fun _ hk => hk) trivial (Below.refl _ _) (Nat.le_refl _) (by simp) ?_; intro v145 w36 ho37 hb hg_ hnew_; clear hg_ hnew_; (first | rw [← Ny144.out] at ho37 | (simp only [Int.reduceToNat] at ho37; rw [← Ny144.out] at ho37)); have HO146 := Aside0.mk (Kd.R_lower ho37 (below_size zbz)); replace BK143 := zbb BK143 hb; replace HB := zbs HB hb; clear hb ho37; obtain ⟨Ao38, co38, eo38⟩ := Kd.R_slice HO146.out; subst eo38) | ((with_reducible refine gate_callee (f := 59) rfl ?_); refine goesL_ (some 9) rfl rfl Try.func59 zq3 rfl #[.slice Ao38 y144.length co38] rfl zq8 ?_; (with_reducible refine (bound_check.calls k _ _ y144 t147 _ ?side1 ?side2 A2.out).mono ?_); (case side1 => repeat (first | exact (Kd.R_reads' HO146.out).2.2 | (with_reducible refine Kd.C_alloc ?_ _) | (with_reducible refine Kd.C_drewN ?_ _) | (with_reducible refine Kd.C_drew ?_))); (case side2 => exact (Kd.R_reads' HO146.out).2.1); rintro e w39 ⟨rfl, hb⟩; refine ⟨_, rfl, ?_⟩; replace HO146 := zrb HO146 hb; replace BK143 := zbb BK143 hb; replace HB := zbs HB hb; (try clear hb); (try clear hb2); (try clear hk); (try clear hi)))
  go_ret
  exact ⟨zq2, zbz⟩

end Go.Proofs.Ythglkoddmpicdaa.Pr
end
section
namespace Go.Proofs.Ythglkoddmpicdaa.Pr
open Go.RowKit Go.Proofs.YthglkoddmpicdaaW.PrintWords Go.Proofs.YthglkoddmpicdaaW.PrintLast Go.Proofs.YthglkoddmpicdaaW.PrintMore
attribute [local go_sem] max2_int min2_int max_two min_two max_four
set_option linter.unusedVariables false
set_option linter.unusedSimpArgs false

/-! ### glider_validPickup: function 65 -/
def glider_validPickup.f (k : Nat) (a0_0 : Int) (a0_1 : Int) (a0_2 : Int) (a0_3 : Int) (a0_4 : Int) (a0_5 : Int) : Option (Bool) := (bound_CheckBox.f k a0_0 a0_1 a0_2 a0_3).bind fun t283 => (if t283 = 0 then (if a0_4 ≥ 0 then (if a0_4 ≤ a0_5 then (some (decide (a0_5 ≤ 1073741824))) else (some false)) else (some false)) else (some false))
theorem glider_validPickup.mono : ∀ a0 a1 a2 a3 a4 a5 k, LeO (glider_validPickup.f k a0 a1 a2 a3 a4 a5) (glider_validPickup.f (k + 1) a0 a1 a2 a3 a4 a5) := by
 intro a0 a1 a2 a3 a4 a5 k
 unfold glider_validPickup.f
 repeat' first
   | (with_reducible exact bound_CheckBox.mono _ _ _ _ _)
   | (with_reducible exact LeO.refl _)
   | (with_reducible exact LeO.none _)
   | (with_reducible refine LeO.ite ?_ ?_)
   | (with_reducible refine LeO.bind ?_ (fun _ => ?_))
   | exact bound_CheckBox.mono _ _ _ _ _
   | exact LeO.none _
   | refine LeO.ite ?_ ?_
   | refine LeO.bind ?_ (fun _ => ?_)
set_option maxHeartbeats 8000000 in
set_option maxRecDepth 100000 in
theorem glider_validPickup.calls (k : Nat) (a0_0 : Int) (a0_1 : Int) (a0_2 : Int) (a0_3 : Int) (a0_4 : Int) (a0_5 : Int) (r : Bool) (w : World) (h : glider_validPickup.f k a0_0 a0_1 a0_2 a0_3 a0_4 a0_5 = some r) :
  Calls Try.prog 65 #[.agg #[.int .i64 a0_0, .int .i64 a0_1, .int .i64 a0_2, .int .i64 a0_3, .int .i64 a0_4, .int .i64 a0_5]] w fun e w' => e = .returned (.bool r) ∧ Below w.heap.size w w' := by
 have hu44 := Try.underlying44
 have hu29 := Try.underlying29
 have HB := Aside0.mk (Below.refl w.heap.size w)
 have H : ((bound_CheckBox.f k a0_0 a0_1 a0_2 a0_3).bind fun t283 => (if t283 = 0 then (if a0_4 ≥ 0 then (if a0_4 ≤ a0_5 then (some (decide (a0_5 ≤ 1073741824))) else (some false)) else (some false)) else (some false))) = some r := h
 clear h
 replace H := Option.bind_eq_some_iff.mp H
 obtain ⟨t283, A20, H⟩ := H
 replace H : (if t283 = 0 then (if a0_4 ≥ 0 then (if a0_4 ≤ a0_5 then (some (decide (a0_5 ≤ 1073741824))) else (some false)) else (some false)) else (some false)) = some r := H
 have A2 := Aside0.mk A20
 clear A20
 by_cases c3 : t283 = 0
 ·rw [if_pos c3] at H
  have c3b0 : (t283 == 0) = true := beq_iff_eq.mpr c3
  have c3b1 : (t283 != 0) = false := bne_eq_false_iff_eq.mpr c3
  clear c3
  by_cases c4 : a0_4 ≥ 0
  ·rw [if_pos c4] at H
   have c4b0 : decide (0 ≤ a0_4) = true := decide_eq_true c4
   clear c4
   by_cases c5 : a0_4 ≤ a0_5
   ·rw [if_pos c5] at H
    have c5b0 : decide (a0_4 ≤ a0_5) = true := decide_eq_true c5
    clear c5
    obtain rfl := Option.some.inj H
    go_enter Try.func65, Try.ntmps65
    go_wp2_with (first | ((with_reducible refine gate_dst (N := 1) rfl ?_); refine box_event (by rfl) (N := 1) (by rfl) (cs := #[.int .i64 a0_0, .int .i64 a0_1, .int .i64 a0_2, .int .i64 a0_3, .int .i64 a0_4, .int .i64 a0_5]) (t := 44) zq1 ?_; intro gb282 hg w6 hbox hb; have BK282 := Aside0.mk (hbox); have GW282 := zgs HB hg; have GE282 := zgs HB hg; replace HB := zbs HB hb; clear hb hbox hg; obtain ⟨hcz7_0, hcz7_1, hcz7_2, hcz7_3, hcz7_4, hcz7_5, hfz7_0, hfz7_1, hfz7_2, hfz7_3, hfz7_4, hfz7_5⟩ := zce6 BK282.out) | ((with_reducible refine gate_callee (f := 51) rfl ?_); refine goesL_ (some 5) rfl rfl Try.func51 zq3 rfl #[.agg #[.int .i64 a0_0, .int .i64 a0_1, .int .i64 a0_2, .int .i64 a0_3]] rfl zq8 ?_; (with_reducible refine (bound_CheckBox.calls k a0_0 a0_1 a0_2 a0_3 t283 _ A2.out).mono ?_); rintro e w8 ⟨rfl, hb⟩; refine ⟨_, rfl, ?_⟩; replace BK282 := zbb BK282 hb; replace HB := zbs HB hb; (try clear hb); (try clear hb2); (try clear hk); (try clear hi); obtain ⟨hcz9_0, hcz9_1, hcz9_2, hcz9_3, hcz9_4, hcz9_5, hfz9_0, hfz9_1, hfz9_2, hfz9_3, hfz9_4, hfz9_5⟩ := zce6 BK282.out))
    go_ret
    exact ⟨zq2, zbz⟩
   ·rw [if_neg c5] at H
    have c5b0 : decide (a0_4 ≤ a0_5) = false := decide_eq_false c5
    clear c5
    obtain rfl := Option.some.inj H
    go_enter Try.func65, Try.ntmps65
    go_wp2_with (first | ((with_reducible refine gate_dst (N := 1) rfl ?_); refine box_event (by rfl) (N := 1) (by rfl) (cs := #[.int .i64 a0_0, .int .i64 a0_1, .int .i64 a0_2, .int .i64 a0_3, .int .i64 a0_4, .int .i64 a0_5]) (t := 44) zq1 ?_; intro gb282 hg w10 hbox hb; have BK282 := Aside0.mk (hbox); have GW282 := zgs HB hg; have GE282 := zgs HB hg; replace HB := zbs HB hb; clear hb hbox hg; obtain ⟨hcz11_0, hcz11_1, hcz11_2, hcz11_3, hcz11_4, hcz11_5, hfz11_0, hfz11_1, hfz11_2, hfz11_3, hfz11_4, hfz11_5⟩ := zce6 BK282.out) | ((with_reducible refine gate_callee (f := 51) rfl ?_); refine goesL_ (some 5) rfl rfl Try.func51 zq3 rfl #[.agg #[.int .i64 a0_0, .int .i64 a0_1, .int .i64 a0_2, .int .i64 a0_3]] rfl zq8 ?_; (with_reducible refine (bound_CheckBox.calls k a0_0 a0_1 a0_2 a0_3 t283 _ A2.out).mono ?_); rintro e w12 ⟨rfl, hb⟩; refine ⟨_, rfl, ?_⟩; replace BK282 := zbb BK282 hb; replace HB := zbs HB hb; (try clear hb); (try clear hb2); (try clear hk); (try clear hi); obtain ⟨hcz13_0, hcz13_1, hcz13_2, hcz13_3, hcz13_4, hcz13_5, hfz13_0, hfz13_1, hfz13_2, hfz13_3, hfz13_4, hfz13_5⟩ := zce6 BK282.out))
    go_ret
    exact ⟨zq2, zbz⟩
  ·rw [if_neg c4] at H
   have c4b0 : decide (0 ≤ a0_4) = false := decide_eq_false c4
   clear c4
   obtain rfl := Option.some.inj H
   go_enter Try.func65, Try.ntmps65
   go_wp2_with (first | ((with_reducible refine gate_dst (N := 1) rfl ?_); refine box_event (by rfl) (N := 1) (by rfl) (cs := #[.int .i64 a0_0, .int .i64 a0_1, .int .i64 a0_2, .int .i64 a0_3, .int .i64 a0_4, .int .i64 a0_5]) (t := 44) zq1 ?_; intro gb282 hg w14 hbox hb; have BK282 := Aside0.mk (hbox); have GW282 := zgs HB hg; have GE282 := zgs HB hg; replace HB := zbs HB hb; clear hb hbox hg; obtain ⟨hcz15_0, hcz15_1, hcz15_2, hcz15_3, hcz15_4, hcz15_5, hfz15_0, hfz15_1, hfz15_2, hfz15_3, hfz15_4, hfz15_5⟩ := zce6 BK282.out) | ((with_reducible refine gate_callee (f := 51) rfl ?_); refine goesL_ (some 5) rfl rfl Try.func51 zq3 rfl #[.agg #[.int .i64 a0_0, .int .i64 a0_1, .int .i64 a0_2, .int .i64 a0_3]] rfl zq8 ?_; (with_reducible refine (bound_CheckBox.calls k a0_0 a0_1 a0_2 a0_3 t283 _ A2.out).mono ?_); rintro e w16 ⟨rfl, hb⟩; refine ⟨_, rfl, ?_⟩; replace BK282 := zbb BK282 hb; replace HB := zbs HB hb; (try clear hb); (try clear hb2); (try clear hk); (try clear hi); obtain ⟨hcz17_0, hcz17_1, hcz17_2, hcz17_3, hcz17_4, hcz17_5, hfz17_0, hfz17_1, hfz17_2, hfz17_3, hfz17_4, hfz17_5⟩ := zce6 BK282.out))
   go_ret
   exact ⟨zq2, zbz⟩
 ·rw [if_neg c3] at H
  have c3b0 : (t283 == 0) = false := beq_eq_false_iff_ne.mpr c3
  have c3b1 : (t283 != 0) = true := bne_iff_ne.mpr c3
  obtain rfl := Option.some.inj H
  go_enter Try.func65, Try.ntmps65
  go_wp2_with (first | ((with_reducible refine gate_dst (N := 1) rfl ?_); refine box_event (by rfl) (N := 1) (by rfl) (cs := #[.int .i64 a0_0, .int .i64 a0_1, .int .i64 a0_2, .int .i64 a0_3, .int .i64 a0_4, .int .i64 a0_5]) (t := 44) zq1 ?_; intro gb282 hg w18 hbox hb; have BK282 := Aside0.mk (hbox); have GW282 := zgs HB hg; have GE282 := zgs HB hg; replace HB := zbs HB hb; clear hb hbox hg; obtain ⟨hcz19_0, hcz19_1, hcz19_2, hcz19_3, hcz19_4, hcz19_5, hfz19_0, hfz19_1, hfz19_2, hfz19_3, hfz19_4, hfz19_5⟩ := zce6 BK282.out) | ((with_reducible refine gate_callee (f := 51) rfl ?_); refine goesL_ (some 5) rfl rfl Try.func51 zq3 rfl #[.agg #[.int .i64 a0_0, .int .i64 a0_1, .int .i64 a0_2, .int .i64 a0_3]] rfl zq8 ?_; (with_reducible refine (bound_CheckBox.calls k a0_0 a0_1 a0_2 a0_3 t283 _ A2.out).mono ?_); rintro e w20 ⟨rfl, hb⟩; refine ⟨_, rfl, ?_⟩; replace BK282 := zbb BK282 hb; replace HB := zbs HB hb; (try clear hb); (try clear hb2); (try clear hk); (try clear hi)))
  go_ret
  exact ⟨zq2, zbz⟩

end Go.Proofs.Ythglkoddmpicdaa.Pr
end
