/- Part 15 of the proof of GliderKnown: what the functions compute. No condition. -/
import Derived.Test.YtmhaiihjfgfaoaaGkGliderKnown3
import Derived.Test.YtmhaiihjfgfaoaaGkGliderKnown4
import Derived.Test.YtmhaiihjfgfaoaaGkGliderKnown11
import Derived.Test.YtmhaiihjfgfaoaaGkGliderKnown14
import Derived.Test.YtmhaiihjfgfaoaaGkGliderKnown6
set_option linter.unusedVariables false
set_option linter.unusedSimpArgs false
section
namespace Go.Proofs.Ytmhaiihjfgfaoaa.Pr
open Go.RowKit Go.Proofs.YtmhaiihjfgfaoaaW.PrintWords Go.Proofs.YtmhaiihjfgfaoaaW.PrintLast Go.Proofs.YtmhaiihjfgfaoaaW.PrintMore
attribute [local go_sem] max2_int min2_int max_two min_two max_four
set_option linter.unusedVariables false
set_option linter.unusedSimpArgs false

/-! ### glider_Energy: function 38 -/
def glider_Energy.f (k : Nat) (a0_0 : Int) (a0_1 : Int) (a0_2 : Int) (a0_3 : Int) (a0_4 : Int) (a0_5 : Int) (a0_6 : Int) (a1_0 : Int) (a1_1 : Int) (l2 : List (S33)) : Option ((List (S27)) × Int × Int) := (glider_CheckVehicle.f k a0_0 a0_1 a0_2 a0_3 a0_4 a0_5 a0_6).bind fun t599 => (if t599 = 0 then ((glider_bounded.f k a1_0 a1_1 0 1073741824).bind fun t600 => (if t600 = true then ((glider_checkCourses.f k l2 (-1)).bind fun t601 => (if t601 = 0 then ((glider_energy.f a0_0 a0_1 a0_2 a0_3 a0_4 a0_5 a0_6 a1_0 a1_1 l2).bind fun bt602 => (some (bt602.1, bt602.2.1, bt602.2.2))) else (some (([] : List (S27)), 0, t601)))) else (some (([] : List (S27)), 0, 2)))) else (some (([] : List (S27)), 0, t599)))
theorem glider_Energy.mono : ∀ a0 a1 a2 a3 a4 a5 a6 a7 a8 a9 k, LeO (glider_Energy.f k a0 a1 a2 a3 a4 a5 a6 a7 a8 a9) (glider_Energy.f (k + 1) a0 a1 a2 a3 a4 a5 a6 a7 a8 a9) := by
 intro a0 a1 a2 a3 a4 a5 a6 a7 a8 a9 k
 unfold glider_Energy.f
 repeat' first
   | (with_reducible exact glider_CheckVehicle.mono _ _ _ _ _ _ _ _)
   | (with_reducible exact glider_bounded.mono _ _ _ _ _)
   | (with_reducible exact glider_checkCourses.mono _ _ _)
   | (with_reducible exact LeO.refl _)
   | (with_reducible exact LeO.none _)
   | (with_reducible refine LeO.ite ?_ ?_)
   | (with_reducible refine LeO.bind ?_ (fun _ => ?_))
   | exact glider_CheckVehicle.mono _ _ _ _ _ _ _ _
   | exact glider_bounded.mono _ _ _ _ _
   | exact glider_checkCourses.mono _ _ _
   | exact LeO.none _
   | refine LeO.ite ?_ ?_
   | refine LeO.bind ?_ (fun _ => ?_)
set_option maxHeartbeats 8000000 in
set_option maxRecDepth 100000 in
theorem glider_Energy.calls (k : Nat) (a0_0 : Int) (a0_1 : Int) (a0_2 : Int) (a0_3 : Int) (a0_4 : Int) (a0_5 : Int) (a0_6 : Int) (a1_0 : Int) (a1_1 : Int) (A2 : Option Addr) (c2 : Nat) (l2 : List (S33)) (r1 : List (S27)) (r2 : Int) (r3 : Int) (w : World) (hr2 : Kd.C k33 w A2 l2.length l2) (hc2 : l2.length ≤ c2) (h : glider_Energy.f k a0_0 a0_1 a0_2 a0_3 a0_4 a0_5 a0_6 a1_0 a1_1 l2 = some (r1, r2, r3)) :
  Calls Try.prog 38 #[.agg #[.int .i64 a0_0, .int .i64 a0_1, .int .i64 a0_2, .int .i64 a0_3, .int .i64 a0_4, .int .i64 a0_5, .int .i64 a0_6], .agg #[.int .i64 a1_0, .int .i64 a1_1], .slice A2 l2.length c2] w fun e w' => ∃ v0_ : Value, e = .returned (.tuple #[v0_, .int .i64 r2, .int .i64 r3]) ∧ Kd.R k27 27 w' w.heap.size (fun _ => True) v0_ r1 ∧ Below w.heap.size w w' := by
 have hu29 := Try.underlying29
 have hu27 := Try.underlying27
 have HR2 := Aside0.mk hr2
 have HC2 := Aside0.mk hc2
 clear hr2 hc2
 have HB := Aside0.mk (Below.refl w.heap.size w)
 have H : ((glider_CheckVehicle.f k a0_0 a0_1 a0_2 a0_3 a0_4 a0_5 a0_6).bind fun t599 => (if t599 = 0 then ((glider_bounded.f k a1_0 a1_1 0 1073741824).bind fun t600 => (if t600 = true then ((glider_checkCourses.f k l2 (-1)).bind fun t601 => (if t601 = 0 then ((glider_energy.f a0_0 a0_1 a0_2 a0_3 a0_4 a0_5 a0_6 a1_0 a1_1 l2).bind fun bt602 => (some (bt602.1, bt602.2.1, bt602.2.2))) else (some (([] : List (S27)), 0, t601)))) else (some (([] : List (S27)), 0, 2)))) else (some (([] : List (S27)), 0, t599)))) = some (r1, r2, r3) := h
 clear h
 replace H := Option.bind_eq_some_iff.mp H
 obtain ⟨t599, A40, H⟩ := H
 replace H : (if t599 = 0 then ((glider_bounded.f k a1_0 a1_1 0 1073741824).bind fun t600 => (if t600 = true then ((glider_checkCourses.f k l2 (-1)).bind fun t601 => (if t601 = 0 then ((glider_energy.f a0_0 a0_1 a0_2 a0_3 a0_4 a0_5 a0_6 a1_0 a1_1 l2).bind fun bt602 => (some (bt602.1, bt602.2.1, bt602.2.2))) else (some (([] : List (S27)), 0, t601)))) else (some (([] : List (S27)), 0, 2)))) else (some (([] : List (S27)), 0, t599))) = some (r1, r2, r3) := H
 have A4 := Aside0.mk A40
 clear A40
 by_cases c5 : t599 = 0
 ·rw [if_pos c5] at H
  have c5b0 : (t599 == 0) = true := beq_iff_eq.mpr c5
  have c5b1 : (t599 != 0) = false := bne_eq_false_iff_eq.mpr c5
  clear c5
  replace H := Option.bind_eq_some_iff.mp H
  obtain ⟨t600, A60, H⟩ := H
  replace H : (if t600 = true then ((glider_checkCourses.f k l2 (-1)).bind fun t601 => (if t601 = 0 then ((glider_energy.f a0_0 a0_1 a0_2 a0_3 a0_4 a0_5 a0_6 a1_0 a1_1 l2).bind fun bt602 => (some (bt602.1, bt602.2.1, bt602.2.2))) else (some (([] : List (S27)), 0, t601)))) else (some (([] : List (S27)), 0, 2))) = some (r1, r2, r3) := H
  have A6 := Aside0.mk A60
  clear A60
  by_cases c7 : t600 = true
  ·subst c7
   have H1 : ((glider_checkCourses.f k l2 (-1)).bind fun t601 => (if t601 = 0 then ((glider_energy.f a0_0 a0_1 a0_2 a0_3 a0_4 a0_5 a0_6 a1_0 a1_1 l2).bind fun bt602 => (some (bt602.1, bt602.2.1, bt602.2.2))) else (some (([] : List (S27)), 0, t601)))) = some (r1, r2, r3) := by rw [if_pos rfl] at H; exact H
   clear H
   have H := H1
   clear H1
   replace H := Option.bind_eq_some_iff.mp H
   obtain ⟨t601, A80, H⟩ := H
   replace H : (if t601 = 0 then ((glider_energy.f a0_0 a0_1 a0_2 a0_3 a0_4 a0_5 a0_6 a1_0 a1_1 l2).bind fun bt602 => (some (bt602.1, bt602.2.1, bt602.2.2))) else (some (([] : List (S27)), 0, t601))) = some (r1, r2, r3) := H
   have A8 := Aside0.mk A80
   clear A80
   by_cases c9 : t601 = 0
   ·rw [if_pos c9] at H
    have c9b0 : (t601 == 0) = true := beq_iff_eq.mpr c9
    have c9b1 : (t601 != 0) = false := bne_eq_false_iff_eq.mpr c9
    clear c9
    replace H := Option.bind_eq_some_iff.mp H
    obtain ⟨⟨t602, t605, t606⟩, A100, H⟩ := H
    replace H : (some (t602, t605, t606)) = some (r1, r2, r3) := H
    have A10 := Aside0.mk A100
    clear A100
    simp only [Option.some.injEq, Prod.mk.injEq] at H
    obtain ⟨rfl, rfl, rfl⟩ := H
    go_enter Try.func38, Try.ntmps38
    go_wp2_with (first | ((with_reducible refine gate_dst (N := 3) rfl ?_); refine box_event (by rfl) (N := 3) (by rfl) (cs := #[.int .i64 a0_0, .int .i64 a0_1, .int .i64 a0_2, .int .i64 a0_3, .int .i64 a0_4, .int .i64 a0_5, .int .i64 a0_6]) (t := 29) zq4 ?_; intro gb597 hg w11 hbox hb; have BK597 := Aside0.mk (hbox); have GW597 := zgs HB hg; have GE597 := zgs HB hg; replace HB := zbs HB hb; clear hb hbox hg) | ((with_reducible refine gate_dst (N := 4) rfl ?_); refine box_event (by rfl) (N := 4) (by rfl) (cs := #[.int .i64 a1_0, .int .i64 a1_1]) (t := 27) zq4 ?_; intro gb598 hg w12 hbox hb; have BK598 := Aside0.mk (hbox); have GW598 := zgs HB hg; have GE598 := zgs HB hg; have NB597_598 := znp BK597 hg; have NB598_597 := znq BK597 hg; replace BK597 := zbb BK597 hb; replace HB := zbs HB hb; clear hb hbox hg; have hnb13 := NB597_598.out; have hnc13 := NB598_597.out; obtain ⟨hcz14_0, hcz14_1, hcz14_2, hcz14_3, hcz14_4, hcz14_5, hcz14_6, hfz14_0, hfz14_1, hfz14_2, hfz14_3, hfz14_4, hfz14_5, hfz14_6⟩ := zce7 BK597.out) | ((with_reducible refine gate_callee (f := 27) rfl ?_); refine goesL_ (some 12) rfl rfl Try.func27 zq1 rfl #[.agg #[.int .i64 a0_0, .int .i64 a0_1, .int .i64 a0_2, .int .i64 a0_3, .int .i64 a0_4, .int .i64 a0_5, .int .i64 a0_6]] rfl zq6 ?_; (with_reducible refine (glider_CheckVehicle.calls k a0_0 a0_1 a0_2 a0_3 a0_4 a0_5 a0_6 t599 _ A4.out).mono ?_); rintro e w15 ⟨rfl, hb⟩; refine ⟨_, rfl, ?_⟩; replace BK597 := zbb BK597 hb; replace BK598 := zbb BK598 hb; replace HB := zbs HB hb; (try clear hb); (try clear hb2); (try clear hk); (try clear hi); obtain ⟨hcz16_0, hcz16_1, hfz16_0, hfz16_1⟩ := zce2 BK598.out) | ((with_reducible refine gate_callee (f := 77) rfl ?_); refine goesL_ (some 17) rfl rfl Try.func77 zq1 rfl #[.agg #[.int .i64 a1_0, .int .i64 a1_1], .int .i64 0, .int .i64 1073741824] rfl zq6 ?_; (with_reducible refine (glider_bounded.calls k a1_0 a1_1 0 1073741824 true _ A6.out).mono ?_); rintro e w17 ⟨rfl, hb⟩; refine ⟨_, rfl, ?_⟩; replace BK597 := zbb BK597 hb; replace BK598 := zbb BK598 hb; replace HB := zbs HB hb; (try clear hb); (try clear hb2); (try clear hk); (try clear hi)) | ((with_reducible refine gate_callee (f := 65) rfl ?_); refine goesL_ (some 20) rfl rfl Try.func65 zq1 rfl #[.slice A2 l2.length c2, .int .i64 (-1)] rfl zq6 ?_; (with_reducible refine (glider_checkCourses.calls k _ _ l2 (-1) t601 _ ?side1 ?side2 A8.out).mono ?_); (case side1 => repeat (first | exact (Kd.C_below HR2.out HB.out) | (with_reducible refine Kd.C_alloc ?_ _) | (with_reducible refine Kd.C_drewN ?_ _) | (with_reducible refine Kd.C_drew ?_))); (case side2 => exact HC2.out); rintro e w18 ⟨rfl, hb⟩; refine ⟨_, rfl, ?_⟩; replace BK597 := zbb BK597 hb; replace BK598 := zbb BK598 hb; replace HB := zbs HB hb; (try clear hb); (try clear hb2); (try clear hk); (try clear hi); obtain ⟨hcz19_0, hcz19_1, hcz19_2, hcz19_3, hcz19_4, hcz19_5, hcz19_6, hfz19_0, hfz19_1, hfz19_2, hfz19_3, hfz19_4, hfz19_5, hfz19_6⟩ := zce7 BK597.out; obtain ⟨hcz20_0, hcz20_1, hfz20_0, hfz20_1⟩ := zce2 BK598.out) | ((with_reducible refine gate_callee (f := 85) rfl ?_); refine goesL_ (some 27) rfl rfl Try.func85 zq1 rfl #[.agg #[.int .i64 a0_0, .int .i64 a0_1, .int .i64 a0_2, .int .i64 a0_3, .int .i64 a0_4, .int .i64 a0_5, .int .i64 a0_6], .agg #[.int .i64 a1_0, .int .i64 a1_1], .slice A2 l2.length c2] rfl zq6 ?_; (with_reducible refine (glider_energy.calls a0_0 a0_1 a0_2 a0_3 a0_4 a0_5 a0_6 a1_0 a1_1 _ _ l2 t602 t605 t606 _ ?side1 ?side2 A10.out).mono ?_); (case side1 => repeat (first | exact (Kd.C_below HR2.out HB.out) | (with_reducible refine Kd.C_alloc ?_ _) | (with_reducible refine Kd.C_drewN ?_ _) | (with_reducible refine Kd.C_drew ?_))); (case side2 => exact HC2.out); rintro e w21 ⟨v603, rfl, ho0, hb⟩; refine ⟨_, rfl, ?_⟩; have HO604 := Aside0.mk (Kd.R_lower (Kd.R_newB ho0 (g := gb598) (o := .cells #[.int .i64 a1_0, .int .i64 a1_1] 27 (0, 0)) zbf) (below_size zbz)); replace BK597 := zbb BK597 hb; replace BK598 := zbb BK598 hb; replace HB := zbs HB hb; (try clear hb); (try clear hb2); (try clear hk); (try clear hi); (try clear ho0)))
    go_ret3
    exact ⟨_, zq5, by (with_reducible repeat (first | apply Kd.R_alloc | apply Kd.R_drewN | apply Kd.R_drew)); exact Kd.R_mono HO604.out (fun _ hk => trivial), zbz⟩
   ·rw [if_neg c9] at H
    have c9b0 : (t601 == 0) = false := beq_eq_false_iff_ne.mpr c9
    have c9b1 : (t601 != 0) = true := bne_iff_ne.mpr c9
    simp only [Option.some.injEq, Prod.mk.injEq] at H
    obtain ⟨rfl, rfl, rfl⟩ := H
    go_enter Try.func38, Try.ntmps38
    go_wp2_with (first | ((with_reducible refine gate_dst (N := 3) rfl ?_); refine box_event (by rfl) (N := 3) (by rfl) (cs := #[.int .i64 a0_0, .int .i64 a0_1, .int .i64 a0_2, .int .i64 a0_3, .int .i64 a0_4, .int .i64 a0_5, .int .i64 a0_6]) (t := 29) zq4 ?_; intro gb597 hg w22 hbox hb; have BK597 := Aside0.mk (hbox); have GW597 := zgs HB hg; have GE597 := zgs HB hg; replace HB := zbs HB hb; clear hb hbox hg) | ((with_reducible refine gate_dst (N := 4) rfl ?_); refine box_event (by rfl) (N := 4) (by rfl) (cs := #[.int .i64 a1_0, .int .i64 a1_1]) (t := 27) zq4 ?_; intro gb598 hg w23 hbox hb; have BK598 := Aside0.mk (hbox); have GW598 := zgs HB hg; have GE598 := zgs HB hg; have NB597_598 := znp BK597 hg; have NB598_597 := znq BK597 hg; replace BK597 := zbb BK597 hb; replace HB := zbs HB hb; clear hb hbox hg; have hnb24 := NB597_598.out; have hnc24 := NB598_597.out; obtain ⟨hcz25_0, hcz25_1, hcz25_2, hcz25_3, hcz25_4, hcz25_5, hcz25_6, hfz25_0, hfz25_1, hfz25_2, hfz25_3, hfz25_4, hfz25_5, hfz25_6⟩ := zce7 BK597.out) | ((with_reducible refine gate_callee (f := 27) rfl ?_); refine goesL_ (some 12) rfl rfl Try.func27 zq1 rfl #[.agg #[.int .i64 a0_0, .int .i64 a0_1, .int .i64 a0_2, .int .i64 a0_3, .int .i64 a0_4, .int .i64 a0_5, .int .i64 a0_6]] rfl zq6 ?_; (with_reducible refine (glider_CheckVehicle.calls k a0_0 a0_1 a0_2 a0_3 a0_4 a0_5 a0_6 t599 _ A4.out).mono ?_); rintro e w26 ⟨rfl, hb⟩; refine ⟨_, rfl, ?_⟩; replace BK597 := zbb BK597 hb; replace BK598 := zbb BK598 hb; replace HB := zbs HB hb; (try clear hb); (try clear hb2); (try clear hk); (try clear hi); obtain ⟨hcz27_0, hcz27_1, hfz27_0, hfz27_1⟩ := zce2 BK598.out) | ((with_reducible refine gate_callee (f := 77) rfl ?_); refine goesL_ (some 17) rfl rfl Try.func77 zq1 rfl #[.agg #[.int .i64 a1_0, .int .i64 a1_1], .int .i64 0, .int .i64 1073741824] rfl zq6 ?_; (with_reducible refine (glider_bounded.calls k a1_0 a1_1 0 1073741824 true _ A6.out).mono ?_); rintro e w28 ⟨rfl, hb⟩; refine ⟨_, rfl, ?_⟩; replace BK597 := zbb BK597 hb; replace BK598 := zbb BK598 hb; replace HB := zbs HB hb; (try clear hb); (try clear hb2); (try clear hk); (try clear hi)) | ((with_reducible refine gate_callee (f := 65) rfl ?_); refine goesL_ (some 20) rfl rfl Try.func65 zq1 rfl #[.slice A2 l2.length c2, .int .i64 (-1)] rfl zq6 ?_; (with_reducible refine (glider_checkCourses.calls k _ _ l2 (-1) t601 _ ?side1 ?side2 A8.out).mono ?_); (case side1 => repeat (first | exact (Kd.C_below HR2.out HB.out) | (with_reducible refine Kd.C_alloc ?_ _) | (with_reducible refine Kd.C_drewN ?_ _) | (with_reducible refine Kd.C_drew ?_))); (case side2 => exact HC2.out); rintro e w29 ⟨rfl, hb⟩; refine ⟨_, rfl, ?_⟩; replace BK597 := zbb BK597 hb; replace BK598 := zbb BK598 hb; replace HB := zbs HB hb; (try clear hb); (try clear hb2); (try clear hk); (try clear hi)))
    go_ret3
    exact ⟨_, zq5, zq8, zbz⟩
  ·replace c7 := Bool.eq_false_iff.mpr c7
   subst c7
   have H1 : (some (([] : List (S27)), 0, 2)) = some (r1, r2, r3) := by rw [if_neg (show ¬ (false = true) by decide)] at H; exact H
   clear H
   have H := H1
   clear H1
   simp only [Option.some.injEq, Prod.mk.injEq] at H
   obtain ⟨rfl, rfl, rfl⟩ := H
   go_enter Try.func38, Try.ntmps38
   go_wp2_with (first | ((with_reducible refine gate_dst (N := 3) rfl ?_); refine box_event (by rfl) (N := 3) (by rfl) (cs := #[.int .i64 a0_0, .int .i64 a0_1, .int .i64 a0_2, .int .i64 a0_3, .int .i64 a0_4, .int .i64 a0_5, .int .i64 a0_6]) (t := 29) zq4 ?_; intro gb597 hg w30 hbox hb; have BK597 := Aside0.mk (hbox); have GW597 := zgs HB hg; have GE597 := zgs HB hg; replace HB := zbs HB hb; clear hb hbox hg) | ((with_reducible refine gate_dst (N := 4) rfl ?_); refine box_event (by rfl) (N := 4) (by rfl) (cs := #[.int .i64 a1_0, .int .i64 a1_1]) (t := 27) zq4 ?_; intro gb598 hg w31 hbox hb; have BK598 := Aside0.mk (hbox); have GW598 := zgs HB hg; have GE598 := zgs HB hg; have NB597_598 := znp BK597 hg; have NB598_597 := znq BK597 hg; replace BK597 := zbb BK597 hb; replace HB := zbs HB hb; clear hb hbox hg; have hnb32 := NB597_598.out; have hnc32 := NB598_597.out; obtain ⟨hcz33_0, hcz33_1, hcz33_2, hcz33_3, hcz33_4, hcz33_5, hcz33_6, hfz33_0, hfz33_1, hfz33_2, hfz33_3, hfz33_4, hfz33_5, hfz33_6⟩ := zce7 BK597.out) | ((with_reducible refine gate_callee (f := 27) rfl ?_); refine goesL_ (some 12) rfl rfl Try.func27 zq1 rfl #[.agg #[.int .i64 a0_0, .int .i64 a0_1, .int .i64 a0_2, .int .i64 a0_3, .int .i64 a0_4, .int .i64 a0_5, .int .i64 a0_6]] rfl zq6 ?_; (with_reducible refine (glider_CheckVehicle.calls k a0_0 a0_1 a0_2 a0_3 a0_4 a0_5 a0_6 t599 _ A4.out).mono ?_); rintro e w34 ⟨rfl, hb⟩; refine ⟨_, rfl, ?_⟩; replace BK597 := zbb BK597 hb; replace BK598 := zbb BK598 hb; replace HB := zbs HB hb; (try clear hb); (try clear hb2); (try clear hk); (try clear hi); obtain ⟨hcz35_0, hcz35_1, hfz35_0, hfz35_1⟩ := zce2 BK598.out) | ((with_reducible refine gate_callee (f := 77) rfl ?_); refine goesL_ (some 17) rfl rfl Try.func77 zq1 rfl #[.agg #[.int .i64 a1_0, .int .i64 a1_1], .int .i64 0, .int .i64 1073741824] rfl zq6 ?_; (with_reducible refine (glider_bounded.calls k a1_0 a1_1 0 1073741824 false _ A6.out).mono ?_); rintro e w36 ⟨rfl, hb⟩; refine ⟨_, rfl, ?_⟩; replace BK597 := zbb BK597 hb; replace BK598 := zbb BK598 hb; replace HB := zbs HB hb; (try clear hb); (try clear hb2); (try clear hk); (try clear hi)))
   go_ret3
   exact ⟨_, zq5, zq8, zbz⟩
 ·rw [if_neg c5] at H
  have c5b0 : (t599 == 0) = false := beq_eq_false_iff_ne.mpr c5
  have c5b1 : (t599 != 0) = true := bne_iff_ne.mpr c5
  simp only [Option.some.injEq, Prod.mk.injEq] at H
  obtain ⟨rfl, rfl, rfl⟩ := H
  go_enter Try.func38, Try.ntmps38
  go_wp2_with (first | ((with_reducible refine gate_dst (N := 3) rfl ?_); refine box_event (by rfl) (N := 3) (by rfl) (cs := #[.int .i64 a0_0, .int .i64 a0_1, .int .i64 a0_2, .int .i64 a0_3, .int .i64 a0_4, .int .i64 a0_5, .int .i64 a0_6]) (t := 29) zq4 ?_; intro gb597 hg w37 hbox hb; have BK597 := Aside0.mk (hbox); have GW597 := zgs HB hg; have GE597 := zgs HB hg; replace HB := zbs HB hb; clear hb hbox hg) | ((with_reducible refine gate_dst (N := 4) rfl ?_); refine box_event (by rfl) (N := 4) (by rfl) (cs := #[.int .i64 a1_0, .int .i64 a1_1]) (t := 27) zq4 ?_; intro gb598 hg w38 hbox hb; have BK598 := Aside0.mk (hbox); have GW598 := zgs HB hg; have GE598 := zgs HB hg; have NB597_598 := znp BK597 hg; have NB598_597 := znq BK597 hg; replace BK597 := zbb BK597 hb; replace HB := zbs HB hb; clear hb hbox hg; have hnb39 := NB597_598.out; have hnc39 := NB598_597.out; obtain ⟨hcz40_0, hcz40_1, hcz40_2, hcz40_3, hcz40_4, hcz40_5, hcz40_6, hfz40_0, hfz40_1, hfz40_2, hfz40_3, hfz40_4, hfz40_5, hfz40_6⟩ := zce7 BK597.out) | ((with_reducible refine gate_callee (f := 27) rfl ?_); refine goesL_ (some 12) rfl rfl Try.func27 zq1 rfl #[.agg #[.int .i64 a0_0, .int .i64 a0_1, .int .i64 a0_2, .int .i64 a0_3, .int .i64 a0_4, .int .i64 a0_5, .int .i64 a0_6]] rfl zq6 ?_; (with_reducible refine (glider_CheckVehicle.calls k a0_0 a0_1 a0_2 a0_3 a0_4 a0_5 a0_6 t599 _ A4.out).mono ?_); rintro e w41 ⟨rfl, hb⟩; refine ⟨_, rfl, ?_⟩; replace BK597 := zbb BK597 hb; replace BK598 := zbb BK598 hb; replace HB := zbs HB hb; (try clear hb); (try clear hb2); (try clear hk); (try clear hi)))
  go_ret3
  exact ⟨_, zq5, zq8, zbz⟩

end Go.Proofs.Ytmhaiihjfgfaoaa.Pr
end
section
/- All courses, one after another. -/
namespace Go.Proofs.Ytmhaiihjfgfaoaa.Gl
open Go.RowKit Go.Shelf Go.Proofs.YtmhaiihjfgfaoaaW.PrintWords Go.Proofs.YtmhaiihjfgfaoaaW.PrintLast Go.Proofs.YtmhaiihjfgfaoaaW.PrintMore Go.Proofs.Ytmhaiihjfgfaoaa.Pr Go.Proofs.YtmhaiihjfgfaoaaW.Round
set_option linter.unusedVariables false
set_option linter.unusedSimpArgs false
attribute [local go_sem] max2_int min2_int max_two min_two max_four
attribute [local go_sem] Oper.semAt_some
def rowC (n : Nat) (h : Nat) : List S33 := (List.range n).map fun j : Nat => (⟨(h : Int), (j : Int)⟩ : S33)
def allC (n m : Nat) : List S33 := (List.range m).flatMap fun r : Nat => rowC n r
def uptoC (n q j : Nat) : List S33 := allC n q ++ rowC j q
theorem uptoC_row (n q : Nat) : uptoC n q 0 = allC n q := by unfold uptoC rowC; simp
theorem uptoC_succ (n q j : Nat) : uptoC n q (j + 1) = uptoC n q j ++ [(⟨(q : Int), (j : Int)⟩ : S33)] := by
 unfold uptoC rowC
 rw [List.range_succ, List.map_append, List.map_singleton, List.append_assoc]
theorem allC_succ (n q : Nat) : allC n (q + 1) = uptoC n q n := by
 unfold uptoC allC
 rw [List.range_succ, List.flatMap_append, List.flatMap_singleton]
theorem allC_pre (n : Nat) : ∀ (d q : Nat), allC n q <+: allC n (q + d)
 | 0, q => List.prefix_refl _
 | d + 1, q => by
  refine (allC_pre n d q).trans ?_
  rw [show q + (d + 1) = (q + d) + 1 by omega, allC_succ]
  exact List.prefix_append _ _
theorem uptoC_pre {n m q j : Nat} (hq : q < m) (hj : j ≤ n) : uptoC n q j <+: allC n m := by
 have h1 : uptoC n q j <+: uptoC n q n := by
  unfold uptoC
  refine (List.prefix_append_right_inj _).2 ?_
  unfold rowC
  refine List.IsPrefix.map _ ?_
  rw [show n = j + (n - j) by omega, List.range_add]
  exact List.prefix_append _ _
 rw [← allC_succ] at h1
 have h2 := allC_pre n (m - (q + 1)) (q + 1)
 rw [show q + 1 + (m - (q + 1)) = m by omega] at h2
 exact h1.trans h2
/-- A course of a sea. -/
abbrev CrsN (s : Sea) := { c : S33 // (0 ≤ c.f0 ∧ c.f0 ≤ 8) ∧ 0 ≤ c.f1 ∧ c.f1 < s.layers }
/-- All courses, by headings and then by layers. -/
def crsL (s : Sea) : List S33 := allC s.layers.toNat 9
def AllC (s : Sea) (xs : List (CrsN s)) : Prop := xs.map Subtype.val = crsL s
def PreC (s : Sea) (xs : List (CrsN s)) : Prop := xs.map Subtype.val <+: crsL s
set_option maxHeartbeats 1000000 in
theorem courses_any (b : Nat) (w : World) : Calls Try.prog 100 #[.pointer (some ⟨b, 0, none⟩)] w fun e w' => e = .returned (.func (.func 129) #[] #[.pointer (some ⟨w.heap.size, 0, none⟩)]) ∧ w' = w.alloc (.cells #[.pointer (some ⟨b, 0, none⟩)] 104) := by
 go_enter Try.func100, Try.ntmps100
 go_wp2
 go_ret
 exact ⟨rfl, rfl⟩
/-- What the iterator reads. -/
def EnvC (w0 : World) (bp b : Nat) (W : World) : Prop := Below w0.heap.size w0 W ∧ Blk W bp #[.pointer (some ⟨b, 0, none⟩)] 104
set_option maxRecDepth 100000 in
set_option maxHeartbeats 4000000 in
theorem courses1_in (n : Nat) (hn : 1 ≤ n) (l bp : Nat) (b : Nat) (s : Sea) (v : Veh) (En : World → Prop) (hEn : ∀ W, En W → TripAt W b s v ∧ Blk W bp #[.pointer (some ⟨b, 0, none⟩)] 104) (hS : SeaN s) (Kp : World → World → Prop) (hKp : ∀ A B, Kp A B → En A → En B) (J Jx : List (CrsN s) → World → Prop)
  (hY : ∀ pre c W, J pre W → pre.length < (crsL s).length → YieldAt Fence.wide (n - 1) Try.prog l #[.agg #[.int .i64 c.1.f0, .int .i64 c.1.f1]] W fun e W' =>
   (e = .returned (.bool true) ∧ J (pre ++ [c]) W' ∧ Kp W W') ∨ (e = .returned (.bool false) ∧ Jx (pre ++ [c]) W'))
  (W : World) (hE : En W) (h0 : J [] W) :
  CallsIn Fence.wide n Try.prog 129 #[.func (.yield l) #[] #[], .pointer (some ⟨bp, 0, none⟩)] W fun e W' => (∃ v, e = .returned v) ∧
   ((∃ xs, AllC s xs ∧ J xs W') ∨ (∃ pre, PreC s pre ∧ Jx pre W')) := by
 have hu33 := Try.underlying33
 have hla := hS.layers
 have HAll : Hid (crsL s = allC s.layers.toNat 9) := Lib.hid rfl
 refine callsIn_of_wp Try.func129 rfl trivial ?_ rfl
 simp only [Try.ntmps129, List.size_toArray, List.length_cons, List.length_nil, Nat.reduceAdd, Nat.reduceSub, Array.replicate_succ, Array.replicate_zero, List.push_toArray, List.append_toArray, List.nil_append, List.cons_append]
 gi_wp2
 gi_loopw [5] (fun i wr => ∃ (q : Nat) (pre : List (CrsN s)), q ≤ 9 ∧ i = .int .i64 (q : Int) ∧ Hid (pre.map Subtype.val = uptoC s.layers.toNat q 0) ∧ En wr ∧ J pre wr) (fun i _ => (9 - intOf i).toNat)
 case atStart => exact ⟨0, [], Nat.zero_le _, rfl, Lib.hid (by rw [uptoC_row]; rfl), hE, h0⟩
 case round =>
  clear hE h0
  obtain ⟨q, pre, hq, rfl, HP, hE, hJs⟩ := hrel
  obtain ⟨⟨A7, c7, A8, c8, mT, _⟩, mP⟩ := hEn _ hE
  have cP := (blk_cell mP 0).trans rfl
  have cT := (blk_cell mT 5).trans rfl
  clear mT mP
  by_cases hlt : (q : Int) < 9
  ·gi_wp2
   clear cP cT
   gi_loopw [13] (fun i wr2 => ∃ (j : Nat) (pre2 : List (CrsN s)), j ≤ s.layers.toNat ∧ i = .int .i64 (j : Int) ∧ Hid (pre2.map Subtype.val = uptoC s.layers.toNat q j) ∧ En wr2 ∧ J pre2 wr2) (fun i _ => (s.layers - intOf i).toNat)
   case atStart => exact ⟨0, pre, Nat.zero_le _, rfl, HP, hE, hJs⟩
   case round =>
    clear hE hJs
    obtain ⟨j, pre2, hj, rfl, HQ, hE, hJ2⟩ := hrel
    by_cases hjk : (j : Int) < s.layers
    ·have hlen : pre2.length < (crsL s).length := by
      have h1 := uptoC_pre (n := s.layers.toNat) (m := 9) (show q < 9 by omega) (show j + 1 ≤ s.layers.toNat by omega)
      have h2 := h1.length_le
      rw [uptoC_succ, ← HQ.out, ← HAll.out] at h2
      simp at h2
      omega
     obtain ⟨fn, tmps, assign, body, hy, hR⟩ := hY pre2 ⟨⟨(q : Int), (j : Int)⟩, ⟨by dsimp only; omega, by dsimp only; omega⟩, by dsimp only; omega, hjk⟩ _ hJ2 hlen
     dsimp only at hy
     gi_wp2
     refine hR.mono ?_
     rintro e W3 (⟨rfl, hJ3, hk3⟩ | ⟨rfl, hJx3⟩)
     ·have hE3 := hKp _ _ hk3 hE
      clear hk3 hE
      gi_wp2
      go_roundw
      case rel => exact ⟨j + 1, _, by omega, by simp, Lib.hid (by rw [List.map_append, HQ.out, uptoC_succ]; rfl), hE3, hJ3⟩
      case measure => simp [intOf]; omega
     ·gi_wp2
      refine bodyPost_ret (results_none rfl _ _ _) rfl ?_
      refine ⟨⟨_, rfl⟩, .inr ⟨_, ?_, hJx3⟩⟩
      show List.map Subtype.val _ <+: _
      rw [List.map_append, HQ.out, List.map_singleton, ← uptoC_succ, HAll.out]
      exact uptoC_pre (by omega) (by omega)
    ·obtain rfl : j = s.layers.toNat := by omega
     gi_wp2
     go_roundw
     case rel => exact ⟨q + 1, pre2, by omega, by simp, Lib.hid (by rw [HQ.out, uptoC_row, ← allC_succ]), hE, hJ2⟩
     case measure => simp [intOf]; omega
  ·obtain rfl : q = 9 := by omega
   gi_wp2
   go_end0
   exact ⟨⟨_, rfl⟩, .inl ⟨pre, by unfold AllC; rw [HAll.out, HP.out, uptoC_row], hJs⟩⟩
end Go.Proofs.Ytmhaiihjfgfaoaa.Gl
end
