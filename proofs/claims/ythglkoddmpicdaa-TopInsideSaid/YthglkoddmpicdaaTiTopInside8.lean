/- Part 8 of the proof of TopInside: what the functions compute. No condition. -/
import Derived.Test.YthglkoddmpicdaaTiTopInside3
import Derived.Test.YthglkoddmpicdaaTiTopInside4
import Derived.Test.YthglkoddmpicdaaTiTopInside5
import Derived.Test.YthglkoddmpicdaaTiTopInside7
set_option linter.unusedVariables false
set_option linter.unusedSimpArgs false
section
namespace Go.Proofs.Ythglkoddmpicdaa.Pr
open Go.RowKit Go.Proofs.YthglkoddmpicdaaW.PrintWords Go.Proofs.YthglkoddmpicdaaW.PrintLast Go.Proofs.YthglkoddmpicdaaW.PrintMore
attribute [local go_sem] max2_int min2_int max_two min_two max_four
set_option linter.unusedVariables false
set_option linter.unusedSimpArgs false

/-! ### glider_Fetched: function 17 -/
def glider_Fetched.f (k : Nat) (a0_0 : Int) (a0_1 : Int) (a0_2 : Int) (a0_3 : Int) (a0_4 : Int) (a0_5 : Int) (a0_6 : Int) (a1 : Int) (l2 : List (S29)) (a3_0 : Int) (a3_1 : Int) (a3_2 : Int) (a3_3 : Int) (a3_4 : Int) (a3_5 : Int) : Option (Int × Int) := (glider_CheckVehicle.f k a0_0 a0_1 a0_2 a0_3 a0_4 a0_5 a0_6).bind fun t302 => (if t302 = 0 then ((glider_between.f a1 0 1073741824).bind fun t303 => (if t303 = true then ((glider_checkBoxes.f l2).bind fun t304 => (if t304 = 0 then ((glider_validPickup.f k a3_0 a3_1 a3_2 a3_3 a3_4 a3_5).bind fun t305 => (if t305 = true then ((glider_fetched.f k a0_0 a0_1 a0_2 a0_3 a0_4 a0_5 a0_6 a1 l2 a3_0 a3_1 a3_2 a3_3 a3_4 a3_5).bind fun t306 => (some (t306, 0))) else (some (0, 2)))) else (some (0, t304)))) else (some (0, 3)))) else (some (0, t302)))
set_option maxHeartbeats 8000000 in
set_option maxRecDepth 100000 in
theorem glider_Fetched.calls (k : Nat) (a0_0 : Int) (a0_1 : Int) (a0_2 : Int) (a0_3 : Int) (a0_4 : Int) (a0_5 : Int) (a0_6 : Int) (a1 : Int) (A2 : Option Addr) (c2 : Nat) (l2 : List (S29)) (a3_0 : Int) (a3_1 : Int) (a3_2 : Int) (a3_3 : Int) (a3_4 : Int) (a3_5 : Int) (r1 : Int) (r2 : Int) (w : World) (hr2 : Kd.C k29 w A2 l2.length l2) (hc2 : l2.length ≤ c2) (h : glider_Fetched.f k a0_0 a0_1 a0_2 a0_3 a0_4 a0_5 a0_6 a1 l2 a3_0 a3_1 a3_2 a3_3 a3_4 a3_5 = some (r1, r2)) :
  Calls Try.prog 17 #[.agg #[.int .i64 a0_0, .int .i64 a0_1, .int .i64 a0_2, .int .i64 a0_3, .int .i64 a0_4, .int .i64 a0_5, .int .i64 a0_6], .int .i64 a1, .slice A2 l2.length c2, .agg #[.int .i64 a3_0, .int .i64 a3_1, .int .i64 a3_2, .int .i64 a3_3, .int .i64 a3_4, .int .i64 a3_5]] w fun e w' => e = .returned (.tuple #[.int .i64 r1, .int .i64 r2]) ∧ Below w.heap.size w w' := by
 have hu41 := Try.underlying41
 have hu44 := Try.underlying44
 have HR2 := Aside0.mk hr2
 have HC2 := Aside0.mk hc2
 clear hr2 hc2
 have HB := Aside0.mk (Below.refl w.heap.size w)
 have H : ((glider_CheckVehicle.f k a0_0 a0_1 a0_2 a0_3 a0_4 a0_5 a0_6).bind fun t302 => (if t302 = 0 then ((glider_between.f a1 0 1073741824).bind fun t303 => (if t303 = true then ((glider_checkBoxes.f l2).bind fun t304 => (if t304 = 0 then ((glider_validPickup.f k a3_0 a3_1 a3_2 a3_3 a3_4 a3_5).bind fun t305 => (if t305 = true then ((glider_fetched.f k a0_0 a0_1 a0_2 a0_3 a0_4 a0_5 a0_6 a1 l2 a3_0 a3_1 a3_2 a3_3 a3_4 a3_5).bind fun t306 => (some (t306, 0))) else (some (0, 2)))) else (some (0, t304)))) else (some (0, 3)))) else (some (0, t302)))) = some (r1, r2) := h
 clear h
 replace H := Option.bind_eq_some_iff.mp H
 obtain ⟨t302, A50, H⟩ := H
 replace H : (if t302 = 0 then ((glider_between.f a1 0 1073741824).bind fun t303 => (if t303 = true then ((glider_checkBoxes.f l2).bind fun t304 => (if t304 = 0 then ((glider_validPickup.f k a3_0 a3_1 a3_2 a3_3 a3_4 a3_5).bind fun t305 => (if t305 = true then ((glider_fetched.f k a0_0 a0_1 a0_2 a0_3 a0_4 a0_5 a0_6 a1 l2 a3_0 a3_1 a3_2 a3_3 a3_4 a3_5).bind fun t306 => (some (t306, 0))) else (some (0, 2)))) else (some (0, t304)))) else (some (0, 3)))) else (some (0, t302))) = some (r1, r2) := H
 have A5 := Aside0.mk A50
 clear A50
 by_cases c6 : t302 = 0
 ·rw [if_pos c6] at H
  have c6b0 : (t302 == 0) = true := beq_iff_eq.mpr c6
  have c6b1 : (t302 != 0) = false := bne_eq_false_iff_eq.mpr c6
  clear c6
  replace H := Option.bind_eq_some_iff.mp H
  obtain ⟨t303, A70, H⟩ := H
  replace H : (if t303 = true then ((glider_checkBoxes.f l2).bind fun t304 => (if t304 = 0 then ((glider_validPickup.f k a3_0 a3_1 a3_2 a3_3 a3_4 a3_5).bind fun t305 => (if t305 = true then ((glider_fetched.f k a0_0 a0_1 a0_2 a0_3 a0_4 a0_5 a0_6 a1 l2 a3_0 a3_1 a3_2 a3_3 a3_4 a3_5).bind fun t306 => (some (t306, 0))) else (some (0, 2)))) else (some (0, t304)))) else (some (0, 3))) = some (r1, r2) := H
  have A7 := Aside0.mk A70
  clear A70
  by_cases c8 : t303 = true
  ·subst c8
   have H1 : ((glider_checkBoxes.f l2).bind fun t304 => (if t304 = 0 then ((glider_validPickup.f k a3_0 a3_1 a3_2 a3_3 a3_4 a3_5).bind fun t305 => (if t305 = true then ((glider_fetched.f k a0_0 a0_1 a0_2 a0_3 a0_4 a0_5 a0_6 a1 l2 a3_0 a3_1 a3_2 a3_3 a3_4 a3_5).bind fun t306 => (some (t306, 0))) else (some (0, 2)))) else (some (0, t304)))) = some (r1, r2) := by rw [if_pos rfl] at H; exact H
   clear H
   have H := H1
   clear H1
   replace H := Option.bind_eq_some_iff.mp H
   obtain ⟨t304, A90, H⟩ := H
   replace H : (if t304 = 0 then ((glider_validPickup.f k a3_0 a3_1 a3_2 a3_3 a3_4 a3_5).bind fun t305 => (if t305 = true then ((glider_fetched.f k a0_0 a0_1 a0_2 a0_3 a0_4 a0_5 a0_6 a1 l2 a3_0 a3_1 a3_2 a3_3 a3_4 a3_5).bind fun t306 => (some (t306, 0))) else (some (0, 2)))) else (some (0, t304))) = some (r1, r2) := H
   have A9 := Aside0.mk A90
   clear A90
   by_cases c10 : t304 = 0
   ·rw [if_pos c10] at H
    have c10b0 : (t304 == 0) = true := beq_iff_eq.mpr c10
    have c10b1 : (t304 != 0) = false := bne_eq_false_iff_eq.mpr c10
    clear c10
    replace H := Option.bind_eq_some_iff.mp H
    obtain ⟨t305, A110, H⟩ := H
    replace H : (if t305 = true then ((glider_fetched.f k a0_0 a0_1 a0_2 a0_3 a0_4 a0_5 a0_6 a1 l2 a3_0 a3_1 a3_2 a3_3 a3_4 a3_5).bind fun t306 => (some (t306, 0))) else (some (0, 2))) = some (r1, r2) := H
    have A11 := Aside0.mk A110
    clear A110
    by_cases c12 : t305 = true
    ·subst c12
     have H1 : ((glider_fetched.f k a0_0 a0_1 a0_2 a0_3 a0_4 a0_5 a0_6 a1 l2 a3_0 a3_1 a3_2 a3_3 a3_4 a3_5).bind fun t306 => (some (t306, 0))) = some (r1, r2) := by rw [if_pos rfl] at H; exact H
     clear H
     have H := H1
     clear H1
     replace H := Option.bind_eq_some_iff.mp H
     obtain ⟨t306, A130, H⟩ := H
     replace H : (some (t306, 0)) = some (r1, r2) := H
     have A13 := Aside0.mk A130
     clear A130
     simp only [Option.some.injEq, Prod.mk.injEq] at H
     obtain ⟨rfl, rfl⟩ := H
     go_enter Try.func17, Try.ntmps17
     go_wp2_with (first | ((with_reducible refine gate_dst (N := 4) rfl ?_); refine box_event (by rfl) (N := 4) (by rfl) (cs := #[.int .i64 a0_0, .int .i64 a0_1, .int .i64 a0_2, .int .i64 a0_3, .int .i64 a0_4, .int .i64 a0_5, .int .i64 a0_6]) (t := 41) zq0 ?_; intro gb300 hg w14 hbox hb; have BK300 := Aside0.mk (hbox); have GW300 := zgs HB hg; have GE300 := zgs HB hg; replace HB := zbs HB hb; clear hb hbox hg) | ((with_reducible refine gate_dst (N := 7) rfl ?_); refine box_event (by rfl) (N := 7) (by rfl) (cs := #[.int .i64 a3_0, .int .i64 a3_1, .int .i64 a3_2, .int .i64 a3_3, .int .i64 a3_4, .int .i64 a3_5]) (t := 44) zq0 ?_; intro gb301 hg w15 hbox hb; have BK301 := Aside0.mk (hbox); have GW301 := zgs HB hg; have GE301 := zgs HB hg; have NB300_301 := znp BK300 hg; have NB301_300 := znq BK300 hg; replace BK300 := zbb BK300 hb; replace HB := zbs HB hb; clear hb hbox hg; have hnb16 := NB300_301.out; have hnc16 := NB301_300.out; obtain ⟨hcz17_0, hcz17_1, hcz17_2, hcz17_3, hcz17_4, hcz17_5, hcz17_6, hfz17_0, hfz17_1, hfz17_2, hfz17_3, hfz17_4, hfz17_5, hfz17_6⟩ := zce7 BK300.out) | ((with_reducible refine gate_callee (f := 62) rfl ?_); refine goesL_ (some 13) rfl rfl Try.func62 zq2 rfl #[.agg #[.int .i64 a0_0, .int .i64 a0_1, .int .i64 a0_2, .int .i64 a0_3, .int .i64 a0_4, .int .i64 a0_5, .int .i64 a0_6]] rfl zq6 ?_; (with_reducible refine (glider_CheckVehicle.calls k a0_0 a0_1 a0_2 a0_3 a0_4 a0_5 a0_6 t302 _ A5.out).mono ?_); rintro e w18 ⟨rfl, hb⟩; refine ⟨_, rfl, ?_⟩; replace BK300 := zbb BK300 hb; replace BK301 := zbb BK301 hb; replace HB := zbs HB hb; (try clear hb); (try clear hb2); (try clear hk); (try clear hi)) | ((with_reducible refine gate_callee (f := 63) rfl ?_); refine goesL_ (some 18) rfl rfl Try.func63 zq2 rfl #[.int .i64 a1, .int .i64 0, .int .i64 1073741824] rfl zq6 ?_; (with_reducible refine (glider_between.calls a1 0 1073741824 true _ A7.out).mono ?_); rintro e w' ⟨rfl, ⟨nd, rfl⟩⟩; refine ⟨_, rfl, ?_⟩) | ((with_reducible refine gate_callee (f := 64) rfl ?_); refine goesL_ (some 21) rfl rfl Try.func64 zq2 rfl #[.slice A2 l2.length c2] rfl zq6 ?_; (with_reducible refine (glider_checkBoxes.calls _ _ l2 t304 _ ?side1 ?side2 A9.out).mono ?_); (case side1 => repeat (first | exact (Kd.C_below HR2.out zbz) | (with_reducible refine Kd.C_alloc ?_ _) | (with_reducible refine Kd.C_drewN ?_ _) | (with_reducible refine Kd.C_drew ?_))); (case side2 => exact HC2.out); rintro e w19 ⟨rfl, hb⟩; refine ⟨_, rfl, ?_⟩; replace BK300 := zbb BK300 hb; replace BK301 := zbb BK301 hb; replace HB := zbs HB hb; (try clear hb); (try clear hb2); (try clear hk); (try clear hi); obtain ⟨hcz20_0, hcz20_1, hcz20_2, hcz20_3, hcz20_4, hcz20_5, hfz20_0, hfz20_1, hfz20_2, hfz20_3, hfz20_4, hfz20_5⟩ := zce6 BK301.out) | ((with_reducible refine gate_callee (f := 65) rfl ?_); refine goesL_ (some 26) rfl rfl Try.func65 zq2 rfl #[.agg #[.int .i64 a3_0, .int .i64 a3_1, .int .i64 a3_2, .int .i64 a3_3, .int .i64 a3_4, .int .i64 a3_5]] rfl zq6 ?_; (with_reducible refine (glider_validPickup.calls k a3_0 a3_1 a3_2 a3_3 a3_4 a3_5 true _ A11.out).mono ?_); rintro e w21 ⟨rfl, hb⟩; refine ⟨_, rfl, ?_⟩; replace BK300 := zbb BK300 hb; replace BK301 := zbb BK301 hb; replace HB := zbs HB hb; (try clear hb); (try clear hb2); (try clear hk); (try clear hi); obtain ⟨hcz22_0, hcz22_1, hcz22_2, hcz22_3, hcz22_4, hcz22_5, hcz22_6, hfz22_0, hfz22_1, hfz22_2, hfz22_3, hfz22_4, hfz22_5, hfz22_6⟩ := zce7 BK300.out; obtain ⟨hcz23_0, hcz23_1, hcz23_2, hcz23_3, hcz23_4, hcz23_5, hfz23_0, hfz23_1, hfz23_2, hfz23_3, hfz23_4, hfz23_5⟩ := zce6 BK301.out) | ((with_reducible refine gate_callee (f := 66) rfl ?_); refine goesL_ (some 32) rfl rfl Try.func66 zq2 rfl #[.agg #[.int .i64 a0_0, .int .i64 a0_1, .int .i64 a0_2, .int .i64 a0_3, .int .i64 a0_4, .int .i64 a0_5, .int .i64 a0_6], .int .i64 a1, .slice A2 l2.length c2, .agg #[.int .i64 a3_0, .int .i64 a3_1, .int .i64 a3_2, .int .i64 a3_3, .int .i64 a3_4, .int .i64 a3_5]] rfl zq6 ?_; (with_reducible refine (glider_fetched.calls k a0_0 a0_1 a0_2 a0_3 a0_4 a0_5 a0_6 a1 _ _ l2 a3_0 a3_1 a3_2 a3_3 a3_4 a3_5 t306 _ ?side1 ?side2 A13.out).mono ?_); (case side1 => repeat (first | exact (Kd.C_below HR2.out HB.out) | (with_reducible refine Kd.C_alloc ?_ _) | (with_reducible refine Kd.C_drewN ?_ _) | (with_reducible refine Kd.C_drew ?_))); (case side2 => exact HC2.out); rintro e w24 ⟨rfl, hb⟩; refine ⟨_, rfl, ?_⟩; replace BK300 := zbb BK300 hb; replace BK301 := zbb BK301 hb; replace HB := zbs HB hb; (try clear hb); (try clear hb2); (try clear hk); (try clear hi)))
     go_ret2
     exact ⟨zq1, zbz⟩
    ·replace c12 := Bool.eq_false_iff.mpr c12
     subst c12
     have H1 : (some (0, 2)) = some (r1, r2) := by rw [if_neg (show ¬ (false = true) by decide)] at H; exact H
     clear H
     have H := H1
     clear H1
     simp only [Option.some.injEq, Prod.mk.injEq] at H
     obtain ⟨rfl, rfl⟩ := H
     go_enter Try.func17, Try.ntmps17
     go_wp2_with (first | ((with_reducible refine gate_dst (N := 4) rfl ?_); refine box_event (by rfl) (N := 4) (by rfl) (cs := #[.int .i64 a0_0, .int .i64 a0_1, .int .i64 a0_2, .int .i64 a0_3, .int .i64 a0_4, .int .i64 a0_5, .int .i64 a0_6]) (t := 41) zq0 ?_; intro gb300 hg w25 hbox hb; have BK300 := Aside0.mk (hbox); have GW300 := zgs HB hg; have GE300 := zgs HB hg; replace HB := zbs HB hb; clear hb hbox hg) | ((with_reducible refine gate_dst (N := 7) rfl ?_); refine box_event (by rfl) (N := 7) (by rfl) (cs := #[.int .i64 a3_0, .int .i64 a3_1, .int .i64 a3_2, .int .i64 a3_3, .int .i64 a3_4, .int .i64 a3_5]) (t := 44) zq0 ?_; intro gb301 hg w26 hbox hb; have BK301 := Aside0.mk (hbox); have GW301 := zgs HB hg; have GE301 := zgs HB hg; have NB300_301 := znp BK300 hg; have NB301_300 := znq BK300 hg; replace BK300 := zbb BK300 hb; replace HB := zbs HB hb; clear hb hbox hg; have hnb27 := NB300_301.out; have hnc27 := NB301_300.out; obtain ⟨hcz28_0, hcz28_1, hcz28_2, hcz28_3, hcz28_4, hcz28_5, hcz28_6, hfz28_0, hfz28_1, hfz28_2, hfz28_3, hfz28_4, hfz28_5, hfz28_6⟩ := zce7 BK300.out) | ((with_reducible refine gate_callee (f := 62) rfl ?_); refine goesL_ (some 13) rfl rfl Try.func62 zq2 rfl #[.agg #[.int .i64 a0_0, .int .i64 a0_1, .int .i64 a0_2, .int .i64 a0_3, .int .i64 a0_4, .int .i64 a0_5, .int .i64 a0_6]] rfl zq6 ?_; (with_reducible refine (glider_CheckVehicle.calls k a0_0 a0_1 a0_2 a0_3 a0_4 a0_5 a0_6 t302 _ A5.out).mono ?_); rintro e w29 ⟨rfl, hb⟩; refine ⟨_, rfl, ?_⟩; replace BK300 := zbb BK300 hb; replace BK301 := zbb BK301 hb; replace HB := zbs HB hb; (try clear hb); (try clear hb2); (try clear hk); (try clear hi)) | ((with_reducible refine gate_callee (f := 63) rfl ?_); refine goesL_ (some 18) rfl rfl Try.func63 zq2 rfl #[.int .i64 a1, .int .i64 0, .int .i64 1073741824] rfl zq6 ?_; (with_reducible refine (glider_between.calls a1 0 1073741824 true _ A7.out).mono ?_); rintro e w' ⟨rfl, ⟨nd, rfl⟩⟩; refine ⟨_, rfl, ?_⟩) | ((with_reducible refine gate_callee (f := 64) rfl ?_); refine goesL_ (some 21) rfl rfl Try.func64 zq2 rfl #[.slice A2 l2.length c2] rfl zq6 ?_; (with_reducible refine (glider_checkBoxes.calls _ _ l2 t304 _ ?side1 ?side2 A9.out).mono ?_); (case side1 => repeat (first | exact (Kd.C_below HR2.out zbz) | (with_reducible refine Kd.C_alloc ?_ _) | (with_reducible refine Kd.C_drewN ?_ _) | (with_reducible refine Kd.C_drew ?_))); (case side2 => exact HC2.out); rintro e w30 ⟨rfl, hb⟩; refine ⟨_, rfl, ?_⟩; replace BK300 := zbb BK300 hb; replace BK301 := zbb BK301 hb; replace HB := zbs HB hb; (try clear hb); (try clear hb2); (try clear hk); (try clear hi); obtain ⟨hcz31_0, hcz31_1, hcz31_2, hcz31_3, hcz31_4, hcz31_5, hfz31_0, hfz31_1, hfz31_2, hfz31_3, hfz31_4, hfz31_5⟩ := zce6 BK301.out) | ((with_reducible refine gate_callee (f := 65) rfl ?_); refine goesL_ (some 26) rfl rfl Try.func65 zq2 rfl #[.agg #[.int .i64 a3_0, .int .i64 a3_1, .int .i64 a3_2, .int .i64 a3_3, .int .i64 a3_4, .int .i64 a3_5]] rfl zq6 ?_; (with_reducible refine (glider_validPickup.calls k a3_0 a3_1 a3_2 a3_3 a3_4 a3_5 false _ A11.out).mono ?_); rintro e w32 ⟨rfl, hb⟩; refine ⟨_, rfl, ?_⟩; replace BK300 := zbb BK300 hb; replace BK301 := zbb BK301 hb; replace HB := zbs HB hb; (try clear hb); (try clear hb2); (try clear hk); (try clear hi)))
     go_ret2
     exact ⟨zq1, zbz⟩
   ·rw [if_neg c10] at H
    have c10b0 : (t304 == 0) = false := beq_eq_false_iff_ne.mpr c10
    have c10b1 : (t304 != 0) = true := bne_iff_ne.mpr c10
    simp only [Option.some.injEq, Prod.mk.injEq] at H
    obtain ⟨rfl, rfl⟩ := H
    go_enter Try.func17, Try.ntmps17
    go_wp2_with (first | ((with_reducible refine gate_dst (N := 4) rfl ?_); refine box_event (by rfl) (N := 4) (by rfl) (cs := #[.int .i64 a0_0, .int .i64 a0_1, .int .i64 a0_2, .int .i64 a0_3, .int .i64 a0_4, .int .i64 a0_5, .int .i64 a0_6]) (t := 41) zq0 ?_; intro gb300 hg w33 hbox hb; have BK300 := Aside0.mk (hbox); have GW300 := zgs HB hg; have GE300 := zgs HB hg; replace HB := zbs HB hb; clear hb hbox hg) | ((with_reducible refine gate_dst (N := 7) rfl ?_); refine box_event (by rfl) (N := 7) (by rfl) (cs := #[.int .i64 a3_0, .int .i64 a3_1, .int .i64 a3_2, .int .i64 a3_3, .int .i64 a3_4, .int .i64 a3_5]) (t := 44) zq0 ?_; intro gb301 hg w34 hbox hb; have BK301 := Aside0.mk (hbox); have GW301 := zgs HB hg; have GE301 := zgs HB hg; have NB300_301 := znp BK300 hg; have NB301_300 := znq BK300 hg; replace BK300 := zbb BK300 hb; replace HB := zbs HB hb; clear hb hbox hg; have hnb35 := NB300_301.out; have hnc35 := NB301_300.out; obtain ⟨hcz36_0, hcz36_1, hcz36_2, hcz36_3, hcz36_4, hcz36_5, hcz36_6, hfz36_0, hfz36_1, hfz36_2, hfz36_3, hfz36_4, hfz36_5, hfz36_6⟩ := zce7 BK300.out) | ((with_reducible refine gate_callee (f := 62) rfl ?_); refine goesL_ (some 13) rfl rfl Try.func62 zq2 rfl #[.agg #[.int .i64 a0_0, .int .i64 a0_1, .int .i64 a0_2, .int .i64 a0_3, .int .i64 a0_4, .int .i64 a0_5, .int .i64 a0_6]] rfl zq6 ?_; (with_reducible refine (glider_CheckVehicle.calls k a0_0 a0_1 a0_2 a0_3 a0_4 a0_5 a0_6 t302 _ A5.out).mono ?_); rintro e w37 ⟨rfl, hb⟩; refine ⟨_, rfl, ?_⟩; replace BK300 := zbb BK300 hb; replace BK301 := zbb BK301 hb; replace HB := zbs HB hb; (try clear hb); (try clear hb2); (try clear hk); (try clear hi)) | ((with_reducible refine gate_callee (f := 63) rfl ?_); refine goesL_ (some 18) rfl rfl Try.func63 zq2 rfl #[.int .i64 a1, .int .i64 0, .int .i64 1073741824] rfl zq6 ?_; (with_reducible refine (glider_between.calls a1 0 1073741824 true _ A7.out).mono ?_); rintro e w' ⟨rfl, ⟨nd, rfl⟩⟩; refine ⟨_, rfl, ?_⟩) | ((with_reducible refine gate_callee (f := 64) rfl ?_); refine goesL_ (some 21) rfl rfl Try.func64 zq2 rfl #[.slice A2 l2.length c2] rfl zq6 ?_; (with_reducible refine (glider_checkBoxes.calls _ _ l2 t304 _ ?side1 ?side2 A9.out).mono ?_); (case side1 => repeat (first | exact (Kd.C_below HR2.out zbz) | (with_reducible refine Kd.C_alloc ?_ _) | (with_reducible refine Kd.C_drewN ?_ _) | (with_reducible refine Kd.C_drew ?_))); (case side2 => exact HC2.out); rintro e w38 ⟨rfl, hb⟩; refine ⟨_, rfl, ?_⟩; replace BK300 := zbb BK300 hb; replace BK301 := zbb BK301 hb; replace HB := zbs HB hb; (try clear hb); (try clear hb2); (try clear hk); (try clear hi)))
    go_ret2
    exact ⟨zq1, zbz⟩
  ·replace c8 := Bool.eq_false_iff.mpr c8
   subst c8
   have H1 : (some (0, 3)) = some (r1, r2) := by rw [if_neg (show ¬ (false = true) by decide)] at H; exact H
   clear H
   have H := H1
   clear H1
   simp only [Option.some.injEq, Prod.mk.injEq] at H
   obtain ⟨rfl, rfl⟩ := H
   go_enter Try.func17, Try.ntmps17
   go_wp2_with (first | ((with_reducible refine gate_dst (N := 4) rfl ?_); refine box_event (by rfl) (N := 4) (by rfl) (cs := #[.int .i64 a0_0, .int .i64 a0_1, .int .i64 a0_2, .int .i64 a0_3, .int .i64 a0_4, .int .i64 a0_5, .int .i64 a0_6]) (t := 41) zq0 ?_; intro gb300 hg w39 hbox hb; have BK300 := Aside0.mk (hbox); have GW300 := zgs HB hg; have GE300 := zgs HB hg; replace HB := zbs HB hb; clear hb hbox hg) | ((with_reducible refine gate_dst (N := 7) rfl ?_); refine box_event (by rfl) (N := 7) (by rfl) (cs := #[.int .i64 a3_0, .int .i64 a3_1, .int .i64 a3_2, .int .i64 a3_3, .int .i64 a3_4, .int .i64 a3_5]) (t := 44) zq0 ?_; intro gb301 hg w40 hbox hb; have BK301 := Aside0.mk (hbox); have GW301 := zgs HB hg; have GE301 := zgs HB hg; have NB300_301 := znp BK300 hg; have NB301_300 := znq BK300 hg; replace BK300 := zbb BK300 hb; replace HB := zbs HB hb; clear hb hbox hg; have hnb41 := NB300_301.out; have hnc41 := NB301_300.out; obtain ⟨hcz42_0, hcz42_1, hcz42_2, hcz42_3, hcz42_4, hcz42_5, hcz42_6, hfz42_0, hfz42_1, hfz42_2, hfz42_3, hfz42_4, hfz42_5, hfz42_6⟩ := zce7 BK300.out) | ((with_reducible refine gate_callee (f := 62) rfl ?_); refine goesL_ (some 13) rfl rfl Try.func62 zq2 rfl #[.agg #[.int .i64 a0_0, .int .i64 a0_1, .int .i64 a0_2, .int .i64 a0_3, .int .i64 a0_4, .int .i64 a0_5, .int .i64 a0_6]] rfl zq6 ?_; (with_reducible refine (glider_CheckVehicle.calls k a0_0 a0_1 a0_2 a0_3 a0_4 a0_5 a0_6 t302 _ A5.out).mono ?_); rintro e w43 ⟨rfl, hb⟩; refine ⟨_, rfl, ?_⟩; replace BK300 := zbb BK300 hb; replace BK301 := zbb BK301 hb; replace HB := zbs HB hb; (try clear hb); (try clear hb2); (try clear hk); (try clear hi)) | ((with_reducible refine gate_callee (f := 63) rfl ?_); refine goesL_ (some 18) rfl rfl Try.func63 zq2 rfl #[.int .i64 a1, .int .i64 0, .int .i64 1073741824] rfl zq6 ?_; (with_reducible refine (glider_between.calls a1 0 1073741824 false _ A7.out).mono ?_); rintro e w' ⟨rfl, ⟨nd, rfl⟩⟩; refine ⟨_, rfl, ?_⟩))
   go_ret2
   exact ⟨zq1, zbz⟩
 ·rw [if_neg c6] at H
  have c6b0 : (t302 == 0) = false := beq_eq_false_iff_ne.mpr c6
  have c6b1 : (t302 != 0) = true := bne_iff_ne.mpr c6
  simp only [Option.some.injEq, Prod.mk.injEq] at H
  obtain ⟨rfl, rfl⟩ := H
  go_enter Try.func17, Try.ntmps17
  go_wp2_with (first | ((with_reducible refine gate_dst (N := 4) rfl ?_); refine box_event (by rfl) (N := 4) (by rfl) (cs := #[.int .i64 a0_0, .int .i64 a0_1, .int .i64 a0_2, .int .i64 a0_3, .int .i64 a0_4, .int .i64 a0_5, .int .i64 a0_6]) (t := 41) zq0 ?_; intro gb300 hg w44 hbox hb; have BK300 := Aside0.mk (hbox); have GW300 := zgs HB hg; have GE300 := zgs HB hg; replace HB := zbs HB hb; clear hb hbox hg) | ((with_reducible refine gate_dst (N := 7) rfl ?_); refine box_event (by rfl) (N := 7) (by rfl) (cs := #[.int .i64 a3_0, .int .i64 a3_1, .int .i64 a3_2, .int .i64 a3_3, .int .i64 a3_4, .int .i64 a3_5]) (t := 44) zq0 ?_; intro gb301 hg w45 hbox hb; have BK301 := Aside0.mk (hbox); have GW301 := zgs HB hg; have GE301 := zgs HB hg; have NB300_301 := znp BK300 hg; have NB301_300 := znq BK300 hg; replace BK300 := zbb BK300 hb; replace HB := zbs HB hb; clear hb hbox hg; have hnb46 := NB300_301.out; have hnc46 := NB301_300.out; obtain ⟨hcz47_0, hcz47_1, hcz47_2, hcz47_3, hcz47_4, hcz47_5, hcz47_6, hfz47_0, hfz47_1, hfz47_2, hfz47_3, hfz47_4, hfz47_5, hfz47_6⟩ := zce7 BK300.out) | ((with_reducible refine gate_callee (f := 62) rfl ?_); refine goesL_ (some 13) rfl rfl Try.func62 zq2 rfl #[.agg #[.int .i64 a0_0, .int .i64 a0_1, .int .i64 a0_2, .int .i64 a0_3, .int .i64 a0_4, .int .i64 a0_5, .int .i64 a0_6]] rfl zq6 ?_; (with_reducible refine (glider_CheckVehicle.calls k a0_0 a0_1 a0_2 a0_3 a0_4 a0_5 a0_6 t302 _ A5.out).mono ?_); rintro e w48 ⟨rfl, hb⟩; refine ⟨_, rfl, ?_⟩; replace BK300 := zbb BK300 hb; replace BK301 := zbb BK301 hb; replace HB := zbs HB hb; (try clear hb); (try clear hb2); (try clear hk); (try clear hi)))
  go_ret2
  exact ⟨zq1, zbz⟩

end Go.Proofs.Ythglkoddmpicdaa.Pr
end
section
namespace Go.Proofs.Ythglkoddmpicdaa.Pr
open Go.RowKit Go.Proofs.YthglkoddmpicdaaW.PrintWords Go.Proofs.YthglkoddmpicdaaW.PrintLast Go.Proofs.YthglkoddmpicdaaW.PrintMore
attribute [local go_sem] max2_int min2_int max_two min_two max_four
set_option linter.unusedVariables false
set_option linter.unusedSimpArgs false

/-! ### bound_isAnswer: function 125 -/
def bound_isAnswer.f (a0 : Int) : Option (Bool) := if a0 ≥ 0 then (some (decide (a0 ≤ 2))) else (some false)
set_option maxHeartbeats 8000000 in
set_option maxRecDepth 100000 in
theorem bound_isAnswer.calls (a0 : Int) (r : Bool) (w : World) (h : bound_isAnswer.f a0 = some r) :
  Calls Try.prog 125 #[.int .i64 a0] w fun e w' => e = .returned (.bool r) ∧ Drawn0 w w' := by
 have H : (if a0 ≥ 0 then (some (decide (a0 ≤ 2))) else (some false)) = some r := h
 clear h
 by_cases c2 : a0 ≥ 0
 ·rw [if_pos c2] at H
  have c2b0 : decide (0 ≤ a0) = true := decide_eq_true c2
  clear c2
  obtain rfl := Option.some.inj H
  go_enter Try.func125, Try.ntmps125
  go_wp2
  go_ret
  exact ⟨zq3, zq8⟩
 ·rw [if_neg c2] at H
  have c2b0 : decide (0 ≤ a0) = false := decide_eq_false c2
  clear c2
  obtain rfl := Option.some.inj H
  go_enter Try.func125, Try.ntmps125
  go_wp2
  go_ret
  exact ⟨zq3, zq8⟩

end Go.Proofs.Ythglkoddmpicdaa.Pr
end
section
/- The least and the greatest number of a row, and answers that are combined: what the program answers. -/
namespace Go.Proofs.Ythglkoddmpicdaa.Tp
open Go.RowKit Go.Shelf Go.Proofs.YthglkoddmpicdaaW.PrintWords Go.Proofs.YthglkoddmpicdaaW.PrintLast Go.Proofs.YthglkoddmpicdaaW.PrintMore Go.Proofs.Ythglkoddmpicdaa.Pr Go.Proofs.Ythglkoddmpicdaa.Gl
attribute [local go_sem] max2_int min2_int max_two min_two max_four
set_option linter.unusedVariables false
theorem rd_get {l : List Int} {k : Nat} (h : k < l.length) : rd l (k : Int) = l[k] := by
 show l.getD (k : Int).toNat 0 = _
 simp [List.getD_eq_getElem?_getD, h]
end Go.Proofs.Ythglkoddmpicdaa.Tp
end
section
/- Answers that are combined: what the program answers. -/
namespace Go.Proofs.Ythglkoddmpicdaa.Tp
open Go.RowKit Go.Shelf Go.Proofs.YthglkoddmpicdaaW.PrintWords Go.Proofs.YthglkoddmpicdaaW.PrintLast Go.Proofs.YthglkoddmpicdaaW.PrintMore Go.Proofs.Ythglkoddmpicdaa.Pr Go.Proofs.Ythglkoddmpicdaa.Gl
attribute [local go_sem] max2_int min2_int max_two min_two max_four
set_option linter.unusedVariables false
theorem mn_mn (a b : Int) : mn a b = min a b := by unfold mn; split <;> omega
theorem mx_mx (a b : Int) : mx a b = max a b := by unfold mx; split <;> omega
def badA (x : Int) : Bool := !(decide (0 ≤ x) && decide (x ≤ 2))
/-- Answers, combined by a function; or the error. -/
def foldV (jn : Int → Int → Int) (l : List Int) (o : Int) : Int × Int := if 256 < l.length then (0, 6) else if l.any badA then (0, 2) else (l.foldl jn o, 0)
theorem is_any (x : Int) (w : World) : Calls Try.prog 125 #[.int .i64 x] w (RetB (.bool (!badA x)) w) := (bound_isAnswer.calls x (!badA x) w (by
 unfold bound_isAnswer.f badA
 by_cases h : 0 ≤ x
 ·rw [if_pos (by omega), decide_eq_true h]; simp
 ·rw [if_neg (by omega), decide_eq_false h]; rfl)).mono fun e w' q => ⟨q.1, q.2.below⟩
set_option maxRecDepth 100000 in
set_option maxHeartbeats 2000000 in
theorem fold_any (gs : Nat) (jn : Int → Int → Int) (A : Option Addr) (c : Nat) (l : List Int) (o0 : Int) (w : World) (hC : Kd.C (Kd.int .i64) w A l.length l) (egs : ∀ args w, (callFunc gs args).run Try.prog w = .ok (.enter gs args) w)
  (hg : ∀ a b W, Calls Try.prog gs (#[.int .i64 a, .int .i64 b] ++ #[]) W (RetB (.int .i64 (jn a b)) W)) :
  Calls Try.prog 68 #[.slice A l.length c, .int .i64 o0, .func (.func gs) #[] #[]] w (RetB (.tuple #[.int .i64 (foldV jn l o0).1, .int .i64 (foldV jn l o0).2]) w) := by
 by_cases h1 : l.length ≤ 256
 case neg =>
  have d1 : decide (256 < (l.length : Int)) = true := decide_eq_true (by omega)
  have HE : Hid (foldV jn l o0 = (0, 6)) := Lib.hid (if_pos (by omega))
  clear h1 hC hg egs
  go_enter Try.func68, Try.ntmps68
  go_wp2
  go_ret2
  exact ⟨zq16, Below.refl _ _⟩
 case pos =>
  have d1 : decide (256 < (l.length : Int)) = false := decide_eq_false (by omega)
  have HV : Hid (foldV jn l o0 = if l.any badA then (0, 2) else (l.foldl jn o0, 0)) := Lib.hid (if_neg (by omega))
  have HL := Lib.hid h1
  have hC2 := Lib.hid hC
  have hg2 := Lib.hid hg
  clear h1 hC hg
  go_enter Try.func68, Try.ntmps68
  go_upto_region 3 with fail
  go_wp2
  clear d1
  go_loopw [1, 15] (fun o i wr => ∃ (k : Nat) (v : Int), o = .int .i64 v ∧ i = .int .i64 (k : Int) ∧ k ≤ l.length ∧ Hid ((l.take k).any badA = false) ∧ Hid (v = (l.take k).foldl jn o0) ∧ Below w.heap.size w wr) (fun _ i _ => l.length - (intOf i).toNat)
  case atStart => exact ⟨0, o0, rfl, rfl, Nat.zero_le _, Lib.hid (by simp), Lib.hid (by simp), Below.refl _ _⟩
  case round =>
   obtain ⟨k, v, rfl, rfl, hk, HA, HF, mB⟩ := hrel
   by_cases hlt : k < l.length
   case pos =>
    have hd : decide ((k : Int) < (l.length : Int)) = true := decide_eq_true (by omega)
    obtain ⟨ad, rfl, hc⟩ := Kd.at_int hC2.out (k : Int) (by omega) (by omega)
    rw [rd_get hlt, Int.toNat_natCast] at hc
    replace hc := (mB.cell (World.block_lt_of_cell? w _ hc)).trans hc
    have htk : l.take (k + 1) = l.take k ++ [l[k]] := List.take_succ_eq_append_getElem hlt
    have HT := Lib.hid htk
    have hK := Lib.hid hlt
    have hw : wrap64 ((k : Int) + 1) = (k : Int) + 1 := by have := HL.out; unfold wrap64; omega
    clear htk
    generalize l[k] = x at *
    have hi1 : (k : Int) < (l.length : Int) := by omega
    have hi2 : (0 : Int) ≤ (k : Int) := by omega
    clear hlt hk
    go_upto_region 6 with fail
    clear hc hd hi1 hi2
    have hcon := is_any x wr
    go_wp2_with fail
    (with_reducible refine hcon.mono ?_)
    clear hcon
    rintro e W1 ⟨rfl, hb1⟩
    replace mB := below_step mB hb1
    clear hb1
    cases hbx : badA x with
    | true =>
     have HE : Hid (foldV jn l o0 = (0, 2)) := Lib.hid (HV.out.trans (if_pos (List.any_eq_true.2 ⟨x, List.mem_of_mem_take (i := k + 1) (by rw [HT.out]; simp), hbx⟩)))
     clear hbx
     go_wp2
     go_ret2
     exact ⟨zq16, mB⟩
    | false =>
     have HB := Lib.hid hbx
     clear hbx
     go_upto_region 8 with fail
     have hcon : Calls Try.prog gs #[.int .i64 v, .int .i64 x] W1 (RetB (.int .i64 (jn v x)) W1) := hg2.out v x W1
     go_wp2_with fail
     (with_reducible refine hcon.mono ?_)
     clear hcon
     rintro e W2 ⟨rfl, hb1⟩
     replace mB := below_step mB hb1
     clear hb1
     go_wp2
     (try rw [hw])
     go_roundw
     case rel => exact ⟨k + 1, _, rfl, by simp, by have := hK.out; omega, Lib.hid zq17, Lib.hid (by rw [HT.out, List.foldl_append, ← HF.out]; rfl), mB⟩
     case measure => have := hK.out; simp [intOf]; omega
   case neg =>
    obtain rfl : k = l.length := by omega
    have hd : decide ((l.length : Int) < (l.length : Int)) = false := decide_eq_false (by omega)
    have ha := HA.out
    have hf := HF.out
    rw [List.take_length] at ha hf
    have HE : Hid (foldV jn l o0 = (v, 0)) := Lib.hid (HV.out.trans (by rw [if_neg (by rw [ha]; decide), ← hf]))
    clear hlt hk ha hf HA HF HV
    go_wp2
    go_ret2
    exact ⟨zq16, mB⟩
theorem all1_any (a b : Int) (w : World) : Calls Try.prog 124 (#[.int .i64 a, .int .i64 b] ++ #[]) w (RetB (.int .i64 (mn a b)) w) := by
 show Calls Try.prog 124 #[.int .i64 a, .int .i64 b] w _
 go_enter Try.func124, Try.ntmps124
 go_wp2
 all_goals go_ret
 all_goals (first | exact ⟨by rw [show mn a b = b from by rw [mn_mn]; omega]; rfl, Below.refl _ _⟩ | exact ⟨by rw [show mn a b = a from by rw [mn_mn]; omega]; rfl, Below.refl _ _⟩)
set_option maxRecDepth 100000 in
set_option maxHeartbeats 2000000 in
theorem all_any (A : Option Addr) (c : Nat) (l : List Int) (w : World) (hC : Kd.C (Kd.int .i64) w A l.length l) :
  Calls Try.prog 67 #[.slice A l.length c] w (RetB (.tuple #[.int .i64 (foldV mn l 2).1, .int .i64 (foldV mn l 2).2]) w) := by
 have hcon := fold_any 124 mn A c l 2 w hC (enters_of Try.func124 zq2 rfl) all1_any
 generalize (foldV mn l 2).1 = r1 at *
 generalize (foldV mn l 2).2 = r2 at *
 clear hC
 go_enter Try.func67, Try.ntmps67
 go_wp2_with fail
 (with_reducible refine hcon.mono ?_)
 clear hcon
 rintro e W1 ⟨rfl, hb1⟩
 go_wp2
 go_ret2
 exact ⟨rfl, hb1⟩
theorem any1_any (a b : Int) (w : World) : Calls Try.prog 69 (#[.int .i64 a, .int .i64 b] ++ #[]) w (RetB (.int .i64 (mx a b)) w) := by
 show Calls Try.prog 69 #[.int .i64 a, .int .i64 b] w _
 go_enter Try.func69, Try.ntmps69
 go_wp2
 all_goals go_ret
 all_goals (first | exact ⟨by rw [show mx a b = b from by rw [mx_mx]; omega]; rfl, Below.refl _ _⟩ | exact ⟨by rw [show mx a b = a from by rw [mx_mx]; omega]; rfl, Below.refl _ _⟩)
set_option maxRecDepth 100000 in
set_option maxHeartbeats 2000000 in
theorem any_any (A : Option Addr) (c : Nat) (l : List Int) (w : World) (hC : Kd.C (Kd.int .i64) w A l.length l) :
  Calls Try.prog 19 #[.slice A l.length c] w (RetB (.tuple #[.int .i64 (foldV mx l 0).1, .int .i64 (foldV mx l 0).2]) w) := by
 have hcon := fold_any 69 mx A c l 0 w hC (enters_of Try.func69 zq2 rfl) any1_any
 generalize (foldV mx l 0).1 = r1 at *
 generalize (foldV mx l 0).2 = r2 at *
 clear hC
 go_enter Try.func19, Try.ntmps19
 go_wp2_with fail
 (with_reducible refine hcon.mono ?_)
 clear hcon
 rintro e W1 ⟨rfl, hb1⟩
 go_wp2
 go_ret2
 exact ⟨rfl, hb1⟩
end Go.Proofs.Ythglkoddmpicdaa.Tp
end
section
/- All and Any of answers, in the shape of the print. -/
namespace Go.Proofs.Ythglkoddmpicdaa.Pr
open Go.RowKit Go.Proofs.YthglkoddmpicdaaW.PrintWords Go.Proofs.YthglkoddmpicdaaW.PrintLast Go.Proofs.YthglkoddmpicdaaW.PrintMore
set_option linter.unusedVariables false
def bound_All.f (l0 : List Int) : Option (Int × Int) := some (Tp.foldV mn l0 2)
theorem bound_All.calls (A0 : Option Addr) (c0 : Nat) (l0 : List Int) (r1 : Int) (r2 : Int) (w : World) (hr0 : Kd.C (Kd.int .i64) w A0 l0.length l0) (hc0 : l0.length ≤ c0) (h : bound_All.f l0 = some (r1, r2)) :
  Calls Try.prog 67 #[.slice A0 l0.length c0] w fun e w' => e = .returned (.tuple #[.int .i64 r1, .int .i64 r2]) ∧ Below w.heap.size w w' := by
 have e := Option.some.inj h
 rw [show r1 = (Tp.foldV mn l0 2).1 by rw [e], show r2 = (Tp.foldV mn l0 2).2 by rw [e]]
 exact (Tp.all_any A0 c0 l0 w hr0)
def bound_Any.f (l0 : List Int) : Option (Int × Int) := some (Tp.foldV mx l0 0)
theorem bound_Any.calls (A0 : Option Addr) (c0 : Nat) (l0 : List Int) (r1 : Int) (r2 : Int) (w : World) (hr0 : Kd.C (Kd.int .i64) w A0 l0.length l0) (hc0 : l0.length ≤ c0) (h : bound_Any.f l0 = some (r1, r2)) :
  Calls Try.prog 19 #[.slice A0 l0.length c0] w fun e w' => e = .returned (.tuple #[.int .i64 r1, .int .i64 r2]) ∧ Below w.heap.size w w' := by
 have e := Option.some.inj h
 rw [show r1 = (Tp.foldV mx l0 0).1 by rw [e], show r2 = (Tp.foldV mx l0 0).2 by rw [e]]
 exact (Tp.any_any A0 c0 l0 w hr0)
end Go.Proofs.Ythglkoddmpicdaa.Pr
end
section
namespace Go.Proofs.Ythglkoddmpicdaa.Pr
open Go.RowKit Go.Proofs.YthglkoddmpicdaaW.PrintWords Go.Proofs.YthglkoddmpicdaaW.PrintLast Go.Proofs.YthglkoddmpicdaaW.PrintMore
attribute [local go_sem] max2_int min2_int max_two min_two max_four
set_option linter.unusedVariables false
set_option linter.unusedSimpArgs false

/-! ### isobathtop_within: function 18 -/
def isobathtop_within.f (k : Nat) (a0_0 : Int) (a0_1 : Int) (a0_2 : Int) (a0_3 : Int) (a1_0 : Int) (a1_1 : Int) (a1_2 : Int) (a1_3 : Int) : Option (Int × Bool) := (bound_In.f k a0_0 a0_1 a1_0 a1_1).bind fun bt309 => ((bound_In.f k a0_2 a0_3 a1_2 a1_3).bind fun bt311 => ((bound_All.f (([bt309.1, bt311.1] : List Int))).bind fun bt316 => (if bt309.2 = 0 then (if bt311.2 = 0 then (some (bt316.1, (bt316.2 == 0))) else (some (bt316.1, false))) else (some (bt316.1, false)))))
set_option maxHeartbeats 8000000 in
set_option maxRecDepth 100000 in
theorem isobathtop_within.calls (k : Nat) (a0_0 : Int) (a0_1 : Int) (a0_2 : Int) (a0_3 : Int) (a1_0 : Int) (a1_1 : Int) (a1_2 : Int) (a1_3 : Int) (r1 : Int) (r2 : Bool) (w : World) (h : isobathtop_within.f k a0_0 a0_1 a0_2 a0_3 a1_0 a1_1 a1_2 a1_3 = some (r1, r2)) :
  Calls Try.prog 18 #[.agg #[.int .i64 a0_0, .int .i64 a0_1, .int .i64 a0_2, .int .i64 a0_3], .agg #[.int .i64 a1_0, .int .i64 a1_1, .int .i64 a1_2, .int .i64 a1_3]] w fun e w' => e = .returned (.tuple #[.int .i64 r1, .bool r2]) ∧ Below w.heap.size w w' := by
 have hu29 := Try.underlying29
 have hu27 := Try.underlying27
 have HB := Aside0.mk (Below.refl w.heap.size w)
 have H : ((bound_In.f k a0_0 a0_1 a1_0 a1_1).bind fun bt309 => ((bound_In.f k a0_2 a0_3 a1_2 a1_3).bind fun bt311 => ((bound_All.f (([bt309.1, bt311.1] : List Int))).bind fun bt316 => (if bt309.2 = 0 then (if bt311.2 = 0 then (some (bt316.1, (bt316.2 == 0))) else (some (bt316.1, false))) else (some (bt316.1, false)))))) = some (r1, r2) := h
 clear h
 replace H := Option.bind_eq_some_iff.mp H
 obtain ⟨⟨t309, t310⟩, A30, H⟩ := H
 replace H : ((bound_In.f k a0_2 a0_3 a1_2 a1_3).bind fun bt311 => ((bound_All.f (([t309, bt311.1] : List Int))).bind fun bt316 => (if t310 = 0 then (if bt311.2 = 0 then (some (bt316.1, (bt316.2 == 0))) else (some (bt316.1, false))) else (some (bt316.1, false))))) = some (r1, r2) := H
 have A3 := Aside0.mk A30
 clear A30
 replace H := Option.bind_eq_some_iff.mp H
 obtain ⟨⟨t311, t312⟩, A40, H⟩ := H
 replace H : ((bound_All.f (([t309, t311] : List Int))).bind fun bt316 => (if t310 = 0 then (if t312 = 0 then (some (bt316.1, (bt316.2 == 0))) else (some (bt316.1, false))) else (some (bt316.1, false)))) = some (r1, r2) := H
 have A4 := Aside0.mk A40
 clear A40
 obtain ⟨y313, hy313⟩ : ∃ y_ : List Int, y_ = (([t309, t311] : List Int)) := ⟨_, rfl⟩
 replace H : ((bound_All.f y313).bind fun bt316 => (if t310 = 0 then (if t312 = 0 then (some (bt316.1, (bt316.2 == 0))) else (some (bt316.1, false))) else (some (bt316.1, false)))) = some (r1, r2) := by first | (rw [hy313]; with_reducible exact H) | (have H2_ := (Option.bind_some _ _).symm.trans H; rw [hy313]; with_reducible exact H2_) | (have H2_ := (Option.bind_some _ _).symm.trans H; with_reducible exact H2_) | with_reducible exact H | (rw [hy313]; exact H) | exact H
 have Ny313 := Aside0.mk hy313
 clear hy313
 replace H := Option.bind_eq_some_iff.mp H
 obtain ⟨⟨t316, t317⟩, A50, H⟩ := H
 replace H : (if t310 = 0 then (if t312 = 0 then (some (t316, (t317 == 0))) else (some (t316, false))) else (some (t316, false))) = some (r1, r2) := H
 have A5 := Aside0.mk A50
 clear A50
 by_cases c6 : t310 = 0
 ·rw [if_pos c6] at H
  have c6b0 : (t310 == 0) = true := beq_iff_eq.mpr c6
  have c6b1 : (t310 != 0) = false := bne_eq_false_iff_eq.mpr c6
  clear c6
  by_cases c7 : t312 = 0
  ·rw [if_pos c7] at H
   have c7b0 : (t312 == 0) = true := beq_iff_eq.mpr c7
   have c7b1 : (t312 != 0) = false := bne_eq_false_iff_eq.mpr c7
   clear c7
   simp only [Option.some.injEq, Prod.mk.injEq] at H
   obtain ⟨rfl, rfl⟩ := H
   go_enter Try.func18, Try.ntmps18
   go_wp2_with (first | ((with_reducible refine gate_dst (N := 2) rfl ?_); refine box_event (by rfl) (N := 2) (by rfl) (cs := #[.int .i64 a0_0, .int .i64 a0_1, .int .i64 a0_2, .int .i64 a0_3]) (t := 29) zq0 ?_; intro gb307 hg w8 hbox hb; have BK307 := Aside0.mk (hbox); have GW307 := zgs HB hg; have GE307 := zgs HB hg; replace HB := zbs HB hb; clear hb hbox hg) | ((with_reducible refine gate_dst (N := 3) rfl ?_); refine box_event (by rfl) (N := 3) (by rfl) (cs := #[.int .i64 a1_0, .int .i64 a1_1, .int .i64 a1_2, .int .i64 a1_3]) (t := 29) zq0 ?_; intro gb308 hg w9 hbox hb; have BK308 := Aside0.mk (hbox); have GW308 := zgs HB hg; have GE308 := zgs HB hg; have NB307_308 := znp BK307 hg; have NB308_307 := znq BK307 hg; replace BK307 := zbb BK307 hb; replace HB := zbs HB hb; clear hb hbox hg; have hnb10 := NB307_308.out; have hnc10 := NB308_307.out; obtain ⟨hcz11_0, hcz11_1, hcz11_2, hcz11_3, hfz11_0, hfz11_1, hfz11_2, hfz11_3⟩ := zce4 BK307.out; obtain ⟨hcz12_0, hcz12_1, hcz12_2, hcz12_3, hfz12_0, hfz12_1, hfz12_2, hfz12_3⟩ := zce4 BK308.out) | ((with_reducible refine gate_callee (f := 45) rfl ?_); refine goesL_ (some 17) rfl rfl Try.func45 zq2 rfl #[.agg #[.int .i64 a0_0, .int .i64 a0_1], .agg #[.int .i64 a1_0, .int .i64 a1_1]] rfl zq6 ?_; (with_reducible refine (bound_In.calls k a0_0 a0_1 a1_0 a1_1 t309 t310 _ A3.out).mono ?_); rintro e w13 ⟨rfl, hb⟩; refine ⟨_, rfl, ?_⟩; replace BK307 := zbb BK307 hb; replace BK308 := zbb BK308 hb; replace HB := zbs HB hb; (try clear hb); (try clear hb2); (try clear hk); (try clear hi); obtain ⟨hcz14_0, hcz14_1, hcz14_2, hcz14_3, hfz14_0, hfz14_1, hfz14_2, hfz14_3⟩ := zce4 BK307.out; obtain ⟨hcz15_0, hcz15_1, hcz15_2, hcz15_3, hfz15_0, hfz15_1, hfz15_2, hfz15_3⟩ := zce4 BK308.out) | ((with_reducible refine gate_callee (f := 45) rfl ?_); refine goesL_ (some 25) rfl rfl Try.func45 zq2 rfl #[.agg #[.int .i64 a0_2, .int .i64 a0_3], .agg #[.int .i64 a1_2, .int .i64 a1_3]] rfl zq6 ?_; (with_reducible refine (bound_In.calls k a0_2 a0_3 a1_2 a1_3 t311 t312 _ A4.out).mono ?_); rintro e w16 ⟨rfl, hb⟩; refine ⟨_, rfl, ?_⟩; replace BK307 := zbb BK307 hb; replace BK308 := zbb BK308 hb; replace HB := zbs HB hb; (try clear hb); (try clear hb2); (try clear hk); (try clear hi)) | ((with_reducible refine gate_dst (N := 31) rfl ?_); refine Kd.R_lit (Kd.int .i64) _ 46 (by rfl) (N := 31) (by rfl) (xs := ([t309, t311] : List Int)) (inner := [.int .i64 t309, .int .i64 t311]) (ok := fun _ => True) (okp := fun _ => True) zq0 zq21 (fun _ hk => hk) trivial (Below.refl _ _) (Nat.le_refl _) (by simp) ?_; intro v314 w17 ho18 hb hg_ hnew_; clear hg_ hnew_; (first | rw [← Ny313.out] at ho18 | (simp only [Int.reduceToNat] at ho18; rw [← Ny313.out] at ho18)); have HO315 := Aside0.mk (Kd.R_lower ho18 (below_size zbz)); replace BK307 := zbb BK307 hb; replace BK308 := zbb BK308 hb; replace HB := zbs HB hb; clear hb ho18; obtain ⟨Ao19, co19, eo19⟩ := Kd.R_slice HO315.out; subst eo19) | ((with_reducible refine gate_callee (f := 67) rfl ?_); refine goesL_ (some 32) rfl rfl Try.func67 zq2 rfl #[.slice Ao19 y313.length co19] rfl zq6 ?_; (with_reducible refine (bound_All.calls _ _ y313 t316 t317 _ ?side1 ?side2 A5.out).mono ?_); (case side1 => repeat (first | exact (Kd.R_reads' HO315.out).2.2 | (with_reducible refine Kd.C_alloc ?_ _) | (with_reducible refine Kd.C_drewN ?_ _) | (with_reducible refine Kd.C_drew ?_))); (case side2 => exact (Kd.R_reads' HO315.out).2.1); rintro e w20 ⟨rfl, hb⟩; refine ⟨_, rfl, ?_⟩; replace HO315 := zrb HO315 hb; replace BK307 := zbb BK307 hb; replace BK308 := zbb BK308 hb; replace HB := zbs HB hb; (try clear hb); (try clear hb2); (try clear hk); (try clear hi)))
   go_ret2
   exact ⟨zq1, zbz⟩
  ·rw [if_neg c7] at H
   have c7b0 : (t312 == 0) = false := beq_eq_false_iff_ne.mpr c7
   have c7b1 : (t312 != 0) = true := bne_iff_ne.mpr c7
   simp only [Option.some.injEq, Prod.mk.injEq] at H
   obtain ⟨rfl, rfl⟩ := H
   go_enter Try.func18, Try.ntmps18
   go_wp2_with (first | ((with_reducible refine gate_dst (N := 2) rfl ?_); refine box_event (by rfl) (N := 2) (by rfl) (cs := #[.int .i64 a0_0, .int .i64 a0_1, .int .i64 a0_2, .int .i64 a0_3]) (t := 29) zq0 ?_; intro gb307 hg w21 hbox hb; have BK307 := Aside0.mk (hbox); have GW307 := zgs HB hg; have GE307 := zgs HB hg; replace HB := zbs HB hb; clear hb hbox hg) | ((with_reducible refine gate_dst (N := 3) rfl ?_); refine box_event (by rfl) (N := 3) (by rfl) (cs := #[.int .i64 a1_0, .int .i64 a1_1, .int .i64 a1_2, .int .i64 a1_3]) (t := 29) zq0 ?_; intro gb308 hg w22 hbox hb; have BK308 := Aside0.mk (hbox); have GW308 := zgs HB hg; have GE308 := zgs HB hg; have NB307_308 := znp BK307 hg; have NB308_307 := znq BK307 hg; replace BK307 := zbb BK307 hb; replace HB := zbs HB hb; clear hb hbox hg; have hnb23 := NB307_308.out; have hnc23 := NB308_307.out; obtain ⟨hcz24_0, hcz24_1, hcz24_2, hcz24_3, hfz24_0, hfz24_1, hfz24_2, hfz24_3⟩ := zce4 BK307.out; obtain ⟨hcz25_0, hcz25_1, hcz25_2, hcz25_3, hfz25_0, hfz25_1, hfz25_2, hfz25_3⟩ := zce4 BK308.out) | ((with_reducible refine gate_callee (f := 45) rfl ?_); refine goesL_ (some 17) rfl rfl Try.func45 zq2 rfl #[.agg #[.int .i64 a0_0, .int .i64 a0_1], .agg #[.int .i64 a1_0, .int .i64 a1_1]] rfl zq6 ?_; (with_reducible refine (bound_In.calls k a0_0 a0_1 a1_0 a1_1 t309 t310 _ A3.out).mono ?_); rintro e w26 ⟨rfl, hb⟩; refine ⟨_, rfl, ?_⟩; replace BK307 := zbb BK307 hb; replace BK308 := zbb BK308 hb; replace HB := zbs HB hb; (try clear hb); (try clear hb2); (try clear hk); (try clear hi); obtain ⟨hcz27_0, hcz27_1, hcz27_2, hcz27_3, hfz27_0, hfz27_1, hfz27_2, hfz27_3⟩ := zce4 BK307.out; obtain ⟨hcz28_0, hcz28_1, hcz28_2, hcz28_3, hfz28_0, hfz28_1, hfz28_2, hfz28_3⟩ := zce4 BK308.out) | ((with_reducible refine gate_callee (f := 45) rfl ?_); refine goesL_ (some 25) rfl rfl Try.func45 zq2 rfl #[.agg #[.int .i64 a0_2, .int .i64 a0_3], .agg #[.int .i64 a1_2, .int .i64 a1_3]] rfl zq6 ?_; (with_reducible refine (bound_In.calls k a0_2 a0_3 a1_2 a1_3 t311 t312 _ A4.out).mono ?_); rintro e w29 ⟨rfl, hb⟩; refine ⟨_, rfl, ?_⟩; replace BK307 := zbb BK307 hb; replace BK308 := zbb BK308 hb; replace HB := zbs HB hb; (try clear hb); (try clear hb2); (try clear hk); (try clear hi)) | ((with_reducible refine gate_dst (N := 31) rfl ?_); refine Kd.R_lit (Kd.int .i64) _ 46 (by rfl) (N := 31) (by rfl) (xs := ([t309, t311] : List Int)) (inner := [.int .i64 t309, .int .i64 t311]) (ok := fun _ => True) (okp := fun _ => True) zq0 zq21 (fun _ hk => hk) trivial (Below.refl _ _) (Nat.le_refl _) (by simp) ?_; intro v314 w30 ho31 hb hg_ hnew_; clear hg_ hnew_; (first | rw [← Ny313.out] at ho31 | (simp only [Int.reduceToNat] at ho31; rw [← Ny313.out] at ho31)); have HO315 := Aside0.mk (Kd.R_lower ho31 (below_size zbz)); replace BK307 := zbb BK307 hb; replace BK308 := zbb BK308 hb; replace HB := zbs HB hb; clear hb ho31; obtain ⟨Ao32, co32, eo32⟩ := Kd.R_slice HO315.out; subst eo32) | ((with_reducible refine gate_callee (f := 67) rfl ?_); refine goesL_ (some 32) rfl rfl Try.func67 zq2 rfl #[.slice Ao32 y313.length co32] rfl zq6 ?_; (with_reducible refine (bound_All.calls _ _ y313 t316 t317 _ ?side1 ?side2 A5.out).mono ?_); (case side1 => repeat (first | exact (Kd.R_reads' HO315.out).2.2 | (with_reducible refine Kd.C_alloc ?_ _) | (with_reducible refine Kd.C_drewN ?_ _) | (with_reducible refine Kd.C_drew ?_))); (case side2 => exact (Kd.R_reads' HO315.out).2.1); rintro e w33 ⟨rfl, hb⟩; refine ⟨_, rfl, ?_⟩; replace HO315 := zrb HO315 hb; replace BK307 := zbb BK307 hb; replace BK308 := zbb BK308 hb; replace HB := zbs HB hb; (try clear hb); (try clear hb2); (try clear hk); (try clear hi)))
   go_ret2
   exact ⟨zq1, zbz⟩
 ·rw [if_neg c6] at H
  have c6b0 : (t310 == 0) = false := beq_eq_false_iff_ne.mpr c6
  have c6b1 : (t310 != 0) = true := bne_iff_ne.mpr c6
  simp only [Option.some.injEq, Prod.mk.injEq] at H
  obtain ⟨rfl, rfl⟩ := H
  go_enter Try.func18, Try.ntmps18
  go_wp2_with (first | ((with_reducible refine gate_dst (N := 2) rfl ?_); refine box_event (by rfl) (N := 2) (by rfl) (cs := #[.int .i64 a0_0, .int .i64 a0_1, .int .i64 a0_2, .int .i64 a0_3]) (t := 29) zq0 ?_; intro gb307 hg w34 hbox hb; have BK307 := Aside0.mk (hbox); have GW307 := zgs HB hg; have GE307 := zgs HB hg; replace HB := zbs HB hb; clear hb hbox hg) | ((with_reducible refine gate_dst (N := 3) rfl ?_); refine box_event (by rfl) (N := 3) (by rfl) (cs := #[.int .i64 a1_0, .int .i64 a1_1, .int .i64 a1_2, .int .i64 a1_3]) (t := 29) zq0 ?_; intro gb308 hg w35 hbox hb; have BK308 := Aside0.mk (hbox); have GW308 := zgs HB hg; have GE308 := zgs HB hg; have NB307_308 := znp BK307 hg; have NB308_307 := znq BK307 hg; replace BK307 := zbb BK307 hb; replace HB := zbs HB hb; clear hb hbox hg; have hnb36 := NB307_308.out; have hnc36 := NB308_307.out; obtain ⟨hcz37_0, hcz37_1, hcz37_2, hcz37_3, hfz37_0, hfz37_1, hfz37_2, hfz37_3⟩ := zce4 BK307.out; obtain ⟨hcz38_0, hcz38_1, hcz38_2, hcz38_3, hfz38_0, hfz38_1, hfz38_2, hfz38_3⟩ := zce4 BK308.out) | ((with_reducible refine gate_callee (f := 45) rfl ?_); refine goesL_ (some 17) rfl rfl Try.func45 zq2 rfl #[.agg #[.int .i64 a0_0, .int .i64 a0_1], .agg #[.int .i64 a1_0, .int .i64 a1_1]] rfl zq6 ?_; (with_reducible refine (bound_In.calls k a0_0 a0_1 a1_0 a1_1 t309 t310 _ A3.out).mono ?_); rintro e w39 ⟨rfl, hb⟩; refine ⟨_, rfl, ?_⟩; replace BK307 := zbb BK307 hb; replace BK308 := zbb BK308 hb; replace HB := zbs HB hb; (try clear hb); (try clear hb2); (try clear hk); (try clear hi); obtain ⟨hcz40_0, hcz40_1, hcz40_2, hcz40_3, hfz40_0, hfz40_1, hfz40_2, hfz40_3⟩ := zce4 BK307.out; obtain ⟨hcz41_0, hcz41_1, hcz41_2, hcz41_3, hfz41_0, hfz41_1, hfz41_2, hfz41_3⟩ := zce4 BK308.out) | ((with_reducible refine gate_callee (f := 45) rfl ?_); refine goesL_ (some 25) rfl rfl Try.func45 zq2 rfl #[.agg #[.int .i64 a0_2, .int .i64 a0_3], .agg #[.int .i64 a1_2, .int .i64 a1_3]] rfl zq6 ?_; (with_reducible refine (bound_In.calls k a0_2 a0_3 a1_2 a1_3 t311 t312 _ A4.out).mono ?_); rintro e w42 ⟨rfl, hb⟩; refine ⟨_, rfl, ?_⟩; replace BK307 := zbb BK307 hb; replace BK308 := zbb BK308 hb; replace HB := zbs HB hb; (try clear hb); (try clear hb2); (try clear hk); (try clear hi)) | ((with_reducible refine gate_dst (N := 31) rfl ?_); refine Kd.R_lit (Kd.int .i64) _ 46 (by rfl) (N := 31) (by rfl) (xs := ([t309, t311] : List Int)) (inner := [.int .i64 t309, .int .i64 t311]) (ok := fun _ => True) (okp := fun _ => True) zq0 zq21 (fun _ hk => hk) trivial (Below.refl _ _) (Nat.le_refl _) (by simp) ?_; intro v314 w43 ho44 hb hg_ hnew_; clear hg_ hnew_; (first | rw [← Ny313.out] at ho44 | (simp only [Int.reduceToNat] at ho44; rw [← Ny313.out] at ho44)); have HO315 := Aside0.mk (Kd.R_lower ho44 (below_size zbz)); replace BK307 := zbb BK307 hb; replace BK308 := zbb BK308 hb; replace HB := zbs HB hb; clear hb ho44; obtain ⟨Ao45, co45, eo45⟩ := Kd.R_slice HO315.out; subst eo45) | ((with_reducible refine gate_callee (f := 67) rfl ?_); refine goesL_ (some 32) rfl rfl Try.func67 zq2 rfl #[.slice Ao45 y313.length co45] rfl zq6 ?_; (with_reducible refine (bound_All.calls _ _ y313 t316 t317 _ ?side1 ?side2 A5.out).mono ?_); (case side1 => repeat (first | exact (Kd.R_reads' HO315.out).2.2 | (with_reducible refine Kd.C_alloc ?_ _) | (with_reducible refine Kd.C_drewN ?_ _) | (with_reducible refine Kd.C_drew ?_))); (case side2 => exact (Kd.R_reads' HO315.out).2.1); rintro e w46 ⟨rfl, hb⟩; refine ⟨_, rfl, ?_⟩; replace HO315 := zrb HO315 hb; replace BK307 := zbb BK307 hb; replace BK308 := zbb BK308 hb; replace HB := zbs HB hb; (try clear hb); (try clear hb2); (try clear hk); (try clear hi)))
  go_ret2
  exact ⟨zq1, zbz⟩

end Go.Proofs.Ythglkoddmpicdaa.Pr
end
section
namespace Go.Proofs.Ythglkoddmpicdaa.Pr
open Go.RowKit Go.Proofs.YthglkoddmpicdaaW.PrintWords Go.Proofs.YthglkoddmpicdaaW.PrintLast Go.Proofs.YthglkoddmpicdaaW.PrintMore
attribute [local go_sem] max2_int min2_int max_two min_two max_four
set_option linter.unusedVariables false
set_option linter.unusedSimpArgs false

/-! ### isobathref01_Within: function 116 -/
def isobathref01_Within.f (a0 : Int) (a1 : Int) (a2 : Int) : Option (Bool) := if a0 ≥ a1 then (some (decide (a0 ≤ a2))) else (some false)
set_option maxHeartbeats 8000000 in
set_option maxRecDepth 100000 in
theorem isobathref01_Within.calls (a0 : Int) (a1 : Int) (a2 : Int) (r : Bool) (w : World) (h : isobathref01_Within.f a0 a1 a2 = some r) :
  Calls Try.prog 116 #[.int .i64 a0, .int .i64 a1, .int .i64 a2] w fun e w' => e = .returned (.bool r) ∧ Drawn0 w w' := by
 have H : (if a0 ≥ a1 then (some (decide (a0 ≤ a2))) else (some false)) = some r := h
 clear h
 by_cases c4 : a0 ≥ a1
 ·rw [if_pos c4] at H
  have c4b0 : decide (a1 ≤ a0) = true := decide_eq_true c4
  clear c4
  obtain rfl := Option.some.inj H
  go_enter Try.func116, Try.ntmps116
  go_wp2
  go_ret
  exact ⟨zq3, zq8⟩
 ·rw [if_neg c4] at H
  have c4b0 : decide (a1 ≤ a0) = false := decide_eq_false c4
  clear c4
  obtain rfl := Option.some.inj H
  go_enter Try.func116, Try.ntmps116
  go_wp2
  go_ret
  exact ⟨zq3, zq8⟩

end Go.Proofs.Ythglkoddmpicdaa.Pr
end
section
namespace Go.Proofs.Ythglkoddmpicdaa.Pr
open Go.RowKit Go.Proofs.YthglkoddmpicdaaW.PrintWords Go.Proofs.YthglkoddmpicdaaW.PrintLast Go.Proofs.YthglkoddmpicdaaW.PrintMore
attribute [local go_sem] max2_int min2_int max_two min_two max_four
set_option linter.unusedVariables false
set_option linter.unusedSimpArgs false

/-! ### isobathref01_Valid: function 115 -/
def isobathref01_Valid.f (a0_0 : Int) (a0_1 : Int) : Option (Bool) := if a0_0 ≤ a0_1 then ((isobathref01_Within.f a0_0 (-1073741824) 1073741824).bind fun t157 => (if t157 = true then ((isobathref01_Within.f a0_1 (-1073741824) 1073741824).bind fun t158 => (some t158)) else (some false))) else (some false)
set_option maxHeartbeats 8000000 in
set_option maxRecDepth 100000 in
theorem isobathref01_Valid.calls (a0_0 : Int) (a0_1 : Int) (r : Bool) (w : World) (h : isobathref01_Valid.f a0_0 a0_1 = some r) :
  Calls Try.prog 115 #[.agg #[.int .i64 a0_0, .int .i64 a0_1]] w fun e w' => e = .returned (.bool r) ∧ Below w.heap.size w w' := by
 have hu27 := Try.underlying27
 have HB := Aside0.mk (Below.refl w.heap.size w)
 have H : (if a0_0 ≤ a0_1 then ((isobathref01_Within.f a0_0 (-1073741824) 1073741824).bind fun t157 => (if t157 = true then ((isobathref01_Within.f a0_1 (-1073741824) 1073741824).bind fun t158 => (some t158)) else (some false))) else (some false)) = some r := h
 clear h
 by_cases c2 : a0_0 ≤ a0_1
 ·rw [if_pos c2] at H
  have c2b0 : decide (a0_0 ≤ a0_1) = true := decide_eq_true c2
  clear c2
  replace H := Option.bind_eq_some_iff.mp H
  obtain ⟨t157, A30, H⟩ := H
  replace H : (if t157 = true then ((isobathref01_Within.f a0_1 (-1073741824) 1073741824).bind fun t158 => (some t158)) else (some false)) = some r := H
  have A3 := Aside0.mk A30
  clear A30
  by_cases c4 : t157 = true
  ·subst c4
   have H1 : ((isobathref01_Within.f a0_1 (-1073741824) 1073741824).bind fun t158 => (some t158)) = some r := by rw [if_pos rfl] at H; exact H
   clear H
   have H := H1
   clear H1
   replace H := Option.bind_eq_some_iff.mp H
   obtain ⟨t158, A50, H⟩ := H
   replace H : (some t158) = some r := H
   have A5 := Aside0.mk A50
   clear A50
   obtain rfl := Option.some.inj H
   go_enter Try.func115, Try.ntmps115
   go_wp2_with (first | ((with_reducible refine gate_dst (N := 1) rfl ?_); refine box_event (by rfl) (N := 1) (by rfl) (cs := #[.int .i64 a0_0, .int .i64 a0_1]) (t := 27) zq0 ?_; intro gb156 hg w6 hbox hb; have BK156 := Aside0.mk (hbox); have GW156 := zgs HB hg; have GE156 := zgs HB hg; replace HB := zbs HB hb; clear hb hbox hg; obtain ⟨hcz7_0, hcz7_1, hfz7_0, hfz7_1⟩ := zce2 BK156.out) | (go_at_call 116; (with_reducible refine (isobathref01_Within.calls a0_0 (-1073741824) 1073741824 true _ A3.out).mono ?_); rintro e w' ⟨rfl, ⟨nd, rfl⟩⟩) | (go_at_call 116; (with_reducible refine (isobathref01_Within.calls a0_1 (-1073741824) 1073741824 t158 _ A5.out).mono ?_); rintro e w' ⟨rfl, ⟨nd, rfl⟩⟩))
   go_ret
   exact ⟨zq1, zbz⟩
  ·replace c4 := Bool.eq_false_iff.mpr c4
   subst c4
   have H1 : (some false) = some r := by rw [if_neg (show ¬ (false = true) by decide)] at H; exact H
   clear H
   have H := H1
   clear H1
   obtain rfl := Option.some.inj H
   go_enter Try.func115, Try.ntmps115
   go_wp2_with (first | ((with_reducible refine gate_dst (N := 1) rfl ?_); refine box_event (by rfl) (N := 1) (by rfl) (cs := #[.int .i64 a0_0, .int .i64 a0_1]) (t := 27) zq0 ?_; intro gb156 hg w8 hbox hb; have BK156 := Aside0.mk (hbox); have GW156 := zgs HB hg; have GE156 := zgs HB hg; replace HB := zbs HB hb; clear hb hbox hg; obtain ⟨hcz9_0, hcz9_1, hfz9_0, hfz9_1⟩ := zce2 BK156.out) | (go_at_call 116; (with_reducible refine (isobathref01_Within.calls a0_0 (-1073741824) 1073741824 false _ A3.out).mono ?_); rintro e w' ⟨rfl, ⟨nd, rfl⟩⟩))
   go_ret
   exact ⟨zq1, zbz⟩
 ·rw [if_neg c2] at H
  have c2b0 : decide (a0_0 ≤ a0_1) = false := decide_eq_false c2
  clear c2
  obtain rfl := Option.some.inj H
  go_enter Try.func115, Try.ntmps115
  go_wp2_with (first | ((with_reducible refine gate_dst (N := 1) rfl ?_); refine box_event (by rfl) (N := 1) (by rfl) (cs := #[.int .i64 a0_0, .int .i64 a0_1]) (t := 27) zq0 ?_; intro gb156 hg w10 hbox hb; have BK156 := Aside0.mk (hbox); have GW156 := zgs HB hg; have GE156 := zgs HB hg; replace HB := zbs HB hb; clear hb hbox hg; obtain ⟨hcz11_0, hcz11_1, hfz11_0, hfz11_1⟩ := zce2 BK156.out))
  go_ret
  exact ⟨zq1, zbz⟩

end Go.Proofs.Ythglkoddmpicdaa.Pr
end
