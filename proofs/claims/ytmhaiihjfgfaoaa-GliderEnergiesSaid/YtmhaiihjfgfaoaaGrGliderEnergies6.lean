/- Part 6 of the proof of GliderEnergies: what the functions compute. No condition. -/
import Derived.SizedLaws
import Derived.ChangeSlices
import Derived.Deep.Slices
import Derived.ChangeArms
import Derived.DataReads
import Derived.WideShapes
import Derived.Test.YtmhaiihjfgfaoaaGrGliderEnergies1
import Derived.Test.YtmhaiihjfgfaoaaGrGliderEnergies5
import Derived.Test.YtmhaiihjfgfaoaaGrGliderEnergies4
import Derived.Test.YtmhaiihjfgfaoaaGrGliderEnergies2
section
namespace Go.Proofs.Ytmhaiihjfgfaoaa.Pr
open Go.RowKit Go.Proofs.YtmhaiihjfgfaoaaW.PrintWords Go.Proofs.YtmhaiihjfgfaoaaW.PrintLast Go.Proofs.YtmhaiihjfgfaoaaW.PrintMore
attribute [local go_sem] max2_int min2_int max_two min_two max_four
set_option linter.unusedVariables false
set_option linter.unusedSimpArgs false

/-! ### glider_Fetched: function 46 -/
def glider_Fetched.f (k : Nat) (a0_0 : Int) (a0_1 : Int) (a0_2 : Int) (a0_3 : Int) (a0_4 : Int) (a0_5 : Int) (a0_6 : Int) (a1 : Int) (l2 : List (S31)) (a3_0 : Int) (a3_1 : Int) (a3_2 : Int) (a3_3 : Int) (a3_4 : Int) (a3_5 : Int) : Option (Int × Int) := (glider_CheckVehicle.f k a0_0 a0_1 a0_2 a0_3 a0_4 a0_5 a0_6).bind fun t744 => (if t744 = 0 then ((glider_between.f a1 0 1073741824).bind fun t745 => (if t745 = true then ((glider_checkBoxes.f l2).bind fun t746 => (if t746 = 0 then ((glider_validPickup.f k a3_0 a3_1 a3_2 a3_3 a3_4 a3_5).bind fun t747 => (if t747 = true then ((glider_fetched.f k a0_0 a0_1 a0_2 a0_3 a0_4 a0_5 a0_6 a1 l2 a3_0 a3_1 a3_2 a3_3 a3_4 a3_5).bind fun t748 => (some (t748, 0))) else (some (0, 2)))) else (some (0, t746)))) else (some (0, 3)))) else (some (0, t744)))
set_option maxHeartbeats 8000000 in
set_option maxRecDepth 100000 in
theorem glider_Fetched.calls (k : Nat) (a0_0 : Int) (a0_1 : Int) (a0_2 : Int) (a0_3 : Int) (a0_4 : Int) (a0_5 : Int) (a0_6 : Int) (a1 : Int) (A2 : Option Addr) (c2 : Nat) (l2 : List (S31)) (a3_0 : Int) (a3_1 : Int) (a3_2 : Int) (a3_3 : Int) (a3_4 : Int) (a3_5 : Int) (r1 : Int) (r2 : Int) (w : World) (hr2 : Kd.C k31 w A2 l2.length l2) (hc2 : l2.length ≤ c2) (h : glider_Fetched.f k a0_0 a0_1 a0_2 a0_3 a0_4 a0_5 a0_6 a1 l2 a3_0 a3_1 a3_2 a3_3 a3_4 a3_5 = some (r1, r2)) :
    Calls Try.prog 46 #[.agg #[.int .i64 a0_0, .int .i64 a0_1, .int .i64 a0_2, .int .i64 a0_3, .int .i64 a0_4, .int .i64 a0_5, .int .i64 a0_6], .int .i64 a1, .slice A2 l2.length c2, .agg #[.int .i64 a3_0, .int .i64 a3_1, .int .i64 a3_2, .int .i64 a3_3, .int .i64 a3_4, .int .i64 a3_5]] w fun e w' => e = .returned (.tuple #[.int .i64 r1, .int .i64 r2]) ∧ Below w.heap.size w w' := by
  have hu29 := Try.underlying29
  have hu81 := Try.underlying81
  have HR2 := Aside0.mk hr2
  have HC2 := Aside0.mk hc2
  clear hr2 hc2
  have HB := Aside0.mk (Below.refl w.heap.size w)
  have H : ((glider_CheckVehicle.f k a0_0 a0_1 a0_2 a0_3 a0_4 a0_5 a0_6).bind fun t744 => (if t744 = 0 then ((glider_between.f a1 0 1073741824).bind fun t745 => (if t745 = true then ((glider_checkBoxes.f l2).bind fun t746 => (if t746 = 0 then ((glider_validPickup.f k a3_0 a3_1 a3_2 a3_3 a3_4 a3_5).bind fun t747 => (if t747 = true then ((glider_fetched.f k a0_0 a0_1 a0_2 a0_3 a0_4 a0_5 a0_6 a1 l2 a3_0 a3_1 a3_2 a3_3 a3_4 a3_5).bind fun t748 => (some (t748, 0))) else (some (0, 2)))) else (some (0, t746)))) else (some (0, 3)))) else (some (0, t744)))) = some (r1, r2) := h
  clear h
  replace H := Option.bind_eq_some_iff.mp H
  obtain ⟨t744, A50, H⟩ := H
  replace H : (if t744 = 0 then ((glider_between.f a1 0 1073741824).bind fun t745 => (if t745 = true then ((glider_checkBoxes.f l2).bind fun t746 => (if t746 = 0 then ((glider_validPickup.f k a3_0 a3_1 a3_2 a3_3 a3_4 a3_5).bind fun t747 => (if t747 = true then ((glider_fetched.f k a0_0 a0_1 a0_2 a0_3 a0_4 a0_5 a0_6 a1 l2 a3_0 a3_1 a3_2 a3_3 a3_4 a3_5).bind fun t748 => (some (t748, 0))) else (some (0, 2)))) else (some (0, t746)))) else (some (0, 3)))) else (some (0, t744))) = some (r1, r2) := H
  have A5 := Aside0.mk A50
  clear A50
  by_cases c6 : t744 = 0
  · rw [if_pos c6] at H
    have c6b0 : (t744 == 0) = true := beq_iff_eq.mpr c6
    have c6b1 : (t744 != 0) = false := bne_eq_false_iff_eq.mpr c6
    clear c6
    replace H := Option.bind_eq_some_iff.mp H
    obtain ⟨t745, A70, H⟩ := H
    replace H : (if t745 = true then ((glider_checkBoxes.f l2).bind fun t746 => (if t746 = 0 then ((glider_validPickup.f k a3_0 a3_1 a3_2 a3_3 a3_4 a3_5).bind fun t747 => (if t747 = true then ((glider_fetched.f k a0_0 a0_1 a0_2 a0_3 a0_4 a0_5 a0_6 a1 l2 a3_0 a3_1 a3_2 a3_3 a3_4 a3_5).bind fun t748 => (some (t748, 0))) else (some (0, 2)))) else (some (0, t746)))) else (some (0, 3))) = some (r1, r2) := H
    have A7 := Aside0.mk A70
    clear A70
    by_cases c8 : t745 = true
    · subst c8
      have H1 : ((glider_checkBoxes.f l2).bind fun t746 => (if t746 = 0 then ((glider_validPickup.f k a3_0 a3_1 a3_2 a3_3 a3_4 a3_5).bind fun t747 => (if t747 = true then ((glider_fetched.f k a0_0 a0_1 a0_2 a0_3 a0_4 a0_5 a0_6 a1 l2 a3_0 a3_1 a3_2 a3_3 a3_4 a3_5).bind fun t748 => (some (t748, 0))) else (some (0, 2)))) else (some (0, t746)))) = some (r1, r2) := by rw [if_pos rfl] at H; exact H
      clear H
      have H := H1
      clear H1
      replace H := Option.bind_eq_some_iff.mp H
      obtain ⟨t746, A90, H⟩ := H
      replace H : (if t746 = 0 then ((glider_validPickup.f k a3_0 a3_1 a3_2 a3_3 a3_4 a3_5).bind fun t747 => (if t747 = true then ((glider_fetched.f k a0_0 a0_1 a0_2 a0_3 a0_4 a0_5 a0_6 a1 l2 a3_0 a3_1 a3_2 a3_3 a3_4 a3_5).bind fun t748 => (some (t748, 0))) else (some (0, 2)))) else (some (0, t746))) = some (r1, r2) := H
      have A9 := Aside0.mk A90
      clear A90
      by_cases c10 : t746 = 0
      · rw [if_pos c10] at H
        have c10b0 : (t746 == 0) = true := beq_iff_eq.mpr c10
        have c10b1 : (t746 != 0) = false := bne_eq_false_iff_eq.mpr c10
        clear c10
        replace H := Option.bind_eq_some_iff.mp H
        obtain ⟨t747, A110, H⟩ := H
        replace H : (if t747 = true then ((glider_fetched.f k a0_0 a0_1 a0_2 a0_3 a0_4 a0_5 a0_6 a1 l2 a3_0 a3_1 a3_2 a3_3 a3_4 a3_5).bind fun t748 => (some (t748, 0))) else (some (0, 2))) = some (r1, r2) := H
        have A11 := Aside0.mk A110
        clear A110
        by_cases c12 : t747 = true
        · subst c12
          have H1 : ((glider_fetched.f k a0_0 a0_1 a0_2 a0_3 a0_4 a0_5 a0_6 a1 l2 a3_0 a3_1 a3_2 a3_3 a3_4 a3_5).bind fun t748 => (some (t748, 0))) = some (r1, r2) := by rw [if_pos rfl] at H; exact H
          clear H
          have H := H1
          clear H1
          replace H := Option.bind_eq_some_iff.mp H
          obtain ⟨t748, A130, H⟩ := H
          replace H : (some (t748, 0)) = some (r1, r2) := H
          have A13 := Aside0.mk A130
          clear A130
          simp only [Option.some.injEq, Prod.mk.injEq] at H
          obtain ⟨rfl, rfl⟩ := H
          go_enter Try.func46, Try.ntmps46
          go_wp2_with (first | ((with_reducible refine gate_dst (N := 4) rfl ?_); refine box_event (by rfl) (N := 4) (by rfl) (cs := #[.int .i64 a0_0, .int .i64 a0_1, .int .i64 a0_2, .int .i64 a0_3, .int .i64 a0_4, .int .i64 a0_5, .int .i64 a0_6]) (t := 29) zq5 ?_; intro gb742 hg w14 hbox hb; have BK742 := Aside0.mk (hbox); have GW742 := zgs HB hg; have GE742 := zgs HB hg; replace HB := zbs HB hb; clear hb hbox hg) | ((with_reducible refine gate_dst (N := 7) rfl ?_); refine box_event (by rfl) (N := 7) (by rfl) (cs := #[.int .i64 a3_0, .int .i64 a3_1, .int .i64 a3_2, .int .i64 a3_3, .int .i64 a3_4, .int .i64 a3_5]) (t := 81) zq5 ?_; intro gb743 hg w15 hbox hb; have BK743 := Aside0.mk (hbox); have GW743 := zgs HB hg; have GE743 := zgs HB hg; have NB742_743 := znp BK742 hg; have NB743_742 := znq BK742 hg; replace BK742 := zbb BK742 hb; replace HB := zbs HB hb; clear hb hbox hg; have hnb16 := NB742_743.out; have hnc16 := NB743_742.out; obtain ⟨hcz17_0, hcz17_1, hcz17_2, hcz17_3, hcz17_4, hcz17_5, hcz17_6, hfz17_0, hfz17_1, hfz17_2, hfz17_3, hfz17_4, hfz17_5, hfz17_6⟩ := zce7 BK742.out) | ((with_reducible refine gate_callee (f := 27) rfl ?_); refine goesL_ (some 13) rfl rfl Try.func27 zq1 rfl #[.agg #[.int .i64 a0_0, .int .i64 a0_1, .int .i64 a0_2, .int .i64 a0_3, .int .i64 a0_4, .int .i64 a0_5, .int .i64 a0_6]] rfl zq8 ?_; (with_reducible refine (glider_CheckVehicle.calls k a0_0 a0_1 a0_2 a0_3 a0_4 a0_5 a0_6 t744 _ A5.out).mono ?_); rintro e w18 ⟨rfl, hb⟩; refine ⟨_, rfl, ?_⟩; replace BK742 := zbb BK742 hb; replace BK743 := zbb BK743 hb; replace HB := zbs HB hb; (try clear hb); (try clear hb2); (try clear hk); (try clear hi)) | ((with_reducible refine gate_callee (f := 74) rfl ?_); refine goesL_ (some 18) rfl rfl Try.func74 zq1 rfl #[.int .i64 a1, .int .i64 0, .int .i64 1073741824] rfl zq8 ?_; (with_reducible refine (glider_between.calls a1 0 1073741824 true _ A7.out).mono ?_); rintro e w' ⟨rfl, ⟨nd, rfl⟩⟩; refine ⟨_, rfl, ?_⟩) | ((with_reducible refine gate_callee (f := 88) rfl ?_); refine goesL_ (some 21) rfl rfl Try.func88 zq1 rfl #[.slice A2 l2.length c2] rfl zq8 ?_; (with_reducible refine (glider_checkBoxes.calls _ _ l2 t746 _ ?side1 ?side2 A9.out).mono ?_); (case side1 => repeat (first | exact (Kd.C_below HR2.out zbz) | (with_reducible refine Kd.C_alloc ?_ _) | (with_reducible refine Kd.C_drewN ?_ _) | (with_reducible refine Kd.C_drew ?_))); (case side2 => exact HC2.out); rintro e w19 ⟨rfl, hb⟩; refine ⟨_, rfl, ?_⟩; replace BK742 := zbb BK742 hb; replace BK743 := zbb BK743 hb; replace HB := zbs HB hb; (try clear hb); (try clear hb2); (try clear hk); (try clear hi); obtain ⟨hcz20_0, hcz20_1, hcz20_2, hcz20_3, hcz20_4, hcz20_5, hfz20_0, hfz20_1, hfz20_2, hfz20_3, hfz20_4, hfz20_5⟩ := zce6 BK743.out) | ((with_reducible refine gate_callee (f := 93) rfl ?_); refine goesL_ (some 26) rfl rfl Try.func93 zq1 rfl #[.agg #[.int .i64 a3_0, .int .i64 a3_1, .int .i64 a3_2, .int .i64 a3_3, .int .i64 a3_4, .int .i64 a3_5]] rfl zq8 ?_; (with_reducible refine (glider_validPickup.calls k a3_0 a3_1 a3_2 a3_3 a3_4 a3_5 true _ A11.out).mono ?_); rintro e w21 ⟨rfl, hb⟩; refine ⟨_, rfl, ?_⟩; replace BK742 := zbb BK742 hb; replace BK743 := zbb BK743 hb; replace HB := zbs HB hb; (try clear hb); (try clear hb2); (try clear hk); (try clear hi); obtain ⟨hcz22_0, hcz22_1, hcz22_2, hcz22_3, hcz22_4, hcz22_5, hcz22_6, hfz22_0, hfz22_1, hfz22_2, hfz22_3, hfz22_4, hfz22_5, hfz22_6⟩ := zce7 BK742.out; obtain ⟨hcz23_0, hcz23_1, hcz23_2, hcz23_3, hcz23_4, hcz23_5, hfz23_0, hfz23_1, hfz23_2, hfz23_3, hfz23_4, hfz23_5⟩ := zce6 BK743.out) | ((with_reducible refine gate_callee (f := 94) rfl ?_); refine goesL_ (some 32) rfl rfl Try.func94 zq1 rfl #[.agg #[.int .i64 a0_0, .int .i64 a0_1, .int .i64 a0_2, .int .i64 a0_3, .int .i64 a0_4, .int .i64 a0_5, .int .i64 a0_6], .int .i64 a1, .slice A2 l2.length c2, .agg #[.int .i64 a3_0, .int .i64 a3_1, .int .i64 a3_2, .int .i64 a3_3, .int .i64 a3_4, .int .i64 a3_5]] rfl zq8 ?_; (with_reducible refine (glider_fetched.calls k a0_0 a0_1 a0_2 a0_3 a0_4 a0_5 a0_6 a1 _ _ l2 a3_0 a3_1 a3_2 a3_3 a3_4 a3_5 t748 _ ?side1 ?side2 A13.out).mono ?_); (case side1 => repeat (first | exact (Kd.C_below HR2.out HB.out) | (with_reducible refine Kd.C_alloc ?_ _) | (with_reducible refine Kd.C_drewN ?_ _) | (with_reducible refine Kd.C_drew ?_))); (case side2 => exact HC2.out); rintro e w24 ⟨rfl, hb⟩; refine ⟨_, rfl, ?_⟩; replace BK742 := zbb BK742 hb; replace BK743 := zbb BK743 hb; replace HB := zbs HB hb; (try clear hb); (try clear hb2); (try clear hk); (try clear hi)))
          go_ret2
          exact ⟨zq6, zbz⟩
        · replace c12 := Bool.eq_false_iff.mpr c12
          subst c12
          have H1 : (some (0, 2)) = some (r1, r2) := by rw [if_neg (show ¬ (false = true) by decide)] at H; exact H
          clear H
          have H := H1
          clear H1
          simp only [Option.some.injEq, Prod.mk.injEq] at H
          obtain ⟨rfl, rfl⟩ := H
          go_enter Try.func46, Try.ntmps46
          go_wp2_with (first | ((with_reducible refine gate_dst (N := 4) rfl ?_); refine box_event (by rfl) (N := 4) (by rfl) (cs := #[.int .i64 a0_0, .int .i64 a0_1, .int .i64 a0_2, .int .i64 a0_3, .int .i64 a0_4, .int .i64 a0_5, .int .i64 a0_6]) (t := 29) zq5 ?_; intro gb742 hg w25 hbox hb; have BK742 := Aside0.mk (hbox); have GW742 := zgs HB hg; have GE742 := zgs HB hg; replace HB := zbs HB hb; clear hb hbox hg) | ((with_reducible refine gate_dst (N := 7) rfl ?_); refine box_event (by rfl) (N := 7) (by rfl) (cs := #[.int .i64 a3_0, .int .i64 a3_1, .int .i64 a3_2, .int .i64 a3_3, .int .i64 a3_4, .int .i64 a3_5]) (t := 81) zq5 ?_; intro gb743 hg w26 hbox hb; have BK743 := Aside0.mk (hbox); have GW743 := zgs HB hg; have GE743 := zgs HB hg; have NB742_743 := znp BK742 hg; have NB743_742 := znq BK742 hg; replace BK742 := zbb BK742 hb; replace HB := zbs HB hb; clear hb hbox hg; have hnb27 := NB742_743.out; have hnc27 := NB743_742.out; obtain ⟨hcz28_0, hcz28_1, hcz28_2, hcz28_3, hcz28_4, hcz28_5, hcz28_6, hfz28_0, hfz28_1, hfz28_2, hfz28_3, hfz28_4, hfz28_5, hfz28_6⟩ := zce7 BK742.out) | ((with_reducible refine gate_callee (f := 27) rfl ?_); refine goesL_ (some 13) rfl rfl Try.func27 zq1 rfl #[.agg #[.int .i64 a0_0, .int .i64 a0_1, .int .i64 a0_2, .int .i64 a0_3, .int .i64 a0_4, .int .i64 a0_5, .int .i64 a0_6]] rfl zq8 ?_; (with_reducible refine (glider_CheckVehicle.calls k a0_0 a0_1 a0_2 a0_3 a0_4 a0_5 a0_6 t744 _ A5.out).mono ?_); rintro e w29 ⟨rfl, hb⟩; refine ⟨_, rfl, ?_⟩; replace BK742 := zbb BK742 hb; replace BK743 := zbb BK743 hb; replace HB := zbs HB hb; (try clear hb); (try clear hb2); (try clear hk); (try clear hi)) | ((with_reducible refine gate_callee (f := 74) rfl ?_); refine goesL_ (some 18) rfl rfl Try.func74 zq1 rfl #[.int .i64 a1, .int .i64 0, .int .i64 1073741824] rfl zq8 ?_; (with_reducible refine (glider_between.calls a1 0 1073741824 true _ A7.out).mono ?_); rintro e w' ⟨rfl, ⟨nd, rfl⟩⟩; refine ⟨_, rfl, ?_⟩) | ((with_reducible refine gate_callee (f := 88) rfl ?_); refine goesL_ (some 21) rfl rfl Try.func88 zq1 rfl #[.slice A2 l2.length c2] rfl zq8 ?_; (with_reducible refine (glider_checkBoxes.calls _ _ l2 t746 _ ?side1 ?side2 A9.out).mono ?_); (case side1 => repeat (first | exact (Kd.C_below HR2.out zbz) | (with_reducible refine Kd.C_alloc ?_ _) | (with_reducible refine Kd.C_drewN ?_ _) | (with_reducible refine Kd.C_drew ?_))); (case side2 => exact HC2.out); rintro e w30 ⟨rfl, hb⟩; refine ⟨_, rfl, ?_⟩; replace BK742 := zbb BK742 hb; replace BK743 := zbb BK743 hb; replace HB := zbs HB hb; (try clear hb); (try clear hb2); (try clear hk); (try clear hi); obtain ⟨hcz31_0, hcz31_1, hcz31_2, hcz31_3, hcz31_4, hcz31_5, hfz31_0, hfz31_1, hfz31_2, hfz31_3, hfz31_4, hfz31_5⟩ := zce6 BK743.out) | ((with_reducible refine gate_callee (f := 93) rfl ?_); refine goesL_ (some 26) rfl rfl Try.func93 zq1 rfl #[.agg #[.int .i64 a3_0, .int .i64 a3_1, .int .i64 a3_2, .int .i64 a3_3, .int .i64 a3_4, .int .i64 a3_5]] rfl zq8 ?_; (with_reducible refine (glider_validPickup.calls k a3_0 a3_1 a3_2 a3_3 a3_4 a3_5 false _ A11.out).mono ?_); rintro e w32 ⟨rfl, hb⟩; refine ⟨_, rfl, ?_⟩; replace BK742 := zbb BK742 hb; replace BK743 := zbb BK743 hb; replace HB := zbs HB hb; (try clear hb); (try clear hb2); (try clear hk); (try clear hi)))
          go_ret2
          exact ⟨zq6, zbz⟩
      · rw [if_neg c10] at H
        have c10b0 : (t746 == 0) = false := beq_eq_false_iff_ne.mpr c10
        have c10b1 : (t746 != 0) = true := bne_iff_ne.mpr c10
        simp only [Option.some.injEq, Prod.mk.injEq] at H
        obtain ⟨rfl, rfl⟩ := H
        go_enter Try.func46, Try.ntmps46
        go_wp2_with (first | ((with_reducible refine gate_dst (N := 4) rfl ?_); refine box_event (by rfl) (N := 4) (by rfl) (cs := #[.int .i64 a0_0, .int .i64 a0_1, .int .i64 a0_2, .int .i64 a0_3, .int .i64 a0_4, .int .i64 a0_5, .int .i64 a0_6]) (t := 29) zq5 ?_; intro gb742 hg w33 hbox hb; have BK742 := Aside0.mk (hbox); have GW742 := zgs HB hg; have GE742 := zgs HB hg; replace HB := zbs HB hb; clear hb hbox hg) | ((with_reducible refine gate_dst (N := 7) rfl ?_); refine box_event (by rfl) (N := 7) (by rfl) (cs := #[.int .i64 a3_0, .int .i64 a3_1, .int .i64 a3_2, .int .i64 a3_3, .int .i64 a3_4, .int .i64 a3_5]) (t := 81) zq5 ?_; intro gb743 hg w34 hbox hb; have BK743 := Aside0.mk (hbox); have GW743 := zgs HB hg; have GE743 := zgs HB hg; have NB742_743 := znp BK742 hg; have NB743_742 := znq BK742 hg; replace BK742 := zbb BK742 hb; replace HB := zbs HB hb; clear hb hbox hg; have hnb35 := NB742_743.out; have hnc35 := NB743_742.out; obtain ⟨hcz36_0, hcz36_1, hcz36_2, hcz36_3, hcz36_4, hcz36_5, hcz36_6, hfz36_0, hfz36_1, hfz36_2, hfz36_3, hfz36_4, hfz36_5, hfz36_6⟩ := zce7 BK742.out) | ((with_reducible refine gate_callee (f := 27) rfl ?_); refine goesL_ (some 13) rfl rfl Try.func27 zq1 rfl #[.agg #[.int .i64 a0_0, .int .i64 a0_1, .int .i64 a0_2, .int .i64 a0_3, .int .i64 a0_4, .int .i64 a0_5, .int .i64 a0_6]] rfl zq8 ?_; (with_reducible refine (glider_CheckVehicle.calls k a0_0 a0_1 a0_2 a0_3 a0_4 a0_5 a0_6 t744 _ A5.out).mono ?_); rintro e w37 ⟨rfl, hb⟩; refine ⟨_, rfl, ?_⟩; replace BK742 := zbb BK742 hb; replace BK743 := zbb BK743 hb; replace HB := zbs HB hb; (try clear hb); (try clear hb2); (try clear hk); (try clear hi)) | ((with_reducible refine gate_callee (f := 74) rfl ?_); refine goesL_ (some 18) rfl rfl Try.func74 zq1 rfl #[.int .i64 a1, .int .i64 0, .int .i64 1073741824] rfl zq8 ?_; (with_reducible refine (glider_between.calls a1 0 1073741824 true _ A7.out).mono ?_); rintro e w' ⟨rfl, ⟨nd, rfl⟩⟩; refine ⟨_, rfl, ?_⟩) | ((with_reducible refine gate_callee (f := 88) rfl ?_); refine goesL_ (some 21) rfl rfl Try.func88 zq1 rfl #[.slice A2 l2.length c2] rfl zq8 ?_; (with_reducible refine (glider_checkBoxes.calls _ _ l2 t746 _ ?side1 ?side2 A9.out).mono ?_); (case side1 => repeat (first | exact (Kd.C_below HR2.out zbz) | (with_reducible refine Kd.C_alloc ?_ _) | (with_reducible refine Kd.C_drewN ?_ _) | (with_reducible refine Kd.C_drew ?_))); (case side2 => exact HC2.out); rintro e w38 ⟨rfl, hb⟩; refine ⟨_, rfl, ?_⟩; replace BK742 := zbb BK742 hb; replace BK743 := zbb BK743 hb; replace HB := zbs HB hb; (try clear hb); (try clear hb2); (try clear hk); (try clear hi)))
        go_ret2
        exact ⟨zq6, zbz⟩
    · replace c8 := Bool.eq_false_iff.mpr c8
      subst c8
      have H1 : (some (0, 3)) = some (r1, r2) := by rw [if_neg (show ¬ (false = true) by decide)] at H; exact H
      clear H
      have H := H1
      clear H1
      simp only [Option.some.injEq, Prod.mk.injEq] at H
      obtain ⟨rfl, rfl⟩ := H
      go_enter Try.func46, Try.ntmps46
      go_wp2_with (first | ((with_reducible refine gate_dst (N := 4) rfl ?_); refine box_event (by rfl) (N := 4) (by rfl) (cs := #[.int .i64 a0_0, .int .i64 a0_1, .int .i64 a0_2, .int .i64 a0_3, .int .i64 a0_4, .int .i64 a0_5, .int .i64 a0_6]) (t := 29) zq5 ?_; intro gb742 hg w39 hbox hb; have BK742 := Aside0.mk (hbox); have GW742 := zgs HB hg; have GE742 := zgs HB hg; replace HB := zbs HB hb; clear hb hbox hg) | ((with_reducible refine gate_dst (N := 7) rfl ?_); refine box_event (by rfl) (N := 7) (by rfl) (cs := #[.int .i64 a3_0, .int .i64 a3_1, .int .i64 a3_2, .int .i64 a3_3, .int .i64 a3_4, .int .i64 a3_5]) (t := 81) zq5 ?_; intro gb743 hg w40 hbox hb; have BK743 := Aside0.mk (hbox); have GW743 := zgs HB hg; have GE743 := zgs HB hg; have NB742_743 := znp BK742 hg; have NB743_742 := znq BK742 hg; replace BK742 := zbb BK742 hb; replace HB := zbs HB hb; clear hb hbox hg; have hnb41 := NB742_743.out; have hnc41 := NB743_742.out; obtain ⟨hcz42_0, hcz42_1, hcz42_2, hcz42_3, hcz42_4, hcz42_5, hcz42_6, hfz42_0, hfz42_1, hfz42_2, hfz42_3, hfz42_4, hfz42_5, hfz42_6⟩ := zce7 BK742.out) | ((with_reducible refine gate_callee (f := 27) rfl ?_); refine goesL_ (some 13) rfl rfl Try.func27 zq1 rfl #[.agg #[.int .i64 a0_0, .int .i64 a0_1, .int .i64 a0_2, .int .i64 a0_3, .int .i64 a0_4, .int .i64 a0_5, .int .i64 a0_6]] rfl zq8 ?_; (with_reducible refine (glider_CheckVehicle.calls k a0_0 a0_1 a0_2 a0_3 a0_4 a0_5 a0_6 t744 _ A5.out).mono ?_); rintro e w43 ⟨rfl, hb⟩; refine ⟨_, rfl, ?_⟩; replace BK742 := zbb BK742 hb; replace BK743 := zbb BK743 hb; replace HB := zbs HB hb; (try clear hb); (try clear hb2); (try clear hk); (try clear hi)) | ((with_reducible refine gate_callee (f := 74) rfl ?_); refine goesL_ (some 18) rfl rfl Try.func74 zq1 rfl #[.int .i64 a1, .int .i64 0, .int .i64 1073741824] rfl zq8 ?_; (with_reducible refine (glider_between.calls a1 0 1073741824 false _ A7.out).mono ?_); rintro e w' ⟨rfl, ⟨nd, rfl⟩⟩; refine ⟨_, rfl, ?_⟩))
      go_ret2
      exact ⟨zq6, zbz⟩
  · rw [if_neg c6] at H
    have c6b0 : (t744 == 0) = false := beq_eq_false_iff_ne.mpr c6
    have c6b1 : (t744 != 0) = true := bne_iff_ne.mpr c6
    simp only [Option.some.injEq, Prod.mk.injEq] at H
    obtain ⟨rfl, rfl⟩ := H
    go_enter Try.func46, Try.ntmps46
    go_wp2_with (first | ((with_reducible refine gate_dst (N := 4) rfl ?_); refine box_event (by rfl) (N := 4) (by rfl) (cs := #[.int .i64 a0_0, .int .i64 a0_1, .int .i64 a0_2, .int .i64 a0_3, .int .i64 a0_4, .int .i64 a0_5, .int .i64 a0_6]) (t := 29) zq5 ?_; intro gb742 hg w44 hbox hb; have BK742 := Aside0.mk (hbox); have GW742 := zgs HB hg; have GE742 := zgs HB hg; replace HB := zbs HB hb; clear hb hbox hg) | ((with_reducible refine gate_dst (N := 7) rfl ?_); refine box_event (by rfl) (N := 7) (by rfl) (cs := #[.int .i64 a3_0, .int .i64 a3_1, .int .i64 a3_2, .int .i64 a3_3, .int .i64 a3_4, .int .i64 a3_5]) (t := 81) zq5 ?_; intro gb743 hg w45 hbox hb; have BK743 := Aside0.mk (hbox); have GW743 := zgs HB hg; have GE743 := zgs HB hg; have NB742_743 := znp BK742 hg; have NB743_742 := znq BK742 hg; replace BK742 := zbb BK742 hb; replace HB := zbs HB hb; clear hb hbox hg; have hnb46 := NB742_743.out; have hnc46 := NB743_742.out; obtain ⟨hcz47_0, hcz47_1, hcz47_2, hcz47_3, hcz47_4, hcz47_5, hcz47_6, hfz47_0, hfz47_1, hfz47_2, hfz47_3, hfz47_4, hfz47_5, hfz47_6⟩ := zce7 BK742.out) | ((with_reducible refine gate_callee (f := 27) rfl ?_); refine goesL_ (some 13) rfl rfl Try.func27 zq1 rfl #[.agg #[.int .i64 a0_0, .int .i64 a0_1, .int .i64 a0_2, .int .i64 a0_3, .int .i64 a0_4, .int .i64 a0_5, .int .i64 a0_6]] rfl zq8 ?_; (with_reducible refine (glider_CheckVehicle.calls k a0_0 a0_1 a0_2 a0_3 a0_4 a0_5 a0_6 t744 _ A5.out).mono ?_); rintro e w48 ⟨rfl, hb⟩; refine ⟨_, rfl, ?_⟩; replace BK742 := zbb BK742 hb; replace BK743 := zbb BK743 hb; replace HB := zbs HB hb; (try clear hb); (try clear hb2); (try clear hk); (try clear hi)))
    go_ret2
    exact ⟨zq6, zbz⟩

end Go.Proofs.Ytmhaiihjfgfaoaa.Pr
end
section
namespace Go.Proofs.Ytmhaiihjfgfaoaa.Pr
open Go.RowKit Go.Proofs.YtmhaiihjfgfaoaaW.PrintWords Go.Proofs.YtmhaiihjfgfaoaaW.PrintLast Go.Proofs.YtmhaiihjfgfaoaaW.PrintMore
attribute [local go_sem] max2_int min2_int max_two min_two max_four
set_option linter.unusedVariables false
set_option linter.unusedSimpArgs false

/-! ### isobathref01_ValidBox: function 63 -/
def isobathref01_ValidBox.f (a0_0 : Int) (a0_1 : Int) (a0_2 : Int) (a0_3 : Int) : Option (Bool) := (isobathref01_Valid.f a0_0 a0_1).bind fun t116 => (if t116 = true then ((isobathref01_Valid.f a0_2 a0_3).bind fun t117 => (if t117 = true then ((isobathref01_Within.f a0_0 (-268435456) 268435456).bind fun t118 => (if t118 = true then ((isobathref01_Within.f a0_1 (-268435456) 268435456).bind fun t119 => (if t119 = true then ((isobathref01_Within.f a0_2 (-268435456) 268435456).bind fun t120 => (if t120 = true then ((isobathref01_Within.f a0_3 (-268435456) 268435456).bind fun t121 => (some t121)) else (some false))) else (some false))) else (some false))) else (some false))) else (some false))
set_option maxHeartbeats 8000000 in
set_option maxRecDepth 100000 in
theorem isobathref01_ValidBox.calls (a0_0 : Int) (a0_1 : Int) (a0_2 : Int) (a0_3 : Int) (r : Bool) (w : World) (h : isobathref01_ValidBox.f a0_0 a0_1 a0_2 a0_3 = some r) :
    Calls Try.prog 63 #[.agg #[.int .i64 a0_0, .int .i64 a0_1, .int .i64 a0_2, .int .i64 a0_3]] w fun e w' => e = .returned (.bool r) ∧ Below w.heap.size w w' := by
  have hu31 := Try.underlying31
  have hu27 := Try.underlying27
  have HB := Aside0.mk (Below.refl w.heap.size w)
  have H : ((isobathref01_Valid.f a0_0 a0_1).bind fun t116 => (if t116 = true then ((isobathref01_Valid.f a0_2 a0_3).bind fun t117 => (if t117 = true then ((isobathref01_Within.f a0_0 (-268435456) 268435456).bind fun t118 => (if t118 = true then ((isobathref01_Within.f a0_1 (-268435456) 268435456).bind fun t119 => (if t119 = true then ((isobathref01_Within.f a0_2 (-268435456) 268435456).bind fun t120 => (if t120 = true then ((isobathref01_Within.f a0_3 (-268435456) 268435456).bind fun t121 => (some t121)) else (some false))) else (some false))) else (some false))) else (some false))) else (some false))) = some r := h
  clear h
  replace H := Option.bind_eq_some_iff.mp H
  obtain ⟨t116, A20, H⟩ := H
  replace H : (if t116 = true then ((isobathref01_Valid.f a0_2 a0_3).bind fun t117 => (if t117 = true then ((isobathref01_Within.f a0_0 (-268435456) 268435456).bind fun t118 => (if t118 = true then ((isobathref01_Within.f a0_1 (-268435456) 268435456).bind fun t119 => (if t119 = true then ((isobathref01_Within.f a0_2 (-268435456) 268435456).bind fun t120 => (if t120 = true then ((isobathref01_Within.f a0_3 (-268435456) 268435456).bind fun t121 => (some t121)) else (some false))) else (some false))) else (some false))) else (some false))) else (some false)) = some r := H
  have A2 := Aside0.mk A20
  clear A20
  by_cases c3 : t116 = true
  · subst c3
    have H1 : ((isobathref01_Valid.f a0_2 a0_3).bind fun t117 => (if t117 = true then ((isobathref01_Within.f a0_0 (-268435456) 268435456).bind fun t118 => (if t118 = true then ((isobathref01_Within.f a0_1 (-268435456) 268435456).bind fun t119 => (if t119 = true then ((isobathref01_Within.f a0_2 (-268435456) 268435456).bind fun t120 => (if t120 = true then ((isobathref01_Within.f a0_3 (-268435456) 268435456).bind fun t121 => (some t121)) else (some false))) else (some false))) else (some false))) else (some false))) = some r := by rw [if_pos rfl] at H; exact H
    clear H
    have H := H1
    clear H1
    replace H := Option.bind_eq_some_iff.mp H
    obtain ⟨t117, A40, H⟩ := H
    replace H : (if t117 = true then ((isobathref01_Within.f a0_0 (-268435456) 268435456).bind fun t118 => (if t118 = true then ((isobathref01_Within.f a0_1 (-268435456) 268435456).bind fun t119 => (if t119 = true then ((isobathref01_Within.f a0_2 (-268435456) 268435456).bind fun t120 => (if t120 = true then ((isobathref01_Within.f a0_3 (-268435456) 268435456).bind fun t121 => (some t121)) else (some false))) else (some false))) else (some false))) else (some false)) = some r := H
    have A4 := Aside0.mk A40
    clear A40
    by_cases c5 : t117 = true
    · subst c5
      have H1 : ((isobathref01_Within.f a0_0 (-268435456) 268435456).bind fun t118 => (if t118 = true then ((isobathref01_Within.f a0_1 (-268435456) 268435456).bind fun t119 => (if t119 = true then ((isobathref01_Within.f a0_2 (-268435456) 268435456).bind fun t120 => (if t120 = true then ((isobathref01_Within.f a0_3 (-268435456) 268435456).bind fun t121 => (some t121)) else (some false))) else (some false))) else (some false))) = some r := by rw [if_pos rfl] at H; exact H
      clear H
      have H := H1
      clear H1
      replace H := Option.bind_eq_some_iff.mp H
      obtain ⟨t118, A60, H⟩ := H
      replace H : (if t118 = true then ((isobathref01_Within.f a0_1 (-268435456) 268435456).bind fun t119 => (if t119 = true then ((isobathref01_Within.f a0_2 (-268435456) 268435456).bind fun t120 => (if t120 = true then ((isobathref01_Within.f a0_3 (-268435456) 268435456).bind fun t121 => (some t121)) else (some false))) else (some false))) else (some false)) = some r := H
      have A6 := Aside0.mk A60
      clear A60
      by_cases c7 : t118 = true
      · subst c7
        have H1 : ((isobathref01_Within.f a0_1 (-268435456) 268435456).bind fun t119 => (if t119 = true then ((isobathref01_Within.f a0_2 (-268435456) 268435456).bind fun t120 => (if t120 = true then ((isobathref01_Within.f a0_3 (-268435456) 268435456).bind fun t121 => (some t121)) else (some false))) else (some false))) = some r := by rw [if_pos rfl] at H; exact H
        clear H
        have H := H1
        clear H1
        replace H := Option.bind_eq_some_iff.mp H
        obtain ⟨t119, A80, H⟩ := H
        replace H : (if t119 = true then ((isobathref01_Within.f a0_2 (-268435456) 268435456).bind fun t120 => (if t120 = true then ((isobathref01_Within.f a0_3 (-268435456) 268435456).bind fun t121 => (some t121)) else (some false))) else (some false)) = some r := H
        have A8 := Aside0.mk A80
        clear A80
        by_cases c9 : t119 = true
        · subst c9
          have H1 : ((isobathref01_Within.f a0_2 (-268435456) 268435456).bind fun t120 => (if t120 = true then ((isobathref01_Within.f a0_3 (-268435456) 268435456).bind fun t121 => (some t121)) else (some false))) = some r := by rw [if_pos rfl] at H; exact H
          clear H
          have H := H1
          clear H1
          replace H := Option.bind_eq_some_iff.mp H
          obtain ⟨t120, A100, H⟩ := H
          replace H : (if t120 = true then ((isobathref01_Within.f a0_3 (-268435456) 268435456).bind fun t121 => (some t121)) else (some false)) = some r := H
          have A10 := Aside0.mk A100
          clear A100
          by_cases c11 : t120 = true
          · subst c11
            have H1 : ((isobathref01_Within.f a0_3 (-268435456) 268435456).bind fun t121 => (some t121)) = some r := by rw [if_pos rfl] at H; exact H
            clear H
            have H := H1
            clear H1
            replace H := Option.bind_eq_some_iff.mp H
            obtain ⟨t121, A120, H⟩ := H
            replace H : (some t121) = some r := H
            have A12 := Aside0.mk A120
            clear A120
            obtain rfl := Option.some.inj H
            go_enter Try.func63, Try.ntmps63
            go_wp2_with (first | ((with_reducible refine gate_dst (N := 1) rfl ?_); refine box_event (by rfl) (N := 1) (by rfl) (cs := #[.int .i64 a0_0, .int .i64 a0_1, .int .i64 a0_2, .int .i64 a0_3]) (t := 31) zq5 ?_; intro gb115 hg w13 hbox hb; have BK115 := Aside0.mk (hbox); have GW115 := zgs HB hg; have GE115 := zgs HB hg; replace HB := zbs HB hb; clear hb hbox hg; obtain ⟨hcz14_0, hcz14_1, hcz14_2, hcz14_3, hfz14_0, hfz14_1, hfz14_2, hfz14_3⟩ := zce4 BK115.out) | ((with_reducible refine gate_callee (f := 111) rfl ?_); refine goesL_ (some 5) rfl rfl Try.func111 zq1 rfl #[.agg #[.int .i64 a0_0, .int .i64 a0_1]] rfl zq8 ?_; (with_reducible refine (isobathref01_Valid.calls a0_0 a0_1 true _ A2.out).mono ?_); rintro e w15 ⟨rfl, hb⟩; refine ⟨_, rfl, ?_⟩; replace BK115 := zbb BK115 hb; replace HB := zbs HB hb; (try clear hb); (try clear hb2); (try clear hk); (try clear hi); obtain ⟨hcz16_0, hcz16_1, hcz16_2, hcz16_3, hfz16_0, hfz16_1, hfz16_2, hfz16_3⟩ := zce4 BK115.out) | (go_at_call 111; (with_reducible refine (isobathref01_Valid.calls a0_2 a0_3 true _ A4.out).mono ?_); rintro e w17 ⟨rfl, hb⟩; replace BK115 := zbb BK115 hb; replace HB := zbs HB hb; (try clear hb); (try clear hb2); (try clear hk); (try clear hi); obtain ⟨hcz18_0, hcz18_1, hcz18_2, hcz18_3, hfz18_0, hfz18_1, hfz18_2, hfz18_3⟩ := zce4 BK115.out) | (go_at_call 112; (with_reducible refine (isobathref01_Within.calls a0_0 (-268435456) 268435456 true _ A6.out).mono ?_); rintro e w' ⟨rfl, ⟨nd, rfl⟩⟩) | (go_at_call 112; (with_reducible refine (isobathref01_Within.calls a0_1 (-268435456) 268435456 true _ A8.out).mono ?_); rintro e w' ⟨rfl, ⟨nd, rfl⟩⟩) | (go_at_call 112; (with_reducible refine (isobathref01_Within.calls a0_2 (-268435456) 268435456 true _ A10.out).mono ?_); rintro e w' ⟨rfl, ⟨nd, rfl⟩⟩) | (go_at_call 112; (with_reducible refine (isobathref01_Within.calls a0_3 (-268435456) 268435456 t121 _ A12.out).mono ?_); rintro e w' ⟨rfl, ⟨nd, rfl⟩⟩))
            go_ret
            exact ⟨zq6, zbz⟩
          · replace c11 := Bool.eq_false_iff.mpr c11
            subst c11
            have H1 : (some false) = some r := by rw [if_neg (show ¬ (false = true) by decide)] at H; exact H
            clear H
            have H := H1
            clear H1
            obtain rfl := Option.some.inj H
            go_enter Try.func63, Try.ntmps63
            go_wp2_with (first | ((with_reducible refine gate_dst (N := 1) rfl ?_); refine box_event (by rfl) (N := 1) (by rfl) (cs := #[.int .i64 a0_0, .int .i64 a0_1, .int .i64 a0_2, .int .i64 a0_3]) (t := 31) zq5 ?_; intro gb115 hg w19 hbox hb; have BK115 := Aside0.mk (hbox); have GW115 := zgs HB hg; have GE115 := zgs HB hg; replace HB := zbs HB hb; clear hb hbox hg; obtain ⟨hcz20_0, hcz20_1, hcz20_2, hcz20_3, hfz20_0, hfz20_1, hfz20_2, hfz20_3⟩ := zce4 BK115.out) | ((with_reducible refine gate_callee (f := 111) rfl ?_); refine goesL_ (some 5) rfl rfl Try.func111 zq1 rfl #[.agg #[.int .i64 a0_0, .int .i64 a0_1]] rfl zq8 ?_; (with_reducible refine (isobathref01_Valid.calls a0_0 a0_1 true _ A2.out).mono ?_); rintro e w21 ⟨rfl, hb⟩; refine ⟨_, rfl, ?_⟩; replace BK115 := zbb BK115 hb; replace HB := zbs HB hb; (try clear hb); (try clear hb2); (try clear hk); (try clear hi); obtain ⟨hcz22_0, hcz22_1, hcz22_2, hcz22_3, hfz22_0, hfz22_1, hfz22_2, hfz22_3⟩ := zce4 BK115.out) | (go_at_call 111; (with_reducible refine (isobathref01_Valid.calls a0_2 a0_3 true _ A4.out).mono ?_); rintro e w23 ⟨rfl, hb⟩; replace BK115 := zbb BK115 hb; replace HB := zbs HB hb; (try clear hb); (try clear hb2); (try clear hk); (try clear hi); obtain ⟨hcz24_0, hcz24_1, hcz24_2, hcz24_3, hfz24_0, hfz24_1, hfz24_2, hfz24_3⟩ := zce4 BK115.out) | (go_at_call 112; (with_reducible refine (isobathref01_Within.calls a0_0 (-268435456) 268435456 true _ A6.out).mono ?_); rintro e w' ⟨rfl, ⟨nd, rfl⟩⟩) | (go_at_call 112; (with_reducible refine (isobathref01_Within.calls a0_1 (-268435456) 268435456 true _ A8.out).mono ?_); rintro e w' ⟨rfl, ⟨nd, rfl⟩⟩) | (go_at_call 112; (with_reducible refine (isobathref01_Within.calls a0_2 (-268435456) 268435456 false _ A10.out).mono ?_); rintro e w' ⟨rfl, ⟨nd, rfl⟩⟩))
            go_ret
            exact ⟨zq6, zbz⟩
        · replace c9 := Bool.eq_false_iff.mpr c9
          subst c9
          have H1 : (some false) = some r := by rw [if_neg (show ¬ (false = true) by decide)] at H; exact H
          clear H
          have H := H1
          clear H1
          obtain rfl := Option.some.inj H
          go_enter Try.func63, Try.ntmps63
          go_wp2_with (first | ((with_reducible refine gate_dst (N := 1) rfl ?_); refine box_event (by rfl) (N := 1) (by rfl) (cs := #[.int .i64 a0_0, .int .i64 a0_1, .int .i64 a0_2, .int .i64 a0_3]) (t := 31) zq5 ?_; intro gb115 hg w25 hbox hb; have BK115 := Aside0.mk (hbox); have GW115 := zgs HB hg; have GE115 := zgs HB hg; replace HB := zbs HB hb; clear hb hbox hg; obtain ⟨hcz26_0, hcz26_1, hcz26_2, hcz26_3, hfz26_0, hfz26_1, hfz26_2, hfz26_3⟩ := zce4 BK115.out) | ((with_reducible refine gate_callee (f := 111) rfl ?_); refine goesL_ (some 5) rfl rfl Try.func111 zq1 rfl #[.agg #[.int .i64 a0_0, .int .i64 a0_1]] rfl zq8 ?_; (with_reducible refine (isobathref01_Valid.calls a0_0 a0_1 true _ A2.out).mono ?_); rintro e w27 ⟨rfl, hb⟩; refine ⟨_, rfl, ?_⟩; replace BK115 := zbb BK115 hb; replace HB := zbs HB hb; (try clear hb); (try clear hb2); (try clear hk); (try clear hi); obtain ⟨hcz28_0, hcz28_1, hcz28_2, hcz28_3, hfz28_0, hfz28_1, hfz28_2, hfz28_3⟩ := zce4 BK115.out) | (go_at_call 111; (with_reducible refine (isobathref01_Valid.calls a0_2 a0_3 true _ A4.out).mono ?_); rintro e w29 ⟨rfl, hb⟩; replace BK115 := zbb BK115 hb; replace HB := zbs HB hb; (try clear hb); (try clear hb2); (try clear hk); (try clear hi); obtain ⟨hcz30_0, hcz30_1, hcz30_2, hcz30_3, hfz30_0, hfz30_1, hfz30_2, hfz30_3⟩ := zce4 BK115.out) | (go_at_call 112; (with_reducible refine (isobathref01_Within.calls a0_0 (-268435456) 268435456 true _ A6.out).mono ?_); rintro e w' ⟨rfl, ⟨nd, rfl⟩⟩) | (go_at_call 112; (with_reducible refine (isobathref01_Within.calls a0_1 (-268435456) 268435456 false _ A8.out).mono ?_); rintro e w' ⟨rfl, ⟨nd, rfl⟩⟩))
          go_ret
          exact ⟨zq6, zbz⟩
      · replace c7 := Bool.eq_false_iff.mpr c7
        subst c7
        have H1 : (some false) = some r := by rw [if_neg (show ¬ (false = true) by decide)] at H; exact H
        clear H
        have H := H1
        clear H1
        obtain rfl := Option.some.inj H
        go_enter Try.func63, Try.ntmps63
        go_wp2_with (first | ((with_reducible refine gate_dst (N := 1) rfl ?_); refine box_event (by rfl) (N := 1) (by rfl) (cs := #[.int .i64 a0_0, .int .i64 a0_1, .int .i64 a0_2, .int .i64 a0_3]) (t := 31) zq5 ?_; intro gb115 hg w31 hbox hb; have BK115 := Aside0.mk (hbox); have GW115 := zgs HB hg; have GE115 := zgs HB hg; replace HB := zbs HB hb; clear hb hbox hg; obtain ⟨hcz32_0, hcz32_1, hcz32_2, hcz32_3, hfz32_0, hfz32_1, hfz32_2, hfz32_3⟩ := zce4 BK115.out) | ((with_reducible refine gate_callee (f := 111) rfl ?_); refine goesL_ (some 5) rfl rfl Try.func111 zq1 rfl #[.agg #[.int .i64 a0_0, .int .i64 a0_1]] rfl zq8 ?_; (with_reducible refine (isobathref01_Valid.calls a0_0 a0_1 true _ A2.out).mono ?_); rintro e w33 ⟨rfl, hb⟩; refine ⟨_, rfl, ?_⟩; replace BK115 := zbb BK115 hb; replace HB := zbs HB hb; (try clear hb); (try clear hb2); (try clear hk); (try clear hi); obtain ⟨hcz34_0, hcz34_1, hcz34_2, hcz34_3, hfz34_0, hfz34_1, hfz34_2, hfz34_3⟩ := zce4 BK115.out) | (go_at_call 111; (with_reducible refine (isobathref01_Valid.calls a0_2 a0_3 true _ A4.out).mono ?_); rintro e w35 ⟨rfl, hb⟩; replace BK115 := zbb BK115 hb; replace HB := zbs HB hb; (try clear hb); (try clear hb2); (try clear hk); (try clear hi); obtain ⟨hcz36_0, hcz36_1, hcz36_2, hcz36_3, hfz36_0, hfz36_1, hfz36_2, hfz36_3⟩ := zce4 BK115.out) | (go_at_call 112; (with_reducible refine (isobathref01_Within.calls a0_0 (-268435456) 268435456 false _ A6.out).mono ?_); rintro e w' ⟨rfl, ⟨nd, rfl⟩⟩))
        go_ret
        exact ⟨zq6, zbz⟩
    · replace c5 := Bool.eq_false_iff.mpr c5
      subst c5
      have H1 : (some false) = some r := by rw [if_neg (show ¬ (false = true) by decide)] at H; exact H
      clear H
      have H := H1
      clear H1
      obtain rfl := Option.some.inj H
      go_enter Try.func63, Try.ntmps63
      go_wp2_with (first | ((with_reducible refine gate_dst (N := 1) rfl ?_); refine box_event (by rfl) (N := 1) (by rfl) (cs := #[.int .i64 a0_0, .int .i64 a0_1, .int .i64 a0_2, .int .i64 a0_3]) (t := 31) zq5 ?_; intro gb115 hg w37 hbox hb; have BK115 := Aside0.mk (hbox); have GW115 := zgs HB hg; have GE115 := zgs HB hg; replace HB := zbs HB hb; clear hb hbox hg; obtain ⟨hcz38_0, hcz38_1, hcz38_2, hcz38_3, hfz38_0, hfz38_1, hfz38_2, hfz38_3⟩ := zce4 BK115.out) | ((with_reducible refine gate_callee (f := 111) rfl ?_); refine goesL_ (some 5) rfl rfl Try.func111 zq1 rfl #[.agg #[.int .i64 a0_0, .int .i64 a0_1]] rfl zq8 ?_; (with_reducible refine (isobathref01_Valid.calls a0_0 a0_1 true _ A2.out).mono ?_); rintro e w39 ⟨rfl, hb⟩; refine ⟨_, rfl, ?_⟩; replace BK115 := zbb BK115 hb; replace HB := zbs HB hb; (try clear hb); (try clear hb2); (try clear hk); (try clear hi); obtain ⟨hcz40_0, hcz40_1, hcz40_2, hcz40_3, hfz40_0, hfz40_1, hfz40_2, hfz40_3⟩ := zce4 BK115.out) | (go_at_call 111; (with_reducible refine (isobathref01_Valid.calls a0_2 a0_3 false _ A4.out).mono ?_); rintro e w41 ⟨rfl, hb⟩; replace BK115 := zbb BK115 hb; replace HB := zbs HB hb; (try clear hb); (try clear hb2); (try clear hk); (try clear hi)))
      go_ret
      exact ⟨zq6, zbz⟩
  · replace c3 := Bool.eq_false_iff.mpr c3
    subst c3
    have H1 : (some false) = some r := by rw [if_neg (show ¬ (false = true) by decide)] at H; exact H
    clear H
    have H := H1
    clear H1
    obtain rfl := Option.some.inj H
    go_enter Try.func63, Try.ntmps63
    go_wp2_with (first | ((with_reducible refine gate_dst (N := 1) rfl ?_); refine box_event (by rfl) (N := 1) (by rfl) (cs := #[.int .i64 a0_0, .int .i64 a0_1, .int .i64 a0_2, .int .i64 a0_3]) (t := 31) zq5 ?_; intro gb115 hg w42 hbox hb; have BK115 := Aside0.mk (hbox); have GW115 := zgs HB hg; have GE115 := zgs HB hg; replace HB := zbs HB hb; clear hb hbox hg; obtain ⟨hcz43_0, hcz43_1, hcz43_2, hcz43_3, hfz43_0, hfz43_1, hfz43_2, hfz43_3⟩ := zce4 BK115.out) | ((with_reducible refine gate_callee (f := 111) rfl ?_); refine goesL_ (some 5) rfl rfl Try.func111 zq1 rfl #[.agg #[.int .i64 a0_0, .int .i64 a0_1]] rfl zq8 ?_; (with_reducible refine (isobathref01_Valid.calls a0_0 a0_1 false _ A2.out).mono ?_); rintro e w44 ⟨rfl, hb⟩; refine ⟨_, rfl, ?_⟩; replace BK115 := zbb BK115 hb; replace HB := zbs HB hb; (try clear hb); (try clear hb2); (try clear hk); (try clear hi)))
    go_ret
    exact ⟨zq6, zbz⟩

end Go.Proofs.Ytmhaiihjfgfaoaa.Pr
end
section
namespace Go.Proofs.Ytmhaiihjfgfaoaa.Pr
open Go.RowKit Go.Proofs.YtmhaiihjfgfaoaaW.PrintWords Go.Proofs.YtmhaiihjfgfaoaaW.PrintLast Go.Proofs.YtmhaiihjfgfaoaaW.PrintMore
attribute [local go_sem] max2_int min2_int max_two min_two max_four
set_option linter.unusedVariables false
set_option linter.unusedSimpArgs false

/-! ### isobathref03_boxes: function 90 -/
def isobathref03_boxes.l0 : Nat → List (S31) → Int → Option (Int)
  | 0, _, _ => none
  | k + 1, x0, x3 => if x3 < (x0.length : Int) then (if 0 ≤ x3 then ((isobathref01_ValidBox.f ((rd_T31 x0 x3).f0.f0) ((rd_T31 x0 x3).f0.f1) ((rd_T31 x0 x3).f1.f0) ((rd_T31 x0 x3).f1.f1)).bind fun t656 => (if t656 = true then (isobathref03_boxes.l0 k x0 (wrap64 (x3 + 1))) else (some 2))) else (none)) else (some 0)
def isobathref03_boxes.f (k : Nat) (l0 : List (S31)) : Option (Int) := if (l0.length : Int) > 64 then (some 6) else (isobathref03_boxes.l0 k l0 0)
set_option maxHeartbeats 8000000 in
set_option maxRecDepth 100000 in
theorem isobathref03_boxes.calls (k : Nat) (A0 : Option Addr) (c0 : Nat) (l0 : List (S31)) (r : Int) (w : World) (hr0 : Kd.C k31 w A0 l0.length l0) (hc0 : l0.length ≤ c0) (h : isobathref03_boxes.f k l0 = some r) :
    Calls Try.prog 90 #[.slice A0 l0.length c0] w fun e w' => e = .returned (.int .i64 r) ∧ Below w.heap.size w w' := by
  have hu31 := Try.underlying31
  have HR0 := Aside0.mk hr0
  have HC0 := Aside0.mk hc0
  clear hr0 hc0
  have HB := Aside0.mk (Below.refl w.heap.size w)
  have H : (if (l0.length : Int) > 64 then (some 6) else (isobathref03_boxes.l0 k l0 0)) = some r := h
  clear h
  by_cases c2 : (l0.length : Int) > 64
  · rw [if_pos c2] at H
    have c2b0 : decide (64 < (l0.length : Int)) = true := decide_eq_true c2
    have c2b1 : decide (64 < l0.length) = true := decide_eq_true (by omega)
    clear c2
    obtain rfl := Option.some.inj H
    go_enter Try.func90, Try.ntmps90
    go_wp2
    go_ret
    exact ⟨zq6, zbz⟩
  · rw [if_neg c2] at H
    have c2b0 : decide (64 < (l0.length : Int)) = false := decide_eq_false c2
    have c2b1 : decide (64 < l0.length) = false := decide_eq_false (by omega)
    clear c2
    have H' := Aside0.mk H
    clear H
    go_enter Try.func90, Try.ntmps90
    go_wp2
    go_loopg [3] k (fun kq v3 w' => ∃ (x3_1 : Int), v3 = .int .i64 x3_1 ∧ Aside0 (isobathref03_boxes.l0 kq l0 x3_1 = some r) ∧ Aside0 (kq ≤ k) ∧ Aside0 (Below w.heap.size w w'))
    case atStart => exact ⟨(0), zq2, H', ⟨Nat.le_refl _⟩, ⟨zbz⟩⟩
    case round =>
      clear H'
      try clear c2
      try clear c2b0
      try clear c2b1
      try clear p2
      obtain ⟨x3_1, rfl, HA, HK1, HB⟩ := hrel
      cases gk with
      | zero => exact absurd HA.out (by simp [isobathref03_boxes.l0])
      | succ k1 =>
        have H := HA.out
        clear HA
        simp only [isobathref03_boxes.l0] at H
        by_cases c3 : x3_1 < (l0.length : Int)
        · rw [if_pos c3] at H
          have c3b0 : decide (x3_1 < (l0.length : Int)) = true := decide_eq_true c3
          clear c3
          by_cases c4 : 0 ≤ x3_1
          · rw [if_pos c4] at H
            have c4b0 : decide (0 ≤ x3_1) = true := decide_eq_true c4
            clear c4
            replace H := Option.bind_eq_some_iff.mp H
            obtain ⟨t656, A50, H⟩ := H
            replace H : (if t656 = true then (isobathref03_boxes.l0 k1 l0 (wrap64 (x3_1 + 1))) else (some 2)) = some r := H
            have A5 := Aside0.mk A50
            clear A50
            by_cases c6 : t656 = true
            · subst c6
              have H1 : (isobathref03_boxes.l0 k1 l0 (wrap64 (x3_1 + 1))) = some r := by rw [if_pos rfl] at H; exact H
              clear H
              have H := H1
              clear H1
              have H' := Aside0.mk H
              clear H
              have p655 : 0 ≤ (x3_1 : Int) := of_decide_eq_true zq4
              have q655 : x3_1 < (l0.length : Int) := of_decide_eq_true zq4
              obtain ⟨ad655, e655, hx655_0, hx655_1, hx655_2, hx655_3⟩ := at_T31 HR0.out x3_1 p655 q655
              cases e655
              replace hx655_0 := (HB.out.cell (World.block_lt_of_cell? w _ hx655_0)).trans hx655_0
              replace hx655_1 := (HB.out.cell (World.block_lt_of_cell? w _ hx655_1)).trans hx655_1
              replace hx655_2 := (HB.out.cell (World.block_lt_of_cell? w _ hx655_2)).trans hx655_2
              replace hx655_3 := (HB.out.cell (World.block_lt_of_cell? w _ hx655_3)).trans hx655_3
              replace p655 := eq_true p655
              replace q655 := eq_true q655
              go_wp2_with (first | ((with_reducible refine gate_callee (f := 63) rfl ?_); refine goesL_ (some 17) rfl rfl Try.func63 zq1 rfl #[.agg #[.int .i64 ((rd_T31 l0 x3_1).f0.f0), .int .i64 ((rd_T31 l0 x3_1).f0.f1), .int .i64 ((rd_T31 l0 x3_1).f1.f0), .int .i64 ((rd_T31 l0 x3_1).f1.f1)]] rfl zq8 ?_; (with_reducible refine (isobathref01_ValidBox.calls ((rd_T31 l0 x3_1).f0.f0) ((rd_T31 l0 x3_1).f0.f1) ((rd_T31 l0 x3_1).f1.f0) ((rd_T31 l0 x3_1).f1.f1) true _ A5.out).mono ?_); rintro e w7 ⟨rfl, hb⟩; refine ⟨_, rfl, ?_⟩; replace HB := zbs HB hb; (try clear hb); (try clear hb2); (try clear hk); (try clear hi)))
              go_roundg k1
              case measure => have := HK1.out; omega
              case rel => exact ⟨(wrap64 (x3_1 + 1)), zq2, H', ⟨zq7⟩, ⟨zbz⟩⟩
            · replace c6 := Bool.eq_false_iff.mpr c6
              subst c6
              have H1 : (some 2) = some r := by rw [if_neg (show ¬ (false = true) by decide)] at H; exact H
              clear H
              have H := H1
              clear H1
              obtain rfl := Option.some.inj H
              have p655 : 0 ≤ (x3_1 : Int) := of_decide_eq_true zq4
              have q655 : x3_1 < (l0.length : Int) := of_decide_eq_true zq4
              obtain ⟨ad655, e655, hx655_0, hx655_1, hx655_2, hx655_3⟩ := at_T31 HR0.out x3_1 p655 q655
              cases e655
              replace hx655_0 := (HB.out.cell (World.block_lt_of_cell? w _ hx655_0)).trans hx655_0
              replace hx655_1 := (HB.out.cell (World.block_lt_of_cell? w _ hx655_1)).trans hx655_1
              replace hx655_2 := (HB.out.cell (World.block_lt_of_cell? w _ hx655_2)).trans hx655_2
              replace hx655_3 := (HB.out.cell (World.block_lt_of_cell? w _ hx655_3)).trans hx655_3
              replace p655 := eq_true p655
              replace q655 := eq_true q655
              go_wp2_with (first | ((with_reducible refine gate_callee (f := 63) rfl ?_); refine goesL_ (some 17) rfl rfl Try.func63 zq1 rfl #[.agg #[.int .i64 ((rd_T31 l0 x3_1).f0.f0), .int .i64 ((rd_T31 l0 x3_1).f0.f1), .int .i64 ((rd_T31 l0 x3_1).f1.f0), .int .i64 ((rd_T31 l0 x3_1).f1.f1)]] rfl zq8 ?_; (with_reducible refine (isobathref01_ValidBox.calls ((rd_T31 l0 x3_1).f0.f0) ((rd_T31 l0 x3_1).f0.f1) ((rd_T31 l0 x3_1).f1.f0) ((rd_T31 l0 x3_1).f1.f1) false _ A5.out).mono ?_); rintro e w8 ⟨rfl, hb⟩; refine ⟨_, rfl, ?_⟩; replace HB := zbs HB hb; (try clear hb); (try clear hb2); (try clear hk); (try clear hi)))
              go_ret
              exact ⟨zq6, zbz⟩
          · rw [if_neg c4] at H
            exact absurd H (by simp)
        · rw [if_neg c3] at H
          have c3b0 : decide (x3_1 < (l0.length : Int)) = false := decide_eq_false c3
          clear c3
          obtain rfl := Option.some.inj H
          go_wp2
          go_ret
          exact ⟨zq6, zbz⟩

end Go.Proofs.Ytmhaiihjfgfaoaa.Pr
end
section
namespace Go.Proofs.Ytmhaiihjfgfaoaa.Pr
open Go.RowKit Go.Proofs.YtmhaiihjfgfaoaaW.PrintWords Go.Proofs.YtmhaiihjfgfaoaaW.PrintLast Go.Proofs.YtmhaiihjfgfaoaaW.PrintMore
attribute [local go_sem] max2_int min2_int max_two min_two max_four
set_option linter.unusedVariables false
set_option linter.unusedSimpArgs false

/-! ### isobathref03_pickup: function 95 -/
def isobathref03_pickup.f (a0_0 : Int) (a0_1 : Int) (a0_2 : Int) (a0_3 : Int) (a0_4 : Int) (a0_5 : Int) : Option (Bool) := (isobathref01_ValidBox.f a0_0 a0_1 a0_2 a0_3).bind fun t750 => (if t750 = true then (if a0_4 ≥ 0 then (if a0_4 ≤ a0_5 then (some (decide (a0_5 ≤ 1073741824))) else (some false)) else (some false)) else (some false))
set_option maxHeartbeats 8000000 in
set_option maxRecDepth 100000 in
theorem isobathref03_pickup.calls (a0_0 : Int) (a0_1 : Int) (a0_2 : Int) (a0_3 : Int) (a0_4 : Int) (a0_5 : Int) (r : Bool) (w : World) (h : isobathref03_pickup.f a0_0 a0_1 a0_2 a0_3 a0_4 a0_5 = some r) :
    Calls Try.prog 95 #[.agg #[.int .i64 a0_0, .int .i64 a0_1, .int .i64 a0_2, .int .i64 a0_3, .int .i64 a0_4, .int .i64 a0_5]] w fun e w' => e = .returned (.bool r) ∧ Below w.heap.size w w' := by
  have hu81 := Try.underlying81
  have hu31 := Try.underlying31
  have HB := Aside0.mk (Below.refl w.heap.size w)
  have H : ((isobathref01_ValidBox.f a0_0 a0_1 a0_2 a0_3).bind fun t750 => (if t750 = true then (if a0_4 ≥ 0 then (if a0_4 ≤ a0_5 then (some (decide (a0_5 ≤ 1073741824))) else (some false)) else (some false)) else (some false))) = some r := h
  clear h
  replace H := Option.bind_eq_some_iff.mp H
  obtain ⟨t750, A20, H⟩ := H
  replace H : (if t750 = true then (if a0_4 ≥ 0 then (if a0_4 ≤ a0_5 then (some (decide (a0_5 ≤ 1073741824))) else (some false)) else (some false)) else (some false)) = some r := H
  have A2 := Aside0.mk A20
  clear A20
  by_cases c3 : t750 = true
  · subst c3
    have H1 : (if a0_4 ≥ 0 then (if a0_4 ≤ a0_5 then (some (decide (a0_5 ≤ 1073741824))) else (some false)) else (some false)) = some r := by rw [if_pos rfl] at H; exact H
    clear H
    have H := H1
    clear H1
    by_cases c4 : a0_4 ≥ 0
    · rw [if_pos c4] at H
      have c4b0 : decide (0 ≤ a0_4) = true := decide_eq_true c4
      clear c4
      by_cases c5 : a0_4 ≤ a0_5
      · rw [if_pos c5] at H
        have c5b0 : decide (a0_4 ≤ a0_5) = true := decide_eq_true c5
        clear c5
        obtain rfl := Option.some.inj H
        go_enter Try.func95, Try.ntmps95
        go_wp2_with (first | ((with_reducible refine gate_dst (N := 1) rfl ?_); refine box_event (by rfl) (N := 1) (by rfl) (cs := #[.int .i64 a0_0, .int .i64 a0_1, .int .i64 a0_2, .int .i64 a0_3, .int .i64 a0_4, .int .i64 a0_5]) (t := 81) zq5 ?_; intro gb749 hg w6 hbox hb; have BK749 := Aside0.mk (hbox); have GW749 := zgs HB hg; have GE749 := zgs HB hg; replace HB := zbs HB hb; clear hb hbox hg; obtain ⟨hcz7_0, hcz7_1, hcz7_2, hcz7_3, hcz7_4, hcz7_5, hfz7_0, hfz7_1, hfz7_2, hfz7_3, hfz7_4, hfz7_5⟩ := zce6 BK749.out) | ((with_reducible refine gate_callee (f := 63) rfl ?_); refine goesL_ (some 5) rfl rfl Try.func63 zq1 rfl #[.agg #[.int .i64 a0_0, .int .i64 a0_1, .int .i64 a0_2, .int .i64 a0_3]] rfl zq8 ?_; (with_reducible refine (isobathref01_ValidBox.calls a0_0 a0_1 a0_2 a0_3 true _ A2.out).mono ?_); rintro e w8 ⟨rfl, hb⟩; refine ⟨_, rfl, ?_⟩; replace BK749 := zbb BK749 hb; replace HB := zbs HB hb; (try clear hb); (try clear hb2); (try clear hk); (try clear hi); obtain ⟨hcz9_0, hcz9_1, hcz9_2, hcz9_3, hcz9_4, hcz9_5, hfz9_0, hfz9_1, hfz9_2, hfz9_3, hfz9_4, hfz9_5⟩ := zce6 BK749.out))
        go_ret
        exact ⟨zq6, zbz⟩
      · rw [if_neg c5] at H
        have c5b0 : decide (a0_4 ≤ a0_5) = false := decide_eq_false c5
        clear c5
        obtain rfl := Option.some.inj H
        go_enter Try.func95, Try.ntmps95
        go_wp2_with (first | ((with_reducible refine gate_dst (N := 1) rfl ?_); refine box_event (by rfl) (N := 1) (by rfl) (cs := #[.int .i64 a0_0, .int .i64 a0_1, .int .i64 a0_2, .int .i64 a0_3, .int .i64 a0_4, .int .i64 a0_5]) (t := 81) zq5 ?_; intro gb749 hg w10 hbox hb; have BK749 := Aside0.mk (hbox); have GW749 := zgs HB hg; have GE749 := zgs HB hg; replace HB := zbs HB hb; clear hb hbox hg; obtain ⟨hcz11_0, hcz11_1, hcz11_2, hcz11_3, hcz11_4, hcz11_5, hfz11_0, hfz11_1, hfz11_2, hfz11_3, hfz11_4, hfz11_5⟩ := zce6 BK749.out) | ((with_reducible refine gate_callee (f := 63) rfl ?_); refine goesL_ (some 5) rfl rfl Try.func63 zq1 rfl #[.agg #[.int .i64 a0_0, .int .i64 a0_1, .int .i64 a0_2, .int .i64 a0_3]] rfl zq8 ?_; (with_reducible refine (isobathref01_ValidBox.calls a0_0 a0_1 a0_2 a0_3 true _ A2.out).mono ?_); rintro e w12 ⟨rfl, hb⟩; refine ⟨_, rfl, ?_⟩; replace BK749 := zbb BK749 hb; replace HB := zbs HB hb; (try clear hb); (try clear hb2); (try clear hk); (try clear hi); obtain ⟨hcz13_0, hcz13_1, hcz13_2, hcz13_3, hcz13_4, hcz13_5, hfz13_0, hfz13_1, hfz13_2, hfz13_3, hfz13_4, hfz13_5⟩ := zce6 BK749.out))
        go_ret
        exact ⟨zq6, zbz⟩
    · rw [if_neg c4] at H
      have c4b0 : decide (0 ≤ a0_4) = false := decide_eq_false c4
      clear c4
      obtain rfl := Option.some.inj H
      go_enter Try.func95, Try.ntmps95
      go_wp2_with (first | ((with_reducible refine gate_dst (N := 1) rfl ?_); refine box_event (by rfl) (N := 1) (by rfl) (cs := #[.int .i64 a0_0, .int .i64 a0_1, .int .i64 a0_2, .int .i64 a0_3, .int .i64 a0_4, .int .i64 a0_5]) (t := 81) zq5 ?_; intro gb749 hg w14 hbox hb; have BK749 := Aside0.mk (hbox); have GW749 := zgs HB hg; have GE749 := zgs HB hg; replace HB := zbs HB hb; clear hb hbox hg; obtain ⟨hcz15_0, hcz15_1, hcz15_2, hcz15_3, hcz15_4, hcz15_5, hfz15_0, hfz15_1, hfz15_2, hfz15_3, hfz15_4, hfz15_5⟩ := zce6 BK749.out) | ((with_reducible refine gate_callee (f := 63) rfl ?_); refine goesL_ (some 5) rfl rfl Try.func63 zq1 rfl #[.agg #[.int .i64 a0_0, .int .i64 a0_1, .int .i64 a0_2, .int .i64 a0_3]] rfl zq8 ?_; (with_reducible refine (isobathref01_ValidBox.calls a0_0 a0_1 a0_2 a0_3 true _ A2.out).mono ?_); rintro e w16 ⟨rfl, hb⟩; refine ⟨_, rfl, ?_⟩; replace BK749 := zbb BK749 hb; replace HB := zbs HB hb; (try clear hb); (try clear hb2); (try clear hk); (try clear hi); obtain ⟨hcz17_0, hcz17_1, hcz17_2, hcz17_3, hcz17_4, hcz17_5, hfz17_0, hfz17_1, hfz17_2, hfz17_3, hfz17_4, hfz17_5⟩ := zce6 BK749.out))
      go_ret
      exact ⟨zq6, zbz⟩
  · replace c3 := Bool.eq_false_iff.mpr c3
    subst c3
    have H1 : (some false) = some r := by rw [if_neg (show ¬ (false = true) by decide)] at H; exact H
    clear H
    have H := H1
    clear H1
    obtain rfl := Option.some.inj H
    go_enter Try.func95, Try.ntmps95
    go_wp2_with (first | ((with_reducible refine gate_dst (N := 1) rfl ?_); refine box_event (by rfl) (N := 1) (by rfl) (cs := #[.int .i64 a0_0, .int .i64 a0_1, .int .i64 a0_2, .int .i64 a0_3, .int .i64 a0_4, .int .i64 a0_5]) (t := 81) zq5 ?_; intro gb749 hg w18 hbox hb; have BK749 := Aside0.mk (hbox); have GW749 := zgs HB hg; have GE749 := zgs HB hg; replace HB := zbs HB hb; clear hb hbox hg; obtain ⟨hcz19_0, hcz19_1, hcz19_2, hcz19_3, hcz19_4, hcz19_5, hfz19_0, hfz19_1, hfz19_2, hfz19_3, hfz19_4, hfz19_5⟩ := zce6 BK749.out) | ((with_reducible refine gate_callee (f := 63) rfl ?_); refine goesL_ (some 5) rfl rfl Try.func63 zq1 rfl #[.agg #[.int .i64 a0_0, .int .i64 a0_1, .int .i64 a0_2, .int .i64 a0_3]] rfl zq8 ?_; (with_reducible refine (isobathref01_ValidBox.calls a0_0 a0_1 a0_2 a0_3 false _ A2.out).mono ?_); rintro e w20 ⟨rfl, hb⟩; refine ⟨_, rfl, ?_⟩; replace BK749 := zbb BK749 hb; replace HB := zbs HB hb; (try clear hb); (try clear hb2); (try clear hk); (try clear hi)))
    go_ret
    exact ⟨zq6, zbz⟩

end Go.Proofs.Ytmhaiihjfgfaoaa.Pr
end
section
namespace Go.Proofs.Ytmhaiihjfgfaoaa.Pr
open Go.RowKit Go.Proofs.YtmhaiihjfgfaoaaW.PrintWords Go.Proofs.YtmhaiihjfgfaoaaW.PrintLast Go.Proofs.YtmhaiihjfgfaoaaW.PrintMore
attribute [local go_sem] max2_int min2_int max_two min_two max_four
set_option linter.unusedVariables false
set_option linter.unusedSimpArgs false

/-! ### isobathref01_In: function 91 -/
mutual
def isobathref01_In.j0 : Nat → Bool → Int → Int → Int → Int → Option (Int × Int)
  | 0, _, _, _, _, _ => none
  | k + 1, x13, x646000, x646001, x647000, x647001 => if x13 = true then (some (0, 2)) else (if x646000 ≥ x647000 then (isobathref01_In.j1 k (decide (x646001 ≤ x647001)) x646000 x646001 x647000 x647001) else (isobathref01_In.j1 k false x646000 x646001 x647000 x647001))
def isobathref01_In.j1 : Nat → Bool → Int → Int → Int → Int → Option (Int × Int)
  | 0, _, _, _, _, _ => none
  | k + 1, x25, x646000, x646001, x647000, x647001 => if x25 = true then (some (2, 0)) else (if x646001 < x647000 then (some (0, 0)) else (if x646000 > x647001 then (some (0, 0)) else (some (1, 0))))
end
def isobathref01_In.f (k : Nat) (a0_0 : Int) (a0_1 : Int) (a1_0 : Int) (a1_1 : Int) : Option (Int × Int) := (isobathref01_Valid.f a0_0 a0_1).bind fun t647 => (if t647 = true then ((isobathref01_Valid.f a1_0 a1_1).bind fun t648 => (isobathref01_In.j0 k (!t648) a0_0 a0_1 a1_0 a1_1)) else (isobathref01_In.j0 k true a0_0 a0_1 a1_0 a1_1))
set_option maxHeartbeats 8000000 in
set_option maxRecDepth 100000 in
theorem isobathref01_In.calls (k : Nat) (a0_0 : Int) (a0_1 : Int) (a1_0 : Int) (a1_1 : Int) (r1 : Int) (r2 : Int) (w : World) (h : isobathref01_In.f k a0_0 a0_1 a1_0 a1_1 = some (r1, r2)) :
    Calls Try.prog 91 #[.agg #[.int .i64 a0_0, .int .i64 a0_1], .agg #[.int .i64 a1_0, .int .i64 a1_1]] w fun e w' => e = .returned (.tuple #[.int .i64 r1, .int .i64 r2]) ∧ Below w.heap.size w w' := by
  have hu27 := Try.underlying27
  have HB := Aside0.mk (Below.refl w.heap.size w)
  have H : ((isobathref01_Valid.f a0_0 a0_1).bind fun t647 => (if t647 = true then ((isobathref01_Valid.f a1_0 a1_1).bind fun t648 => (isobathref01_In.j0 k (!t648) a0_0 a0_1 a1_0 a1_1)) else (isobathref01_In.j0 k true a0_0 a0_1 a1_0 a1_1))) = some (r1, r2) := h
  clear h
  have HC3 := Aside0.mk H
  clear H
  go_enter Try.func91, Try.ntmps91
  go_upto_region 1 with (first | ((with_reducible refine gate_dst (N := 2) rfl ?_); refine box_event (by rfl) (N := 2) (by rfl) (cs := #[.int .i64 a0_0, .int .i64 a0_1]) (t := 27) zq5 ?_; intro gb645 hg w4 hbox hb; have BK645 := Aside0.mk (hbox); have GW645 := zgs HB hg; have GE645 := zgs HB hg; replace HB := zbs HB hb; clear hb hbox hg) | ((with_reducible refine gate_dst (N := 3) rfl ?_); refine box_event (by rfl) (N := 3) (by rfl) (cs := #[.int .i64 a1_0, .int .i64 a1_1]) (t := 27) zq5 ?_; intro gb646 hg w5 hbox hb; have BK646 := Aside0.mk (hbox); have GW646 := zgs HB hg; have GE646 := zgs HB hg; have NB645_646 := znp BK645 hg; have NB646_645 := znq BK645 hg; replace BK645 := zbb BK645 hb; replace HB := zbs HB hb; clear hb hbox hg))
  (try simp only [Act.put, List.setIfInBounds_toArray, List.set_cons_zero, List.set_cons_succ])
  go_cut [13] (fun v13 wc => ∃ (kq : Nat) (x13_2 : Bool), v13 = .bool x13_2 ∧ Aside0 (isobathref01_In.j0 kq x13_2 a0_0 a0_1 a1_0 a1_1 = some (r1, r2)) ∧ Aside0 (kq ≤ k) ∧ Aside0 (wc.heap[gb645]? = some (.cells #[.int .i64 a0_0, .int .i64 a0_1] 27 (0, 0))) ∧ Aside0 (wc.heap[gb646]? = some (.cells #[.int .i64 a1_0, .int .i64 a1_1] 27 (0, 0))) ∧ Aside0 (Below w.heap.size w wc))
  case first =>
    have H := HC3.out
    clear HC3
    replace H := Option.bind_eq_some_iff.mp H
    obtain ⟨t647, A60, H⟩ := H
    replace H : (if t647 = true then ((isobathref01_Valid.f a1_0 a1_1).bind fun t648 => (isobathref01_In.j0 k (!t648) a0_0 a0_1 a1_0 a1_1)) else (isobathref01_In.j0 k true a0_0 a0_1 a1_0 a1_1)) = some (r1, r2) := H
    have A6 := Aside0.mk A60
    clear A60
    by_cases c7 : t647 = true
    · subst c7
      have H1 : ((isobathref01_Valid.f a1_0 a1_1).bind fun t648 => (isobathref01_In.j0 k (!t648) a0_0 a0_1 a1_0 a1_1)) = some (r1, r2) := by rw [if_pos rfl] at H; exact H
      clear H
      have H := H1
      clear H1
      replace H := Option.bind_eq_some_iff.mp H
      obtain ⟨t648, A80, H⟩ := H
      replace H : (isobathref01_In.j0 k (!t648) a0_0 a0_1 a1_0 a1_1) = some (r1, r2) := H
      have A8 := Aside0.mk A80
      clear A80
      have H' := Aside0.mk H
      clear H
      have hnb9 := NB645_646.out
      have hnc9 := NB646_645.out
      obtain ⟨hcz10_0, hcz10_1, hfz10_0, hfz10_1⟩ := zce2 BK645.out
      go_wp2_with (first | ((with_reducible refine gate_callee (f := 111) rfl ?_); refine goesL_ (some 7) rfl rfl Try.func111 zq1 rfl #[.agg #[.int .i64 a0_0, .int .i64 a0_1]] rfl zq8 ?_; (with_reducible refine (isobathref01_Valid.calls a0_0 a0_1 true _ A6.out).mono ?_); rintro e w11 ⟨rfl, hb⟩; refine ⟨_, rfl, ?_⟩; replace BK645 := zbb BK645 hb; replace BK646 := zbb BK646 hb; replace HB := zbs HB hb; (try clear hb); (try clear hb2); (try clear hk); (try clear hi); obtain ⟨hcz12_0, hcz12_1, hfz12_0, hfz12_1⟩ := zce2 BK646.out) | (go_at_call 111; (with_reducible refine (isobathref01_Valid.calls a1_0 a1_1 t648 _ A8.out).mono ?_); rintro e w13 ⟨rfl, hb⟩; replace BK645 := zbb BK645 hb; replace BK646 := zbb BK646 hb; replace HB := zbs HB hb; (try clear hb); (try clear hb2); (try clear hk); (try clear hi)))
      go_meet
      case rel => exact ⟨_, (!t648), zq2, H', ⟨zq49⟩, ⟨by (with_reducible repeat (first | refine blk_drewN ?_ _ | refine blk_drew ?_ | refine blk_alloc ?_ _)); exact BK645.out⟩, ⟨by (with_reducible repeat (first | refine blk_drewN ?_ _ | refine blk_drew ?_ | refine blk_alloc ?_ _)); exact BK646.out⟩, ⟨zbz⟩⟩
    · replace c7 := Bool.eq_false_iff.mpr c7
      subst c7
      have H1 : (isobathref01_In.j0 k true a0_0 a0_1 a1_0 a1_1) = some (r1, r2) := by rw [if_neg (show ¬ (false = true) by decide)] at H; exact H
      clear H
      have H := H1
      clear H1
      have H' := Aside0.mk H
      clear H
      have hnb14 := NB645_646.out
      have hnc14 := NB646_645.out
      obtain ⟨hcz15_0, hcz15_1, hfz15_0, hfz15_1⟩ := zce2 BK645.out
      go_wp2_with (first | ((with_reducible refine gate_callee (f := 111) rfl ?_); refine goesL_ (some 7) rfl rfl Try.func111 zq1 rfl #[.agg #[.int .i64 a0_0, .int .i64 a0_1]] rfl zq8 ?_; (with_reducible refine (isobathref01_Valid.calls a0_0 a0_1 false _ A6.out).mono ?_); rintro e w16 ⟨rfl, hb⟩; refine ⟨_, rfl, ?_⟩; replace BK645 := zbb BK645 hb; replace BK646 := zbb BK646 hb; replace HB := zbs HB hb; (try clear hb); (try clear hb2); (try clear hk); (try clear hi)))
      go_meet
      case rel => exact ⟨_, (true), zq2, H', ⟨zq49⟩, ⟨by (with_reducible repeat (first | refine blk_drewN ?_ _ | refine blk_drew ?_ | refine blk_alloc ?_ _)); exact BK645.out⟩, ⟨by (with_reducible repeat (first | refine blk_drewN ?_ _ | refine blk_drew ?_ | refine blk_alloc ?_ _)); exact BK646.out⟩, ⟨zbz⟩⟩
  case rest =>
    clear HC3
    try clear c1
    try clear p2
    try clear c7
    try clear c9
    try clear c11
    try clear c14
    try clear hcz10_0
    try clear hcz10_1
    try clear hcz12_0
    try clear hcz12_1
    try clear hcz15_0
    try clear hcz15_1
    try clear hfz10_0
    try clear hfz10_1
    try clear hfz12_0
    try clear hfz12_1
    try clear hfz15_0
    try clear hfz15_1
    obtain ⟨kq, x13_2, rfl, HA, HJ2, BK645, BK646, HB⟩ := hcut
    cases kq with
    | zero => exact absurd HA.out (by simp [isobathref01_In.j0])
    | succ kj2 =>
      have H := HA.out
      clear HA
      simp only [isobathref01_In.j0] at H
      by_cases c17 : x13_2 = true
      · subst c17
        have H1 : (some (0, 2)) = some (r1, r2) := by rw [if_pos rfl] at H; exact H
        clear H
        have H := H1
        clear H1
        simp only [Option.some.injEq, Prod.mk.injEq] at H
        obtain ⟨rfl, rfl⟩ := H
        go_wp2
        go_ret2
        exact ⟨zq6, zbz⟩
      · replace c17 := Bool.eq_false_iff.mpr c17
        subst c17
        have H1 : (if a0_0 ≥ a1_0 then (isobathref01_In.j1 kj2 (decide (a0_1 ≤ a1_1)) a0_0 a0_1 a1_0 a1_1) else (isobathref01_In.j1 kj2 false a0_0 a0_1 a1_0 a1_1)) = some (r1, r2) := by rw [if_neg (show ¬ (false = true) by decide)] at H; exact H
        clear H
        have H := H1
        clear H1
        have HC18 := Aside0.mk H
        clear H
        go_upto_region 3 with (fail)
        go_cut [25] (fun v25 wc => ∃ (kq : Nat) (x25_17 : Bool), v25 = .bool x25_17 ∧ Aside0 (isobathref01_In.j1 kq x25_17 a0_0 a0_1 a1_0 a1_1 = some (r1, r2)) ∧ Aside0 (kq ≤ kj2) ∧ Aside0 (wc.heap[gb645]? = some (.cells #[.int .i64 a0_0, .int .i64 a0_1] 27 (0, 0))) ∧ Aside0 (wc.heap[gb646]? = some (.cells #[.int .i64 a1_0, .int .i64 a1_1] 27 (0, 0))) ∧ Aside0 (Below w.heap.size w wc))
        case first =>
          have H := HC18.out
          clear HC18
          by_cases c19 : a0_0 ≥ a1_0
          · rw [if_pos c19] at H
            have c19b0 : decide (a1_0 ≤ a0_0) = true := decide_eq_true c19
            clear c19
            (first | rw [c19b0] | (simp only [i64_w, i32_w]; rw [c19b0]) | skip)
            have H' := Aside0.mk H
            clear H
            have hnb20 := NB645_646.out
            have hnc20 := NB646_645.out
            obtain ⟨hcz21_0, hcz21_1, hfz21_0, hfz21_1⟩ := zce2 BK645.out
            obtain ⟨hcz22_0, hcz22_1, hfz22_0, hfz22_1⟩ := zce2 BK646.out
            go_wp2
            go_meet
            case rel => exact ⟨_, (decide (a0_1 ≤ a1_1)), zq2, H', ⟨by have := HJ2.out; first | omega | exact Nat.le_refl _⟩, ⟨by (with_reducible repeat (first | refine blk_drewN ?_ _ | refine blk_drew ?_ | refine blk_alloc ?_ _)); exact BK645.out⟩, ⟨by (with_reducible repeat (first | refine blk_drewN ?_ _ | refine blk_drew ?_ | refine blk_alloc ?_ _)); exact BK646.out⟩, ⟨zbz⟩⟩
          · rw [if_neg c19] at H
            have c19b0 : decide (a1_0 ≤ a0_0) = false := decide_eq_false c19
            clear c19
            (first | rw [c19b0] | (simp only [i64_w, i32_w]; rw [c19b0]) | skip)
            have H' := Aside0.mk H
            clear H
            have hnb23 := NB645_646.out
            have hnc23 := NB646_645.out
            obtain ⟨hcz24_0, hcz24_1, hfz24_0, hfz24_1⟩ := zce2 BK645.out
            obtain ⟨hcz25_0, hcz25_1, hfz25_0, hfz25_1⟩ := zce2 BK646.out
            go_wp2
            go_meet
            case rel => exact ⟨_, (false), zq2, H', ⟨by have := HJ2.out; first | omega | exact Nat.le_refl _⟩, ⟨by (with_reducible repeat (first | refine blk_drewN ?_ _ | refine blk_drew ?_ | refine blk_alloc ?_ _)); exact BK645.out⟩, ⟨by (with_reducible repeat (first | refine blk_drewN ?_ _ | refine blk_drew ?_ | refine blk_alloc ?_ _)); exact BK646.out⟩, ⟨zbz⟩⟩
        case rest =>
          clear HC18
          try clear c1
          try clear c2
          try clear p2
          try clear c7
          try clear c9
          try clear c11
          try clear c14
          try clear c17
          try clear c19
          try clear c19b0
          try clear c20
          try clear c23
          try clear hcz10_0
          try clear hcz10_1
          try clear hcz12_0
          try clear hcz12_1
          try clear hcz15_0
          try clear hcz15_1
          try clear hcz21_0
          try clear hcz21_1
          try clear hcz22_0
          try clear hcz22_1
          try clear hcz24_0
          try clear hcz24_1
          try clear hcz25_0
          try clear hcz25_1
          try clear hfz10_0
          try clear hfz10_1
          try clear hfz12_0
          try clear hfz12_1
          try clear hfz15_0
          try clear hfz15_1
          try clear hfz21_0
          try clear hfz21_1
          try clear hfz22_0
          try clear hfz22_1
          try clear hfz24_0
          try clear hfz24_1
          try clear hfz25_0
          try clear hfz25_1
          try clear p2
          obtain ⟨kq, x25_17, rfl, HA, HJ17, BK645, BK646, HB⟩ := hcut
          cases kq with
          | zero => exact absurd HA.out (by simp [isobathref01_In.j1])
          | succ kj17 =>
            have H := HA.out
            clear HA
            simp only [isobathref01_In.j1] at H
            by_cases c26 : x25_17 = true
            · subst c26
              have H1 : (some (2, 0)) = some (r1, r2) := by rw [if_pos rfl] at H; exact H
              clear H
              have H := H1
              clear H1
              simp only [Option.some.injEq, Prod.mk.injEq] at H
              obtain ⟨rfl, rfl⟩ := H
              go_wp2
              go_ret2
              exact ⟨zq6, zbz⟩
            · replace c26 := Bool.eq_false_iff.mpr c26
              subst c26
              have H1 : (if a0_1 < a1_0 then (some (0, 0)) else (if a0_0 > a1_1 then (some (0, 0)) else (some (1, 0)))) = some (r1, r2) := by rw [if_neg (show ¬ (false = true) by decide)] at H; exact H
              clear H
              have H := H1
              clear H1
              by_cases c27 : a0_1 < a1_0
              · rw [if_pos c27] at H
                have c27b0 : decide (a0_1 < a1_0) = true := decide_eq_true c27
                clear c27
                simp only [Option.some.injEq, Prod.mk.injEq] at H
                obtain ⟨rfl, rfl⟩ := H
                have hnb28 := NB645_646.out
                have hnc28 := NB646_645.out
                obtain ⟨hcz29_0, hcz29_1, hfz29_0, hfz29_1⟩ := zce2 BK645.out
                obtain ⟨hcz30_0, hcz30_1, hfz30_0, hfz30_1⟩ := zce2 BK646.out
                go_wp2
                go_ret2
                exact ⟨zq6, zbz⟩
              · rw [if_neg c27] at H
                have c27b0 : decide (a0_1 < a1_0) = false := decide_eq_false c27
                clear c27
                by_cases c31 : a0_0 > a1_1
                · rw [if_pos c31] at H
                  have c31b0 : decide (a1_1 < a0_0) = true := decide_eq_true c31
                  clear c31
                  simp only [Option.some.injEq, Prod.mk.injEq] at H
                  obtain ⟨rfl, rfl⟩ := H
                  have hnb32 := NB645_646.out
                  have hnc32 := NB646_645.out
                  obtain ⟨hcz33_0, hcz33_1, hfz33_0, hfz33_1⟩ := zce2 BK645.out
                  obtain ⟨hcz34_0, hcz34_1, hfz34_0, hfz34_1⟩ := zce2 BK646.out
                  go_wp2
                  go_ret2
                  exact ⟨zq6, zbz⟩
                · rw [if_neg c31] at H
                  have c31b0 : decide (a1_1 < a0_0) = false := decide_eq_false c31
                  clear c31
                  simp only [Option.some.injEq, Prod.mk.injEq] at H
                  obtain ⟨rfl, rfl⟩ := H
                  have hnb35 := NB645_646.out
                  have hnc35 := NB646_645.out
                  obtain ⟨hcz36_0, hcz36_1, hfz36_0, hfz36_1⟩ := zce2 BK645.out
                  obtain ⟨hcz37_0, hcz37_1, hfz37_0, hfz37_1⟩ := zce2 BK646.out
                  go_wp2
                  go_ret2
                  exact ⟨zq6, zbz⟩

end Go.Proofs.Ytmhaiihjfgfaoaa.Pr
end
section
namespace Go.Proofs.Ytmhaiihjfgfaoaa.Pr
open Go.RowKit Go.Proofs.YtmhaiihjfgfaoaaW.PrintWords Go.Proofs.YtmhaiihjfgfaoaaW.PrintLast Go.Proofs.YtmhaiihjfgfaoaaW.PrintMore
attribute [local go_sem] max2_int min2_int max_two min_two max_four
set_option linter.unusedVariables false
set_option linter.unusedSimpArgs false

/-! ### isobathref03_Inside: function 43 -/
def isobathref03_Inside.f (k : Nat) (a0_0 : Int) (a0_1 : Int) (a0_2 : Int) (a0_3 : Int) (a1_0 : Int) (a1_1 : Int) (a1_2 : Int) (a1_3 : Int) : Option (Int) := (isobathref01_In.f k a0_0 a0_1 a1_0 a1_1).bind fun bt651 => ((isobathref01_In.f k a0_2 a0_3 a1_2 a1_3).bind fun bt653 => (some (mn bt651.1 bt653.1)))
set_option maxHeartbeats 8000000 in
set_option maxRecDepth 100000 in
theorem isobathref03_Inside.calls (k : Nat) (a0_0 : Int) (a0_1 : Int) (a0_2 : Int) (a0_3 : Int) (a1_0 : Int) (a1_1 : Int) (a1_2 : Int) (a1_3 : Int) (r : Int) (w : World) (h : isobathref03_Inside.f k a0_0 a0_1 a0_2 a0_3 a1_0 a1_1 a1_2 a1_3 = some r) :
    Calls Try.prog 43 #[.agg #[.int .i64 a0_0, .int .i64 a0_1, .int .i64 a0_2, .int .i64 a0_3], .agg #[.int .i64 a1_0, .int .i64 a1_1, .int .i64 a1_2, .int .i64 a1_3]] w fun e w' => e = .returned (.int .i64 r) ∧ Below w.heap.size w w' := by
  have hu31 := Try.underlying31
  have hu27 := Try.underlying27
  have HB := Aside0.mk (Below.refl w.heap.size w)
  have H : ((isobathref01_In.f k a0_0 a0_1 a1_0 a1_1).bind fun bt651 => ((isobathref01_In.f k a0_2 a0_3 a1_2 a1_3).bind fun bt653 => (some (mn bt651.1 bt653.1)))) = some r := h
  clear h
  replace H := Option.bind_eq_some_iff.mp H
  obtain ⟨⟨t651, t652⟩, A30, H⟩ := H
  replace H : ((isobathref01_In.f k a0_2 a0_3 a1_2 a1_3).bind fun bt653 => (some (mn t651 bt653.1))) = some r := H
  have A3 := Aside0.mk A30
  clear A30
  replace H := Option.bind_eq_some_iff.mp H
  obtain ⟨⟨t653, t654⟩, A40, H⟩ := H
  replace H : (some (mn t651 t653)) = some r := H
  have A4 := Aside0.mk A40
  clear A40
  obtain ⟨ji5, hji5⟩ : ∃ j_ : Int, (mn t651 t653) = j_ := ⟨_, rfl⟩
  replace H : (some ji5) = some r := by first | (rw [hji5] at H; exact H) | (simp only [hji5] at H ⊢; exact H)
  (try rw [hji5] at A3)
  (try rw [hji5] at A4)
  have hji5_ : (if t653 < t651 then t653 else t651) = ji5 := hji5
  obtain rfl := Option.some.inj H
  go_enter Try.func43, Try.ntmps43
  go_wp2_with (first | ((with_reducible refine gate_dst (N := 2) rfl ?_); refine box_event (by rfl) (N := 2) (by rfl) (cs := #[.int .i64 a0_0, .int .i64 a0_1, .int .i64 a0_2, .int .i64 a0_3]) (t := 31) zq5 ?_; intro gb649 hg w6 hbox hb; have BK649 := Aside0.mk (hbox); have GW649 := zgs HB hg; have GE649 := zgs HB hg; replace HB := zbs HB hb; clear hb hbox hg) | ((with_reducible refine gate_dst (N := 3) rfl ?_); refine box_event (by rfl) (N := 3) (by rfl) (cs := #[.int .i64 a1_0, .int .i64 a1_1, .int .i64 a1_2, .int .i64 a1_3]) (t := 31) zq5 ?_; intro gb650 hg w7 hbox hb; have BK650 := Aside0.mk (hbox); have GW650 := zgs HB hg; have GE650 := zgs HB hg; have NB649_650 := znp BK649 hg; have NB650_649 := znq BK649 hg; replace BK649 := zbb BK649 hb; replace HB := zbs HB hb; clear hb hbox hg; have hnb8 := NB649_650.out; have hnc8 := NB650_649.out; obtain ⟨hcz9_0, hcz9_1, hcz9_2, hcz9_3, hfz9_0, hfz9_1, hfz9_2, hfz9_3⟩ := zce4 BK649.out; obtain ⟨hcz10_0, hcz10_1, hcz10_2, hcz10_3, hfz10_0, hfz10_1, hfz10_2, hfz10_3⟩ := zce4 BK650.out) | ((with_reducible refine gate_callee (f := 91) rfl ?_); refine goesL_ (some 14) rfl rfl Try.func91 zq1 rfl #[.agg #[.int .i64 a0_0, .int .i64 a0_1], .agg #[.int .i64 a1_0, .int .i64 a1_1]] rfl zq8 ?_; (with_reducible refine (isobathref01_In.calls k a0_0 a0_1 a1_0 a1_1 t651 t652 _ A3.out).mono ?_); rintro e w11 ⟨rfl, hb⟩; refine ⟨_, rfl, ?_⟩; replace BK649 := zbb BK649 hb; replace BK650 := zbb BK650 hb; replace HB := zbs HB hb; (try clear hb); (try clear hb2); (try clear hk); (try clear hi); obtain ⟨hcz12_0, hcz12_1, hcz12_2, hcz12_3, hfz12_0, hfz12_1, hfz12_2, hfz12_3⟩ := zce4 BK649.out; obtain ⟨hcz13_0, hcz13_1, hcz13_2, hcz13_3, hfz13_0, hfz13_1, hfz13_2, hfz13_3⟩ := zce4 BK650.out) | ((with_reducible refine gate_callee (f := 91) rfl ?_); refine goesL_ (some 22) rfl rfl Try.func91 zq1 rfl #[.agg #[.int .i64 a0_2, .int .i64 a0_3], .agg #[.int .i64 a1_2, .int .i64 a1_3]] rfl zq8 ?_; (with_reducible refine (isobathref01_In.calls k a0_2 a0_3 a1_2 a1_3 t653 t654 _ A4.out).mono ?_); rintro e w14 ⟨rfl, hb⟩; refine ⟨_, rfl, ?_⟩; replace BK649 := zbb BK649 hb; replace BK650 := zbb BK650 hb; replace HB := zbs HB hb; (try clear hb); (try clear hb2); (try clear hk); (try clear hi)))
  go_ret
  exact ⟨by first | rfl | (simp [errW_none, errW_some] <;> rfl) | (simp only [← hji5]; first | rfl | (simp [errW_none, errW_some] <;> rfl)) | (simp [*, errW_none, errW_some] <;> rfl), zbz⟩

end Go.Proofs.Ytmhaiihjfgfaoaa.Pr
end
section
namespace Go.Proofs.Ytmhaiihjfgfaoaa.Pr
open Go.RowKit Go.Proofs.YtmhaiihjfgfaoaaW.PrintWords Go.Proofs.YtmhaiihjfgfaoaaW.PrintLast Go.Proofs.YtmhaiihjfgfaoaaW.PrintMore
attribute [local go_sem] max2_int min2_int max_two min_two max_four
set_option linter.unusedVariables false
set_option linter.unusedSimpArgs false

/-! ### isobathref03_fetched: function 96 -/
def isobathref03_fetched.l0 : Nat → Int → List (S31) → Int → Int → Int → Int → Int → Int → Int → Int → Int → Int → Int → Int → Int → Int → Int → Option (Int)
  | 0, _, _, _, _, _, _, _, _, _, _, _, _, _, _, _, _, _ => none
  | k + 1, x1, x2, x9, x10, x752000, x752001, x752002, x752003, x752004, x752005, x752006, x753000, x753001, x753002, x753003, x753004, x753005 => if x10 < (x2.length : Int) then (if (wrap64 (x1 + (wrap64 ((wrap64 (x10 + 1)) * x752001)))) ≥ x753004 then (if (wrap64 (x1 + (wrap64 ((wrap64 (x10 + 1)) * x752001)))) ≤ x753005 then (if 0 ≤ x10 then ((isobathref03_Inside.f k ((rd_T31 x2 x10).f0.f0) ((rd_T31 x2 x10).f0.f1) ((rd_T31 x2 x10).f1.f0) ((rd_T31 x2 x10).f1.f1) x753000 x753001 x753002 x753003).bind fun t754 => (isobathref03_fetched.l0 k x1 x2 (mx x9 t754) (wrap64 (x10 + 1)) x752000 x752001 x752002 x752003 x752004 x752005 x752006 x753000 x753001 x753002 x753003 x753004 x753005)) else (none)) else (isobathref03_fetched.l0 k x1 x2 x9 (wrap64 (x10 + 1)) x752000 x752001 x752002 x752003 x752004 x752005 x752006 x753000 x753001 x753002 x753003 x753004 x753005)) else (isobathref03_fetched.l0 k x1 x2 x9 (wrap64 (x10 + 1)) x752000 x752001 x752002 x752003 x752004 x752005 x752006 x753000 x753001 x753002 x753003 x753004 x753005)) else (some x9)
def isobathref03_fetched.f (k : Nat) (a0_0 : Int) (a0_1 : Int) (a0_2 : Int) (a0_3 : Int) (a0_4 : Int) (a0_5 : Int) (a0_6 : Int) (a1 : Int) (l2 : List (S31)) (a3_0 : Int) (a3_1 : Int) (a3_2 : Int) (a3_3 : Int) (a3_4 : Int) (a3_5 : Int) : Option (Int) := isobathref03_fetched.l0 k a1 l2 0 0 a0_0 a0_1 a0_2 a0_3 a0_4 a0_5 a0_6 a3_0 a3_1 a3_2 a3_3 a3_4 a3_5
def isobathref03_fetched.T7 : Bool × List (List Nat × List Nat) := (true, [([], []), ([], []), ([], []), ([1, 2], [1, 2]), ([3], [3]), ([], []), ([5], [5]), ([4, 6], [4, 6]), ([0, 7], [0, 7]), ([8, 7, 0, 1, 2, 3, 4, 5, 6, 7, 8], [0, 8])])
def isobathref03_fetched.B7 : List Nat := [0, 0, 0, 6, 14, 0, 32, 126, 255, 511]
theorem isobathref03_fetched.tab7 : rtab .any (opsOf Try.f96 7) = isobathref03_fetched.T7 := by kernel_rfl
theorem isobathref03_fetched.bits7 : waitsOk isobathref03_fetched.T7.2 isobathref03_fetched.B7 = true := by kernel_rfl
set_option maxHeartbeats 8000000 in
set_option maxRecDepth 100000 in
theorem isobathref03_fetched.calls (k : Nat) (a0_0 : Int) (a0_1 : Int) (a0_2 : Int) (a0_3 : Int) (a0_4 : Int) (a0_5 : Int) (a0_6 : Int) (a1 : Int) (A2 : Option Addr) (c2 : Nat) (l2 : List (S31)) (a3_0 : Int) (a3_1 : Int) (a3_2 : Int) (a3_3 : Int) (a3_4 : Int) (a3_5 : Int) (r : Int) (w : World) (hr2 : Kd.C k31 w A2 l2.length l2) (hc2 : l2.length ≤ c2) (h : isobathref03_fetched.f k a0_0 a0_1 a0_2 a0_3 a0_4 a0_5 a0_6 a1 l2 a3_0 a3_1 a3_2 a3_3 a3_4 a3_5 = some r) :
    Calls Try.prog 96 #[.agg #[.int .i64 a0_0, .int .i64 a0_1, .int .i64 a0_2, .int .i64 a0_3, .int .i64 a0_4, .int .i64 a0_5, .int .i64 a0_6], .int .i64 a1, .slice A2 l2.length c2, .agg #[.int .i64 a3_0, .int .i64 a3_1, .int .i64 a3_2, .int .i64 a3_3, .int .i64 a3_4, .int .i64 a3_5]] w fun e w' => e = .returned (.int .i64 r) ∧ Below w.heap.size w w' := by
  have hu29 := Try.underlying29
  have hu81 := Try.underlying81
  have hu31 := Try.underlying31
  have HR2 := Aside0.mk hr2
  have HC2 := Aside0.mk hc2
  clear hr2 hc2
  have HB := Aside0.mk (Below.refl w.heap.size w)
  have H : (isobathref03_fetched.l0 k a1 l2 0 0 a0_0 a0_1 a0_2 a0_3 a0_4 a0_5 a0_6 a3_0 a3_1 a3_2 a3_3 a3_4 a3_5) = some r := h
  clear h
  have H' := Aside0.mk H
  clear H
  go_enter Try.func96, Try.ntmps96
  go_wp2_with (first | ((with_reducible refine gate_dst (N := 4) rfl ?_); refine box_event (by rfl) (N := 4) (by rfl) (cs := #[.int .i64 a0_0, .int .i64 a0_1, .int .i64 a0_2, .int .i64 a0_3, .int .i64 a0_4, .int .i64 a0_5, .int .i64 a0_6]) (t := 29) zq5 ?_; intro gb751 hg w5 hbox hb; have BK751 := Aside0.mk (hbox); have GW751 := zgs HB hg; have GE751 := zgs HB hg; replace HB := zbs HB hb; clear hb hbox hg) | ((with_reducible refine gate_dst (N := 7) rfl ?_); refine box_event (by rfl) (N := 7) (by rfl) (cs := #[.int .i64 a3_0, .int .i64 a3_1, .int .i64 a3_2, .int .i64 a3_3, .int .i64 a3_4, .int .i64 a3_5]) (t := 81) zq5 ?_; intro gb752 hg w6 hbox hb; have BK752 := Aside0.mk (hbox); have GW752 := zgs HB hg; have GE752 := zgs HB hg; have NB751_752 := znp BK751 hg; have NB752_751 := znq BK751 hg; replace BK751 := zbb BK751 hb; replace HB := zbs HB hb; clear hb hbox hg))
  go_loopg [9, 10] k (fun kq v9 v10 w' => ∃ (x9_1 : Int) (x10_1 : Int), v9 = .int .i64 x9_1 ∧ v10 = .int .i64 x10_1 ∧ Aside0 (isobathref03_fetched.l0 kq a1 l2 x9_1 x10_1 a0_0 a0_1 a0_2 a0_3 a0_4 a0_5 a0_6 a3_0 a3_1 a3_2 a3_3 a3_4 a3_5 = some r) ∧ Aside0 (kq ≤ k) ∧ Aside0 (w'.heap[gb751]? = some (.cells #[.int .i64 a0_0, .int .i64 a0_1, .int .i64 a0_2, .int .i64 a0_3, .int .i64 a0_4, .int .i64 a0_5, .int .i64 a0_6] 29 (0, 0))) ∧ Aside0 (w'.heap[gb752]? = some (.cells #[.int .i64 a3_0, .int .i64 a3_1, .int .i64 a3_2, .int .i64 a3_3, .int .i64 a3_4, .int .i64 a3_5] 81 (0, 0))) ∧ Aside0 (Below w.heap.size w w'))
  case atStart => exact ⟨(0), (0), zq2, zq2, H', ⟨Nat.le_refl _⟩, ⟨by (with_reducible repeat (first | refine blk_drewN ?_ _ | refine blk_drew ?_ | refine blk_alloc ?_ _)); exact BK751.out⟩, ⟨by (with_reducible repeat (first | refine blk_drewN ?_ _ | refine blk_drew ?_ | refine blk_alloc ?_ _)); exact BK752.out⟩, ⟨zbz⟩⟩
  case round =>
    clear H'
    try clear c2
    try clear p2
    obtain ⟨x9_1, x10_1, rfl, rfl, HA, HK1, BK751, BK752, HB⟩ := hrel
    cases gk with
    | zero => exact absurd HA.out (by simp [isobathref03_fetched.l0])
    | succ k1 =>
      have H := HA.out
      clear HA
      simp only [isobathref03_fetched.l0] at H
      by_cases c7 : x10_1 < (l2.length : Int)
      · rw [if_pos c7] at H
        have c7b0 : decide (x10_1 < (l2.length : Int)) = true := decide_eq_true c7
        clear c7
        by_cases c8 : (wrap64 (a1 + (wrap64 ((wrap64 (x10_1 + 1)) * a0_1)))) ≥ a3_4
        · rw [if_pos c8] at H
          have c8b0 : decide (a3_4 ≤ (wrap64 (a1 + (wrap64 ((wrap64 (x10_1 + 1)) * a0_1))))) = true := decide_eq_true c8
          clear c8
          by_cases c9 : (wrap64 (a1 + (wrap64 ((wrap64 (x10_1 + 1)) * a0_1)))) ≤ a3_5
          · rw [if_pos c9] at H
            have c9b0 : decide ((wrap64 (a1 + (wrap64 ((wrap64 (x10_1 + 1)) * a0_1)))) ≤ a3_5) = true := decide_eq_true c9
            clear c9
            by_cases c10 : 0 ≤ x10_1
            · rw [if_pos c10] at H
              have c10b0 : decide (0 ≤ x10_1) = true := decide_eq_true c10
              clear c10
              replace H := Option.bind_eq_some_iff.mp H
              obtain ⟨t754, A110, H⟩ := H
              replace H : (isobathref03_fetched.l0 k1 a1 l2 (mx x9_1 t754) (wrap64 (x10_1 + 1)) a0_0 a0_1 a0_2 a0_3 a0_4 a0_5 a0_6 a3_0 a3_1 a3_2 a3_3 a3_4 a3_5) = some r := H
              have A11 := Aside0.mk A110
              clear A110
              obtain ⟨ji12, hji12⟩ : ∃ j_ : Int, (mx x9_1 t754) = j_ := ⟨_, rfl⟩
              replace H : (isobathref03_fetched.l0 k1 a1 l2 ji12 (wrap64 (x10_1 + 1)) a0_0 a0_1 a0_2 a0_3 a0_4 a0_5 a0_6 a3_0 a3_1 a3_2 a3_3 a3_4 a3_5) = some r := by first | (rw [hji12] at H; exact H) | (simp only [hji12] at H ⊢; exact H)
              (try rw [hji12] at A11)
              have hji12_ : (if x9_1 < t754 then t754 else x9_1) = ji12 := hji12
              have H' := Aside0.mk H
              clear H
              have hnb13 := NB751_752.out
              have hnc13 := NB752_751.out
              obtain ⟨hcz14_0, hcz14_1, hcz14_2, hcz14_3, hcz14_4, hcz14_5, hcz14_6, hfz14_0, hfz14_1, hfz14_2, hfz14_3, hfz14_4, hfz14_5, hfz14_6⟩ := zce7 BK751.out
              obtain ⟨hcz15_0, hcz15_1, hcz15_2, hcz15_3, hcz15_4, hcz15_5, hfz15_0, hfz15_1, hfz15_2, hfz15_3, hfz15_4, hfz15_5⟩ := zce6 BK752.out
              try go_wp2
              replace BK751 := Aside0.mk (blk_drew BK751.out)
              replace BK752 := Aside0.mk (blk_drew BK752.out)
              replace HB := Aside0.mk (below_drew1 HB.out)
              have p753 : 0 ≤ (x10_1 : Int) := of_decide_eq_true zq4
              have q753 : x10_1 < (l2.length : Int) := of_decide_eq_true zq4
              obtain ⟨ad753, e753, hx753_0, hx753_1, hx753_2, hx753_3⟩ := at_T31 HR2.out x10_1 p753 q753
              have hw753_3 := hx753_3
              have hw753_2 := hx753_2
              have hw753_1 := hx753_1
              have hw753_0 := hx753_0
              cases e753
              replace hx753_0 := (HB.out.cell (World.block_lt_of_cell? w _ hx753_0)).trans hx753_0
              replace hx753_1 := (HB.out.cell (World.block_lt_of_cell? w _ hx753_1)).trans hx753_1
              replace hx753_2 := (HB.out.cell (World.block_lt_of_cell? w _ hx753_2)).trans hx753_2
              replace hx753_3 := (HB.out.cell (World.block_lt_of_cell? w _ hx753_3)).trans hx753_3
              replace p753 := eq_true p753
              replace q753 := eq_true q753
              refine start_ (n := 10) (S := fun w' => w'.cell? ⟨gb752, 0, none⟩ = some (.int .i64 a3_0) ∧ w'.cell? ⟨gb752, 1, none⟩ = some (.int .i64 a3_1) ∧ w'.cell? ⟨gb752, 2, none⟩ = some (.int .i64 a3_2) ∧ w'.cell? ⟨gb752, 3, none⟩ = some (.int .i64 a3_3) ∧ w'.cell? ⟨gb752, 4, none⟩ = some (.int .i64 a3_4) ∧ w'.cell? ⟨gb752, 5, none⟩ = some (.int .i64 a3_5) ∧ w'.cell? (ad753.add ((x10_1).toNat * 4)) = some (.int .i64 ((rd_T31 l2 x10_1).f0.f0)) ∧ w'.cell? ⟨(ad753.add ((x10_1).toNat * 4)).block, (ad753.add ((x10_1).toNat * 4)).off + 1, none⟩ = some (.int .i64 ((rd_T31 l2 x10_1).f0.f1)) ∧ w'.cell? ⟨(ad753.add ((x10_1).toNat * 4)).block, (ad753.add ((x10_1).toNat * 4)).off + 2, none⟩ = some (.int .i64 ((rd_T31 l2 x10_1).f1.f0)) ∧ w'.cell? ⟨(ad753.add ((x10_1).toNat * 4)).block, (ad753.add ((x10_1).toNat * 4)).off + 3, none⟩ = some (.int .i64 ((rd_T31 l2 x10_1).f1.f1))) (ds := []) #[false, false, false, false, false, false, false, false, false, false] zq1 rfl rfl ⟨(blk_cell BK752.out 0).trans rfl, (blk_cell BK752.out 1).trans rfl, (blk_cell BK752.out 2).trans rfl, (blk_cell BK752.out 3).trans rfl, (blk_cell BK752.out 4).trans rfl, (blk_cell BK752.out 5).trans rfl, ((HB.out.cell (World.block_lt_of_cell? w _ hw753_0)).trans hw753_0), ((HB.out.cell (World.block_lt_of_cell? w _ hw753_1)).trans hw753_1), ((HB.out.cell (World.block_lt_of_cell? w _ hw753_2)).trans hw753_2), ((HB.out.cell (World.block_lt_of_cell? w _ hw753_3)).trans hw753_3)⟩ (fun hHeld => ?_); refine with_tabW isobathref03_fetched.tab7 isobathref03_fetched.bits7 (fun HT_ HW_ => ?_)
              generalize wr.drew = w16 at BK751 BK752 HB hx753_0 hx753_1 hx753_2 hx753_3 hHeld ⊢
              refine zpz (i := 0) (N := some 35) (any_of HT_.out zq1) ?_
              refine zpz (i := 1) (N := some 36) (any_of HT_.out zq1) ?_
              refine zpz (i := 2) (N := some 37) (any_of HT_.out zq1) ?_
              refine zpz (i := 3) (N := some 38) (any_of HT_.out zq1) ?_
              refine zpz (i := 5) (N := some 40) (any_of HT_.out zq1) ?_
              refine ztz (i := 4) (N := some 39) (take_ofW HT_.out HW_.out zq1) hHeld ?_
              refine ztz (i := 6) (N := some 41) (take_ofW HT_.out HW_.out zq1) hHeld ?_
              refine one_ (i := 7) (N := some 42) #[true, true, true, true, true, true, true, true, false, false] rfl rfl (one_of HT_.out zq1) (by decide) (fun K hK => ?_)
              refine goes_ Try.func43 zq1 rfl #[.agg #[.int .i64 ((rd_T31 l2 x10_1).f0.f0), .int .i64 ((rd_T31 l2 x10_1).f0.f1), .int .i64 ((rd_T31 l2 x10_1).f1.f0), .int .i64 ((rd_T31 l2 x10_1).f1.f1)], .agg #[.int .i64 a3_0, .int .i64 a3_1, .int .i64 a3_2, .int .i64 a3_3]] (by rfl) rfl rfl zq8 ?_
              with_reducible refine (isobathref03_Inside.calls k1 ((rd_T31 l2 x10_1).f0.f0) ((rd_T31 l2 x10_1).f0.f1) ((rd_T31 l2 x10_1).f1.f0) ((rd_T31 l2 x10_1).f1.f1) a3_0 a3_1 a3_2 a3_3 t754 _ A11.out).mono ?_
              rintro e w17 ⟨rfl, hb⟩
              refine ⟨_, rfl, ?_⟩
              replace BK751 := zbb BK751 hb
              replace BK752 := zbb BK752 hb
              replace HB := zbs HB hb
              (try clear hb)
              (try clear hb2)
              (try clear hk)
              (try clear hi)
              refine hK.out _ _ ⟨(blk_cell BK752.out 0).trans rfl, (blk_cell BK752.out 1).trans rfl, (blk_cell BK752.out 2).trans rfl, (blk_cell BK752.out 3).trans rfl, (blk_cell BK752.out 4).trans rfl, (blk_cell BK752.out 5).trans rfl, ((HB.out.cell (World.block_lt_of_cell? w _ hw753_0)).trans hw753_0), ((HB.out.cell (World.block_lt_of_cell? w _ hw753_1)).trans hw753_1), ((HB.out.cell (World.block_lt_of_cell? w _ hw753_2)).trans hw753_2), ((HB.out.cell (World.block_lt_of_cell? w _ hw753_3)).trans hw753_3)⟩ (fun hHeld => ?_)
              clear hK K
              refine norm_ (by show Act.put _ (some 42) _ = _; simp only [Act.put, List.setIfInBounds_toArray, List.set_cons_zero, List.set_cons_succ, i64_w, i32_w]; rfl) ?_
              refine zpz (i := 8) (N := some 43) (any_of HT_.out zq1) ?_
              refine zpz (i := 9) (N := some 9) (any_of HT_.out zq1) ?_
              refine done_ (done_of HT_.out zq1) ?_
              try go_wp2
              go_roundg k1
              case measure => have := HK1.out; omega
              case rel => exact ⟨(ji12), (wrap64 (x10_1 + 1)), (by first | rfl | (simp; done) | (simp only [← hji12] <;> (first | rfl | simp)) | (simp [*]; done)), zq2, H', ⟨zq7⟩, ⟨by (with_reducible repeat (first | refine blk_drewN ?_ _ | refine blk_drew ?_ | refine blk_alloc ?_ _)); exact BK751.out⟩, ⟨by (with_reducible repeat (first | refine blk_drewN ?_ _ | refine blk_drew ?_ | refine blk_alloc ?_ _)); exact BK752.out⟩, ⟨zbz⟩⟩
            · rw [if_neg c10] at H
              exact absurd H (by simp)
          · rw [if_neg c9] at H
            have c9b0 : decide ((wrap64 (a1 + (wrap64 ((wrap64 (x10_1 + 1)) * a0_1)))) ≤ a3_5) = false := decide_eq_false c9
            clear c9
            have H' := Aside0.mk H
            clear H
            have hnb18 := NB751_752.out
            have hnc18 := NB752_751.out
            obtain ⟨hcz19_0, hcz19_1, hcz19_2, hcz19_3, hcz19_4, hcz19_5, hcz19_6, hfz19_0, hfz19_1, hfz19_2, hfz19_3, hfz19_4, hfz19_5, hfz19_6⟩ := zce7 BK751.out
            obtain ⟨hcz20_0, hcz20_1, hcz20_2, hcz20_3, hcz20_4, hcz20_5, hfz20_0, hfz20_1, hfz20_2, hfz20_3, hfz20_4, hfz20_5⟩ := zce6 BK752.out
            go_wp2
            go_roundg k1
            case measure => have := HK1.out; omega
            case rel => exact ⟨(x9_1), (wrap64 (x10_1 + 1)), zq2, zq2, H', ⟨zq7⟩, ⟨by (with_reducible repeat (first | refine blk_drewN ?_ _ | refine blk_drew ?_ | refine blk_alloc ?_ _)); exact BK751.out⟩, ⟨by (with_reducible repeat (first | refine blk_drewN ?_ _ | refine blk_drew ?_ | refine blk_alloc ?_ _)); exact BK752.out⟩, ⟨zbz⟩⟩
        · rw [if_neg c8] at H
          have c8b0 : decide (a3_4 ≤ (wrap64 (a1 + (wrap64 ((wrap64 (x10_1 + 1)) * a0_1))))) = false := decide_eq_false c8
          clear c8
          have H' := Aside0.mk H
          clear H
          have hnb21 := NB751_752.out
          have hnc21 := NB752_751.out
          obtain ⟨hcz22_0, hcz22_1, hcz22_2, hcz22_3, hcz22_4, hcz22_5, hcz22_6, hfz22_0, hfz22_1, hfz22_2, hfz22_3, hfz22_4, hfz22_5, hfz22_6⟩ := zce7 BK751.out
          obtain ⟨hcz23_0, hcz23_1, hcz23_2, hcz23_3, hcz23_4, hcz23_5, hfz23_0, hfz23_1, hfz23_2, hfz23_3, hfz23_4, hfz23_5⟩ := zce6 BK752.out
          go_wp2
          go_roundg k1
          case measure => have := HK1.out; omega
          case rel => exact ⟨(x9_1), (wrap64 (x10_1 + 1)), zq2, zq2, H', ⟨zq7⟩, ⟨by (with_reducible repeat (first | refine blk_drewN ?_ _ | refine blk_drew ?_ | refine blk_alloc ?_ _)); exact BK751.out⟩, ⟨by (with_reducible repeat (first | refine blk_drewN ?_ _ | refine blk_drew ?_ | refine blk_alloc ?_ _)); exact BK752.out⟩, ⟨zbz⟩⟩
      · rw [if_neg c7] at H
        have c7b0 : decide (x10_1 < (l2.length : Int)) = false := decide_eq_false c7
        clear c7
        obtain rfl := Option.some.inj H
        go_wp2
        go_ret
        exact ⟨zq6, zbz⟩

end Go.Proofs.Ytmhaiihjfgfaoaa.Pr
end
section
namespace Go.Proofs.Ytmhaiihjfgfaoaa.Pr
open Go.RowKit Go.Proofs.YtmhaiihjfgfaoaaW.PrintWords Go.Proofs.YtmhaiihjfgfaoaaW.PrintLast Go.Proofs.YtmhaiihjfgfaoaaW.PrintMore
attribute [local go_sem] max2_int min2_int max_two min_two max_four
set_option linter.unusedVariables false
set_option linter.unusedSimpArgs false

/-! ### isobathref03_Fetched: function 47 -/
def isobathref03_Fetched.j0 : Nat → Int → List (S31) → Bool → Int → Int → Int → Int → Int → Int → Int → Int → Int → Int → Int → Int → Int → Option (Int × Int)
  | 0, _, _, _, _, _, _, _, _, _, _, _, _, _, _, _, _ => none
  | k + 1, x1, x2, x20, x756000, x756001, x756002, x756003, x756004, x756005, x756006, x757000, x757001, x757002, x757003, x757004, x757005 => if x20 = true then (some (0, 3)) else ((isobathref03_boxes.f k x2).bind fun t759 => (if t759 = 0 then ((isobathref03_pickup.f x757000 x757001 x757002 x757003 x757004 x757005).bind fun t761 => (if t761 = true then ((isobathref03_fetched.f k x756000 x756001 x756002 x756003 x756004 x756005 x756006 x1 x2 x757000 x757001 x757002 x757003 x757004 x757005).bind fun t762 => (some (t762, 0))) else (some (0, 2)))) else ((isobathref03_boxes.f k x2).bind fun t760 => (some (0, t760)))))
def isobathref03_Fetched.f (k : Nat) (a0_0 : Int) (a0_1 : Int) (a0_2 : Int) (a0_3 : Int) (a0_4 : Int) (a0_5 : Int) (a0_6 : Int) (a1 : Int) (l2 : List (S31)) (a3_0 : Int) (a3_1 : Int) (a3_2 : Int) (a3_3 : Int) (a3_4 : Int) (a3_5 : Int) : Option (Int × Int) := (isobathref03_CheckVehicle.f a0_0 a0_1 a0_2 a0_3 a0_4 a0_5 a0_6).bind fun t757 => (if t757 = 0 then (if a1 < 0 then (isobathref03_Fetched.j0 k a1 l2 true a0_0 a0_1 a0_2 a0_3 a0_4 a0_5 a0_6 a3_0 a3_1 a3_2 a3_3 a3_4 a3_5) else (isobathref03_Fetched.j0 k a1 l2 (decide (a1 > 1073741824)) a0_0 a0_1 a0_2 a0_3 a0_4 a0_5 a0_6 a3_0 a3_1 a3_2 a3_3 a3_4 a3_5)) else ((isobathref03_CheckVehicle.f a0_0 a0_1 a0_2 a0_3 a0_4 a0_5 a0_6).bind fun t758 => (some (0, t758))))
set_option maxHeartbeats 8000000 in
set_option maxRecDepth 100000 in
theorem isobathref03_Fetched.calls (k : Nat) (a0_0 : Int) (a0_1 : Int) (a0_2 : Int) (a0_3 : Int) (a0_4 : Int) (a0_5 : Int) (a0_6 : Int) (a1 : Int) (A2 : Option Addr) (c2 : Nat) (l2 : List (S31)) (a3_0 : Int) (a3_1 : Int) (a3_2 : Int) (a3_3 : Int) (a3_4 : Int) (a3_5 : Int) (r1 : Int) (r2 : Int) (w : World) (hr2 : Kd.C k31 w A2 l2.length l2) (hc2 : l2.length ≤ c2) (h : isobathref03_Fetched.f k a0_0 a0_1 a0_2 a0_3 a0_4 a0_5 a0_6 a1 l2 a3_0 a3_1 a3_2 a3_3 a3_4 a3_5 = some (r1, r2)) :
    Calls Try.prog 47 #[.agg #[.int .i64 a0_0, .int .i64 a0_1, .int .i64 a0_2, .int .i64 a0_3, .int .i64 a0_4, .int .i64 a0_5, .int .i64 a0_6], .int .i64 a1, .slice A2 l2.length c2, .agg #[.int .i64 a3_0, .int .i64 a3_1, .int .i64 a3_2, .int .i64 a3_3, .int .i64 a3_4, .int .i64 a3_5]] w fun e w' => e = .returned (.tuple #[.int .i64 r1, .int .i64 r2]) ∧ Below w.heap.size w w' := by
  have hu29 := Try.underlying29
  have hu81 := Try.underlying81
  have HR2 := Aside0.mk hr2
  have HC2 := Aside0.mk hc2
  clear hr2 hc2
  have HB := Aside0.mk (Below.refl w.heap.size w)
  have H : ((isobathref03_CheckVehicle.f a0_0 a0_1 a0_2 a0_3 a0_4 a0_5 a0_6).bind fun t757 => (if t757 = 0 then (if a1 < 0 then (isobathref03_Fetched.j0 k a1 l2 true a0_0 a0_1 a0_2 a0_3 a0_4 a0_5 a0_6 a3_0 a3_1 a3_2 a3_3 a3_4 a3_5) else (isobathref03_Fetched.j0 k a1 l2 (decide (a1 > 1073741824)) a0_0 a0_1 a0_2 a0_3 a0_4 a0_5 a0_6 a3_0 a3_1 a3_2 a3_3 a3_4 a3_5)) else ((isobathref03_CheckVehicle.f a0_0 a0_1 a0_2 a0_3 a0_4 a0_5 a0_6).bind fun t758 => (some (0, t758))))) = some (r1, r2) := h
  clear h
  replace H := Option.bind_eq_some_iff.mp H
  obtain ⟨t757, A50, H⟩ := H
  replace H : (if t757 = 0 then (if a1 < 0 then (isobathref03_Fetched.j0 k a1 l2 true a0_0 a0_1 a0_2 a0_3 a0_4 a0_5 a0_6 a3_0 a3_1 a3_2 a3_3 a3_4 a3_5) else (isobathref03_Fetched.j0 k a1 l2 (decide (a1 > 1073741824)) a0_0 a0_1 a0_2 a0_3 a0_4 a0_5 a0_6 a3_0 a3_1 a3_2 a3_3 a3_4 a3_5)) else ((isobathref03_CheckVehicle.f a0_0 a0_1 a0_2 a0_3 a0_4 a0_5 a0_6).bind fun t758 => (some (0, t758)))) = some (r1, r2) := H
  have A5 := Aside0.mk A50
  clear A50
  by_cases c6 : t757 = 0
  · rw [if_pos c6] at H
    have c6b0 : (t757 == 0) = true := beq_iff_eq.mpr c6
    have c6b1 : (t757 != 0) = false := bne_eq_false_iff_eq.mpr c6
    clear c6
    have HC7 := Aside0.mk H
    clear H
    go_enter Try.func47, Try.ntmps47
    go_upto_region 3 with (first | ((with_reducible refine gate_dst (N := 4) rfl ?_); refine box_event (by rfl) (N := 4) (by rfl) (cs := #[.int .i64 a0_0, .int .i64 a0_1, .int .i64 a0_2, .int .i64 a0_3, .int .i64 a0_4, .int .i64 a0_5, .int .i64 a0_6]) (t := 29) zq5 ?_; intro gb755 hg w8 hbox hb; have BK755 := Aside0.mk (hbox); have GW755 := zgs HB hg; have GE755 := zgs HB hg; replace HB := zbs HB hb; clear hb hbox hg) | ((with_reducible refine gate_dst (N := 7) rfl ?_); refine box_event (by rfl) (N := 7) (by rfl) (cs := #[.int .i64 a3_0, .int .i64 a3_1, .int .i64 a3_2, .int .i64 a3_3, .int .i64 a3_4, .int .i64 a3_5]) (t := 81) zq5 ?_; intro gb756 hg w9 hbox hb; have BK756 := Aside0.mk (hbox); have GW756 := zgs HB hg; have GE756 := zgs HB hg; have NB755_756 := znp BK755 hg; have NB756_755 := znq BK755 hg; replace BK755 := zbb BK755 hb; replace HB := zbs HB hb; clear hb hbox hg; have hnb10 := NB755_756.out; have hnc10 := NB756_755.out; obtain ⟨hcz11_0, hcz11_1, hcz11_2, hcz11_3, hcz11_4, hcz11_5, hcz11_6, hfz11_0, hfz11_1, hfz11_2, hfz11_3, hfz11_4, hfz11_5, hfz11_6⟩ := zce7 BK755.out) | ((with_reducible refine gate_callee (f := 28) rfl ?_); refine goesL_ (some 11) rfl rfl Try.func28 zq1 rfl #[.agg #[.int .i64 a0_0, .int .i64 a0_1, .int .i64 a0_2, .int .i64 a0_3, .int .i64 a0_4, .int .i64 a0_5, .int .i64 a0_6]] rfl zq8 ?_; (with_reducible refine (isobathref03_CheckVehicle.calls a0_0 a0_1 a0_2 a0_3 a0_4 a0_5 a0_6 t757 _ A5.out).mono ?_); rintro e w12 ⟨rfl, hb⟩; refine ⟨_, rfl, ?_⟩; replace BK755 := zbb BK755 hb; replace BK756 := zbb BK756 hb; replace HB := zbs HB hb; (try clear hb); (try clear hb2); (try clear hk); (try clear hi)))
    (try simp only [Act.put, List.setIfInBounds_toArray, List.set_cons_zero, List.set_cons_succ])
    go_cut [20] (fun v20 wc => ∃ (kq : Nat) (x20_6 : Bool), v20 = .bool x20_6 ∧ Aside0 (isobathref03_Fetched.j0 kq a1 l2 x20_6 a0_0 a0_1 a0_2 a0_3 a0_4 a0_5 a0_6 a3_0 a3_1 a3_2 a3_3 a3_4 a3_5 = some (r1, r2)) ∧ Aside0 (kq ≤ k) ∧ Aside0 (wc.heap[gb755]? = some (.cells #[.int .i64 a0_0, .int .i64 a0_1, .int .i64 a0_2, .int .i64 a0_3, .int .i64 a0_4, .int .i64 a0_5, .int .i64 a0_6] 29 (0, 0))) ∧ Aside0 (wc.heap[gb756]? = some (.cells #[.int .i64 a3_0, .int .i64 a3_1, .int .i64 a3_2, .int .i64 a3_3, .int .i64 a3_4, .int .i64 a3_5] 81 (0, 0))) ∧ Aside0 (Below w.heap.size w wc))
    case first =>
      have H := HC7.out
      clear HC7
      by_cases c13 : a1 < 0
      · rw [if_pos c13] at H
        have c13b0 : decide (a1 < 0) = true := decide_eq_true c13
        clear c13
        (first | rw [c13b0] | (simp only [i64_w, i32_w]; rw [c13b0]) | skip)
        have H' := Aside0.mk H
        clear H
        go_wp2
        go_meet
        case rel => exact ⟨_, (true), zq2, H', ⟨zq49⟩, ⟨by (with_reducible repeat (first | refine blk_drewN ?_ _ | refine blk_drew ?_ | refine blk_alloc ?_ _)); exact BK755.out⟩, ⟨by (with_reducible repeat (first | refine blk_drewN ?_ _ | refine blk_drew ?_ | refine blk_alloc ?_ _)); exact BK756.out⟩, ⟨zbz⟩⟩
      · rw [if_neg c13] at H
        have c13b0 : decide (a1 < 0) = false := decide_eq_false c13
        clear c13
        (first | rw [c13b0] | (simp only [i64_w, i32_w]; rw [c13b0]) | skip)
        have H' := Aside0.mk H
        clear H
        go_wp2
        go_meet
        case rel => exact ⟨_, (decide (a1 > 1073741824)), zq2, H', ⟨zq49⟩, ⟨by (with_reducible repeat (first | refine blk_drewN ?_ _ | refine blk_drew ?_ | refine blk_alloc ?_ _)); exact BK755.out⟩, ⟨by (with_reducible repeat (first | refine blk_drewN ?_ _ | refine blk_drew ?_ | refine blk_alloc ?_ _)); exact BK756.out⟩, ⟨zbz⟩⟩
    case rest =>
      clear HC7
      try clear c1
      try clear c2
      try clear p2
      try clear c4
      try clear c6
      try clear c6b0
      try clear c6b1
      try clear c10
      try clear c13
      try clear c13b0
      try clear hcz11_0
      try clear hcz11_1
      try clear hcz11_2
      try clear hcz11_3
      try clear hcz11_4
      try clear hcz11_5
      try clear hcz11_6
      try clear hfz11_0
      try clear hfz11_1
      try clear hfz11_2
      try clear hfz11_3
      try clear hfz11_4
      try clear hfz11_5
      try clear hfz11_6
      obtain ⟨kq, x20_6, rfl, HA, HJ6, BK755, BK756, HB⟩ := hcut
      cases kq with
      | zero => exact absurd HA.out (by simp [isobathref03_Fetched.j0])
      | succ kj6 =>
        have H := HA.out
        clear HA
        simp only [isobathref03_Fetched.j0] at H
        by_cases c14 : x20_6 = true
        · subst c14
          have H1 : (some (0, 3)) = some (r1, r2) := by rw [if_pos rfl] at H; exact H
          clear H
          have H := H1
          clear H1
          simp only [Option.some.injEq, Prod.mk.injEq] at H
          obtain ⟨rfl, rfl⟩ := H
          go_wp2
          go_ret2
          exact ⟨zq6, zbz⟩
        · replace c14 := Bool.eq_false_iff.mpr c14
          subst c14
          have H1 : ((isobathref03_boxes.f kj6 l2).bind fun t759 => (if t759 = 0 then ((isobathref03_pickup.f a3_0 a3_1 a3_2 a3_3 a3_4 a3_5).bind fun t761 => (if t761 = true then ((isobathref03_fetched.f kj6 a0_0 a0_1 a0_2 a0_3 a0_4 a0_5 a0_6 a1 l2 a3_0 a3_1 a3_2 a3_3 a3_4 a3_5).bind fun t762 => (some (t762, 0))) else (some (0, 2)))) else ((isobathref03_boxes.f kj6 l2).bind fun t760 => (some (0, t760))))) = some (r1, r2) := by rw [if_neg (show ¬ (false = true) by decide)] at H; exact H
          clear H
          have H := H1
          clear H1
          replace H := Option.bind_eq_some_iff.mp H
          obtain ⟨t759, A150, H⟩ := H
          replace H : (if t759 = 0 then ((isobathref03_pickup.f a3_0 a3_1 a3_2 a3_3 a3_4 a3_5).bind fun t761 => (if t761 = true then ((isobathref03_fetched.f kj6 a0_0 a0_1 a0_2 a0_3 a0_4 a0_5 a0_6 a1 l2 a3_0 a3_1 a3_2 a3_3 a3_4 a3_5).bind fun t762 => (some (t762, 0))) else (some (0, 2)))) else ((isobathref03_boxes.f kj6 l2).bind fun t760 => (some (0, t760)))) = some (r1, r2) := H
          have A15 := Aside0.mk A150
          clear A150
          by_cases c16 : t759 = 0
          · rw [if_pos c16] at H
            have c16b0 : (t759 == 0) = true := beq_iff_eq.mpr c16
            have c16b1 : (t759 != 0) = false := bne_eq_false_iff_eq.mpr c16
            clear c16
            replace H := Option.bind_eq_some_iff.mp H
            obtain ⟨t761, A170, H⟩ := H
            replace H : (if t761 = true then ((isobathref03_fetched.f kj6 a0_0 a0_1 a0_2 a0_3 a0_4 a0_5 a0_6 a1 l2 a3_0 a3_1 a3_2 a3_3 a3_4 a3_5).bind fun t762 => (some (t762, 0))) else (some (0, 2))) = some (r1, r2) := H
            have A17 := Aside0.mk A170
            clear A170
            by_cases c18 : t761 = true
            · subst c18
              have H1 : ((isobathref03_fetched.f kj6 a0_0 a0_1 a0_2 a0_3 a0_4 a0_5 a0_6 a1 l2 a3_0 a3_1 a3_2 a3_3 a3_4 a3_5).bind fun t762 => (some (t762, 0))) = some (r1, r2) := by rw [if_pos rfl] at H; exact H
              clear H
              have H := H1
              clear H1
              replace H := Option.bind_eq_some_iff.mp H
              obtain ⟨t762, A190, H⟩ := H
              replace H : (some (t762, 0)) = some (r1, r2) := H
              have A19 := Aside0.mk A190
              clear A190
              simp only [Option.some.injEq, Prod.mk.injEq] at H
              obtain ⟨rfl, rfl⟩ := H
              go_wp2_with (first | ((with_reducible refine gate_callee (f := 90) rfl ?_); refine goesL_ (some 22) rfl rfl Try.func90 zq1 rfl #[.slice A2 l2.length c2] rfl zq8 ?_; (with_reducible refine (isobathref03_boxes.calls kj6 _ _ l2 t759 _ ?side1 ?side2 A15.out).mono ?_); (case side1 => repeat (first | exact (Kd.C_below HR2.out HB.out) | (with_reducible refine Kd.C_alloc ?_ _) | (with_reducible refine Kd.C_drewN ?_ _) | (with_reducible refine Kd.C_drew ?_))); (case side2 => exact HC2.out); rintro e w20 ⟨rfl, hb⟩; refine ⟨_, rfl, ?_⟩; replace BK755 := zbb BK755 hb; replace BK756 := zbb BK756 hb; replace HB := zbs HB hb; (try clear hb); (try clear hb2); (try clear hk); (try clear hi); have hnb21 := NB756_755.out; have hnc21 := NB755_756.out; obtain ⟨hcz22_0, hcz22_1, hcz22_2, hcz22_3, hcz22_4, hcz22_5, hfz22_0, hfz22_1, hfz22_2, hfz22_3, hfz22_4, hfz22_5⟩ := zce6 BK756.out) | ((with_reducible refine gate_callee (f := 95) rfl ?_); refine goesL_ (some 27) rfl rfl Try.func95 zq1 rfl #[.agg #[.int .i64 a3_0, .int .i64 a3_1, .int .i64 a3_2, .int .i64 a3_3, .int .i64 a3_4, .int .i64 a3_5]] rfl zq8 ?_; (with_reducible refine (isobathref03_pickup.calls a3_0 a3_1 a3_2 a3_3 a3_4 a3_5 true _ A17.out).mono ?_); rintro e w23 ⟨rfl, hb⟩; refine ⟨_, rfl, ?_⟩; replace BK755 := zbb BK755 hb; replace BK756 := zbb BK756 hb; replace HB := zbs HB hb; (try clear hb); (try clear hb2); (try clear hk); (try clear hi); obtain ⟨hcz24_0, hcz24_1, hcz24_2, hcz24_3, hcz24_4, hcz24_5, hcz24_6, hfz24_0, hfz24_1, hfz24_2, hfz24_3, hfz24_4, hfz24_5, hfz24_6⟩ := zce7 BK755.out; obtain ⟨hcz25_0, hcz25_1, hcz25_2, hcz25_3, hcz25_4, hcz25_5, hfz25_0, hfz25_1, hfz25_2, hfz25_3, hfz25_4, hfz25_5⟩ := zce6 BK756.out) | ((with_reducible refine gate_callee (f := 96) rfl ?_); refine goesL_ (some 33) rfl rfl Try.func96 zq1 rfl #[.agg #[.int .i64 a0_0, .int .i64 a0_1, .int .i64 a0_2, .int .i64 a0_3, .int .i64 a0_4, .int .i64 a0_5, .int .i64 a0_6], .int .i64 a1, .slice A2 l2.length c2, .agg #[.int .i64 a3_0, .int .i64 a3_1, .int .i64 a3_2, .int .i64 a3_3, .int .i64 a3_4, .int .i64 a3_5]] rfl zq8 ?_; (with_reducible refine (isobathref03_fetched.calls kj6 a0_0 a0_1 a0_2 a0_3 a0_4 a0_5 a0_6 a1 _ _ l2 a3_0 a3_1 a3_2 a3_3 a3_4 a3_5 t762 _ ?side1 ?side2 A19.out).mono ?_); (case side1 => repeat (first | exact (Kd.C_below HR2.out HB.out) | (with_reducible refine Kd.C_alloc ?_ _) | (with_reducible refine Kd.C_drewN ?_ _) | (with_reducible refine Kd.C_drew ?_))); (case side2 => exact HC2.out); rintro e w26 ⟨rfl, hb⟩; refine ⟨_, rfl, ?_⟩; replace BK755 := zbb BK755 hb; replace BK756 := zbb BK756 hb; replace HB := zbs HB hb; (try clear hb); (try clear hb2); (try clear hk); (try clear hi)))
              go_ret2
              exact ⟨zq6, zbz⟩
            · replace c18 := Bool.eq_false_iff.mpr c18
              subst c18
              have H1 : (some (0, 2)) = some (r1, r2) := by rw [if_neg (show ¬ (false = true) by decide)] at H; exact H
              clear H
              have H := H1
              clear H1
              simp only [Option.some.injEq, Prod.mk.injEq] at H
              obtain ⟨rfl, rfl⟩ := H
              go_wp2_with (first | ((with_reducible refine gate_callee (f := 90) rfl ?_); refine goesL_ (some 22) rfl rfl Try.func90 zq1 rfl #[.slice A2 l2.length c2] rfl zq8 ?_; (with_reducible refine (isobathref03_boxes.calls kj6 _ _ l2 t759 _ ?side1 ?side2 A15.out).mono ?_); (case side1 => repeat (first | exact (Kd.C_below HR2.out HB.out) | (with_reducible refine Kd.C_alloc ?_ _) | (with_reducible refine Kd.C_drewN ?_ _) | (with_reducible refine Kd.C_drew ?_))); (case side2 => exact HC2.out); rintro e w27 ⟨rfl, hb⟩; refine ⟨_, rfl, ?_⟩; replace BK755 := zbb BK755 hb; replace BK756 := zbb BK756 hb; replace HB := zbs HB hb; (try clear hb); (try clear hb2); (try clear hk); (try clear hi); have hnb28 := NB756_755.out; have hnc28 := NB755_756.out; obtain ⟨hcz29_0, hcz29_1, hcz29_2, hcz29_3, hcz29_4, hcz29_5, hfz29_0, hfz29_1, hfz29_2, hfz29_3, hfz29_4, hfz29_5⟩ := zce6 BK756.out) | ((with_reducible refine gate_callee (f := 95) rfl ?_); refine goesL_ (some 27) rfl rfl Try.func95 zq1 rfl #[.agg #[.int .i64 a3_0, .int .i64 a3_1, .int .i64 a3_2, .int .i64 a3_3, .int .i64 a3_4, .int .i64 a3_5]] rfl zq8 ?_; (with_reducible refine (isobathref03_pickup.calls a3_0 a3_1 a3_2 a3_3 a3_4 a3_5 false _ A17.out).mono ?_); rintro e w30 ⟨rfl, hb⟩; refine ⟨_, rfl, ?_⟩; replace BK755 := zbb BK755 hb; replace BK756 := zbb BK756 hb; replace HB := zbs HB hb; (try clear hb); (try clear hb2); (try clear hk); (try clear hi)))
              go_ret2
              exact ⟨zq6, zbz⟩
          · rw [if_neg c16] at H
            have c16b0 : (t759 == 0) = false := beq_eq_false_iff_ne.mpr c16
            have c16b1 : (t759 != 0) = true := bne_iff_ne.mpr c16
            replace H := Option.bind_eq_some_iff.mp H
            obtain ⟨t760, A310, H⟩ := H
            replace H : (some (0, t760)) = some (r1, r2) := H
            have A31 := Aside0.mk A310
            clear A310
            simp only [Option.some.injEq, Prod.mk.injEq] at H
            obtain ⟨rfl, rfl⟩ := H
            go_wp2_with (first | ((with_reducible refine gate_callee (f := 90) rfl ?_); refine goesL_ (some 22) rfl rfl Try.func90 zq1 rfl #[.slice A2 l2.length c2] rfl zq8 ?_; (with_reducible refine (isobathref03_boxes.calls kj6 _ _ l2 t759 _ ?side1 ?side2 A15.out).mono ?_); (case side1 => repeat (first | exact (Kd.C_below HR2.out HB.out) | (with_reducible refine Kd.C_alloc ?_ _) | (with_reducible refine Kd.C_drewN ?_ _) | (with_reducible refine Kd.C_drew ?_))); (case side2 => exact HC2.out); rintro e w32 ⟨rfl, hb⟩; refine ⟨_, rfl, ?_⟩; replace BK755 := zbb BK755 hb; replace BK756 := zbb BK756 hb; replace HB := zbs HB hb; (try clear hb); (try clear hb2); (try clear hk); (try clear hi)) | ((with_reducible refine gate_callee (f := 90) rfl ?_); refine goesL_ (some 25) rfl rfl Try.func90 zq1 rfl #[.slice A2 l2.length c2] rfl zq8 ?_; (with_reducible refine (isobathref03_boxes.calls kj6 _ _ l2 t760 _ ?side1 ?side2 A31.out).mono ?_); (case side1 => repeat (first | exact (Kd.C_below HR2.out HB.out) | (with_reducible refine Kd.C_alloc ?_ _) | (with_reducible refine Kd.C_drewN ?_ _) | (with_reducible refine Kd.C_drew ?_))); (case side2 => exact HC2.out); rintro e w33 ⟨rfl, hb⟩; refine ⟨_, rfl, ?_⟩; replace BK755 := zbb BK755 hb; replace BK756 := zbb BK756 hb; replace HB := zbs HB hb; (try clear hb); (try clear hb2); (try clear hk); (try clear hi)))
            go_ret2
            exact ⟨zq6, zbz⟩
  · rw [if_neg c6] at H
    have c6b0 : (t757 == 0) = false := beq_eq_false_iff_ne.mpr c6
    have c6b1 : (t757 != 0) = true := bne_iff_ne.mpr c6
    replace H := Option.bind_eq_some_iff.mp H
    obtain ⟨t758, A340, H⟩ := H
    replace H : (some (0, t758)) = some (r1, r2) := H
    have A34 := Aside0.mk A340
    clear A340
    simp only [Option.some.injEq, Prod.mk.injEq] at H
    obtain ⟨rfl, rfl⟩ := H
    go_enter Try.func47, Try.ntmps47
    go_wp2_with (first | ((with_reducible refine gate_dst (N := 4) rfl ?_); refine box_event (by rfl) (N := 4) (by rfl) (cs := #[.int .i64 a0_0, .int .i64 a0_1, .int .i64 a0_2, .int .i64 a0_3, .int .i64 a0_4, .int .i64 a0_5, .int .i64 a0_6]) (t := 29) zq5 ?_; intro gb755 hg w35 hbox hb; have BK755 := Aside0.mk (hbox); have GW755 := zgs HB hg; have GE755 := zgs HB hg; replace HB := zbs HB hb; clear hb hbox hg) | ((with_reducible refine gate_dst (N := 7) rfl ?_); refine box_event (by rfl) (N := 7) (by rfl) (cs := #[.int .i64 a3_0, .int .i64 a3_1, .int .i64 a3_2, .int .i64 a3_3, .int .i64 a3_4, .int .i64 a3_5]) (t := 81) zq5 ?_; intro gb756 hg w36 hbox hb; have BK756 := Aside0.mk (hbox); have GW756 := zgs HB hg; have GE756 := zgs HB hg; have NB755_756 := znp BK755 hg; have NB756_755 := znq BK755 hg; replace BK755 := zbb BK755 hb; replace HB := zbs HB hb; clear hb hbox hg; have hnb37 := NB755_756.out; have hnc37 := NB756_755.out; obtain ⟨hcz38_0, hcz38_1, hcz38_2, hcz38_3, hcz38_4, hcz38_5, hcz38_6, hfz38_0, hfz38_1, hfz38_2, hfz38_3, hfz38_4, hfz38_5, hfz38_6⟩ := zce7 BK755.out) | ((with_reducible refine gate_callee (f := 28) rfl ?_); refine goesL_ (some 11) rfl rfl Try.func28 zq1 rfl #[.agg #[.int .i64 a0_0, .int .i64 a0_1, .int .i64 a0_2, .int .i64 a0_3, .int .i64 a0_4, .int .i64 a0_5, .int .i64 a0_6]] rfl zq8 ?_; (with_reducible refine (isobathref03_CheckVehicle.calls a0_0 a0_1 a0_2 a0_3 a0_4 a0_5 a0_6 t757 _ A5.out).mono ?_); rintro e w39 ⟨rfl, hb⟩; refine ⟨_, rfl, ?_⟩; replace BK755 := zbb BK755 hb; replace BK756 := zbb BK756 hb; replace HB := zbs HB hb; (try clear hb); (try clear hb2); (try clear hk); (try clear hi); obtain ⟨hcz40_0, hcz40_1, hcz40_2, hcz40_3, hcz40_4, hcz40_5, hcz40_6, hfz40_0, hfz40_1, hfz40_2, hfz40_3, hfz40_4, hfz40_5, hfz40_6⟩ := zce7 BK755.out) | ((with_reducible refine gate_callee (f := 28) rfl ?_); refine goesL_ (some 14) rfl rfl Try.func28 zq1 rfl #[.agg #[.int .i64 a0_0, .int .i64 a0_1, .int .i64 a0_2, .int .i64 a0_3, .int .i64 a0_4, .int .i64 a0_5, .int .i64 a0_6]] rfl zq8 ?_; (with_reducible refine (isobathref03_CheckVehicle.calls a0_0 a0_1 a0_2 a0_3 a0_4 a0_5 a0_6 t758 _ A34.out).mono ?_); rintro e w41 ⟨rfl, hb⟩; refine ⟨_, rfl, ?_⟩; replace BK755 := zbb BK755 hb; replace BK756 := zbb BK756 hb; replace HB := zbs HB hb; (try clear hb); (try clear hb2); (try clear hk); (try clear hi)))
    go_ret2
    exact ⟨zq6, zbz⟩

end Go.Proofs.Ytmhaiihjfgfaoaa.Pr
end
section
namespace Go.Proofs.Ytmhaiihjfgfaoaa.Pr
open Go.RowKit Go.Proofs.YtmhaiihjfgfaoaaW.PrintWords Go.Proofs.YtmhaiihjfgfaoaaW.PrintLast Go.Proofs.YtmhaiihjfgfaoaaW.PrintMore
attribute [local go_sem] max2_int min2_int max_two min_two max_four
set_option linter.unusedVariables false
set_option linter.unusedSimpArgs false

attribute [local go_sem high] eqA27
/-! ### isobathlaw03_GliderEnergies: function 10 -/
mutual
def isobathlaw03_GliderEnergies.j0 : Nat → List (S33) → Int → List (S31) → Bool → Int → Int → Int → Int → Int → Int → Int → Int → Int → Int → Int → Int → Int → Int → Int → Option (Bool)
  | 0, _, _, _, _, _, _, _, _, _, _, _, _, _, _, _, _, _, _, _ => none
  | k + 1, x2, x3, x4, x33, x764000, x764001, x764002, x764003, x764004, x764005, x764006, x765000, x765001, x766000, x766001, x766002, x766003, x766004, x766005 => if x33 = true then ((isobathlaw03_Works.f k).bind fun t766 => (some t766)) else ((glider_Energy.f k x764000 x764001 x764002 x764003 x764004 x764005 x764006 x765000 x765001 x2).bind fun bt767 => ((isobathref03_Energy.f k x764000 x764001 x764002 x764003 x764004 x764005 x764006 x765000 x765001 x2).bind fun bt772 => (if bt767.2.1 = bt772.2.1 then (if bt767.2.2 = bt772.2.2 then (isobathlaw03_GliderEnergies.j1 k x3 x4 bt767.1 bt772.1 ((bt767.1.length : Int) != (bt772.1.length : Int)) x764000 x764001 x764002 x764003 x764004 x764005 x764006 x765000 x765001 x766000 x766001 x766002 x766003 x766004 x766005) else (isobathlaw03_GliderEnergies.j1 k x3 x4 bt767.1 bt772.1 true x764000 x764001 x764002 x764003 x764004 x764005 x764006 x765000 x765001 x766000 x766001 x766002 x766003 x766004 x766005)) else (isobathlaw03_GliderEnergies.j1 k x3 x4 bt767.1 bt772.1 true x764000 x764001 x764002 x764003 x764004 x764005 x764006 x765000 x765001 x766000 x766001 x766002 x766003 x766004 x766005))))
def isobathlaw03_GliderEnergies.j1 : Nat → Int → List (S31) → List (S27) → List (S27) → Bool → Int → Int → Int → Int → Int → Int → Int → Int → Int → Int → Int → Int → Int → Int → Int → Option (Bool)
  | 0, _, _, _, _, _, _, _, _, _, _, _, _, _, _, _, _, _, _, _, _ => none
  | k + 1, x3, x4, x13, x16, x65, x764000, x764001, x764002, x764003, x764004, x764005, x764006, x765000, x765001, x766000, x766001, x766002, x766003, x766004, x766005 => if x65 = true then (some false) else (isobathlaw03_GliderEnergies.l0 k x3 x4 x13 x16 0 x764000 x764001 x764002 x764003 x764004 x764005 x764006 x765000 x765001 x766000 x766001 x766002 x766003 x766004 x766005)
def isobathlaw03_GliderEnergies.l0 : Nat → Int → List (S31) → List (S27) → List (S27) → Int → Int → Int → Int → Int → Int → Int → Int → Int → Int → Int → Int → Int → Int → Int → Int → Option (Bool)
  | 0, _, _, _, _, _, _, _, _, _, _, _, _, _, _, _, _, _, _, _, _ => none
  | k + 1, x3, x4, x13, x16, x19, x764000, x764001, x764002, x764003, x764004, x764005, x764006, x765000, x765001, x766000, x766001, x766002, x766003, x766004, x766005 => if x19 < (x13.length : Int) then (if 0 ≤ x19 then (if x19 < (x16.length : Int) then (if (!(((rd_T27 x13 x19).f0) == ((rd_T27 x16 x19).f0)) || (!(((rd_T27 x13 x19).f1) == ((rd_T27 x16 x19).f1)))) = true then (some false) else (isobathlaw03_GliderEnergies.l0 k x3 x4 x13 x16 (wrap64 (x19 + 1)) x764000 x764001 x764002 x764003 x764004 x764005 x764006 x765000 x765001 x766000 x766001 x766002 x766003 x766004 x766005)) else (none)) else (none)) else ((glider_Lasts.f k x764000 x764001 x764002 x764003 x764004 x764005 x764006 x765000 x765001).bind fun bt779 => ((isobathref03_Lasts.f x764000 x764001 x764002 x764003 x764004 x764005 x764006 x765000 x765001).bind fun bt781 => ((glider_Fetched.f k x764000 x764001 x764002 x764003 x764004 x764005 x764006 x3 x4 x766000 x766001 x766002 x766003 x766004 x766005).bind fun bt783 => ((isobathref03_Fetched.f k x764000 x764001 x764002 x764003 x764004 x764005 x764006 x3 x4 x766000 x766001 x766002 x766003 x766004 x766005).bind fun bt785 => (if bt779.1 = bt781.1 then (if bt779.2 = bt781.2 then (if bt783.1 = bt785.1 then (if bt783.2 = bt785.2 then ((isobathlaw03_Works.f k).bind fun t787 => (some t787)) else (some false)) else (some false)) else (some false)) else (some false))))))
end
def isobathlaw03_GliderEnergies.f (k : Nat) (a0_0 : Int) (a0_1 : Int) (a0_2 : Int) (a0_3 : Int) (a0_4 : Int) (a0_5 : Int) (a0_6 : Int) (a1_0 : Int) (a1_1 : Int) (l2 : List (S33)) (a3 : Int) (l4 : List (S31)) (a5_0 : Int) (a5_1 : Int) (a5_2 : Int) (a5_3 : Int) (a5_4 : Int) (a5_5 : Int) : Option (Bool) := if (l2.length : Int) > 70 then (isobathlaw03_GliderEnergies.j0 k l2 a3 l4 true a0_0 a0_1 a0_2 a0_3 a0_4 a0_5 a0_6 a1_0 a1_1 a5_0 a5_1 a5_2 a5_3 a5_4 a5_5) else (isobathlaw03_GliderEnergies.j0 k l2 a3 l4 (decide ((l4.length : Int) > 70)) a0_0 a0_1 a0_2 a0_3 a0_4 a0_5 a0_6 a1_0 a1_1 a5_0 a5_1 a5_2 a5_3 a5_4 a5_5)
set_option maxHeartbeats 8000000 in
set_option maxRecDepth 100000 in
theorem isobathlaw03_GliderEnergies.calls (k : Nat) (a0_0 : Int) (a0_1 : Int) (a0_2 : Int) (a0_3 : Int) (a0_4 : Int) (a0_5 : Int) (a0_6 : Int) (a1_0 : Int) (a1_1 : Int) (A2 : Option Addr) (c2 : Nat) (l2 : List (S33)) (a3 : Int) (A4 : Option Addr) (c4 : Nat) (l4 : List (S31)) (a5_0 : Int) (a5_1 : Int) (a5_2 : Int) (a5_3 : Int) (a5_4 : Int) (a5_5 : Int) (r : Bool) (w : World) (hr2 : Kd.C k33 w A2 l2.length l2) (hc2 : l2.length ≤ c2) (hr4 : Kd.C k31 w A4 l4.length l4) (hc4 : l4.length ≤ c4) (h : isobathlaw03_GliderEnergies.f k a0_0 a0_1 a0_2 a0_3 a0_4 a0_5 a0_6 a1_0 a1_1 l2 a3 l4 a5_0 a5_1 a5_2 a5_3 a5_4 a5_5 = some r) (hr_ : Aside0 (r = true)) :
    Calls Try.prog 10 #[.agg #[.int .i64 a0_0, .int .i64 a0_1, .int .i64 a0_2, .int .i64 a0_3, .int .i64 a0_4, .int .i64 a0_5, .int .i64 a0_6], .agg #[.int .i64 a1_0, .int .i64 a1_1], .slice A2 l2.length c2, .int .i64 a3, .slice A4 l4.length c4, .agg #[.int .i64 a5_0, .int .i64 a5_1, .int .i64 a5_2, .int .i64 a5_3, .int .i64 a5_4, .int .i64 a5_5]] w fun e w' => e = .returned (.bool r) ∧ Below w.heap.size w w' := by
  have hu29 := Try.underlying29
  have hu27 := Try.underlying27
  have hu81 := Try.underlying81
  have HR2 := Aside0.mk hr2
  have HC2 := Aside0.mk hc2
  clear hr2 hc2
  have HR4 := Aside0.mk hr4
  have HC4 := Aside0.mk hc4
  clear hr4 hc4
  have HB := Aside0.mk (Below.refl w.heap.size w)
  have H : (if (l2.length : Int) > 70 then (isobathlaw03_GliderEnergies.j0 k l2 a3 l4 true a0_0 a0_1 a0_2 a0_3 a0_4 a0_5 a0_6 a1_0 a1_1 a5_0 a5_1 a5_2 a5_3 a5_4 a5_5) else (isobathlaw03_GliderEnergies.j0 k l2 a3 l4 (decide ((l4.length : Int) > 70)) a0_0 a0_1 a0_2 a0_3 a0_4 a0_5 a0_6 a1_0 a1_1 a5_0 a5_1 a5_2 a5_3 a5_4 a5_5)) = some r := h
  clear h
  have HC7 := Aside0.mk H
  clear H
  go_enter Try.func10, Try.ntmps10
  go_upto_region 1 with (first | ((with_reducible refine gate_dst (N := 6) rfl ?_); (try (refine gate_guard (by rfl) ?_; dsimp only)); refine box_event (by rfl) (N := 6) (by rfl) (cs := #[.int .i64 a0_0, .int .i64 a0_1, .int .i64 a0_2, .int .i64 a0_3, .int .i64 a0_4, .int .i64 a0_5, .int .i64 a0_6]) (t := 29) zq5 ?_; intro gb763 hg w8 hbox hb; have BK763 := Aside0.mk (hbox); have GW763 := zgs HB hg; have GE763 := zgs HB hg; replace HB := zbs HB hb; clear hb hbox hg) | ((with_reducible refine gate_dst (N := 7) rfl ?_); (try (refine gate_guard (by rfl) ?_; dsimp only)); refine box_event (by rfl) (N := 7) (by rfl) (cs := #[.int .i64 a1_0, .int .i64 a1_1]) (t := 27) zq5 ?_; intro gb764 hg w9 hbox hb; have BK764 := Aside0.mk (hbox); have GW764 := zgs HB hg; have GE764 := zgs HB hg; have NB763_764 := znp BK763 hg; have NB764_763 := znq BK763 hg; replace BK763 := zbb BK763 hb; replace HB := zbs HB hb; clear hb hbox hg) | ((with_reducible refine gate_dst (N := 11) rfl ?_); (try (refine gate_guard (by rfl) ?_; dsimp only)); refine box_event (by rfl) (N := 11) (by rfl) (cs := #[.int .i64 a5_0, .int .i64 a5_1, .int .i64 a5_2, .int .i64 a5_3, .int .i64 a5_4, .int .i64 a5_5]) (t := 81) zq5 ?_; intro gb765 hg w10 hbox hb; have BK765 := Aside0.mk (hbox); have GW765 := zgs HB hg; have GE765 := zgs HB hg; have NB763_765 := znp BK763 hg; have NB765_763 := znq BK763 hg; have NB764_765 := znp BK764 hg; have NB765_764 := znq BK764 hg; replace BK763 := zbb BK763 hb; replace BK764 := zbb BK764 hb; replace HB := zbs HB hb; clear hb hbox hg))
  repeat (go_quiet (first | ((with_reducible refine gate_dst (N := 6) rfl ?_); (try (refine gate_guard (by rfl) ?_; dsimp only)); refine box_event (by rfl) (N := 6) (by rfl) (cs := #[.int .i64 a0_0, .int .i64 a0_1, .int .i64 a0_2, .int .i64 a0_3, .int .i64 a0_4, .int .i64 a0_5, .int .i64 a0_6]) (t := 29) zq5 ?_; intro gb763 hg w8 hbox hb; have BK763 := Aside0.mk (hbox); have GW763 := zgs HB hg; have GE763 := zgs HB hg; replace HB := zbs HB hb; clear hb hbox hg) | ((with_reducible refine gate_dst (N := 7) rfl ?_); (try (refine gate_guard (by rfl) ?_; dsimp only)); refine box_event (by rfl) (N := 7) (by rfl) (cs := #[.int .i64 a1_0, .int .i64 a1_1]) (t := 27) zq5 ?_; intro gb764 hg w9 hbox hb; have BK764 := Aside0.mk (hbox); have GW764 := zgs HB hg; have GE764 := zgs HB hg; have NB763_764 := znp BK763 hg; have NB764_763 := znq BK763 hg; replace BK763 := zbb BK763 hb; replace HB := zbs HB hb; clear hb hbox hg) | ((with_reducible refine gate_dst (N := 11) rfl ?_); (try (refine gate_guard (by rfl) ?_; dsimp only)); refine box_event (by rfl) (N := 11) (by rfl) (cs := #[.int .i64 a5_0, .int .i64 a5_1, .int .i64 a5_2, .int .i64 a5_3, .int .i64 a5_4, .int .i64 a5_5]) (t := 81) zq5 ?_; intro gb765 hg w10 hbox hb; have BK765 := Aside0.mk (hbox); have GW765 := zgs HB hg; have GE765 := zgs HB hg; have NB763_765 := znp BK763 hg; have NB765_763 := znq BK763 hg; have NB764_765 := znp BK764 hg; have NB765_764 := znq BK764 hg; replace BK763 := zbb BK763 hb; replace BK764 := zbb BK764 hb; replace HB := zbs HB hb; clear hb hbox hg)); go_upto_region 1 with (first | ((with_reducible refine gate_dst (N := 6) rfl ?_); (try (refine gate_guard (by rfl) ?_; dsimp only)); refine box_event (by rfl) (N := 6) (by rfl) (cs := #[.int .i64 a0_0, .int .i64 a0_1, .int .i64 a0_2, .int .i64 a0_3, .int .i64 a0_4, .int .i64 a0_5, .int .i64 a0_6]) (t := 29) zq5 ?_; intro gb763 hg w8 hbox hb; have BK763 := Aside0.mk (hbox); have GW763 := zgs HB hg; have GE763 := zgs HB hg; replace HB := zbs HB hb; clear hb hbox hg) | ((with_reducible refine gate_dst (N := 7) rfl ?_); (try (refine gate_guard (by rfl) ?_; dsimp only)); refine box_event (by rfl) (N := 7) (by rfl) (cs := #[.int .i64 a1_0, .int .i64 a1_1]) (t := 27) zq5 ?_; intro gb764 hg w9 hbox hb; have BK764 := Aside0.mk (hbox); have GW764 := zgs HB hg; have GE764 := zgs HB hg; have NB763_764 := znp BK763 hg; have NB764_763 := znq BK763 hg; replace BK763 := zbb BK763 hb; replace HB := zbs HB hb; clear hb hbox hg) | ((with_reducible refine gate_dst (N := 11) rfl ?_); (try (refine gate_guard (by rfl) ?_; dsimp only)); refine box_event (by rfl) (N := 11) (by rfl) (cs := #[.int .i64 a5_0, .int .i64 a5_1, .int .i64 a5_2, .int .i64 a5_3, .int .i64 a5_4, .int .i64 a5_5]) (t := 81) zq5 ?_; intro gb765 hg w10 hbox hb; have BK765 := Aside0.mk (hbox); have GW765 := zgs HB hg; have GE765 := zgs HB hg; have NB763_765 := znp BK763 hg; have NB765_763 := znq BK763 hg; have NB764_765 := znp BK764 hg; have NB765_764 := znq BK764 hg; replace BK763 := zbb BK763 hb; replace BK764 := zbb BK764 hb; replace HB := zbs HB hb; clear hb hbox hg)))
  (try simp only [Act.put, List.setIfInBounds_toArray, List.set_cons_zero, List.set_cons_succ])
  go_cut [33] (fun v33 wc => ∃ (kq : Nat) (x33_6 : Bool), v33 = .bool x33_6 ∧ Aside0 (isobathlaw03_GliderEnergies.j0 kq l2 a3 l4 x33_6 a0_0 a0_1 a0_2 a0_3 a0_4 a0_5 a0_6 a1_0 a1_1 a5_0 a5_1 a5_2 a5_3 a5_4 a5_5 = some r) ∧ Aside0 (kq ≤ k) ∧ Aside0 (wc.heap[gb763]? = some (.cells #[.int .i64 a0_0, .int .i64 a0_1, .int .i64 a0_2, .int .i64 a0_3, .int .i64 a0_4, .int .i64 a0_5, .int .i64 a0_6] 29 (0, 0))) ∧ Aside0 (wc.heap[gb764]? = some (.cells #[.int .i64 a1_0, .int .i64 a1_1] 27 (0, 0))) ∧ Aside0 (wc.heap[gb765]? = some (.cells #[.int .i64 a5_0, .int .i64 a5_1, .int .i64 a5_2, .int .i64 a5_3, .int .i64 a5_4, .int .i64 a5_5] 81 (0, 0))) ∧ Aside0 (Below w.heap.size w wc))
  case first =>
    have H := HC7.out
    clear HC7
    by_cases c11 : (l2.length : Int) > 70
    · rw [if_pos c11] at H
      have c11b0 : decide (70 < (l2.length : Int)) = true := decide_eq_true c11
      have c11b1 : decide (70 < l2.length) = true := decide_eq_true (by omega)
      clear c11
      (first | rw [c11b0] | (simp only [i64_w, i32_w]; rw [c11b0]) | skip)
      have H' := Aside0.mk H
      clear H
      go_wp2
      repeat (go_quiet (fail); try go_wp2)
      go_meet
      case rel => exact ⟨_, (true), zq2, H', ⟨zq49⟩, ⟨by (with_reducible repeat (first | refine blk_drewN ?_ _ | refine blk_drew ?_ | refine blk_alloc ?_ _)); exact BK763.out⟩, ⟨by (with_reducible repeat (first | refine blk_drewN ?_ _ | refine blk_drew ?_ | refine blk_alloc ?_ _)); exact BK764.out⟩, ⟨by (with_reducible repeat (first | refine blk_drewN ?_ _ | refine blk_drew ?_ | refine blk_alloc ?_ _)); exact BK765.out⟩, ⟨zbz⟩⟩
    · rw [if_neg c11] at H
      have c11b0 : decide (70 < (l2.length : Int)) = false := decide_eq_false c11
      have c11b1 : decide (70 < l2.length) = false := decide_eq_false (by omega)
      clear c11
      (first | rw [c11b0] | (simp only [i64_w, i32_w]; rw [c11b0]) | skip)
      have H' := Aside0.mk H
      clear H
      go_wp2
      repeat (go_quiet (fail); try go_wp2)
      go_meet
      case rel => exact ⟨_, (decide ((l4.length : Int) > 70)), zq2, H', ⟨zq49⟩, ⟨by (with_reducible repeat (first | refine blk_drewN ?_ _ | refine blk_drew ?_ | refine blk_alloc ?_ _)); exact BK763.out⟩, ⟨by (with_reducible repeat (first | refine blk_drewN ?_ _ | refine blk_drew ?_ | refine blk_alloc ?_ _)); exact BK764.out⟩, ⟨by (with_reducible repeat (first | refine blk_drewN ?_ _ | refine blk_drew ?_ | refine blk_alloc ?_ _)); exact BK765.out⟩, ⟨zbz⟩⟩
  case rest =>
    clear HC7
    try clear c1
    try clear c2
    try clear p2
    try clear c4
    try clear c10
    try clear c11
    try clear c11b0
    try clear c11b1
    obtain ⟨kq, x33_6, rfl, HA, HJ6, BK763, BK764, BK765, HB⟩ := hcut
    cases kq with
    | zero => exact absurd HA.out (by simp [isobathlaw03_GliderEnergies.j0])
    | succ kj6 =>
      have H := HA.out
      clear HA
      simp only [isobathlaw03_GliderEnergies.j0] at H
      by_cases c12 : x33_6 = true
      · subst c12
        have H1 : ((isobathlaw03_Works.f kj6).bind fun t766 => (some t766)) = some r := by rw [if_pos rfl] at H; exact H
        clear H
        have H := H1
        clear H1
        replace H := Option.bind_eq_some_iff.mp H
        obtain ⟨t766, A130, H⟩ := H
        replace H : (some t766) = some r := H
        have A13 := Aside0.mk A130
        clear A130
        obtain rfl := Option.some.inj H
        go_wp2_with (first | (go_at_call 19; (with_reducible refine (isobathlaw03_Works.calls kj6  t766 _ A13.out).mono ?_); rintro e w14 ⟨rfl, hb⟩; replace BK763 := zbb BK763 hb; replace BK764 := zbb BK764 hb; replace BK765 := zbb BK765 hb; replace HB := zbs HB hb; (try clear hb); (try clear hb2); (try clear hk); (try clear hi)))
        repeat (go_quiet (first | (go_at_call 19; (with_reducible refine (isobathlaw03_Works.calls kj6  t766 _ A13.out).mono ?_); rintro e w14 ⟨rfl, hb⟩; replace BK763 := zbb BK763 hb; replace BK764 := zbb BK764 hb; replace BK765 := zbb BK765 hb; replace HB := zbs HB hb; (try clear hb); (try clear hb2); (try clear hk); (try clear hi))); try go_wp2_with (first | (go_at_call 19; (with_reducible refine (isobathlaw03_Works.calls kj6  t766 _ A13.out).mono ?_); rintro e w14 ⟨rfl, hb⟩; replace BK763 := zbb BK763 hb; replace BK764 := zbb BK764 hb; replace BK765 := zbb BK765 hb; replace HB := zbs HB hb; (try clear hb); (try clear hb2); (try clear hk); (try clear hi))))
        go_ret
        exact ⟨zq6, zbz⟩
      · replace c12 := Bool.eq_false_iff.mpr c12
        subst c12
        have H1 : ((glider_Energy.f kj6 a0_0 a0_1 a0_2 a0_3 a0_4 a0_5 a0_6 a1_0 a1_1 l2).bind fun bt767 => ((isobathref03_Energy.f kj6 a0_0 a0_1 a0_2 a0_3 a0_4 a0_5 a0_6 a1_0 a1_1 l2).bind fun bt772 => (if bt767.2.1 = bt772.2.1 then (if bt767.2.2 = bt772.2.2 then (isobathlaw03_GliderEnergies.j1 kj6 a3 l4 bt767.1 bt772.1 ((bt767.1.length : Int) != (bt772.1.length : Int)) a0_0 a0_1 a0_2 a0_3 a0_4 a0_5 a0_6 a1_0 a1_1 a5_0 a5_1 a5_2 a5_3 a5_4 a5_5) else (isobathlaw03_GliderEnergies.j1 kj6 a3 l4 bt767.1 bt772.1 true a0_0 a0_1 a0_2 a0_3 a0_4 a0_5 a0_6 a1_0 a1_1 a5_0 a5_1 a5_2 a5_3 a5_4 a5_5)) else (isobathlaw03_GliderEnergies.j1 kj6 a3 l4 bt767.1 bt772.1 true a0_0 a0_1 a0_2 a0_3 a0_4 a0_5 a0_6 a1_0 a1_1 a5_0 a5_1 a5_2 a5_3 a5_4 a5_5)))) = some r := by rw [if_neg (show ¬ (false = true) by decide)] at H; exact H
        clear H
        have H := H1
        clear H1
        replace H := Option.bind_eq_some_iff.mp H
        obtain ⟨⟨t767, t770, t771⟩, A150, H⟩ := H
        replace H : ((isobathref03_Energy.f kj6 a0_0 a0_1 a0_2 a0_3 a0_4 a0_5 a0_6 a1_0 a1_1 l2).bind fun bt772 => (if t770 = bt772.2.1 then (if t771 = bt772.2.2 then (isobathlaw03_GliderEnergies.j1 kj6 a3 l4 t767 bt772.1 ((t767.length : Int) != (bt772.1.length : Int)) a0_0 a0_1 a0_2 a0_3 a0_4 a0_5 a0_6 a1_0 a1_1 a5_0 a5_1 a5_2 a5_3 a5_4 a5_5) else (isobathlaw03_GliderEnergies.j1 kj6 a3 l4 t767 bt772.1 true a0_0 a0_1 a0_2 a0_3 a0_4 a0_5 a0_6 a1_0 a1_1 a5_0 a5_1 a5_2 a5_3 a5_4 a5_5)) else (isobathlaw03_GliderEnergies.j1 kj6 a3 l4 t767 bt772.1 true a0_0 a0_1 a0_2 a0_3 a0_4 a0_5 a0_6 a1_0 a1_1 a5_0 a5_1 a5_2 a5_3 a5_4 a5_5))) = some r := H
        have A15 := Aside0.mk A150
        clear A150
        replace H := Option.bind_eq_some_iff.mp H
        obtain ⟨⟨t772, t775, t776⟩, A160, H⟩ := H
        replace H : (if t770 = t775 then (if t771 = t776 then (isobathlaw03_GliderEnergies.j1 kj6 a3 l4 t767 t772 ((t767.length : Int) != (t772.length : Int)) a0_0 a0_1 a0_2 a0_3 a0_4 a0_5 a0_6 a1_0 a1_1 a5_0 a5_1 a5_2 a5_3 a5_4 a5_5) else (isobathlaw03_GliderEnergies.j1 kj6 a3 l4 t767 t772 true a0_0 a0_1 a0_2 a0_3 a0_4 a0_5 a0_6 a1_0 a1_1 a5_0 a5_1 a5_2 a5_3 a5_4 a5_5)) else (isobathlaw03_GliderEnergies.j1 kj6 a3 l4 t767 t772 true a0_0 a0_1 a0_2 a0_3 a0_4 a0_5 a0_6 a1_0 a1_1 a5_0 a5_1 a5_2 a5_3 a5_4 a5_5)) = some r := H
        have A16 := Aside0.mk A160
        clear A160
        have HC17 := Aside0.mk H
        clear H
        have hnb18 := NB763_764.out
        have hnc18 := NB764_763.out
        have hnb19 := NB763_765.out
        have hnc19 := NB765_763.out
        obtain ⟨hcz20_0, hcz20_1, hcz20_2, hcz20_3, hcz20_4, hcz20_5, hcz20_6, hfz20_0, hfz20_1, hfz20_2, hfz20_3, hfz20_4, hfz20_5, hfz20_6⟩ := zce7 BK763.out
        have hnb21 := NB764_765.out
        have hnc21 := NB765_764.out
        obtain ⟨hcz22_0, hcz22_1, hfz22_0, hfz22_1⟩ := zce2 BK764.out
        go_upto_region 5 with (first | (go_at_call 38; (with_reducible refine (glider_Energy.calls kj6 a0_0 a0_1 a0_2 a0_3 a0_4 a0_5 a0_6 a1_0 a1_1 _ _ l2 t767 t770 t771 _ ?side1 ?side2 A15.out).mono ?_); (case side1 => repeat (first | exact (Kd.C_below HR2.out HB.out) | (with_reducible refine Kd.C_alloc ?_ _) | (with_reducible refine Kd.C_drewN ?_ _) | (with_reducible refine Kd.C_drew ?_))); (case side2 => exact HC2.out); rintro e w23 ⟨v768, rfl, ho0, hb⟩; have n0_ := Aside0.mk (Kd.R_lower (Kd.R_newB ho0 (g := gb764) (o := .cells #[.int .i64 a1_0, .int .i64 a1_1] 27 (0, 0)) (by (with_reducible repeat (first | refine blk_drewN ?_ _ | refine blk_drew ?_ | refine blk_alloc ?_ _)); exact BK764.out)) (below_size zbz)); have n1_ := zbb BK763 hb; have n2_ := zbb BK764 hb; have n3_ := zbb BK765 hb; have n4_ := zbs HB hb; clear BK763; clear BK764; clear BK765; clear HB; have HO769 := n0_; have BK763 := n1_; have BK764 := n2_; have BK765 := n3_; have HB := n4_; clear n0_ n1_ n2_ n3_ n4_; (try clear hb); (try clear hb2); (try clear hk); (try clear hi); (try clear ho0); obtain ⟨hcz24_0, hcz24_1, hcz24_2, hcz24_3, hcz24_4, hcz24_5, hcz24_6, hfz24_0, hfz24_1, hfz24_2, hfz24_3, hfz24_4, hfz24_5, hfz24_6⟩ := zce7 BK763.out; obtain ⟨hcz25_0, hcz25_1, hfz25_0, hfz25_1⟩ := zce2 BK764.out) | (go_at_call 44; (with_reducible refine (isobathref03_Energy.calls kj6 a0_0 a0_1 a0_2 a0_3 a0_4 a0_5 a0_6 a1_0 a1_1 _ _ l2 t772 t775 t776 _ ?side1 ?side2 A16.out).mono ?_); (case side1 => repeat (first | exact (Kd.C_below HR2.out HB.out) | (with_reducible refine Kd.C_alloc ?_ _) | (with_reducible refine Kd.C_drewN ?_ _) | (with_reducible refine Kd.C_drew ?_))); (case side2 => exact HC2.out); rintro e w26 ⟨v773, rfl, ho0, hb⟩; have n0_ := Aside0.mk (Kd.R_elder' zq50 (Kd.R_base ho0) hb); have n1_ := Aside0.mk (Kd.R_lower (Kd.R_newB (Kd.R_new' ho0 (Kd.R_lt zq50)) (g := gb764) (o := .cells #[.int .i64 a1_0, .int .i64 a1_1] 27 (0, 0)) (by (with_reducible repeat (first | refine blk_drewN ?_ _ | refine blk_drew ?_ | refine blk_alloc ?_ _)); exact BK764.out)) (below_size zbz)); have n2_ := zbb BK763 hb; have n3_ := zbb BK764 hb; have n4_ := zbb BK765 hb; have n5_ := zbs HB hb; clear HO769; clear BK763; clear BK764; clear BK765; clear HB; have HO769 := n0_; have HO774 := n1_; have BK763 := n2_; have BK764 := n3_; have BK765 := n4_; have HB := n5_; clear n0_ n1_ n2_ n3_ n4_ n5_; (try clear hb); (try clear hb2); (try clear hk); (try clear hi); (try clear ho0)))
        repeat (go_quiet (first | (go_at_call 38; (with_reducible refine (glider_Energy.calls kj6 a0_0 a0_1 a0_2 a0_3 a0_4 a0_5 a0_6 a1_0 a1_1 _ _ l2 t767 t770 t771 _ ?side1 ?side2 A15.out).mono ?_); (case side1 => repeat (first | exact (Kd.C_below HR2.out HB.out) | (with_reducible refine Kd.C_alloc ?_ _) | (with_reducible refine Kd.C_drewN ?_ _) | (with_reducible refine Kd.C_drew ?_))); (case side2 => exact HC2.out); rintro e w23 ⟨v768, rfl, ho0, hb⟩; have n0_ := Aside0.mk (Kd.R_lower (Kd.R_newB ho0 (g := gb764) (o := .cells #[.int .i64 a1_0, .int .i64 a1_1] 27 (0, 0)) (by (with_reducible repeat (first | refine blk_drewN ?_ _ | refine blk_drew ?_ | refine blk_alloc ?_ _)); exact BK764.out)) (below_size zbz)); have n1_ := zbb BK763 hb; have n2_ := zbb BK764 hb; have n3_ := zbb BK765 hb; have n4_ := zbs HB hb; clear BK763; clear BK764; clear BK765; clear HB; have HO769 := n0_; have BK763 := n1_; have BK764 := n2_; have BK765 := n3_; have HB := n4_; clear n0_ n1_ n2_ n3_ n4_; (try clear hb); (try clear hb2); (try clear hk); (try clear hi); (try clear ho0); obtain ⟨hcz24_0, hcz24_1, hcz24_2, hcz24_3, hcz24_4, hcz24_5, hcz24_6, hfz24_0, hfz24_1, hfz24_2, hfz24_3, hfz24_4, hfz24_5, hfz24_6⟩ := zce7 BK763.out; obtain ⟨hcz25_0, hcz25_1, hfz25_0, hfz25_1⟩ := zce2 BK764.out) | (go_at_call 44; (with_reducible refine (isobathref03_Energy.calls kj6 a0_0 a0_1 a0_2 a0_3 a0_4 a0_5 a0_6 a1_0 a1_1 _ _ l2 t772 t775 t776 _ ?side1 ?side2 A16.out).mono ?_); (case side1 => repeat (first | exact (Kd.C_below HR2.out HB.out) | (with_reducible refine Kd.C_alloc ?_ _) | (with_reducible refine Kd.C_drewN ?_ _) | (with_reducible refine Kd.C_drew ?_))); (case side2 => exact HC2.out); rintro e w26 ⟨v773, rfl, ho0, hb⟩; have n0_ := Aside0.mk (Kd.R_elder' zq50 (Kd.R_base ho0) hb); have n1_ := Aside0.mk (Kd.R_lower (Kd.R_newB (Kd.R_new' ho0 (Kd.R_lt zq50)) (g := gb764) (o := .cells #[.int .i64 a1_0, .int .i64 a1_1] 27 (0, 0)) (by (with_reducible repeat (first | refine blk_drewN ?_ _ | refine blk_drew ?_ | refine blk_alloc ?_ _)); exact BK764.out)) (below_size zbz)); have n2_ := zbb BK763 hb; have n3_ := zbb BK764 hb; have n4_ := zbb BK765 hb; have n5_ := zbs HB hb; clear HO769; clear BK763; clear BK764; clear BK765; clear HB; have HO769 := n0_; have HO774 := n1_; have BK763 := n2_; have BK764 := n3_; have BK765 := n4_; have HB := n5_; clear n0_ n1_ n2_ n3_ n4_ n5_; (try clear hb); (try clear hb2); (try clear hk); (try clear hi); (try clear ho0))); go_upto_region 5 with (first | (go_at_call 38; (with_reducible refine (glider_Energy.calls kj6 a0_0 a0_1 a0_2 a0_3 a0_4 a0_5 a0_6 a1_0 a1_1 _ _ l2 t767 t770 t771 _ ?side1 ?side2 A15.out).mono ?_); (case side1 => repeat (first | exact (Kd.C_below HR2.out HB.out) | (with_reducible refine Kd.C_alloc ?_ _) | (with_reducible refine Kd.C_drewN ?_ _) | (with_reducible refine Kd.C_drew ?_))); (case side2 => exact HC2.out); rintro e w23 ⟨v768, rfl, ho0, hb⟩; have n0_ := Aside0.mk (Kd.R_lower (Kd.R_newB ho0 (g := gb764) (o := .cells #[.int .i64 a1_0, .int .i64 a1_1] 27 (0, 0)) (by (with_reducible repeat (first | refine blk_drewN ?_ _ | refine blk_drew ?_ | refine blk_alloc ?_ _)); exact BK764.out)) (below_size zbz)); have n1_ := zbb BK763 hb; have n2_ := zbb BK764 hb; have n3_ := zbb BK765 hb; have n4_ := zbs HB hb; clear BK763; clear BK764; clear BK765; clear HB; have HO769 := n0_; have BK763 := n1_; have BK764 := n2_; have BK765 := n3_; have HB := n4_; clear n0_ n1_ n2_ n3_ n4_; (try clear hb); (try clear hb2); (try clear hk); (try clear hi); (try clear ho0); obtain ⟨hcz24_0, hcz24_1, hcz24_2, hcz24_3, hcz24_4, hcz24_5, hcz24_6, hfz24_0, hfz24_1, hfz24_2, hfz24_3, hfz24_4, hfz24_5, hfz24_6⟩ := zce7 BK763.out; obtain ⟨hcz25_0, hcz25_1, hfz25_0, hfz25_1⟩ := zce2 BK764.out) | (go_at_call 44; (with_reducible refine (isobathref03_Energy.calls kj6 a0_0 a0_1 a0_2 a0_3 a0_4 a0_5 a0_6 a1_0 a1_1 _ _ l2 t772 t775 t776 _ ?side1 ?side2 A16.out).mono ?_); (case side1 => repeat (first | exact (Kd.C_below HR2.out HB.out) | (with_reducible refine Kd.C_alloc ?_ _) | (with_reducible refine Kd.C_drewN ?_ _) | (with_reducible refine Kd.C_drew ?_))); (case side2 => exact HC2.out); rintro e w26 ⟨v773, rfl, ho0, hb⟩; have n0_ := Aside0.mk (Kd.R_elder' zq50 (Kd.R_base ho0) hb); have n1_ := Aside0.mk (Kd.R_lower (Kd.R_newB (Kd.R_new' ho0 (Kd.R_lt zq50)) (g := gb764) (o := .cells #[.int .i64 a1_0, .int .i64 a1_1] 27 (0, 0)) (by (with_reducible repeat (first | refine blk_drewN ?_ _ | refine blk_drew ?_ | refine blk_alloc ?_ _)); exact BK764.out)) (below_size zbz)); have n2_ := zbb BK763 hb; have n3_ := zbb BK764 hb; have n4_ := zbb BK765 hb; have n5_ := zbs HB hb; clear HO769; clear BK763; clear BK764; clear BK765; clear HB; have HO769 := n0_; have HO774 := n1_; have BK763 := n2_; have BK764 := n3_; have BK765 := n4_; have HB := n5_; clear n0_ n1_ n2_ n3_ n4_ n5_; (try clear hb); (try clear hb2); (try clear hk); (try clear hi); (try clear ho0))))
        (try simp only [Act.put, List.setIfInBounds_toArray, List.set_cons_zero, List.set_cons_succ])
        go_cut [65] (fun v65 wc => ∃ (kq : Nat) (x65_16 : Bool), v65 = .bool x65_16 ∧ Aside0 (isobathlaw03_GliderEnergies.j1 kq a3 l4 t767 t772 x65_16 a0_0 a0_1 a0_2 a0_3 a0_4 a0_5 a0_6 a1_0 a1_1 a5_0 a5_1 a5_2 a5_3 a5_4 a5_5 = some r) ∧ Aside0 (kq ≤ kj6) ∧ Aside0 (Kd.R k27 27 wc w.heap.size (fun k_ => some k_ ≠ (v773 : Value).ownBlock ∧ k_ ≠ gb764) v768 t767) ∧ Aside0 (Kd.R k27 27 wc w.heap.size (fun k_ => some k_ ≠ (v768 : Value).ownBlock ∧ k_ ≠ gb764) v773 t772) ∧ Aside0 (wc.heap[gb763]? = some (.cells #[.int .i64 a0_0, .int .i64 a0_1, .int .i64 a0_2, .int .i64 a0_3, .int .i64 a0_4, .int .i64 a0_5, .int .i64 a0_6] 29 (0, 0))) ∧ Aside0 (wc.heap[gb764]? = some (.cells #[.int .i64 a1_0, .int .i64 a1_1] 27 (0, 0))) ∧ Aside0 (wc.heap[gb765]? = some (.cells #[.int .i64 a5_0, .int .i64 a5_1, .int .i64 a5_2, .int .i64 a5_3, .int .i64 a5_4, .int .i64 a5_5] 81 (0, 0))) ∧ Aside0 (Below w.heap.size w wc))
        case first =>
          have H := HC17.out
          clear HC17
          by_cases c27 : t770 = t775
          · rw [if_pos c27] at H
            have c27b0 : (t770 == t775) = true := beq_iff_eq.mpr c27
            have c27b1 : (t770 != t775) = false := bne_eq_false_iff_eq.mpr c27
            clear c27
            (first | rw [c27b0] | (simp only [i64_w, i32_w]; rw [c27b0]) | skip)
            by_cases c28 : t771 = t776
            · rw [if_pos c28] at H
              have c28b0 : (t771 == t776) = true := beq_iff_eq.mpr c28
              have c28b1 : (t771 != t776) = false := bne_eq_false_iff_eq.mpr c28
              clear c28
              have H' := Aside0.mk H
              clear H
              obtain ⟨Ao29, co29, eo29⟩ := Kd.R_slice HO769.out
              subst eo29
              obtain ⟨Ao30, co30, eo30⟩ := Kd.R_slice HO774.out
              subst eo30
              go_wp2
              repeat (go_quiet (fail); try go_wp2)
              go_meet
              case rel => exact ⟨_, (((t767.length : Int) != (t772.length : Int))), zq2, H', ⟨by have := HJ6.out; first | omega | exact Nat.le_refl _⟩, ⟨zq51⟩, ⟨zq52⟩, ⟨by (with_reducible repeat (first | refine blk_drewN ?_ _ | refine blk_drew ?_ | refine blk_alloc ?_ _)); exact BK763.out⟩, ⟨by (with_reducible repeat (first | refine blk_drewN ?_ _ | refine blk_drew ?_ | refine blk_alloc ?_ _)); exact BK764.out⟩, ⟨by (with_reducible repeat (first | refine blk_drewN ?_ _ | refine blk_drew ?_ | refine blk_alloc ?_ _)); exact BK765.out⟩, ⟨zbz⟩⟩
            · rw [if_neg c28] at H
              have c28b0 : (t771 == t776) = false := beq_eq_false_iff_ne.mpr c28
              have c28b1 : (t771 != t776) = true := bne_iff_ne.mpr c28
              have H' := Aside0.mk H
              clear H
              go_wp2
              repeat (go_quiet (fail); try go_wp2)
              go_meet
              case rel => exact ⟨_, (true), zq2, H', ⟨by have := HJ6.out; first | omega | exact Nat.le_refl _⟩, ⟨zq51⟩, ⟨zq52⟩, ⟨by (with_reducible repeat (first | refine blk_drewN ?_ _ | refine blk_drew ?_ | refine blk_alloc ?_ _)); exact BK763.out⟩, ⟨by (with_reducible repeat (first | refine blk_drewN ?_ _ | refine blk_drew ?_ | refine blk_alloc ?_ _)); exact BK764.out⟩, ⟨by (with_reducible repeat (first | refine blk_drewN ?_ _ | refine blk_drew ?_ | refine blk_alloc ?_ _)); exact BK765.out⟩, ⟨zbz⟩⟩
          · rw [if_neg c27] at H
            have c27b0 : (t770 == t775) = false := beq_eq_false_iff_ne.mpr c27
            have c27b1 : (t770 != t775) = true := bne_iff_ne.mpr c27
            (first | rw [c27b0] | (simp only [i64_w, i32_w]; rw [c27b0]) | skip)
            have H' := Aside0.mk H
            clear H
            go_wp2
            repeat (go_quiet (fail); try go_wp2)
            go_meet
            case rel => exact ⟨_, (true), zq2, H', ⟨by have := HJ6.out; first | omega | exact Nat.le_refl _⟩, ⟨zq51⟩, ⟨zq52⟩, ⟨by (with_reducible repeat (first | refine blk_drewN ?_ _ | refine blk_drew ?_ | refine blk_alloc ?_ _)); exact BK763.out⟩, ⟨by (with_reducible repeat (first | refine blk_drewN ?_ _ | refine blk_drew ?_ | refine blk_alloc ?_ _)); exact BK764.out⟩, ⟨by (with_reducible repeat (first | refine blk_drewN ?_ _ | refine blk_drew ?_ | refine blk_alloc ?_ _)); exact BK765.out⟩, ⟨zbz⟩⟩
        case rest =>
          clear HC17
          try clear c1
          try clear c2
          try clear p2
          try clear c4
          try clear c10
          try clear c11
          try clear c11b0
          try clear c11b1
          try clear c12
          try clear c18
          try clear c19
          try clear c21
          try clear c27
          try clear c27b0
          try clear c27b1
          try clear c28
          try clear c28b0
          try clear c28b1
          try clear hcz20_0
          try clear hcz20_1
          try clear hcz20_2
          try clear hcz20_3
          try clear hcz20_4
          try clear hcz20_5
          try clear hcz20_6
          try clear hcz22_0
          try clear hcz22_1
          try clear hcz24_0
          try clear hcz24_1
          try clear hcz24_2
          try clear hcz24_3
          try clear hcz24_4
          try clear hcz24_5
          try clear hcz24_6
          try clear hcz25_0
          try clear hcz25_1
          try clear hfz20_0
          try clear hfz20_1
          try clear hfz20_2
          try clear hfz20_3
          try clear hfz20_4
          try clear hfz20_5
          try clear hfz20_6
          try clear hfz22_0
          try clear hfz22_1
          try clear hfz24_0
          try clear hfz24_1
          try clear hfz24_2
          try clear hfz24_3
          try clear hfz24_4
          try clear hfz24_5
          try clear hfz24_6
          try clear hfz25_0
          try clear hfz25_1
          try clear p2
          obtain ⟨kq, x65_16, rfl, HA, HJ16, HO_13, HO_16, BK763, BK764, BK765, HB⟩ := hcut
          cases kq with
          | zero => exact absurd HA.out (by simp [isobathlaw03_GliderEnergies.j1])
          | succ kj16 =>
            have H := HA.out
            clear HA
            simp only [isobathlaw03_GliderEnergies.j1] at H
            by_cases c31 : x65_16 = true
            · subst c31
              have H1 : (some false) = some r := by rw [if_pos rfl] at H; exact H
              clear H
              have H := H1
              clear H1
              have hh_ := Option.some.inj H
              rw [hr_.out] at hh_
              cases hh_
            · replace c31 := Bool.eq_false_iff.mpr c31
              subst c31
              have H1 : (isobathlaw03_GliderEnergies.l0 kj16 a3 l4 t767 t772 0 a0_0 a0_1 a0_2 a0_3 a0_4 a0_5 a0_6 a1_0 a1_1 a5_0 a5_1 a5_2 a5_3 a5_4 a5_5) = some r := by rw [if_neg (show ¬ (false = true) by decide)] at H; exact H
              clear H
              have H := H1
              clear H1
              have H' := Aside0.mk H
              clear H
              go_wp2
              repeat (go_quiet (fail); try go_wp2)
              go_loopg [19] kj16 (fun kq v19 w' => ∃ (x19_3 : Int), v19 = .int .i64 x19_3 ∧ Aside0 (isobathlaw03_GliderEnergies.l0 kq a3 l4 t767 t772 x19_3 a0_0 a0_1 a0_2 a0_3 a0_4 a0_5 a0_6 a1_0 a1_1 a5_0 a5_1 a5_2 a5_3 a5_4 a5_5 = some r) ∧ Aside0 (kq ≤ kj16) ∧ Aside0 (Kd.R k27 27 w' w.heap.size (fun k_ => some k_ ≠ (v773 : Value).ownBlock ∧ k_ ≠ gb764) v768 t767) ∧ Aside0 (Kd.R k27 27 w' w.heap.size (fun k_ => some k_ ≠ (v768 : Value).ownBlock ∧ k_ ≠ gb764) v773 t772) ∧ Aside0 (w'.heap[gb763]? = some (.cells #[.int .i64 a0_0, .int .i64 a0_1, .int .i64 a0_2, .int .i64 a0_3, .int .i64 a0_4, .int .i64 a0_5, .int .i64 a0_6] 29 (0, 0))) ∧ Aside0 (w'.heap[gb764]? = some (.cells #[.int .i64 a1_0, .int .i64 a1_1] 27 (0, 0))) ∧ Aside0 (w'.heap[gb765]? = some (.cells #[.int .i64 a5_0, .int .i64 a5_1, .int .i64 a5_2, .int .i64 a5_3, .int .i64 a5_4, .int .i64 a5_5] 81 (0, 0))) ∧ Aside0 (Below w.heap.size w w'))
              case atStart => exact ⟨(0), zq2, H', ⟨Nat.le_refl _⟩, ⟨zq53⟩, ⟨zq54⟩, ⟨by (with_reducible repeat (first | refine blk_drewN ?_ _ | refine blk_drew ?_ | refine blk_alloc ?_ _)); exact BK763.out⟩, ⟨by (with_reducible repeat (first | refine blk_drewN ?_ _ | refine blk_drew ?_ | refine blk_alloc ?_ _)); exact BK764.out⟩, ⟨by (with_reducible repeat (first | refine blk_drewN ?_ _ | refine blk_drew ?_ | refine blk_alloc ?_ _)); exact BK765.out⟩, ⟨zbz⟩⟩
              case round =>
                clear H'
                try clear c1
                try clear c2
                try clear p2
                try clear c3
                try clear c4
                try clear c10
                try clear c11
                try clear c11b0
                try clear c11b1
                try clear c12
                try clear c18
                try clear c19
                try clear c21
                try clear c27
                try clear c27b0
                try clear c27b1
                try clear c28
                try clear c28b0
                try clear c28b1
                try clear c31
                try clear hcz20_0
                try clear hcz20_1
                try clear hcz20_2
                try clear hcz20_3
                try clear hcz20_4
                try clear hcz20_5
                try clear hcz20_6
                try clear hcz22_0
                try clear hcz22_1
                try clear hcz24_0
                try clear hcz24_1
                try clear hcz24_2
                try clear hcz24_3
                try clear hcz24_4
                try clear hcz24_5
                try clear hcz24_6
                try clear hcz25_0
                try clear hcz25_1
                try clear hfz20_0
                try clear hfz20_1
                try clear hfz20_2
                try clear hfz20_3
                try clear hfz20_4
                try clear hfz20_5
                try clear hfz20_6
                try clear hfz22_0
                try clear hfz22_1
                try clear hfz24_0
                try clear hfz24_1
                try clear hfz24_2
                try clear hfz24_3
                try clear hfz24_4
                try clear hfz24_5
                try clear hfz24_6
                try clear hfz25_0
                try clear hfz25_1
                try clear p2
                obtain ⟨x19_3, rfl, HA, HK3, HO_13, HO_16, BK763, BK764, BK765, HB⟩ := hrel
                cases gk with
                | zero => exact absurd HA.out (by simp [isobathlaw03_GliderEnergies.l0])
                | succ k3 =>
                  have H := HA.out
                  clear HA
                  simp only [isobathlaw03_GliderEnergies.l0] at H
                  by_cases c32 : x19_3 < (t767.length : Int)
                  · rw [if_pos c32] at H
                    have c32b0 : decide (x19_3 < (t767.length : Int)) = true := decide_eq_true c32
                    clear c32
                    by_cases c33 : 0 ≤ x19_3
                    · rw [if_pos c33] at H
                      have c33b0 : decide (0 ≤ x19_3) = true := decide_eq_true c33
                      clear c33
                      by_cases c34 : x19_3 < (t772.length : Int)
                      · rw [if_pos c34] at H
                        have c34b0 : decide (x19_3 < (t772.length : Int)) = true := decide_eq_true c34
                        clear c34
                        by_cases c35 : (!(((rd_T27 t767 x19_3).f0) == ((rd_T27 t772 x19_3).f0)) || (!(((rd_T27 t767 x19_3).f1) == ((rd_T27 t772 x19_3).f1)))) = true
                        · rw [if_pos c35] at H
                          have c35b0 : (!(((rd_T27 t767 x19_3).f0) == ((rd_T27 t772 x19_3).f0)) || (!(((rd_T27 t767 x19_3).f1) == ((rd_T27 t772 x19_3).f1)))) = true := c35
                          clear c35
                          have hh_ := Option.some.inj H
                          rw [hr_.out] at hh_
                          cases hh_
                        · rw [if_neg c35] at H
                          have c35b0 : (!(((rd_T27 t767 x19_3).f0) == ((rd_T27 t772 x19_3).f0)) || (!(((rd_T27 t767 x19_3).f1) == ((rd_T27 t772 x19_3).f1)))) = false := by simpa using c35
                          clear c35
                          have H' := Aside0.mk H
                          clear H
                          obtain ⟨Ao38, co38, eo38⟩ := Kd.R_slice HO_13.out
                          subst eo38
                          have p777 : 0 ≤ (x19_3 : Int) := of_decide_eq_true zq4
                          have q777 : x19_3 < (t767.length : Int) := of_decide_eq_true zq4
                          obtain ⟨ad777, e777, hx777_0, hx777_1⟩ := at_T27 (Kd.R_reads' HO_13.out).2.2 x19_3 p777 q777
                          cases e777
                          replace p777 := eq_true p777
                          replace q777 := eq_true q777
                          obtain ⟨Ao39, co39, eo39⟩ := Kd.R_slice HO_16.out
                          subst eo39
                          have p778 : 0 ≤ (x19_3 : Int) := of_decide_eq_true zq4
                          have q778 : x19_3 < (t772.length : Int) := of_decide_eq_true zq4
                          obtain ⟨ad778, e778, hx778_0, hx778_1⟩ := at_T27 (Kd.R_reads' HO_16.out).2.2 x19_3 p778 q778
                          cases e778
                          replace p778 := eq_true p778
                          replace q778 := eq_true q778
                          go_wp2
                          repeat (go_quiet (fail); try go_wp2)
                          go_roundg k3
                          case measure => have := HJ6.out; have := HJ16.out; have := HK3.out; omega
                          case rel => exact ⟨(wrap64 (x19_3 + 1)), zq2, H', ⟨by have := HJ6.out; have := HJ16.out; have := HK3.out; omega⟩, ⟨zq53⟩, ⟨zq54⟩, ⟨by (with_reducible repeat (first | refine blk_drewN ?_ _ | refine blk_drew ?_ | refine blk_alloc ?_ _)); exact BK763.out⟩, ⟨by (with_reducible repeat (first | refine blk_drewN ?_ _ | refine blk_drew ?_ | refine blk_alloc ?_ _)); exact BK764.out⟩, ⟨by (with_reducible repeat (first | refine blk_drewN ?_ _ | refine blk_drew ?_ | refine blk_alloc ?_ _)); exact BK765.out⟩, ⟨zbz⟩⟩
                      · rw [if_neg c34] at H
                        exact absurd H (by simp)
                    · rw [if_neg c33] at H
                      exact absurd H (by simp)
                  · rw [if_neg c32] at H
                    have c32b0 : decide (x19_3 < (t767.length : Int)) = false := decide_eq_false c32
                    clear c32
                    replace H := Option.bind_eq_some_iff.mp H
                    obtain ⟨⟨t779, t780⟩, A400, H⟩ := H
                    replace H : ((isobathref03_Lasts.f a0_0 a0_1 a0_2 a0_3 a0_4 a0_5 a0_6 a1_0 a1_1).bind fun bt781 => ((glider_Fetched.f k3 a0_0 a0_1 a0_2 a0_3 a0_4 a0_5 a0_6 a3 l4 a5_0 a5_1 a5_2 a5_3 a5_4 a5_5).bind fun bt783 => ((isobathref03_Fetched.f k3 a0_0 a0_1 a0_2 a0_3 a0_4 a0_5 a0_6 a3 l4 a5_0 a5_1 a5_2 a5_3 a5_4 a5_5).bind fun bt785 => (if t779 = bt781.1 then (if t780 = bt781.2 then (if bt783.1 = bt785.1 then (if bt783.2 = bt785.2 then ((isobathlaw03_Works.f k3).bind fun t787 => (some t787)) else (some false)) else (some false)) else (some false)) else (some false))))) = some r := H
                    have A40 := Aside0.mk A400
                    clear A400
                    replace H := Option.bind_eq_some_iff.mp H
                    obtain ⟨⟨t781, t782⟩, A410, H⟩ := H
                    replace H : ((glider_Fetched.f k3 a0_0 a0_1 a0_2 a0_3 a0_4 a0_5 a0_6 a3 l4 a5_0 a5_1 a5_2 a5_3 a5_4 a5_5).bind fun bt783 => ((isobathref03_Fetched.f k3 a0_0 a0_1 a0_2 a0_3 a0_4 a0_5 a0_6 a3 l4 a5_0 a5_1 a5_2 a5_3 a5_4 a5_5).bind fun bt785 => (if t779 = t781 then (if t780 = t782 then (if bt783.1 = bt785.1 then (if bt783.2 = bt785.2 then ((isobathlaw03_Works.f k3).bind fun t787 => (some t787)) else (some false)) else (some false)) else (some false)) else (some false)))) = some r := H
                    have A41 := Aside0.mk A410
                    clear A410
                    replace H := Option.bind_eq_some_iff.mp H
                    obtain ⟨⟨t783, t784⟩, A420, H⟩ := H
                    replace H : ((isobathref03_Fetched.f k3 a0_0 a0_1 a0_2 a0_3 a0_4 a0_5 a0_6 a3 l4 a5_0 a5_1 a5_2 a5_3 a5_4 a5_5).bind fun bt785 => (if t779 = t781 then (if t780 = t782 then (if t783 = bt785.1 then (if t784 = bt785.2 then ((isobathlaw03_Works.f k3).bind fun t787 => (some t787)) else (some false)) else (some false)) else (some false)) else (some false))) = some r := H
                    have A42 := Aside0.mk A420
                    clear A420
                    replace H := Option.bind_eq_some_iff.mp H
                    obtain ⟨⟨t785, t786⟩, A430, H⟩ := H
                    replace H : (if t779 = t781 then (if t780 = t782 then (if t783 = t785 then (if t784 = t786 then ((isobathlaw03_Works.f k3).bind fun t787 => (some t787)) else (some false)) else (some false)) else (some false)) else (some false)) = some r := H
                    have A43 := Aside0.mk A430
                    clear A430
                    by_cases c44 : t779 = t781
                    · rw [if_pos c44] at H
                      have c44b0 : (t779 == t781) = true := beq_iff_eq.mpr c44
                      have c44b1 : (t779 != t781) = false := bne_eq_false_iff_eq.mpr c44
                      clear c44
                      by_cases c45 : t780 = t782
                      · rw [if_pos c45] at H
                        have c45b0 : (t780 == t782) = true := beq_iff_eq.mpr c45
                        have c45b1 : (t780 != t782) = false := bne_eq_false_iff_eq.mpr c45
                        clear c45
                        by_cases c46 : t783 = t785
                        · rw [if_pos c46] at H
                          have c46b0 : (t783 == t785) = true := beq_iff_eq.mpr c46
                          have c46b1 : (t783 != t785) = false := bne_eq_false_iff_eq.mpr c46
                          clear c46
                          by_cases c47 : t784 = t786
                          · rw [if_pos c47] at H
                            have c47b0 : (t784 == t786) = true := beq_iff_eq.mpr c47
                            have c47b1 : (t784 != t786) = false := bne_eq_false_iff_eq.mpr c47
                            clear c47
                            replace H := Option.bind_eq_some_iff.mp H
                            obtain ⟨t787, A480, H⟩ := H
                            replace H : (some t787) = some r := H
                            have A48 := Aside0.mk A480
                            clear A480
                            obtain rfl := Option.some.inj H
                            obtain ⟨Ao49, co49, eo49⟩ := Kd.R_slice HO_13.out
                            subst eo49
                            have hnb50 := NB763_764.out
                            have hnc50 := NB764_763.out
                            have hnb51 := NB763_765.out
                            have hnc51 := NB765_763.out
                            obtain ⟨hcz52_0, hcz52_1, hcz52_2, hcz52_3, hcz52_4, hcz52_5, hcz52_6, hfz52_0, hfz52_1, hfz52_2, hfz52_3, hfz52_4, hfz52_5, hfz52_6⟩ := zce7 BK763.out
                            have hnb53 := NB764_765.out
                            have hnc53 := NB765_764.out
                            obtain ⟨hcz54_0, hcz54_1, hfz54_0, hfz54_1⟩ := zce2 BK764.out
                            go_wp2_with (first | (go_at_call 37; (with_reducible refine (glider_Lasts.calls k3 a0_0 a0_1 a0_2 a0_3 a0_4 a0_5 a0_6 a1_0 a1_1 t779 t780 _ A40.out).mono ?_); rintro e w55 ⟨rfl, hb⟩; replace HO_13 := Aside0.mk (Kd.R_below zq53 hb); replace HO_16 := Aside0.mk (Kd.R_below zq54 hb); replace BK763 := zbb BK763 hb; replace BK764 := zbb BK764 hb; replace BK765 := zbb BK765 hb; replace HB := zbs HB hb; (try clear hb); (try clear hb2); (try clear hk); (try clear hi); obtain ⟨hcz56_0, hcz56_1, hcz56_2, hcz56_3, hcz56_4, hcz56_5, hcz56_6, hfz56_0, hfz56_1, hfz56_2, hfz56_3, hfz56_4, hfz56_5, hfz56_6⟩ := zce7 BK763.out; obtain ⟨hcz57_0, hcz57_1, hfz57_0, hfz57_1⟩ := zce2 BK764.out) | (go_at_call 45; (with_reducible refine (isobathref03_Lasts.calls a0_0 a0_1 a0_2 a0_3 a0_4 a0_5 a0_6 a1_0 a1_1 t781 t782 _ A41.out).mono ?_); rintro e w58 ⟨rfl, hb⟩; replace HO_13 := Aside0.mk (Kd.R_below zq53 hb); replace HO_16 := Aside0.mk (Kd.R_below zq54 hb); replace BK763 := zbb BK763 hb; replace BK764 := zbb BK764 hb; replace BK765 := zbb BK765 hb; replace HB := zbs HB hb; (try clear hb); (try clear hb2); (try clear hk); (try clear hi); obtain ⟨hcz59_0, hcz59_1, hcz59_2, hcz59_3, hcz59_4, hcz59_5, hcz59_6, hfz59_0, hfz59_1, hfz59_2, hfz59_3, hfz59_4, hfz59_5, hfz59_6⟩ := zce7 BK763.out; obtain ⟨hcz60_0, hcz60_1, hcz60_2, hcz60_3, hcz60_4, hcz60_5, hfz60_0, hfz60_1, hfz60_2, hfz60_3, hfz60_4, hfz60_5⟩ := zce6 BK765.out) | (go_at_call 46; (with_reducible refine (glider_Fetched.calls k3 a0_0 a0_1 a0_2 a0_3 a0_4 a0_5 a0_6 a3 _ _ l4 a5_0 a5_1 a5_2 a5_3 a5_4 a5_5 t783 t784 _ ?side1 ?side2 A42.out).mono ?_); (case side1 => repeat (first | exact (Kd.C_below HR4.out HB.out) | (with_reducible refine Kd.C_alloc ?_ _) | (with_reducible refine Kd.C_drewN ?_ _) | (with_reducible refine Kd.C_drew ?_))); (case side2 => exact HC4.out); rintro e w61 ⟨rfl, hb⟩; replace HO_13 := Aside0.mk (Kd.R_below zq53 hb); replace HO_16 := Aside0.mk (Kd.R_below zq54 hb); replace BK763 := zbb BK763 hb; replace BK764 := zbb BK764 hb; replace BK765 := zbb BK765 hb; replace HB := zbs HB hb; (try clear hb); (try clear hb2); (try clear hk); (try clear hi); obtain ⟨hcz62_0, hcz62_1, hcz62_2, hcz62_3, hcz62_4, hcz62_5, hcz62_6, hfz62_0, hfz62_1, hfz62_2, hfz62_3, hfz62_4, hfz62_5, hfz62_6⟩ := zce7 BK763.out; obtain ⟨hcz63_0, hcz63_1, hcz63_2, hcz63_3, hcz63_4, hcz63_5, hfz63_0, hfz63_1, hfz63_2, hfz63_3, hfz63_4, hfz63_5⟩ := zce6 BK765.out) | (go_at_call 47; (with_reducible refine (isobathref03_Fetched.calls k3 a0_0 a0_1 a0_2 a0_3 a0_4 a0_5 a0_6 a3 _ _ l4 a5_0 a5_1 a5_2 a5_3 a5_4 a5_5 t785 t786 _ ?side1 ?side2 A43.out).mono ?_); (case side1 => repeat (first | exact (Kd.C_below HR4.out HB.out) | (with_reducible refine Kd.C_alloc ?_ _) | (with_reducible refine Kd.C_drewN ?_ _) | (with_reducible refine Kd.C_drew ?_))); (case side2 => exact HC4.out); rintro e w64 ⟨rfl, hb⟩; replace HO_13 := Aside0.mk (Kd.R_below zq53 hb); replace HO_16 := Aside0.mk (Kd.R_below zq54 hb); replace BK763 := zbb BK763 hb; replace BK764 := zbb BK764 hb; replace BK765 := zbb BK765 hb; replace HB := zbs HB hb; (try clear hb); (try clear hb2); (try clear hk); (try clear hi)) | (go_at_call 19; (with_reducible refine (isobathlaw03_Works.calls k3  t787 _ A48.out).mono ?_); rintro e w65 ⟨rfl, hb⟩; replace HO_13 := Aside0.mk (Kd.R_below zq53 hb); replace HO_16 := Aside0.mk (Kd.R_below zq54 hb); replace BK763 := zbb BK763 hb; replace BK764 := zbb BK764 hb; replace BK765 := zbb BK765 hb; replace HB := zbs HB hb; (try clear hb); (try clear hb2); (try clear hk); (try clear hi)))
                            repeat (go_quiet (first | (go_at_call 37; (with_reducible refine (glider_Lasts.calls k3 a0_0 a0_1 a0_2 a0_3 a0_4 a0_5 a0_6 a1_0 a1_1 t779 t780 _ A40.out).mono ?_); rintro e w55 ⟨rfl, hb⟩; replace HO_13 := Aside0.mk (Kd.R_below zq53 hb); replace HO_16 := Aside0.mk (Kd.R_below zq54 hb); replace BK763 := zbb BK763 hb; replace BK764 := zbb BK764 hb; replace BK765 := zbb BK765 hb; replace HB := zbs HB hb; (try clear hb); (try clear hb2); (try clear hk); (try clear hi); obtain ⟨hcz56_0, hcz56_1, hcz56_2, hcz56_3, hcz56_4, hcz56_5, hcz56_6, hfz56_0, hfz56_1, hfz56_2, hfz56_3, hfz56_4, hfz56_5, hfz56_6⟩ := zce7 BK763.out; obtain ⟨hcz57_0, hcz57_1, hfz57_0, hfz57_1⟩ := zce2 BK764.out) | (go_at_call 45; (with_reducible refine (isobathref03_Lasts.calls a0_0 a0_1 a0_2 a0_3 a0_4 a0_5 a0_6 a1_0 a1_1 t781 t782 _ A41.out).mono ?_); rintro e w58 ⟨rfl, hb⟩; replace HO_13 := Aside0.mk (Kd.R_below zq53 hb); replace HO_16 := Aside0.mk (Kd.R_below zq54 hb); replace BK763 := zbb BK763 hb; replace BK764 := zbb BK764 hb; replace BK765 := zbb BK765 hb; replace HB := zbs HB hb; (try clear hb); (try clear hb2); (try clear hk); (try clear hi); obtain ⟨hcz59_0, hcz59_1, hcz59_2, hcz59_3, hcz59_4, hcz59_5, hcz59_6, hfz59_0, hfz59_1, hfz59_2, hfz59_3, hfz59_4, hfz59_5, hfz59_6⟩ := zce7 BK763.out; obtain ⟨hcz60_0, hcz60_1, hcz60_2, hcz60_3, hcz60_4, hcz60_5, hfz60_0, hfz60_1, hfz60_2, hfz60_3, hfz60_4, hfz60_5⟩ := zce6 BK765.out) | (go_at_call 46; (with_reducible refine (glider_Fetched.calls k3 a0_0 a0_1 a0_2 a0_3 a0_4 a0_5 a0_6 a3 _ _ l4 a5_0 a5_1 a5_2 a5_3 a5_4 a5_5 t783 t784 _ ?side1 ?side2 A42.out).mono ?_); (case side1 => repeat (first | exact (Kd.C_below HR4.out HB.out) | (with_reducible refine Kd.C_alloc ?_ _) | (with_reducible refine Kd.C_drewN ?_ _) | (with_reducible refine Kd.C_drew ?_))); (case side2 => exact HC4.out); rintro e w61 ⟨rfl, hb⟩; replace HO_13 := Aside0.mk (Kd.R_below zq53 hb); replace HO_16 := Aside0.mk (Kd.R_below zq54 hb); replace BK763 := zbb BK763 hb; replace BK764 := zbb BK764 hb; replace BK765 := zbb BK765 hb; replace HB := zbs HB hb; (try clear hb); (try clear hb2); (try clear hk); (try clear hi); obtain ⟨hcz62_0, hcz62_1, hcz62_2, hcz62_3, hcz62_4, hcz62_5, hcz62_6, hfz62_0, hfz62_1, hfz62_2, hfz62_3, hfz62_4, hfz62_5, hfz62_6⟩ := zce7 BK763.out; obtain ⟨hcz63_0, hcz63_1, hcz63_2, hcz63_3, hcz63_4, hcz63_5, hfz63_0, hfz63_1, hfz63_2, hfz63_3, hfz63_4, hfz63_5⟩ := zce6 BK765.out) | (go_at_call 47; (with_reducible refine (isobathref03_Fetched.calls k3 a0_0 a0_1 a0_2 a0_3 a0_4 a0_5 a0_6 a3 _ _ l4 a5_0 a5_1 a5_2 a5_3 a5_4 a5_5 t785 t786 _ ?side1 ?side2 A43.out).mono ?_); (case side1 => repeat (first | exact (Kd.C_below HR4.out HB.out) | (with_reducible refine Kd.C_alloc ?_ _) | (with_reducible refine Kd.C_drewN ?_ _) | (with_reducible refine Kd.C_drew ?_))); (case side2 => exact HC4.out); rintro e w64 ⟨rfl, hb⟩; replace HO_13 := Aside0.mk (Kd.R_below zq53 hb); replace HO_16 := Aside0.mk (Kd.R_below zq54 hb); replace BK763 := zbb BK763 hb; replace BK764 := zbb BK764 hb; replace BK765 := zbb BK765 hb; replace HB := zbs HB hb; (try clear hb); (try clear hb2); (try clear hk); (try clear hi)) | (go_at_call 19; (with_reducible refine (isobathlaw03_Works.calls k3  t787 _ A48.out).mono ?_); rintro e w65 ⟨rfl, hb⟩; replace HO_13 := Aside0.mk (Kd.R_below zq53 hb); replace HO_16 := Aside0.mk (Kd.R_below zq54 hb); replace BK763 := zbb BK763 hb; replace BK764 := zbb BK764 hb; replace BK765 := zbb BK765 hb; replace HB := zbs HB hb; (try clear hb); (try clear hb2); (try clear hk); (try clear hi))); try go_wp2_with (first | (go_at_call 37; (with_reducible refine (glider_Lasts.calls k3 a0_0 a0_1 a0_2 a0_3 a0_4 a0_5 a0_6 a1_0 a1_1 t779 t780 _ A40.out).mono ?_); rintro e w55 ⟨rfl, hb⟩; replace HO_13 := Aside0.mk (Kd.R_below zq53 hb); replace HO_16 := Aside0.mk (Kd.R_below zq54 hb); replace BK763 := zbb BK763 hb; replace BK764 := zbb BK764 hb; replace BK765 := zbb BK765 hb; replace HB := zbs HB hb; (try clear hb); (try clear hb2); (try clear hk); (try clear hi); obtain ⟨hcz56_0, hcz56_1, hcz56_2, hcz56_3, hcz56_4, hcz56_5, hcz56_6, hfz56_0, hfz56_1, hfz56_2, hfz56_3, hfz56_4, hfz56_5, hfz56_6⟩ := zce7 BK763.out; obtain ⟨hcz57_0, hcz57_1, hfz57_0, hfz57_1⟩ := zce2 BK764.out) | (go_at_call 45; (with_reducible refine (isobathref03_Lasts.calls a0_0 a0_1 a0_2 a0_3 a0_4 a0_5 a0_6 a1_0 a1_1 t781 t782 _ A41.out).mono ?_); rintro e w58 ⟨rfl, hb⟩; replace HO_13 := Aside0.mk (Kd.R_below zq53 hb); replace HO_16 := Aside0.mk (Kd.R_below zq54 hb); replace BK763 := zbb BK763 hb; replace BK764 := zbb BK764 hb; replace BK765 := zbb BK765 hb; replace HB := zbs HB hb; (try clear hb); (try clear hb2); (try clear hk); (try clear hi); obtain ⟨hcz59_0, hcz59_1, hcz59_2, hcz59_3, hcz59_4, hcz59_5, hcz59_6, hfz59_0, hfz59_1, hfz59_2, hfz59_3, hfz59_4, hfz59_5, hfz59_6⟩ := zce7 BK763.out; obtain ⟨hcz60_0, hcz60_1, hcz60_2, hcz60_3, hcz60_4, hcz60_5, hfz60_0, hfz60_1, hfz60_2, hfz60_3, hfz60_4, hfz60_5⟩ := zce6 BK765.out) | (go_at_call 46; (with_reducible refine (glider_Fetched.calls k3 a0_0 a0_1 a0_2 a0_3 a0_4 a0_5 a0_6 a3 _ _ l4 a5_0 a5_1 a5_2 a5_3 a5_4 a5_5 t783 t784 _ ?side1 ?side2 A42.out).mono ?_); (case side1 => repeat (first | exact (Kd.C_below HR4.out HB.out) | (with_reducible refine Kd.C_alloc ?_ _) | (with_reducible refine Kd.C_drewN ?_ _) | (with_reducible refine Kd.C_drew ?_))); (case side2 => exact HC4.out); rintro e w61 ⟨rfl, hb⟩; replace HO_13 := Aside0.mk (Kd.R_below zq53 hb); replace HO_16 := Aside0.mk (Kd.R_below zq54 hb); replace BK763 := zbb BK763 hb; replace BK764 := zbb BK764 hb; replace BK765 := zbb BK765 hb; replace HB := zbs HB hb; (try clear hb); (try clear hb2); (try clear hk); (try clear hi); obtain ⟨hcz62_0, hcz62_1, hcz62_2, hcz62_3, hcz62_4, hcz62_5, hcz62_6, hfz62_0, hfz62_1, hfz62_2, hfz62_3, hfz62_4, hfz62_5, hfz62_6⟩ := zce7 BK763.out; obtain ⟨hcz63_0, hcz63_1, hcz63_2, hcz63_3, hcz63_4, hcz63_5, hfz63_0, hfz63_1, hfz63_2, hfz63_3, hfz63_4, hfz63_5⟩ := zce6 BK765.out) | (go_at_call 47; (with_reducible refine (isobathref03_Fetched.calls k3 a0_0 a0_1 a0_2 a0_3 a0_4 a0_5 a0_6 a3 _ _ l4 a5_0 a5_1 a5_2 a5_3 a5_4 a5_5 t785 t786 _ ?side1 ?side2 A43.out).mono ?_); (case side1 => repeat (first | exact (Kd.C_below HR4.out HB.out) | (with_reducible refine Kd.C_alloc ?_ _) | (with_reducible refine Kd.C_drewN ?_ _) | (with_reducible refine Kd.C_drew ?_))); (case side2 => exact HC4.out); rintro e w64 ⟨rfl, hb⟩; replace HO_13 := Aside0.mk (Kd.R_below zq53 hb); replace HO_16 := Aside0.mk (Kd.R_below zq54 hb); replace BK763 := zbb BK763 hb; replace BK764 := zbb BK764 hb; replace BK765 := zbb BK765 hb; replace HB := zbs HB hb; (try clear hb); (try clear hb2); (try clear hk); (try clear hi)) | (go_at_call 19; (with_reducible refine (isobathlaw03_Works.calls k3  t787 _ A48.out).mono ?_); rintro e w65 ⟨rfl, hb⟩; replace HO_13 := Aside0.mk (Kd.R_below zq53 hb); replace HO_16 := Aside0.mk (Kd.R_below zq54 hb); replace BK763 := zbb BK763 hb; replace BK764 := zbb BK764 hb; replace BK765 := zbb BK765 hb; replace HB := zbs HB hb; (try clear hb); (try clear hb2); (try clear hk); (try clear hi))))
                            go_ret
                            exact ⟨zq6, zbz⟩
                          · rw [if_neg c47] at H
                            have c47b0 : (t784 == t786) = false := beq_eq_false_iff_ne.mpr c47
                            have c47b1 : (t784 != t786) = true := bne_iff_ne.mpr c47
                            have hh_ := Option.some.inj H
                            rw [hr_.out] at hh_
                            cases hh_
                        · rw [if_neg c46] at H
                          have c46b0 : (t783 == t785) = false := beq_eq_false_iff_ne.mpr c46
                          have c46b1 : (t783 != t785) = true := bne_iff_ne.mpr c46
                          have hh_ := Option.some.inj H
                          rw [hr_.out] at hh_
                          cases hh_
                      · rw [if_neg c45] at H
                        have c45b0 : (t780 == t782) = false := beq_eq_false_iff_ne.mpr c45
                        have c45b1 : (t780 != t782) = true := bne_iff_ne.mpr c45
                        have hh_ := Option.some.inj H
                        rw [hr_.out] at hh_
                        cases hh_
                    · rw [if_neg c44] at H
                      have c44b0 : (t779 == t781) = false := beq_eq_false_iff_ne.mpr c44
                      have c44b1 : (t779 != t781) = true := bne_iff_ne.mpr c44
                      have hh_ := Option.some.inj H
                      rw [hr_.out] at hh_
                      cases hh_

end Go.Proofs.Ytmhaiihjfgfaoaa.Pr
end
section
-- PRINTED BY print.sh 35421559b90ae4d0a3588c463048766b98c2df88dd9212a6774a882060cdf62d: not written by this session
-- PRINTED WORDS (module Derived/Print/Sized.lean): go-gate-2's, for the rows of laws over slices: an AI agent of Go's test side, Tue Nov 17 2026; no person has read it. Lean checks it.
namespace Go.Proofs.YtmhaiihjfgfaoaaW.PrintWords
open Go.ChangeShapes Go.WideShapes
end Go.Proofs.YtmhaiihjfgfaoaaW.PrintWords
end
section
/- What is read of an argument of a law: a datum of a type reads as a value of its kind; its whole numbers are of their kind, and its slices are within the reach. No condition. -/
namespace Go.Proofs.YtmhaiihjfgfaoaaW.Opens
open Go.RowKit Go.Proofs.YtmhaiihjfgfaoaaW.PrintWords Go.Deep Go.ChangeShapes Go.WideShapes
set_option linter.unusedVariables false
section
variable {H : Type} {enc : TypeId × Value → H} {P : Program}

/-- A datum of type t reads as a value of the kind K of which G holds. -/
def Opens {α : Type} (enc : TypeId × Value → H) (P : Program) (t : TypeId) (K : Kd α) (G : α → Prop) : Prop :=
  ∀ (w : World) (fuel : Nat) (cs : List Value) (x : DataW H × List MemPlace), DataW.trod enc P w 0 (fun _ => true) true fuel t cs = some x → (DataW.weights P t x.1).all (· ≤ reachBytes) = true → ∃ y, K.K w y cs ∧ G y

theorem Opens.int {t : TypeId} {k : IntKind} (hu : P.underlying t = some (.int k)) : Opens enc P t (Kd.int k) (fun n => (Lit.int k n).wf = true) := by
  intro w fuel cs x h _
  cases fuel with
  | zero => simp [DataW.trod] at h
  | succ n =>
    unfold DataW.trod at h
    rw [hu] at h
    split at h <;> simp_all
    obtain ⟨⟨rfl, hw⟩, _⟩ := h
    rename_i n _ _
    exact ⟨_, rfl, hw⟩
/-- The fields from offset off on. -/
def OpensFs {α : Type} (enc : TypeId × Value → H) (P : Program) (off : Nat) (fs : List Field) (K : Kd α) (G : α → Prop) : Prop :=
  ∀ (w : World) (fuel : Nat) (cs : List Value) (xs : List (DataW H × List MemPlace)), cs.length = off + K.sz → xs.length = fs.length →
    (∀ (i : Nat) (f : Field), fs[i]? = some f → DataW.trod enc P w 0 (fun _ => true) true fuel f.type ((cs.drop f.offset).take (P.cellsOf f.type)) = xs[i]?) →
    (DataW.weightsEach P (fs.map (·.type)) (xs.map (·.1))).all (· ≤ reachBytes) = true → ∃ y, K.K w y (cs.drop off) ∧ G y

theorem OpensFs.one {α : Type} {off : Nat} {f : Field} {K : Kd α} {G : α → Prop} (hoff : f.offset = off) (hsz : P.cellsOf f.type = K.sz) (h : Opens enc P f.type K G) : OpensFs enc P off [f] K G := by
  intro w fuel cs xs hl hx hi hw
  obtain ⟨x, rfl⟩ : ∃ x, xs = [x] := by
    match xs, hx with
    | [x], _ => exact ⟨x, rfl⟩
  have h1 := hi 0 f rfl
  rw [hoff, hsz, List.take_of_length_le (by simp; omega)] at h1
  exact h w fuel _ x h1 (by simpa [DataW.weightsEach] using hw)
theorem OpensFs.cons {α β : Type} {off : Nat} {f : Field} {fs : List Field} {K : Kd α} {G : α → Prop} {K' : Kd β} {G' : β → Prop} (hoff : f.offset = off) (hsz : P.cellsOf f.type = K.sz) (h : Opens enc P f.type K G) (h' : OpensFs enc P (off + K.sz) fs K' G') :
    OpensFs enc P off (f :: fs) (Kd.pair K K') (fun y => G y.1 ∧ G' y.2) := by
  intro w fuel cs xs hl hx hi hw
  obtain ⟨x, xs', rfl⟩ : ∃ x xs', xs = x :: xs' := by
    match xs, hx with
    | x :: xs', _ => exact ⟨x, xs', rfl⟩
  have hl2 : cs.length = off + (K.sz + K'.sz) := hl
  have h1 := hi 0 f rfl
  rw [hoff, hsz] at h1
  simp only [List.map_cons, DataW.weightsEach, List.all_append, Bool.and_eq_true] at hw
  obtain ⟨y, hy, gy⟩ := h w fuel _ x h1 hw.1
  obtain ⟨y', hy', gy'⟩ := h' w fuel cs xs' (by omega) (by simpa using hx) (fun i g hg => by simpa using hi (i + 1) g (by simpa using hg)) hw.2
  refine ⟨(y, y'), ⟨_, _, ?_, hy, hy'⟩, gy, gy'⟩
  rw [← List.drop_drop, List.take_append_drop]
theorem Opens.struct {α β : Type} {t : TypeId} {fs : Array Field} {K : Kd α} {G : α → Prop} {f : β → α} (g : α → β) (hu : P.underlying t = some (.struct fs)) (hsz : P.cellsOf t = K.sz) (hg : ∀ y, f (g y) = y) (h : OpensFs enc P 0 fs.toList K G) :
    Opens enc P t (Kd.iso K f) (fun z => G (f z)) := by
  intro w fuel cs x hx hw
  obtain ⟨xs, n, rfl, rfl, hl, hxl, hi⟩ := DataW.trod_struct hu hx
  obtain ⟨y, hy, gy⟩ := h w n cs xs (by omega) (by simpa using hxl) (fun i f hf => hi i f (by simpa using hf)) (by simpa [DataW.weights, hu] using hw)
  refine ⟨g y, ?_, by show G (f (g y)); rw [hg]; exact gy⟩
  show K.K w (f (g y)) cs
  rw [hg]
  simpa using hy

theorem list_of_lt {α : Type} {Q : Nat → α → Prop} : ∀ (n : Nat), (∀ i, i < n → ∃ y, Q i y) → ∃ ys : List α, ys.length = n ∧ ∀ i y, ys[i]? = some y → Q i y
  | 0, _ => ⟨[], rfl, fun i y h => by simp at h⟩
  | n + 1, h => by
    obtain ⟨ys, hl, hq⟩ := list_of_lt n (fun i hi => h i (by omega))
    obtain ⟨y, hy⟩ := h n (by omega)
    refine ⟨ys ++ [y], by simp [hl], fun i z hz => ?_⟩
    rw [List.getElem?_append] at hz
    split at hz
    · exact hq i z hz
    · rename_i hi
      obtain rfl : i = n := by
        have := (List.getElem?_eq_some_iff.1 hz).1
        simp at this
        omega
      simp [hl] at hz
      exact hz ▸ hy
theorem weightsAll_mem {e : TypeId} : ∀ {ds : List (DataW H)} {d : DataW H}, (DataW.weightsAll P e ds).all (· ≤ reachBytes) = true → d ∈ ds → (DataW.weights P e d).all (· ≤ reachBytes) = true
  | [], _, _, h => by cases h
  | a :: r, d, hw, h => by
    simp only [DataW.weightsAll, List.all_append, Bool.and_eq_true] at hw
    rcases List.mem_cons.1 h with rfl | h
    · exact hw.1
    · exact weightsAll_mem hw.2 h
theorem Opens.slice {α : Type} {t e : TypeId} (e' : Nat) {K : Kd α} {G : α → Prop} (hu : P.underlying t = some (.slice e)) (hsz : P.cellsOf e = K.sz) (h : Opens enc P e K G) :
    Opens enc P t (Kd.slice e' K) (fun ys => (∀ y ∈ ys, G y) ∧ ys.length * P.bytesOf e ≤ reachBytes) := by
  intro w fuel cs x hx hw
  rcases open_slice hu hx with ⟨rfl, rfl⟩ | ⟨a, len, cap, m, n, D, Pl, rfl, hb, hl, hm, hmm, rfl, hi⟩
  · exact ⟨[], ⟨none, 0, rfl, by simp, ⟨rfl, by simp, fun h => by simp at h⟩⟩, by simp, by simp⟩
  · have hmc : m = cap := by simpa using hmm
    subst hmc
    simp only [DataW.weights, hu, List.all_cons, List.all_append, Bool.and_eq_true, decide_eq_true_eq, List.length_map, List.length_range] at hw
    obtain ⟨ys, hyl, hys⟩ := list_of_lt (Q := fun i y => (∃ cs', w.cells? 0 (a.add (i * P.cellsOf e)) (P.cellsOf e) = some cs' ∧ K.K w y cs') ∧ G y) len (fun i hil => by
      obtain ⟨cs', hc, ht⟩ := hi i (by omega)
      obtain ⟨y, hy, gy⟩ := h w n cs' _ ht (weightsAll_mem hw.2.1 (List.mem_map.2 ⟨i, List.mem_range.2 hil, rfl⟩))
      exact ⟨y, ⟨cs', hc, hy⟩, gy⟩)
    refine ⟨ys, ⟨some a, m, by rw [hyl], by omega, hyl.trans hyl.symm |>.trans (by rfl), ?_, fun _ => ⟨a, rfl, fun j p hj => ?_⟩⟩, fun y hy => ?_, ?_⟩
    · unfold maxLen at hm
      omega
    · obtain ⟨⟨cs', hc, hk⟩, _⟩ := hys j p hj
      obtain ⟨_, hcl, hcell⟩ := World.cells?_some hc
      refine ⟨cs', by rw [hcl, hsz], hk, fun i u hu' => ?_⟩
      have hlt := (List.getElem?_eq_some_iff.1 hu').1
      rw [← Go.Deep.add_add, ← hsz, hcell i (by omega), hu']
    · obtain ⟨j, hj⟩ := List.getElem?_of_mem hy
      exact (hys j y hj).2
    · refine Nat.le_trans (Nat.mul_le_mul_right _ (show ys.length ≤ len + (m - len) by omega)) hw.1
/-- An argument of a law. -/
theorem Opens.arg {α : Type} {t : TypeId} {K : Kd α} {G : α → Prop} (h : Opens enc P t K G) {w : World} {v : Value} {d : DataW H} {p : List MemPlace} (ht : DataW.Trod enc P w 0 (fun _ => true) true t v d p)
    {ts : List TypeId} {ds : List (DataW H)} (hsz : (DataW.weightsEach P ts ds).all (· ≤ reachBytes) = true) {j : Nat} (hj : ts[j]? = some t) (hd : ds[j]? = some d) : ∃ y, K.K w y v.cells.toList ∧ G y := by
  obtain ⟨fuel, hf⟩ := ht
  exact h w fuel _ _ hf (List.all_eq_true.2 fun n hn => List.all_eq_true.1 hsz _ (DataW.weights_mem_each hj hd n hn))
end
end Go.Proofs.YtmhaiihjfgfaoaaW.Opens
end
section
/- What is known of the arguments of the laws. -/
namespace Go.Proofs.Ytmhaiihjfgfaoaa.Good
open Go.RowKit Go.Proofs.YtmhaiihjfgfaoaaW.PrintWords Go.Proofs.YtmhaiihjfgfaoaaW.PrintLast Go.Proofs.YtmhaiihjfgfaoaaW.PrintMore Go.Proofs.Ytmhaiihjfgfaoaa.Pr Go.Proofs.YtmhaiihjfgfaoaaW.Opens
set_option linter.unusedVariables false
def W27 (x : S27) : Prop := (Lit.int .i64 x.f0).wf = true ∧ (Lit.int .i64 x.f1).wf = true
theorem opens27 {H : Type} {enc : TypeId × Value → H} : Opens enc Try.prog 27 k27 W27 := Opens.struct (fun p => ⟨p.1, p.2⟩) Try.underlying27 zq1 (fun _ => rfl) (OpensFs.cons rfl zq1 (Opens.int Try.underlying2) (OpensFs.one rfl zq1 (Opens.int Try.underlying2)))
def W29 (x : S29) : Prop := (Lit.int .i64 x.f0).wf = true ∧ (Lit.int .i64 x.f1).wf = true ∧ W27 x.f2 ∧ W27 x.f3 ∧ (Lit.int .i64 x.f4).wf = true
theorem opens29 {H : Type} {enc : TypeId × Value → H} : Opens enc Try.prog 29 k29 W29 := Opens.struct (fun p => ⟨p.1, p.2.1, p.2.2.1, p.2.2.2.1, p.2.2.2.2⟩) Try.underlying29 zq1 (fun _ => rfl) (OpensFs.cons rfl zq1 (Opens.int Try.underlying2) (OpensFs.cons rfl zq1 (Opens.int Try.underlying2) (OpensFs.cons rfl zq1 opens27 (OpensFs.cons rfl zq1 opens27 (OpensFs.one rfl zq1 (Opens.int Try.underlying2))))))
def W31 (x : S31) : Prop := W27 x.f0 ∧ W27 x.f1
theorem opens31 {H : Type} {enc : TypeId × Value → H} : Opens enc Try.prog 31 k31 W31 := Opens.struct (fun p => ⟨p.1, p.2⟩) Try.underlying31 zq1 (fun _ => rfl) (OpensFs.cons rfl zq1 opens27 (OpensFs.one rfl zq1 opens27))
def W33 (x : S33) : Prop := (Lit.int .i64 x.f0).wf = true ∧ (Lit.int .i64 x.f1).wf = true
theorem opens33 {H : Type} {enc : TypeId × Value → H} : Opens enc Try.prog 33 k33 W33 := Opens.struct (fun p => ⟨p.1, p.2⟩) Try.underlying33 zq1 (fun _ => rfl) (OpensFs.cons rfl zq1 (Opens.int Try.underlying3) (OpensFs.one rfl zq1 (Opens.int Try.underlying3)))
def W81 (x : S81) : Prop := W31 x.f0 ∧ (Lit.int .i64 x.f1).wf = true ∧ (Lit.int .i64 x.f2).wf = true
theorem opens81 {H : Type} {enc : TypeId × Value → H} : Opens enc Try.prog 81 k81 W81 := Opens.struct (fun p => ⟨p.1, p.2.1, p.2.2⟩) Try.underlying81 zq1 (fun _ => rfl) (OpensFs.cons rfl zq1 opens31 (OpensFs.cons rfl zq1 (Opens.int Try.underlying2) (OpensFs.one rfl zq1 (Opens.int Try.underlying2))))
end Go.Proofs.Ytmhaiihjfgfaoaa.Good
end
section
namespace Go.Proofs.Ytmhaiihjfgfaoaa.Pr
open Go.RowKit Go.Proofs.YtmhaiihjfgfaoaaW.PrintWords Go.Proofs.YtmhaiihjfgfaoaaW.PrintLast Go.Proofs.YtmhaiihjfgfaoaaW.PrintMore
attribute [local go_sem] max2_int min2_int max_two min_two max_four
set_option linter.unusedVariables false
set_option linter.unusedSimpArgs false

/-! ### isobathlaw03_great: function 22 -/
end Go.Proofs.Ytmhaiihjfgfaoaa.Pr
end
section
namespace Go.Proofs.Ytmhaiihjfgfaoaa.Pr
open Go.RowKit Go.Proofs.YtmhaiihjfgfaoaaW.PrintWords Go.Proofs.YtmhaiihjfgfaoaaW.PrintLast Go.Proofs.YtmhaiihjfgfaoaaW.PrintMore
attribute [local go_sem] max2_int min2_int max_two min_two max_four
set_option linter.unusedVariables false
set_option linter.unusedSimpArgs false

/-! ### isobathref03_CheckSea: function 26 -/
end Go.Proofs.Ytmhaiihjfgfaoaa.Pr
end
section
namespace Go.Proofs.Ytmhaiihjfgfaoaa.Pr
open Go.RowKit Go.Proofs.YtmhaiihjfgfaoaaW.PrintWords Go.Proofs.YtmhaiihjfgfaoaaW.PrintLast Go.Proofs.YtmhaiihjfgfaoaaW.PrintMore
attribute [local go_sem] max2_int min2_int max_two min_two max_four
set_option linter.unusedVariables false
set_option linter.unusedSimpArgs false

/-! ### isobathlaw03_valid: function 18 -/
end Go.Proofs.Ytmhaiihjfgfaoaa.Pr
end
section
/- What the document's answer says of seas, vehicles and boxes: the same as the program. -/
namespace Go.Proofs.Ytmhaiihjfgfaoaa.Gl
open Go.RowKit Go.Proofs.YtmhaiihjfgfaoaaW.PrintWords Go.Proofs.YtmhaiihjfgfaoaaW.PrintLast Go.Proofs.YtmhaiihjfgfaoaaW.PrintMore Go.Proofs.Ytmhaiihjfgfaoaa.Pr
set_option linter.unusedVariables false
theorem w64_id {x : Int} (h : -9223372036854775808 ≤ x ∧ x < 9223372036854775808) : wrap64 x = x := by unfold wrap64; omega
theorem ref_valid (lo hi : Int) : isobathref01_Valid.f lo hi = some (okS lo hi) := by
  unfold isobathref01_Valid.f isobathref01_Within.f
  rw [show okS lo hi = (decide (lo ≤ hi) && (decide (-1073741824 ≤ lo) && decide (lo ≤ 1073741824)) && (decide (-1073741824 ≤ hi) && decide (hi ≤ 1073741824))) from by
    rw [Bool.eq_iff_iff, okS_iff]; simp only [Bool.and_eq_true, decide_eq_true_eq]; omega]
  by_cases h1 : lo ≤ hi <;> by_cases h2 : -1073741824 ≤ lo <;> by_cases h3 : lo ≤ 1073741824 <;> by_cases h4 : -1073741824 ≤ hi <;> by_cases h5 : hi ≤ 1073741824 <;> simp [h1, h2, h3, h4, h5]
theorem ref_bounded (lo hi a b : Int) : isobathref03_bounded.f lo hi a b = some (bndB lo hi a b) := by
  unfold isobathref03_bounded.f bndB
  rw [ref_valid, Option.bind_some]
  cases okS lo hi with
  | false => rfl
  | true =>
    by_cases h : a ≤ lo <;> simp [h]
theorem ref_within (x lo hi : Int) : isobathref01_Within.f x lo hi = some (btwB x lo hi) := by
  unfold isobathref01_Within.f btwB
  by_cases h : lo ≤ x <;> simp [h]
theorem ref_box (x : S31) : isobathref01_ValidBox.f x.f0.f0 x.f0.f1 x.f1.f0 x.f1.f1 = some (boxB x) := by
  unfold isobathref01_ValidBox.f boxB
  simp only [ref_valid, ref_within, Option.bind_some]
  cases okS x.f0.f0 x.f0.f1 <;> cases okS x.f1.f0 x.f1.f1 <;> cases btwB x.f0.f0 (-268435456) 268435456 <;> cases btwB x.f0.f1 (-268435456) 268435456 <;> cases btwB x.f1.f0 (-268435456) 268435456 <;> cases btwB x.f1.f1 (-268435456) 268435456 <;> rfl
theorem ref_veh (v : Veh) : isobathref03_CheckVehicle.f v.speed v.dive v.use.f0 v.use.f1 v.drift.f0 v.drift.f1 v.reserve = some (vehE v) := by
  unfold isobathref03_CheckVehicle.f vehE vehB btwB
  simp only [ref_bounded, Option.bind_some]
  by_cases h1 : v.speed < 0
  · rw [if_pos h1, show decide (0 ≤ v.speed) = false from decide_eq_false (by omega)]; rfl
  rw [if_neg h1, show decide (0 ≤ v.speed) = true from decide_eq_true (by omega)]
  by_cases h2 : v.speed > 5000
  · rw [if_pos h2, show decide (v.speed ≤ 5000) = false from decide_eq_false (by omega)]; rfl
  rw [if_neg h2, show decide (v.speed ≤ 5000) = true from decide_eq_true (by omega)]
  by_cases h3 : v.dive < 1
  · rw [if_pos h3, show decide (1 ≤ v.dive) = false from decide_eq_false (by omega)]; rfl
  rw [if_neg h3, show decide (1 ≤ v.dive) = true from decide_eq_true (by omega)]
  by_cases h4 : v.dive > 131072
  · rw [if_pos h4, show decide (v.dive ≤ 131072) = false from decide_eq_false (by omega)]; rfl
  rw [if_neg h4, show decide (v.dive ≤ 131072) = true from decide_eq_true (by omega)]
  cases bndB v.use.f0 v.use.f1 0 1073741824
  · rfl
  cases bndB v.drift.f0 v.drift.f1 0 1073741824
  · rfl
  by_cases h5 : v.reserve < 0
  · rw [if_pos h5, show decide (0 ≤ v.reserve) = false from decide_eq_false (by omega)]; rfl
  rw [if_neg h5, show decide (0 ≤ v.reserve) = true from decide_eq_true (by omega)]
  by_cases h6 : v.reserve > 1073741824
  · rw [if_pos h6, show decide (v.reserve ≤ 1073741824) = false from decide_eq_false (by omega)]; rfl
  rw [if_neg h6, show decide (v.reserve ≤ 1073741824) = true from decide_eq_true (by omega)]; rfl
end Go.Proofs.Ytmhaiihjfgfaoaa.Gl
end
section
/- What the document's answer says of plans: the same as the program. -/
namespace Go.Proofs.Ytmhaiihjfgfaoaa.Gl
open Go.RowKit Go.Proofs.YtmhaiihjfgfaoaaW.PrintWords Go.Proofs.YtmhaiihjfgfaoaaW.PrintLast Go.Proofs.YtmhaiihjfgfaoaaW.PrintMore Go.Proofs.Ytmhaiihjfgfaoaa.Pr
theorem ref_crs_loop (l : List S33) (layers : Int) (hl : l.length ≤ 64) : ∀ (m i K : Nat), i + m = l.length → m + 1 ≤ K → isobathref03_courses.l0 K l layers (i : Int) = some (if (l.drop i).all (crsB layers) then 0 else 2)
  | 0, i, K + 1, h, hk => by
    rw [isobathref03_courses.l0, if_neg (by omega), List.drop_eq_nil_of_le (by omega)]; rfl
  | m + 1, i, K + 1, h, hk => by
    have hi : i < l.length := by omega
    have ih := ref_crs_loop l layers hl m (i + 1) K (by omega) (by omega)
    have e : rd_T33 l (i : Int) = l[i] := by
      unfold rd_T33
      simp [hi]
    rw [isobathref03_courses.l0, if_pos (by omega), if_pos (by omega), w64_id (x := (i : Int) + 1) (by omega), show (i : Int) + 1 = ((i + 1 : Nat) : Int) from by omega, ih, e, List.drop_eq_getElem_cons hi, List.all_cons]
    generalize l[i] = c
    generalize (List.drop (i + 1) l).all (crsB layers) = b
    unfold crsB btwB
    by_cases h1 : c.f0 < 0
    · rw [if_pos h1, decide_eq_false (show ¬(0 ≤ c.f0) by omega)]; rfl
    rw [if_neg h1, decide_eq_true (show 0 ≤ c.f0 by omega)]
    by_cases h2 : c.f0 > 8
    · rw [if_pos h2, decide_eq_false (show ¬(c.f0 ≤ 8) by omega)]; rfl
    rw [if_neg h2, decide_eq_true (show c.f0 ≤ 8 by omega)]
    by_cases h3 : c.f1 < 0
    · rw [if_pos h3, decide_eq_false (show ¬(0 ≤ c.f1) by omega)]; rfl
    rw [if_neg h3, decide_eq_true (show 0 ≤ c.f1 by omega)]
    by_cases h4 : layers ≥ 0
    · rw [if_pos h4, decide_eq_false (show ¬(layers < 0) by omega)]
      by_cases h5 : c.f1 ≥ layers
      · rw [if_pos h5, decide_eq_false (show ¬(c.f1 < layers) by omega)]; rfl
      · rw [if_neg h5, decide_eq_true (show c.f1 < layers by omega)]; rfl
    · rw [if_neg h4, decide_eq_true (show layers < 0 by omega)]; rfl
theorem ref_crs (l : List S33) (layers : Int) (K : Nat) (hk : 66 ≤ K) : isobathref03_courses.f K l layers = some (crsE l layers) := by
  unfold isobathref03_courses.f crsE
  by_cases h : l.length > 64
  · rw [if_pos (by omega), if_pos h]
  · rw [if_neg (by omega), if_neg h]
    have := ref_crs_loop l layers (by omega) l.length 0 K (by omega) (by omega)
    rw [List.drop_zero] at this
    exact this
end Go.Proofs.Ytmhaiihjfgfaoaa.Gl
end
