/- Part 10 of the proof of TopCurrents: what the functions compute. No condition. -/
import Derived.RangeFuncCalls
import Derived.RangeFuncNested
import Derived.OrdersIn
import Derived.RangeFuncBound
import Derived.RangeFuncLeaves
import Derived.Shelf.Abstract
import Derived.Shelf.RegionOpen
import Derived.WalkKit
import Derived.OwnWalkIn
import Derived.TacticsInMore
import Derived.LoopNIn
import Derived.LoopIn
import Derived.Lib.Hide
import Derived.Deep.QuietTactic
import Derived.BigQuiet
import Derived.StillTailTactics
import Derived.Test.YthglkoddmpicdaaTcTopCurrents3
import Derived.Test.YthglkoddmpicdaaTcTopCurrents9
set_option linter.unusedVariables false
set_option linter.unusedSimpArgs false
section
namespace Go.Proofs.Ythglkoddmpicdaa.Pr
open Go.RowKit Go.Proofs.YthglkoddmpicdaaW.PrintWords Go.Proofs.YthglkoddmpicdaaW.PrintLast Go.Proofs.YthglkoddmpicdaaW.PrintMore
attribute [local go_sem] max2_int min2_int max_two min_two max_four
set_option linter.unusedVariables false
set_option linter.unusedSimpArgs false

/-! ### bound_Meet: function 15 -/
def bound_Meet.f (k : Nat) (a0_0 : Int) (a0_1 : Int) (a1_0 : Int) (a1_1 : Int) : Option (Int × Int × Int) := (bound_check.f k (([(⟨a0_0, a0_1⟩ : S27), (⟨a1_0, a1_1⟩ : S27)] : List (S27)))).bind fun t224 => (if t224 = 0 then ((bound_meet.f a0_0 a0_1 a1_0 a1_1).bind fun bt225 => (if bt225.2.2 = true then (some (bt225.1, bt225.2.1, 0)) else (some (0, 0, 5)))) else (some (0, 0, t224)))
set_option maxHeartbeats 8000000 in
set_option maxRecDepth 100000 in
theorem bound_Meet.calls (k : Nat) (a0_0 : Int) (a0_1 : Int) (a1_0 : Int) (a1_1 : Int) (r1 : Int) (r2 : Int) (r3 : Int) (w : World) (h : bound_Meet.f k a0_0 a0_1 a1_0 a1_1 = some (r1, r2, r3)) :
  Calls Try.prog 15 #[.agg #[.int .i64 a0_0, .int .i64 a0_1], .agg #[.int .i64 a1_0, .int .i64 a1_1]] w fun e w' => e = .returned (.tuple #[.agg #[.int .i64 r1, .int .i64 r2], .int .i64 r3]) ∧ Below w.heap.size w w' := by
 have hu27 := Try.underlying27
 have HB := Aside0.mk (Below.refl w.heap.size w)
 have H : ((bound_check.f k (([(⟨a0_0, a0_1⟩ : S27), (⟨a1_0, a1_1⟩ : S27)] : List (S27)))).bind fun t224 => (if t224 = 0 then ((bound_meet.f a0_0 a0_1 a1_0 a1_1).bind fun bt225 => (if bt225.2.2 = true then (some (bt225.1, bt225.2.1, 0)) else (some (0, 0, 5)))) else (some (0, 0, t224)))) = some (r1, r2, r3) := h
 clear h
 obtain ⟨y221, hy221⟩ : ∃ y_ : List (S27), y_ = (([(⟨a0_0, a0_1⟩ : S27), (⟨a1_0, a1_1⟩ : S27)] : List (S27))) := ⟨_, rfl⟩
 replace H : ((bound_check.f k y221).bind fun t224 => (if t224 = 0 then ((bound_meet.f a0_0 a0_1 a1_0 a1_1).bind fun bt225 => (if bt225.2.2 = true then (some (bt225.1, bt225.2.1, 0)) else (some (0, 0, 5)))) else (some (0, 0, t224)))) = some (r1, r2, r3) := by first | (rw [hy221]; with_reducible exact H) | (have H2_ := (Option.bind_some _ _).symm.trans H; rw [hy221]; with_reducible exact H2_) | (have H2_ := (Option.bind_some _ _).symm.trans H; with_reducible exact H2_) | with_reducible exact H | (rw [hy221]; exact H) | exact H
 have Ny221 := Aside0.mk hy221
 clear hy221
 replace H := Option.bind_eq_some_iff.mp H
 obtain ⟨t224, A30, H⟩ := H
 replace H : (if t224 = 0 then ((bound_meet.f a0_0 a0_1 a1_0 a1_1).bind fun bt225 => (if bt225.2.2 = true then (some (bt225.1, bt225.2.1, 0)) else (some (0, 0, 5)))) else (some (0, 0, t224))) = some (r1, r2, r3) := H
 have A3 := Aside0.mk A30
 clear A30
 by_cases c4 : t224 = 0
 ·rw [if_pos c4] at H
  have c4b0 : (t224 == 0) = true := beq_iff_eq.mpr c4
  have c4b1 : (t224 != 0) = false := bne_eq_false_iff_eq.mpr c4
  clear c4
  replace H := Option.bind_eq_some_iff.mp H
  obtain ⟨⟨t225, t226, t227⟩, A50, H⟩ := H
  replace H : (if t227 = true then (some (t225, t226, 0)) else (some (0, 0, 5))) = some (r1, r2, r3) := H
  have A5 := Aside0.mk A50
  clear A50
  by_cases c6 : t227 = true
  ·subst c6
   have H1 : (some (t225, t226, 0)) = some (r1, r2, r3) := by rw [if_pos rfl] at H; exact H
   clear H
   have H := H1
   clear H1
   simp only [Option.some.injEq, Prod.mk.injEq] at H
   obtain ⟨rfl, rfl, rfl⟩ := H
   go_enter Try.func15, Try.ntmps15
   go_wp2_with (first | ((with_reducible refine gate_dst (N := 2) rfl ?_); refine box_event (by rfl) (N := 2) (by rfl) (cs := #[.int .i64 a0_0, .int .i64 a0_1]) (t := 27) zq1 ?_; intro gb218 hg w7 hbox hb; have BK218 := Aside0.mk (hbox); have GW218 := zgs HB hg; have GE218 := zgs HB hg; replace HB := zbs HB hb; clear hb hbox hg) | ((with_reducible refine gate_dst (N := 3) rfl ?_); refine box_event (by rfl) (N := 3) (by rfl) (cs := #[.int .i64 a1_0, .int .i64 a1_1]) (t := 27) zq1 ?_; intro gb219 hg w8 hbox hb; have BK219 := Aside0.mk (hbox); have GW219 := zgs HB hg; have GE219 := zgs HB hg; have NB218_219 := znp BK218 hg; have NB219_218 := znq BK218 hg; replace BK218 := zbb BK218 hb; replace HB := zbs HB hb; clear hb hbox hg) | ((with_reducible refine gate_dst (N := 4) rfl ?_); refine box_event (by rfl) (N := 4) (by rfl) (cs := #[.int .i64 0, .int .i64 0]) (t := 27) zq1 ?_; intro gb220 hg w9 hbox hb; have BK220 := Aside0.mk (hbox); have GW220 := zgs HB hg; have GE220 := zgs HB hg; have NB218_220 := znp BK218 hg; have NB220_218 := znq BK218 hg; have NB219_220 := znp BK219 hg; have NB220_219 := znq BK219 hg; replace BK218 := zbb BK218 hb; replace BK219 := zbb BK219 hb; replace HB := zbs HB hb; clear hb hbox hg; have hnb10 := NB218_219.out; have hnc10 := NB219_218.out; have hnb11 := NB218_220.out; have hnc11 := NB220_218.out; obtain ⟨hcz12_0, hcz12_1, hfz12_0, hfz12_1⟩ := zce2 BK218.out; have hnb13 := NB219_220.out; have hnc13 := NB220_219.out; obtain ⟨hcz14_0, hcz14_1, hfz14_0, hfz14_1⟩ := zce2 BK219.out) | ((with_reducible refine gate_dst (N := 11) rfl ?_); refine Kd.R_lit k27 _ 27 (by rfl) (N := 11) (by rfl) (xs := ([(⟨a0_0, a0_1⟩ : S27), (⟨a1_0, a1_1⟩ : S27)] : List (S27))) (inner := [.int .i64 a0_0, .int .i64 a0_1, .int .i64 a1_0, .int .i64 a1_1]) (ok := fun _ => True) (okp := fun _ => True) zq1 zq7 (fun _ hk => hk) trivial (Below.refl _ _) (Nat.le_refl _) (by simp) ?_; intro v222 w15 ho16 hb hg_ hnew_; clear hg_ hnew_; (first | rw [← Ny221.out] at ho16 | (simp only [Int.reduceToNat] at ho16; rw [← Ny221.out] at ho16)); have HO223 := Aside0.mk (Kd.R_lower (Kd.R_newB (Kd.R_newB (Kd.R_newB ho16 (g := gb218) (o := .cells #[.int .i64 a0_0, .int .i64 a0_1] 27 (0, 0)) zbf) (g := gb219) (o := .cells #[.int .i64 a1_0, .int .i64 a1_1] 27 (0, 0)) zbf) (g := gb220) (o := .cells #[.int .i64 0, .int .i64 0] 27 (0, 0)) zbf) (below_size zbz)); replace BK218 := zbb BK218 hb; replace BK219 := zbb BK219 hb; replace BK220 := zbb BK220 hb; replace HB := zbs HB hb; clear hb ho16; obtain ⟨Ao17, co17, eo17⟩ := Kd.R_slice HO223.out; subst eo17) | ((with_reducible refine gate_callee (f := 59) rfl ?_); refine goesL_ (some 12) rfl rfl Try.func59 zq0 rfl #[.slice Ao17 y221.length co17] rfl zq6 ?_; (with_reducible refine (bound_check.calls k _ _ y221 t224 _ ?side1 ?side2 A3.out).mono ?_); (case side1 => repeat (first | exact (Kd.R_reads' HO223.out).2.2 | (with_reducible refine Kd.C_alloc ?_ _) | (with_reducible refine Kd.C_drewN ?_ _) | (with_reducible refine Kd.C_drew ?_))); (case side2 => exact (Kd.R_reads' HO223.out).2.1); rintro e w18 ⟨rfl, hb⟩; refine ⟨_, rfl, ?_⟩; replace HO223 := zrb HO223 hb; replace BK218 := zbb BK218 hb; replace BK219 := zbb BK219 hb; replace BK220 := zbb BK220 hb; replace HB := zbs HB hb; (try clear hb); (try clear hb2); (try clear hk); (try clear hi); obtain ⟨hcz19_0, hcz19_1, hfz19_0, hfz19_1⟩ := zce2 BK218.out; obtain ⟨hcz20_0, hcz20_1, hfz20_0, hfz20_1⟩ := zce2 BK219.out) | ((with_reducible refine gate_callee (f := 60) rfl ?_); refine goesL_ (some 20) rfl rfl Try.func60 zq0 rfl #[.agg #[.int .i64 a0_0, .int .i64 a0_1], .agg #[.int .i64 a1_0, .int .i64 a1_1]] rfl zq6 ?_; (with_reducible refine (bound_meet.calls a0_0 a0_1 a1_0 a1_1 t225 t226 true _ A5.out).mono ?_); rintro e w21 ⟨rfl, hb⟩; refine ⟨_, rfl, ?_⟩; replace HO223 := zrb HO223 hb; replace BK218 := zbb BK218 hb; replace BK219 := zbb BK219 hb; replace BK220 := zbb BK220 hb; replace HB := zbs HB hb; (try clear hb); (try clear hb2); (try clear hk); (try clear hi)) | ((with_reducible refine gate_dst (N := 7) rfl ?_); refine box_event (by rfl) (N := 7) (by rfl) (cs := #[.int .i64 0, .int .i64 0]) (t := 27) zq1 ?_; intro gb228 hg w22 hbox hb; have n0_ := Aside0.mk (Kd.R_below (Kd.R_elderB (by (with_reducible repeat (first | apply Kd.R_alloc | apply Kd.R_drewN | apply Kd.R_drew)); exact HO223.out) gb228 (Nat.le_of_eq hg.symm)) hb); have n1_ := zbb BK218 hb; have n2_ := zbb BK219 hb; have n3_ := zbb BK220 hb; have n4_ := zbs HB hb; have n5_ := Aside0.mk (hbox); have n6_ := zgs HB hg; have n7_ := zgs HB hg; have n8_ := znp BK218 hg; have n9_ := znq BK218 hg; have n10_ := znp BK219 hg; have n11_ := znq BK219 hg; have n12_ := znp BK220 hg; have n13_ := znq BK220 hg; clear HO223; clear BK218; clear BK219; clear BK220; clear HB; have HO223 := n0_; have BK218 := n1_; have BK219 := n2_; have BK220 := n3_; have HB := n4_; have BK228 := n5_; have GW228 := n6_; have GE228 := n7_; have NB218_228 := n8_; have NB228_218 := n9_; have NB219_228 := n10_; have NB228_219 := n11_; have NB220_228 := n12_; have NB228_220 := n13_; clear n0_ n1_ n2_ n3_ n4_ n5_ n6_ n7_ n8_ n9_ n10_ n11_ n12_ n13_; clear hb hbox hg; have hnb23 := NB228_218.out; have hnc23 := NB218_228.out; have hnb24 := NB228_219.out; have hnc24 := NB219_228.out; have hnb25 := NB228_220.out; have hnc25 := NB220_228.out; obtain ⟨hcz26_0, hcz26_1, hfz26_0, hfz26_1⟩ := zce2 BK228.out; obtain ⟨hcz27_0, hcz27_1, hfz27_0, hfz27_1⟩ := zce2 BK220.out))
   refine bodyPost_ret (results_ct rfl _ _ gb220 27 #[.int .i64 t225, .int .i64 t226] (0, 0) _ rfl (by (with_reducible repeat (first | refine blk_drewN ?_ _ | refine blk_drew ?_ | refine blk_alloc ?_ _)); refine blk_put (cs := #[.int .i64 t225, .int .i64 0]) ?_ 1 _ rfl; (with_reducible repeat (first | refine blk_drewN ?_ _ | refine blk_drew ?_ | refine blk_alloc ?_ _)); refine blk_put (cs := #[.int .i64 0, .int .i64 0]) ?_ 0 _ rfl; (with_reducible repeat (first | refine blk_drewN ?_ _ | refine blk_drew ?_ | refine blk_alloc ?_ _)); refine blk_far ?_ NB220_228.out _; (with_reducible repeat (first | refine blk_drewN ?_ _ | refine blk_drew ?_ | refine blk_alloc ?_ _)); refine blk_far ?_ NB220_228.out _; (with_reducible repeat (first | refine blk_drewN ?_ _ | refine blk_drew ?_ | refine blk_alloc ?_ _)); exact BK220.out) Try.underlying27 rfl zq0) rfl ?_
   exact ⟨zq2, zbz⟩
  ·replace c6 := Bool.eq_false_iff.mpr c6
   subst c6
   have H1 : (some (0, 0, 5)) = some (r1, r2, r3) := by rw [if_neg (show ¬ (false = true) by decide)] at H; exact H
   clear H
   have H := H1
   clear H1
   simp only [Option.some.injEq, Prod.mk.injEq] at H
   obtain ⟨rfl, rfl, rfl⟩ := H
   go_enter Try.func15, Try.ntmps15
   go_wp2_with (first | ((with_reducible refine gate_dst (N := 2) rfl ?_); refine box_event (by rfl) (N := 2) (by rfl) (cs := #[.int .i64 a0_0, .int .i64 a0_1]) (t := 27) zq1 ?_; intro gb218 hg w28 hbox hb; have BK218 := Aside0.mk (hbox); have GW218 := zgs HB hg; have GE218 := zgs HB hg; replace HB := zbs HB hb; clear hb hbox hg) | ((with_reducible refine gate_dst (N := 3) rfl ?_); refine box_event (by rfl) (N := 3) (by rfl) (cs := #[.int .i64 a1_0, .int .i64 a1_1]) (t := 27) zq1 ?_; intro gb219 hg w29 hbox hb; have BK219 := Aside0.mk (hbox); have GW219 := zgs HB hg; have GE219 := zgs HB hg; have NB218_219 := znp BK218 hg; have NB219_218 := znq BK218 hg; replace BK218 := zbb BK218 hb; replace HB := zbs HB hb; clear hb hbox hg) | ((with_reducible refine gate_dst (N := 4) rfl ?_); refine box_event (by rfl) (N := 4) (by rfl) (cs := #[.int .i64 0, .int .i64 0]) (t := 27) zq1 ?_; intro gb220 hg w30 hbox hb; have BK220 := Aside0.mk (hbox); have GW220 := zgs HB hg; have GE220 := zgs HB hg; have NB218_220 := znp BK218 hg; have NB220_218 := znq BK218 hg; have NB219_220 := znp BK219 hg; have NB220_219 := znq BK219 hg; replace BK218 := zbb BK218 hb; replace BK219 := zbb BK219 hb; replace HB := zbs HB hb; clear hb hbox hg; have hnb31 := NB218_219.out; have hnc31 := NB219_218.out; have hnb32 := NB218_220.out; have hnc32 := NB220_218.out; obtain ⟨hcz33_0, hcz33_1, hfz33_0, hfz33_1⟩ := zce2 BK218.out; have hnb34 := NB219_220.out; have hnc34 := NB220_219.out; obtain ⟨hcz35_0, hcz35_1, hfz35_0, hfz35_1⟩ := zce2 BK219.out) | ((with_reducible refine gate_dst (N := 11) rfl ?_); refine Kd.R_lit k27 _ 27 (by rfl) (N := 11) (by rfl) (xs := ([(⟨a0_0, a0_1⟩ : S27), (⟨a1_0, a1_1⟩ : S27)] : List (S27))) (inner := [.int .i64 a0_0, .int .i64 a0_1, .int .i64 a1_0, .int .i64 a1_1]) (ok := fun _ => True) (okp := fun _ => True) zq1 zq7 (fun _ hk => hk) trivial (Below.refl _ _) (Nat.le_refl _) (by simp) ?_; intro v222 w36 ho37 hb hg_ hnew_; clear hg_ hnew_; (first | rw [← Ny221.out] at ho37 | (simp only [Int.reduceToNat] at ho37; rw [← Ny221.out] at ho37)); have HO223 := Aside0.mk (Kd.R_lower (Kd.R_newB (Kd.R_newB (Kd.R_newB ho37 (g := gb218) (o := .cells #[.int .i64 a0_0, .int .i64 a0_1] 27 (0, 0)) zbf) (g := gb219) (o := .cells #[.int .i64 a1_0, .int .i64 a1_1] 27 (0, 0)) zbf) (g := gb220) (o := .cells #[.int .i64 0, .int .i64 0] 27 (0, 0)) zbf) (below_size zbz)); replace BK218 := zbb BK218 hb; replace BK219 := zbb BK219 hb; replace BK220 := zbb BK220 hb; replace HB := zbs HB hb; clear hb ho37; obtain ⟨Ao38, co38, eo38⟩ := Kd.R_slice HO223.out; subst eo38) | ((with_reducible refine gate_callee (f := 59) rfl ?_); refine goesL_ (some 12) rfl rfl Try.func59 zq0 rfl #[.slice Ao38 y221.length co38] rfl zq6 ?_; (with_reducible refine (bound_check.calls k _ _ y221 t224 _ ?side1 ?side2 A3.out).mono ?_); (case side1 => repeat (first | exact (Kd.R_reads' HO223.out).2.2 | (with_reducible refine Kd.C_alloc ?_ _) | (with_reducible refine Kd.C_drewN ?_ _) | (with_reducible refine Kd.C_drew ?_))); (case side2 => exact (Kd.R_reads' HO223.out).2.1); rintro e w39 ⟨rfl, hb⟩; refine ⟨_, rfl, ?_⟩; replace HO223 := zrb HO223 hb; replace BK218 := zbb BK218 hb; replace BK219 := zbb BK219 hb; replace BK220 := zbb BK220 hb; replace HB := zbs HB hb; (try clear hb); (try clear hb2); (try clear hk); (try clear hi); obtain ⟨hcz40_0, hcz40_1, hfz40_0, hfz40_1⟩ := zce2 BK218.out; obtain ⟨hcz41_0, hcz41_1, hfz41_0, hfz41_1⟩ := zce2 BK219.out) | ((with_reducible refine gate_callee (f := 60) rfl ?_); refine goesL_ (some 20) rfl rfl Try.func60 zq0 rfl #[.agg #[.int .i64 a0_0, .int .i64 a0_1], .agg #[.int .i64 a1_0, .int .i64 a1_1]] rfl zq6 ?_; (with_reducible refine (bound_meet.calls a0_0 a0_1 a1_0 a1_1 t225 t226 false _ A5.out).mono ?_); rintro e w42 ⟨rfl, hb⟩; refine ⟨_, rfl, ?_⟩; replace HO223 := zrb HO223 hb; replace BK218 := zbb BK218 hb; replace BK219 := zbb BK219 hb; replace BK220 := zbb BK220 hb; replace HB := zbs HB hb; (try clear hb); (try clear hb2); (try clear hk); (try clear hi)) | ((with_reducible refine gate_dst (N := 7) rfl ?_); refine box_event (by rfl) (N := 7) (by rfl) (cs := #[.int .i64 0, .int .i64 0]) (t := 27) zq1 ?_; intro gb228 hg w43 hbox hb; have n0_ := Aside0.mk (Kd.R_below (Kd.R_elderB (by (with_reducible repeat (first | apply Kd.R_alloc | apply Kd.R_drewN | apply Kd.R_drew)); exact HO223.out) gb228 (Nat.le_of_eq hg.symm)) hb); have n1_ := zbb BK218 hb; have n2_ := zbb BK219 hb; have n3_ := zbb BK220 hb; have n4_ := zbs HB hb; have n5_ := Aside0.mk (hbox); have n6_ := zgs HB hg; have n7_ := zgs HB hg; have n8_ := znp BK218 hg; have n9_ := znq BK218 hg; have n10_ := znp BK219 hg; have n11_ := znq BK219 hg; have n12_ := znp BK220 hg; have n13_ := znq BK220 hg; clear HO223; clear BK218; clear BK219; clear BK220; clear HB; have HO223 := n0_; have BK218 := n1_; have BK219 := n2_; have BK220 := n3_; have HB := n4_; have BK228 := n5_; have GW228 := n6_; have GE228 := n7_; have NB218_228 := n8_; have NB228_218 := n9_; have NB219_228 := n10_; have NB228_219 := n11_; have NB220_228 := n12_; have NB228_220 := n13_; clear n0_ n1_ n2_ n3_ n4_ n5_ n6_ n7_ n8_ n9_ n10_ n11_ n12_ n13_; clear hb hbox hg; have hnb44 := NB228_218.out; have hnc44 := NB218_228.out; have hnb45 := NB228_219.out; have hnc45 := NB219_228.out; have hnb46 := NB228_220.out; have hnc46 := NB220_228.out; obtain ⟨hcz47_0, hcz47_1, hfz47_0, hfz47_1⟩ := zce2 BK228.out; obtain ⟨hcz48_0, hcz48_1, hfz48_0, hfz48_1⟩ := zce2 BK220.out))
   refine bodyPost_ret (results_ct rfl _ _ gb220 27 #[.int .i64 0, .int .i64 0] (0, 0) _ rfl (by (with_reducible repeat (first | refine blk_drewN ?_ _ | refine blk_drew ?_ | refine blk_alloc ?_ _)); refine blk_put (cs := #[.int .i64 0, .int .i64 0]) ?_ 1 _ rfl; (with_reducible repeat (first | refine blk_drewN ?_ _ | refine blk_drew ?_ | refine blk_alloc ?_ _)); refine blk_put (cs := #[.int .i64 0, .int .i64 0]) ?_ 0 _ rfl; (with_reducible repeat (first | refine blk_drewN ?_ _ | refine blk_drew ?_ | refine blk_alloc ?_ _)); refine blk_far ?_ NB220_228.out _; (with_reducible repeat (first | refine blk_drewN ?_ _ | refine blk_drew ?_ | refine blk_alloc ?_ _)); refine blk_far ?_ NB220_228.out _; (with_reducible repeat (first | refine blk_drewN ?_ _ | refine blk_drew ?_ | refine blk_alloc ?_ _)); exact BK220.out) Try.underlying27 rfl zq0) rfl ?_
   exact ⟨zq2, zbz⟩
 ·rw [if_neg c4] at H
  have c4b0 : (t224 == 0) = false := beq_eq_false_iff_ne.mpr c4
  have c4b1 : (t224 != 0) = true := bne_iff_ne.mpr c4
  simp only [Option.some.injEq, Prod.mk.injEq] at H
  obtain ⟨rfl, rfl, rfl⟩ := H
  go_enter Try.func15, Try.ntmps15
  go_wp2_with (first | ((with_reducible refine gate_dst (N := 2) rfl ?_); refine box_event (by rfl) (N := 2) (by rfl) (cs := #[.int .i64 a0_0, .int .i64 a0_1]) (t := 27) zq1 ?_; intro gb218 hg w49 hbox hb; have BK218 := Aside0.mk (hbox); have GW218 := zgs HB hg; have GE218 := zgs HB hg; replace HB := zbs HB hb; clear hb hbox hg) | ((with_reducible refine gate_dst (N := 3) rfl ?_); refine box_event (by rfl) (N := 3) (by rfl) (cs := #[.int .i64 a1_0, .int .i64 a1_1]) (t := 27) zq1 ?_; intro gb219 hg w50 hbox hb; have BK219 := Aside0.mk (hbox); have GW219 := zgs HB hg; have GE219 := zgs HB hg; have NB218_219 := znp BK218 hg; have NB219_218 := znq BK218 hg; replace BK218 := zbb BK218 hb; replace HB := zbs HB hb; clear hb hbox hg) | ((with_reducible refine gate_dst (N := 4) rfl ?_); refine box_event (by rfl) (N := 4) (by rfl) (cs := #[.int .i64 0, .int .i64 0]) (t := 27) zq1 ?_; intro gb220 hg w51 hbox hb; have BK220 := Aside0.mk (hbox); have GW220 := zgs HB hg; have GE220 := zgs HB hg; have NB218_220 := znp BK218 hg; have NB220_218 := znq BK218 hg; have NB219_220 := znp BK219 hg; have NB220_219 := znq BK219 hg; replace BK218 := zbb BK218 hb; replace BK219 := zbb BK219 hb; replace HB := zbs HB hb; clear hb hbox hg; have hnb52 := NB218_219.out; have hnc52 := NB219_218.out; have hnb53 := NB218_220.out; have hnc53 := NB220_218.out; obtain ⟨hcz54_0, hcz54_1, hfz54_0, hfz54_1⟩ := zce2 BK218.out; have hnb55 := NB219_220.out; have hnc55 := NB220_219.out; obtain ⟨hcz56_0, hcz56_1, hfz56_0, hfz56_1⟩ := zce2 BK219.out) | ((with_reducible refine gate_dst (N := 11) rfl ?_); refine Kd.R_lit k27 _ 27 (by rfl) (N := 11) (by rfl) (xs := ([(⟨a0_0, a0_1⟩ : S27), (⟨a1_0, a1_1⟩ : S27)] : List (S27))) (inner := [.int .i64 a0_0, .int .i64 a0_1, .int .i64 a1_0, .int .i64 a1_1]) (ok := fun _ => True) (okp := fun _ => True) zq1 zq7 (fun _ hk => hk) trivial (Below.refl _ _) (Nat.le_refl _) (by simp) ?_; intro v222 w57 ho58 hb hg_ hnew_; clear hg_ hnew_; (first | rw [← Ny221.out] at ho58 | (simp only [Int.reduceToNat] at ho58; rw [← Ny221.out] at ho58)); have HO223 := Aside0.mk (Kd.R_lower (Kd.R_newB (Kd.R_newB (Kd.R_newB ho58 (g := gb218) (o := .cells #[.int .i64 a0_0, .int .i64 a0_1] 27 (0, 0)) zbf) (g := gb219) (o := .cells #[.int .i64 a1_0, .int .i64 a1_1] 27 (0, 0)) zbf) (g := gb220) (o := .cells #[.int .i64 0, .int .i64 0] 27 (0, 0)) zbf) (below_size zbz)); replace BK218 := zbb BK218 hb; replace BK219 := zbb BK219 hb; replace BK220 := zbb BK220 hb; replace HB := zbs HB hb; clear hb ho58; obtain ⟨Ao59, co59, eo59⟩ := Kd.R_slice HO223.out; subst eo59) | ((with_reducible refine gate_callee (f := 59) rfl ?_); refine goesL_ (some 12) rfl rfl Try.func59 zq0 rfl #[.slice Ao59 y221.length co59] rfl zq6 ?_; (with_reducible refine (bound_check.calls k _ _ y221 t224 _ ?side1 ?side2 A3.out).mono ?_); (case side1 => repeat (first | exact (Kd.R_reads' HO223.out).2.2 | (with_reducible refine Kd.C_alloc ?_ _) | (with_reducible refine Kd.C_drewN ?_ _) | (with_reducible refine Kd.C_drew ?_))); (case side2 => exact (Kd.R_reads' HO223.out).2.1); rintro e w60 ⟨rfl, hb⟩; refine ⟨_, rfl, ?_⟩; replace HO223 := zrb HO223 hb; replace BK218 := zbb BK218 hb; replace BK219 := zbb BK219 hb; replace BK220 := zbb BK220 hb; replace HB := zbs HB hb; (try clear hb); (try clear hb2); (try clear hk); (try clear hi); obtain ⟨hcz61_0, hcz61_1, hfz61_0, hfz61_1⟩ := zce2 BK220.out))
  refine bodyPost_ret (results_ct rfl _ _ gb220 27 #[.int .i64 0, .int .i64 0] (0, 0) _ rfl (by (with_reducible repeat (first | refine blk_drewN ?_ _ | refine blk_drew ?_ | refine blk_alloc ?_ _)); refine blk_put (cs := #[.int .i64 0, .int .i64 0]) ?_ 1 _ rfl; (with_reducible repeat (first | refine blk_drewN ?_ _ | refine blk_drew ?_ | refine blk_alloc ?_ _)); refine blk_put (cs := #[.int .i64 0, .int .i64 0]) ?_ 0 _ rfl; (with_reducible repeat (first | refine blk_drewN ?_ _ | refine blk_drew ?_ | refine blk_alloc ?_ _)); exact BK220.out) Try.underlying27 rfl zq0) rfl ?_
  exact ⟨zq2, zbz⟩

end Go.Proofs.Ythglkoddmpicdaa.Pr
end
section
namespace Go.Proofs.Ythglkoddmpicdaa.Pr
open Go.RowKit Go.Proofs.YthglkoddmpicdaaW.PrintWords Go.Proofs.YthglkoddmpicdaaW.PrintLast Go.Proofs.YthglkoddmpicdaaW.PrintMore
attribute [local go_sem] max2_int min2_int max_two min_two max_four
set_option linter.unusedVariables false
set_option linter.unusedSimpArgs false

/-! ### bound_isAnswer: function 125 -/
end Go.Proofs.Ythglkoddmpicdaa.Pr
end
section
/- A region that draws its order, in a round of a loop over a function: it is walked as anywhere else (no operation of it is a deferred call). -/
namespace Go.Proofs.YthglkoddmpicdaaW.Round
open Go.RowKit Go.Proofs.YthglkoddmpicdaaW.PrintWords Go.Proofs.YthglkoddmpicdaaW.PrintLast
section
variable {P : Program} {n l : Nat}

theorem oper_round {o : Oper} {a : Act} {w : World} {K : Act → World → Prop} {Q : Exit → Act → World → Prop} (hd : ∀ c, o.op ≠ .defer c) (h : o.wp P a w K Q) : o.wpIn (Fence.wide.inRound l) n P a w K Q := by
 refine ⟨fun _ _ => trivial, ?_⟩
 rw [Oper.semAt_eq _ _ _ hd]
 unfold Oper.wp at h
 generalize (execOp a.eval o).run P w = r at h
 cases r with
 | ok x w' =>
  cases x with
  | value v => exact h
  | skip => exact h
  | defer d => exact h
  | enter f args => exact ⟨fun h0 => (by cases h0), CallsIn.inRound l (callsIn_wide.2 h)⟩
  | row row args => exact ⟨fun h0 => (by cases h0), fun c cs _ => by obtain ⟨v, w2, r, s⟩ := h c cs; exact ⟨v, w2, r, stepsIn_wide.2 s⟩⟩
  | _ => exact h.elim
 | halt x w' =>
  cases x with
  | panic v => exact h
  | _ => exact h.elim

/-- No operation is a deferred call. -/
def noDefer (ops : Array Oper) : Bool := ops.all fun o => match o.op with | .defer _ => false | _ => true
theorem noDefer_get {ops : Array Oper} (h : noDefer ops = true) {i : Nat} {o : Oper} (ho : ops[i]? = some o) : ∀ c, o.op ≠ .defer c := by
 intro c e
 unfold noDefer at h
 rw [Array.all_eq_true] at h
 obtain ⟨hi, he⟩ := Array.getElem?_eq_some_iff.1 ho
 have := h i hi
 rw [he, e] at this
 simp at this
theorem wpAny_round {ops : Array Oper} {Q : Exit → Act → World → Prop} {md : Region.Mode} (hn : noDefer ops = true) (hQ : ¬ LetsOut Q) : ∀ (fuel : Nat) (listed : Array Bool) (a : Act) (w : World),
  wpAny P md ops Q fuel listed a w → wpAnyIn (Fence.wide.inRound l) n P md ops Q fuel listed a w
 | 0, _, _, _, h => h
 | fuel + 1, listed, a, w, h => by
  refine ⟨h.1, fun i hi => ?_⟩
  have h1 := h.2 i hi
  unfold wpOp at h1
  unfold wpOpIn
  cases ho : ops[i]? with
  | none =>
   rw [ho] at h1
   exact wpAny_round hn hQ fuel _ _ _ h1
  | some o =>
   rw [ho] at h1
   dsimp only at h1 ⊢
   split at h1
   ·rename_i hw
    rw [if_pos hw]
    rcases h1 with h1 | ⟨_, h1⟩
    ·exact Oper.wpIn_mono (fun a w h => wpAny_round hn hQ fuel _ a w h) (oper_round (noDefer_get hn ho) h1)
    ·exact absurd h1 hQ
   ·rename_i hw
    rw [if_neg hw]
    exact ⟨fun _ _ => trivial, wpAny_round hn hQ fuel _ _ _ h1⟩
theorem letsOut_ownG {α : Type} {B : Nat} {Kp : World → World → Prop} {I : List α → World → Prop} {Ix : Code → List α → World → Prop} {xs : List α} {W : World} : ¬ LetsOut (ownPostG B Kp I Ix xs W) := fun ⟨_, _, h⟩ => h
theorem letsOut_inBlock {id : Nat} {Q : Exit → Act → World → Prop} (h : ¬ LetsOut Q) : ¬ LetsOut (Exit.inBlock id Q) := fun ⟨a, w, h1⟩ => h ⟨a, w, h1⟩
theorem letsOut_then {K : Act → World → Prop} {Q : Exit → Act → World → Prop} (h : ¬ LetsOut Q) : ¬ LetsOut (Exit.then K Q) := fun ⟨a, w, h1⟩ => h ⟨a, w, h1⟩
/-- The head of such a region's walk, in a round. -/
theorem startIn_ {ops : Array Oper} {Q : Exit → Act → World → Prop} {S : World → Prop} {ds : List Nat} {id m : Nat} {a : Act} {w : World} (lit : Array Bool) (hd : noDefer ops = true) (hQ : ¬ LetsOut Q) (hm : P.follows .mixedOrders = true) (hn : ops.size = m) (hl : Array.replicate m false = lit) (hS : S w.drew)
  (h : S w.drew → wpAnyLast P .any ops Q S ds m lit a w.drew) : (Code.region id ops true).wpIn (Fence.wide.inRound l) n P Q a w := by
 subst hn
 subst hl
 exact wpIn_region_any hm (wpAny_round hd hQ _ _ _ _ (wpAny_of_last _ _ _ _ (h hS)))
/-- A post that speaks of the normal way out alone. -/
def onlyN (K : Act → World → Prop) : Exit → Act → World → Prop
 | .normal, a, w => K a w
 | _, _, _ => False
theorem onlyN_normal {Q : Exit → Act → World → Prop} {a : Act} {w : World} (h : Q .normal a w) : onlyN (Q .normal) .normal a w := h
theorem wpIn_only {F : Fence} {c : Code} {Q : Exit → Act → World → Prop} {a : Act} {w : World} (h : c.wpIn F n P (onlyN (Q .normal)) a w) : c.wpIn F n P Q a w := wpIn_mono h (fun e a w h => by cases e <;> first | exact h | exact h.elim)
end
end Go.Proofs.YthglkoddmpicdaaW.Round
end
section
/- A trip in memory, and what its small methods compute. -/
namespace Go.Proofs.Ythglkoddmpicdaa.Gl
open Go.RowKit Go.Shelf Go.Proofs.YthglkoddmpicdaaW.PrintWords Go.Proofs.YthglkoddmpicdaaW.PrintLast Go.Proofs.YthglkoddmpicdaaW.PrintMore Go.Proofs.Ythglkoddmpicdaa.Pr Go.Proofs.YthglkoddmpicdaaW.Round
set_option linter.unusedVariables false
set_option linter.unusedSimpArgs false
attribute [local go_sem] max2_int min2_int max_two min_two max_four
/-- A sea. -/
structure Sea where
 nx : Int
 ny : Int
 cell : Int
 slot : Int
 slots : Int
 layers : Int
 most : Int
 shores : List Bool
 currents : List S33
/-- A vehicle. -/
structure Veh where
 speed : Int
 dive : Int
 use : S27
 drift : S27
 reserve : Int
/-- A block of memory, whole. -/
def Blk (W : World) (b : Nat) (c : Array Value) (t : TypeId) : Prop := W.heap[b]? = some (.cells c t (0, 0))
theorem Blk.below {W W1 : World} {b : Nat} {c : Array Value} {t : TypeId} (h : Blk W b c t) (hb : Below W.heap.size W W1) : Blk W1 b c t := (hb.block b (Array.getElem?_eq_some_iff.1 h).1).trans h
/-- A call returns a value; what was there before is as it was. -/
def RetB (v : Value) (w : World) (e : Ending) (w' : World) : Prop := e = .returned v ∧ Below w.heap.size w w'
/-- A trip in memory. -/
def TripAt (W : World) (b : Nat) (s : Sea) (v : Veh) : Prop := ∃ A7 c7 A8 c8, Blk W b #[.int .i64 s.nx, .int .i64 s.ny, .int .i64 s.cell, .int .i64 s.slot, .int .i64 s.slots, .int .i64 s.layers, .int .i64 s.most, .slice A7 s.shores.length c7, .slice A8 s.currents.length c8, .int .i64 v.speed, .int .i64 v.dive, .int .i64 v.use.f0, .int .i64 v.use.f1, .int .i64 v.drift.f0, .int .i64 v.drift.f1, .int .i64 v.reserve] 120 ∧ s.shores.length ≤ c7 ∧ Kd.C Kd.bool W A7 s.shores.length s.shores ∧ s.currents.length ≤ c8 ∧ Kd.C k33 W A8 s.currents.length s.currents
theorem TripAt.below {W W1 : World} {b : Nat} {s : Sea} {v : Veh} (h : TripAt W b s v) (hb : Below W.heap.size W W1) : TripAt W1 b s v := by
 obtain ⟨A7, c7, A8, c8, h1, h2, h3, h4, h5⟩ := h
 exact ⟨A7, c7, A8, c8, h1.below hb, h2, Kd.C_below h3 hb, h4, Kd.C_below h5 hb⟩
/-- The numbers of a valid sea. -/
structure SeaN (s : Sea) : Prop where
 nx : 1 ≤ s.nx ∧ s.nx ≤ 12
 ny : 1 ≤ s.ny ∧ s.ny ≤ 12
 cell : 100 ≤ s.cell ∧ s.cell ≤ 65536
 slot : 1 ≤ s.slot ∧ s.slot ≤ 1048576
 slots : 1 ≤ s.slots ∧ s.slots ≤ 16
 layers : 1 ≤ s.layers ∧ s.layers ≤ 3
 most : 0 ≤ s.most ∧ s.most ≤ 5000
theorem ret_two {a b c d : Int} (h : a = c) (h2 : b = d) : Ending.returned (.tuple #[.int .i64 a, .int .i64 b]) = Ending.returned (.tuple #[.int .i64 c, .int .i64 d]) := by rw [h, h2]
theorem mul_in {a b m n : Int} (h0 : 0 ≤ a) (h1 : a ≤ m) (h2 : 0 ≤ b) (h3 : b ≤ n) : 0 ≤ a * b ∧ a * b ≤ m * n :=
 ⟨Int.mul_nonneg h0 h2, Int.le_trans (Int.mul_le_mul_of_nonneg_right h1 h2) (Int.mul_le_mul_of_nonneg_left h3 (Int.le_trans h0 h1))⟩
/-- Is a box in the sea? -/
def containsI (s : Sea) (x : S29) : Bool := decide (0 ≤ x.f0.f0) && decide (0 ≤ x.f1.f0) && decide (x.f0.f1 ≤ s.nx * s.cell) && decide (x.f1.f1 ≤ s.ny * s.cell)
/-- Are all seconds in slots? -/
def knownI (s : Sea) (t u : Int) : Bool := decide (0 ≤ t) && decide (u ≤ s.slots * s.slot)
set_option maxRecDepth 100000 in
set_option maxHeartbeats 2000000 in
theorem contains_any (b : Nat) (s : Sea) (v : Veh) (x : S29) (w : World) (hT : TripAt w b s v) (hS : SeaN s) :
  Calls Try.prog 52 #[.pointer (some ⟨b, 0, none⟩), .agg #[.int .i64 x.f0.f0, .int .i64 x.f0.f1, .int .i64 x.f1.f0, .int .i64 x.f1.f1]] w (RetB (.bool (containsI s x)) w) := by
 obtain ⟨A7, c7, A8, c8, hB, _⟩ := hT
 have hx := mul_in (show 0 ≤ s.nx by have := hS.nx; omega) hS.nx.2 (show 0 ≤ s.cell by have := hS.cell; omega) hS.cell.2
 have hy := mul_in (show 0 ≤ s.ny by have := hS.ny; omega) hS.ny.2 (show 0 ≤ s.cell by have := hS.cell; omega) hS.cell.2
 clear hS
 have hC0 : ∀ o_, (w.alloc o_).cell? ⟨b, 0, none⟩ = some (.int .i64 s.nx) := fun o_ => (blk_cell (blk_alloc hB o_) 0).trans rfl
 have hC1 : ∀ o_, (w.alloc o_).cell? ⟨b, 1, none⟩ = some (.int .i64 s.ny) := fun o_ => (blk_cell (blk_alloc hB o_) 1).trans rfl
 have hC2 : ∀ o_, (w.alloc o_).cell? ⟨b, 2, none⟩ = some (.int .i64 s.cell) := fun o_ => (blk_cell (blk_alloc hB o_) 2).trans rfl
 by_cases q0 : 0 ≤ x.f0.f0
 ·have q0_ : decide (0 ≤ x.f0.f0) = true := decide_eq_true q0
  by_cases q1 : 0 ≤ x.f1.f0
  ·have q1_ : decide (0 ≤ x.f1.f0) = true := decide_eq_true q1
   by_cases q2 : x.f0.f1 ≤ s.nx * s.cell
   ·have q2_ : decide (x.f0.f1 ≤ s.nx * s.cell) = true := decide_eq_true q2
    by_cases q3 : x.f1.f1 ≤ s.ny * s.cell
    ·have q3_ : decide (x.f1.f1 ≤ s.ny * s.cell) = true := decide_eq_true q3
     have HR : Hid (containsI s x = true) := Lib.hid (by unfold containsI; simp only [q0_, q1_, q2_, q3_]; rfl)
     go_enter Try.func52, Try.ntmps52
     go_wp2
     go_quiet (fail)
     go_wp2
     go_ret
     exact ⟨zq19, zq20⟩
    ·have q3_ : decide (x.f1.f1 ≤ s.ny * s.cell) = false := decide_eq_false q3
     have HR : Hid (containsI s x = false) := Lib.hid (by unfold containsI; simp only [q0_, q1_, q2_, q3_]; rfl)
     go_enter Try.func52, Try.ntmps52
     go_wp2
     go_quiet (fail)
     go_wp2
     go_ret
     exact ⟨zq19, zq20⟩
   ·have q2_ : decide (x.f0.f1 ≤ s.nx * s.cell) = false := decide_eq_false q2
    have HR : Hid (containsI s x = false) := Lib.hid (by unfold containsI; simp only [q0_, q1_, q2_]; rfl)
    go_enter Try.func52, Try.ntmps52
    go_wp2
    go_quiet (fail)
    go_wp2
    go_ret
    exact ⟨zq19, zq20⟩
  ·have q1_ : decide (0 ≤ x.f1.f0) = false := decide_eq_false q1
   have HR : Hid (containsI s x = false) := Lib.hid (by unfold containsI; simp only [q0_, q1_]; rfl)
   go_enter Try.func52, Try.ntmps52
   go_wp2
   go_quiet (fail)
   go_wp2
   go_ret
   exact ⟨zq19, zq20⟩
 ·have q0_ : decide (0 ≤ x.f0.f0) = false := decide_eq_false q0
  have HR : Hid (containsI s x = false) := Lib.hid (by unfold containsI; simp only [q0_]; rfl)
  go_enter Try.func52, Try.ntmps52
  go_wp2
  go_quiet (fail)
  go_wp2
  go_ret
  exact ⟨zq19, zq20⟩
set_option maxRecDepth 100000 in
set_option maxHeartbeats 2000000 in
theorem known_any (b : Nat) (s : Sea) (v : Veh) (t u : Int) (w : World) (hT : TripAt w b s v) (hS : SeaN s) :
  Calls Try.prog 53 #[.pointer (some ⟨b, 0, none⟩), .int .i64 t, .int .i64 u] w (RetB (.bool (knownI s t u)) w) := by
 obtain ⟨A7, c7, A8, c8, hB, _⟩ := hT
 have hx := mul_in (show 0 ≤ s.slots by have := hS.slots; omega) hS.slots.2 (show 0 ≤ s.slot by have := hS.slot; omega) hS.slot.2
 clear hS
 have hC3 : w.cell? ⟨b, 3, none⟩ = some (.int .i64 s.slot) := (blk_cell hB 3).trans rfl
 have hC4 : w.cell? ⟨b, 4, none⟩ = some (.int .i64 s.slots) := (blk_cell hB 4).trans rfl
 by_cases q0 : 0 ≤ t
 ·have q0_ : decide (0 ≤ t) = true := decide_eq_true q0
  by_cases q1 : u ≤ s.slots * s.slot
  ·have q1_ : decide (u ≤ s.slots * s.slot) = true := decide_eq_true q1
   have HR : Hid (knownI s t u = true) := Lib.hid (by unfold knownI; simp only [q0_, q1_]; rfl)
   go_enter Try.func53, Try.ntmps53
   go_wp2
   go_quiet (fail)
   go_wp2
   go_ret
   exact ⟨zq19, zq20⟩
  ·have q1_ : decide (u ≤ s.slots * s.slot) = false := decide_eq_false q1
   have HR : Hid (knownI s t u = false) := Lib.hid (by unfold knownI; simp only [q0_, q1_]; rfl)
   go_enter Try.func53, Try.ntmps53
   go_wp2
   go_quiet (fail)
   go_wp2
   go_ret
   exact ⟨zq19, zq20⟩
 ·have q0_ : decide (0 ≤ t) = false := decide_eq_false q0
  have HR : Hid (knownI s t u = false) := Lib.hid (by unfold knownI; simp only [q0_]; rfl)
  go_enter Try.func53, Try.ntmps53
  go_wp2
  go_quiet (fail)
  go_wp2
  go_ret
  exact ⟨zq19, zq20⟩

/-- The first cell, along a side, that a span from lo on touches. -/
def firstI (c lo : Int) : Int := if 0 < lo / c ∧ lo % c = 0 then lo / c - 1 else lo / c
def numI (c : Int) (a : S27) (most : Int) : Int × Int := (min (firstI c a.f0) (most - 1), min (a.f1 / c) (most - 1))
theorem div_in {x c : Int} (h0 : 0 ≤ x) (hc : 1 ≤ c) : 0 ≤ x / c ∧ x / c ≤ x :=
 ⟨Int.ediv_nonneg h0 (by omega), Int.ediv_le_self _ h0⟩
theorem mod_in {x c : Int} (hc : 1 ≤ c) : 0 ≤ x % c ∧ x % c ≤ c := by
 have h1 := Int.emod_nonneg x (show c ≠ 0 by omega)
 have h2 := Int.emod_lt_of_pos x (show 0 < c by omega)
 omega
set_option maxRecDepth 100000 in
set_option maxHeartbeats 2000000 in
theorem numbers_any (b : Nat) (s : Sea) (v : Veh) (a : S27) (most : Int) (w : World) (hT : TripAt w b s v) (hS : SeaN s) (h0 : 0 ≤ a.f0) (h1 : a.f0 ≤ 1099511627776) (h2 : 0 ≤ a.f1) (h3 : a.f1 ≤ 1099511627776) (hm0 : 1 ≤ most) (hm1 : most ≤ 12) :
  Calls Try.prog 157 #[.pointer (some ⟨b, 0, none⟩), .agg #[.int .i64 a.f0, .int .i64 a.f1], .int .i64 most] w (RetB (.tuple #[.int .i64 (numI s.cell a most).1, .int .i64 (numI s.cell a most).2]) w) := by
 obtain ⟨A7, c7, A8, c8, hB, _⟩ := hT
 have hc := hS.cell
 have hd := div_in h0 (show 1 ≤ s.cell by omega)
 have hd2 := div_in h2 (show 1 ≤ s.cell by omega)
 have hr := mod_in (x := a.f0) (show 1 ≤ s.cell by omega)
 have hne : s.cell ≠ 0 := by omega
 have hbq : (s.cell == 0) = false := beq_eq_false_iff_ne.2 hne
 clear hS
 have hC2 : ∀ o_, (w.alloc o_).cell? ⟨b, 2, none⟩ = some (.int .i64 s.cell) := fun o_ => (blk_cell (blk_alloc hB o_) 2).trans rfl
 have e1 : Int.tdiv a.f0 s.cell = a.f0 / s.cell := Int.tdiv_eq_ediv_of_nonneg h0
 have e2 : Int.tdiv a.f1 s.cell = a.f1 / s.cell := Int.tdiv_eq_ediv_of_nonneg h2
 have e3 : Int.tmod a.f0 s.cell = a.f0 % s.cell := Int.tmod_eq_emod_of_nonneg h0
 have HR : Hid (numI s.cell a most = (min (firstI s.cell a.f0) (most - 1), min (a.f1 / s.cell) (most - 1))) := Lib.hid rfl
 have HF : Hid (firstI s.cell a.f0 = if 0 < a.f0 / s.cell ∧ a.f0 % s.cell = 0 then a.f0 / s.cell - 1 else a.f0 / s.cell) := Lib.hid rfl
 generalize a.f0 / s.cell = Q at *
 generalize a.f1 / s.cell = R at *
 generalize a.f0 % s.cell = M at *
 by_cases q0 : 0 < Q
 ·have q0_ : decide (0 < Q) = true := decide_eq_true q0
  by_cases q1 : M = 0
  ·have q1_ : (M == 0) = true := beq_iff_eq.2 q1
   have HG := Lib.hid (HF.out.trans (if_pos ⟨q0, q1⟩))
   clear q1 HF
   go_enter Try.func157, Try.ntmps157
   go_wp2
   go_quiet (fail)
   go_wp2
   go_quiet (fail)
   go_wp2
   go_quiet (fail)
   go_wp2
   all_goals (go_ret2; exact ⟨ret_two (by rw [HR.out]; dsimp only; rw [HG.out]; omega) (by rw [HR.out]; dsimp only; omega), zq20⟩)
  ·have q1_ : (M == 0) = false := beq_eq_false_iff_ne.2 q1
   have HG := Lib.hid (HF.out.trans (if_neg (fun h => q1 h.2)))
   clear q1 HF
   go_enter Try.func157, Try.ntmps157
   go_wp2
   go_quiet (fail)
   go_wp2
   go_quiet (fail)
   go_wp2
   go_quiet (fail)
   go_wp2
   all_goals (go_ret2; exact ⟨ret_two (by rw [HR.out]; dsimp only; rw [HG.out]; omega) (by rw [HR.out]; dsimp only; omega), zq20⟩)
 ·have q0_ : decide (0 < Q) = false := decide_eq_false q0
  have HG := Lib.hid (HF.out.trans (if_neg (fun h => q0 h.1)))
  clear HF
  go_enter Try.func157, Try.ntmps157
  go_wp2
  go_quiet (fail)
  go_wp2
  go_quiet (fail)
  go_wp2
  go_quiet (fail)
  go_wp2
  all_goals (go_ret2; exact ⟨ret_two (by rw [HR.out]; dsimp only; rw [HG.out]; omega) (by rw [HR.out]; dsimp only; omega), zq20⟩)
end Go.Proofs.Ythglkoddmpicdaa.Gl
end
section
/- The least and the greatest number of a row, and answers that are combined: what the program answers. -/
namespace Go.Proofs.Ythglkoddmpicdaa.Tp
open Go.RowKit Go.Shelf Go.Proofs.YthglkoddmpicdaaW.PrintWords Go.Proofs.YthglkoddmpicdaaW.PrintLast Go.Proofs.YthglkoddmpicdaaW.PrintMore Go.Proofs.Ythglkoddmpicdaa.Pr Go.Proofs.Ythglkoddmpicdaa.Gl
attribute [local go_sem] max2_int min2_int max_two min_two max_four
set_option linter.unusedVariables false
def RetW (v : Value) (w : World) (e : Ending) (w' : World) : Prop := e = .returned v ∧ w' = w
def mnL : List Int → Int | [] => 0 | x :: l => l.foldl mn x
def mxL : List Int → Int | [] => 0 | x :: l => l.foldl mx x
theorem rd_get {l : List Int} {k : Nat} (h : k < l.length) : rd l (k : Int) = l[k] := by
 show l.getD (k : Int).toNat 0 = _
 simp [List.getD_eq_getElem?_getD, h]
theorem mnL_snoc {l : List Int} {k : Nat} (h : k + 1 < l.length) : mnL (l.take (k + 1 + 1)) = mn (mnL (l.take (k + 1))) l[k + 1] := by
 match l, h with
 | x :: t, h =>
  have hk : k < t.length := by simpa using h
  show (t.take (k + 1)).foldl mn x = mn ((t.take k).foldl mn x) t[k]
  rw [List.take_succ_eq_append_getElem hk, List.foldl_append]; rfl
theorem mxL_snoc {l : List Int} {k : Nat} (h : k + 1 < l.length) : mxL (l.take (k + 1 + 1)) = mx (mxL (l.take (k + 1))) l[k + 1] := by
 match l, h with
 | x :: t, h =>
  have hk : k < t.length := by simpa using h
  show (t.take (k + 1)).foldl mx x = mx ((t.take k).foldl mx x) t[k]
  rw [List.take_succ_eq_append_getElem hk, List.foldl_append]; rfl
theorem mnL_one {l : List Int} (h : 0 < l.length) : mnL (l.take 1) = l[0] := by match l, h with | x :: t, _ => rfl
theorem mxL_one {l : List Int} (h : 0 < l.length) : mxL (l.take 1) = l[0] := by match l, h with | x :: t, _ => rfl
set_option maxRecDepth 100000 in
set_option maxHeartbeats 4000000 in
theorem min_any (l : List Int) (h0 : 0 < l.length) (hS : l.length < 1000000) (A : Option Addr) (c : Nat) (w : World) (hC : Kd.C (Kd.int .i64) w A l.length l) :
  Calls Try.prog 120 #[.slice A l.length c] w (RetW (.int .i64 (mnL l)) w) := by
 have hlt : decide ((l.length : Int) < 1) = false := decide_eq_false (by omega)
 obtain ⟨ad, rfl, hc0⟩ := Kd.at_int hC 0 (by omega) (by omega)
 rw [show rd l 0 = l[0] from rd_get (k := 0) h0, show Int.toNat 0 = 0 from rfl, show ad.add 0 = ad from rfl] at hc0
 have hO := mnL_one h0
 rw [← hO] at hc0
 have hC2 := Lib.hid hC
 have hS2 := Lib.hid (And.intro h0 hS)
 clear hC hO hS
 have hi0 : (0 : Int) < (l.length : Int) := by omega
 generalize hM1 : mnL (l.take 1) = m1 at *
 have hM := Lib.hid hM1
 clear hM1
 generalize hR1 : mnL l = r at *
 have hR := Lib.hid hR1
 clear hR1
 go_enter Try.func120, Try.ntmps120
 go_wp2
 clear hc0 hlt hi0 h0
 go_loopw [3, 4] (fun o i wr => ∃ (k : Nat) (m : Int), o = .int .i64 m ∧ Hid (mnL (l.take k) = m) ∧ i = .int .i64 (k : Int) ∧ 1 ≤ k ∧ k ≤ l.length ∧ wr = w) (fun _ i _ => l.length + 1 - (intOf i).toNat)
 case atStart => exact ⟨1, m1, rfl, hM, rfl, Nat.le_refl _, hS2.out.1, rfl⟩
 case round =>
  obtain ⟨k, m, rfl, hm, rfl, hk1, hk, rfl⟩ := hrel
  obtain ⟨h0_, hS_⟩ := hS2.out
  by_cases hkl : k < l.length
  case pos =>
   have hd : decide ((k : Int) < (l.length : Int)) = true := decide_eq_true (by omega)
   obtain ⟨ad_, e_, hc⟩ := Kd.at_int hC2.out (k : Int) (by omega) (by omega)
   cases e_
   rw [rd_get hkl, Int.toNat_natCast] at hc
   obtain ⟨k', rfl⟩ : ∃ k', k = k' + 1 := ⟨k - 1, by omega⟩
   have hf := mnL_snoc hkl
   rw [hm.out] at hf
   have HF := Lib.hid hf
   have hK := Lib.hid hkl
   have hw : wrap64 (((k' + 1 : Nat) : Int) + 1) = ((k' + 1 : Nat) : Int) + 1 := by unfold wrap64; omega
   clear hf hm
   generalize l[k' + 1] = y at *
   generalize k' + 1 = k at *
   have hi1 : (k : Int) < (l.length : Int) := by omega
   have hi2 : (0 : Int) ≤ (k : Int) := by omega
   clear hkl hk h0_ hS_ hk1
   go_upto_region 7 with fail
   go_upto_region 6 with fail
   go_wp2
   rw [hw]
   go_roundw
   case rel => exact ⟨k + 1, _, rfl, HF, by simp, by omega, by have := hK.out; omega, trivial⟩
   case measure => simp [intOf]; omega
  case neg =>
   obtain rfl : k = l.length := by omega
   have hd : decide ((l.length : Int) < (l.length : Int)) = false := decide_eq_false (by omega)
   have hm2 := hm.out
   rw [List.take_length] at hm2
   have hE : m = r := hm2.symm.trans hR.out
   clear hm2 hm
   subst hE
   clear hkl hk hk1 hS_ h0_
   go_wp2
   go_ret
   exact ⟨rfl, rfl⟩
set_option maxRecDepth 100000 in
set_option maxHeartbeats 4000000 in
theorem max_any (l : List Int) (h0 : 0 < l.length) (hS : l.length < 1000000) (A : Option Addr) (c : Nat) (w : World) (hC : Kd.C (Kd.int .i64) w A l.length l) :
  Calls Try.prog 121 #[.slice A l.length c] w (RetW (.int .i64 (mxL l)) w) := by
 have hlt : decide ((l.length : Int) < 1) = false := decide_eq_false (by omega)
 obtain ⟨ad, rfl, hc0⟩ := Kd.at_int hC 0 (by omega) (by omega)
 rw [show rd l 0 = l[0] from rd_get (k := 0) h0, show Int.toNat 0 = 0 from rfl, show ad.add 0 = ad from rfl] at hc0
 have hO := mxL_one h0
 rw [← hO] at hc0
 have hC2 := Lib.hid hC
 have hS2 := Lib.hid (And.intro h0 hS)
 clear hC hO hS
 have hi0 : (0 : Int) < (l.length : Int) := by omega
 generalize hM1 : mxL (l.take 1) = m1 at *
 have hM := Lib.hid hM1
 clear hM1
 generalize hR1 : mxL l = r at *
 have hR := Lib.hid hR1
 clear hR1
 go_enter Try.func121, Try.ntmps121
 go_wp2
 clear hc0 hlt hi0 h0
 go_loopw [3, 4] (fun o i wr => ∃ (k : Nat) (m : Int), o = .int .i64 m ∧ Hid (mxL (l.take k) = m) ∧ i = .int .i64 (k : Int) ∧ 1 ≤ k ∧ k ≤ l.length ∧ wr = w) (fun _ i _ => l.length + 1 - (intOf i).toNat)
 case atStart => exact ⟨1, m1, rfl, hM, rfl, Nat.le_refl _, hS2.out.1, rfl⟩
 case round =>
  obtain ⟨k, m, rfl, hm, rfl, hk1, hk, rfl⟩ := hrel
  obtain ⟨h0_, hS_⟩ := hS2.out
  by_cases hkl : k < l.length
  case pos =>
   have hd : decide ((k : Int) < (l.length : Int)) = true := decide_eq_true (by omega)
   obtain ⟨ad_, e_, hc⟩ := Kd.at_int hC2.out (k : Int) (by omega) (by omega)
   cases e_
   rw [rd_get hkl, Int.toNat_natCast] at hc
   obtain ⟨k', rfl⟩ : ∃ k', k = k' + 1 := ⟨k - 1, by omega⟩
   have hf := mxL_snoc hkl
   rw [hm.out] at hf
   have HF := Lib.hid hf
   have hK := Lib.hid hkl
   have hw : wrap64 (((k' + 1 : Nat) : Int) + 1) = ((k' + 1 : Nat) : Int) + 1 := by unfold wrap64; omega
   clear hf hm
   generalize l[k' + 1] = y at *
   generalize k' + 1 = k at *
   have hi1 : (k : Int) < (l.length : Int) := by omega
   have hi2 : (0 : Int) ≤ (k : Int) := by omega
   clear hkl hk h0_ hS_ hk1
   go_upto_region 7 with fail
   go_upto_region 6 with fail
   go_wp2
   rw [hw]
   go_roundw
   case rel => exact ⟨k + 1, _, rfl, HF, by simp, by omega, by have := hK.out; omega, trivial⟩
   case measure => simp [intOf]; omega
  case neg =>
   obtain rfl : k = l.length := by omega
   have hd : decide ((l.length : Int) < (l.length : Int)) = false := decide_eq_false (by omega)
   have hm2 := hm.out
   rw [List.take_length] at hm2
   have hE : m = r := hm2.symm.trans hR.out
   clear hm2 hm
   subst hE
   clear hkl hk hk1 hS_ h0_
   go_wp2
   go_ret
   exact ⟨rfl, rfl⟩
end Go.Proofs.Ythglkoddmpicdaa.Tp
end
section
/- The least and the greatest number of a row, in the shape of the print. -/
namespace Go.Proofs.Ythglkoddmpicdaa.Pr
open Go.RowKit Go.Proofs.YthglkoddmpicdaaW.PrintWords Go.Proofs.YthglkoddmpicdaaW.PrintLast Go.Proofs.YthglkoddmpicdaaW.PrintMore
set_option linter.unusedVariables false
def slices_Min_int64_int64.f (l0 : List Int) : Option (Int) := if l0 = [] ∨ 1000000 ≤ l0.length then none else some (Tp.mnL l0)
theorem slices_Min_int64_int64.calls (A0 : Option Addr) (c0 : Nat) (l0 : List Int) (r : Int) (w : World) (hr0 : Kd.C (Kd.int .i64) w A0 l0.length l0) (hc0 : l0.length ≤ c0) (h : slices_Min_int64_int64.f l0 = some r) :
  Calls Try.prog 120 #[.slice A0 l0.length c0] w fun e w' => e = .returned (.int .i64 r) ∧ Below w.heap.size w w' := by
 have e := h
 unfold slices_Min_int64_int64.f at e
 by_cases g : l0 = [] ∨ 1000000 ≤ l0.length
 ·rw [if_pos g] at e; cases e
 ·rw [if_neg g] at e
  have h0 : 0 < l0.length := by cases l0 with | nil => exact absurd (Or.inl rfl) g | cons a b => simp
  have e2 := Option.some.inj e
  rw [← e2]
  exact (Tp.min_any l0 h0 (by omega) A0 c0 w hr0).mono fun e w' q => ⟨q.1, by rw [q.2]; exact Below.refl _ _⟩
def slices_Max_int64_int64.f (l0 : List Int) : Option (Int) := if l0 = [] ∨ 1000000 ≤ l0.length then none else some (Tp.mxL l0)
theorem slices_Max_int64_int64.calls (A0 : Option Addr) (c0 : Nat) (l0 : List Int) (r : Int) (w : World) (hr0 : Kd.C (Kd.int .i64) w A0 l0.length l0) (hc0 : l0.length ≤ c0) (h : slices_Max_int64_int64.f l0 = some r) :
  Calls Try.prog 121 #[.slice A0 l0.length c0] w fun e w' => e = .returned (.int .i64 r) ∧ Below w.heap.size w w' := by
 have e := h
 unfold slices_Max_int64_int64.f at e
 by_cases g : l0 = [] ∨ 1000000 ≤ l0.length
 ·rw [if_pos g] at e; cases e
 ·rw [if_neg g] at e
  have h0 : 0 < l0.length := by cases l0 with | nil => exact absurd (Or.inl rfl) g | cons a b => simp
  have e2 := Option.some.inj e
  rw [← e2]
  exact (Tp.max_any l0 h0 (by omega) A0 c0 w hr0).mono fun e w' q => ⟨q.1, by rw [q.2]; exact Below.refl _ _⟩
end Go.Proofs.Ythglkoddmpicdaa.Pr
end
section
namespace Go.Proofs.Ythglkoddmpicdaa.Pr
open Go.RowKit Go.Proofs.YthglkoddmpicdaaW.PrintWords Go.Proofs.YthglkoddmpicdaaW.PrintLast Go.Proofs.YthglkoddmpicdaaW.PrintMore
attribute [local go_sem] max2_int min2_int max_two min_two max_four
set_option linter.unusedVariables false
set_option linter.unusedSimpArgs false

/-! ### bound_least: function 61 -/
def bound_least.f (l0 : List Int) : Option (Int × Int) := (slices_Min_int64_int64.f l0).bind fun t230 => ((slices_Max_int64_int64.f l0).bind fun t231 => (some (t230, t231)))
set_option maxHeartbeats 8000000 in
set_option maxRecDepth 100000 in
theorem bound_least.calls (A0 : Option Addr) (c0 : Nat) (l0 : List Int) (r1 : Int) (r2 : Int) (w : World) (hr0 : Kd.C (Kd.int .i64) w A0 l0.length l0) (hc0 : l0.length ≤ c0) (h : bound_least.f l0 = some (r1, r2)) :
  Calls Try.prog 61 #[.slice A0 l0.length c0] w fun e w' => e = .returned (.agg #[.int .i64 r1, .int .i64 r2]) ∧ Below w.heap.size w w' := by
 have hu27 := Try.underlying27
 have HR0 := Aside0.mk hr0
 have HC0 := Aside0.mk hc0
 clear hr0 hc0
 have HB := Aside0.mk (Below.refl w.heap.size w)
 have H : ((slices_Min_int64_int64.f l0).bind fun t230 => ((slices_Max_int64_int64.f l0).bind fun t231 => (some (t230, t231)))) = some (r1, r2) := h
 clear h
 replace H := Option.bind_eq_some_iff.mp H
 obtain ⟨t230, A20, H⟩ := H
 replace H : ((slices_Max_int64_int64.f l0).bind fun t231 => (some (t230, t231))) = some (r1, r2) := H
 have A2 := Aside0.mk A20
 clear A20
 replace H := Option.bind_eq_some_iff.mp H
 obtain ⟨t231, A30, H⟩ := H
 replace H : (some (t230, t231)) = some (r1, r2) := H
 have A3 := Aside0.mk A30
 clear A30
 simp only [Option.some.injEq, Prod.mk.injEq] at H
 obtain ⟨rfl, rfl⟩ := H
 go_enter Try.func61, Try.ntmps61
 go_wp2_with (first | ((with_reducible refine gate_dst (N := 2) rfl ?_); refine box_event (by rfl) (N := 2) (by rfl) (cs := #[.int .i64 0, .int .i64 0]) (t := 27) zq1 ?_; intro gb229 hg w4 hbox hb; have BK229 := Aside0.mk (hbox); have GW229 := zgs HB hg; have GE229 := zgs HB hg; replace HB := zbs HB hb; clear hb hbox hg) | ((with_reducible refine gate_callee (f := 120) rfl ?_); refine goesL_ (some 4) rfl rfl Try.func120 zq0 rfl #[.slice A0 l0.length c0] rfl zq6 ?_; (with_reducible refine (slices_Min_int64_int64.calls _ _ l0 t230 _ ?side1 ?side2 A2.out).mono ?_); (case side1 => repeat (first | exact (Kd.C_below HR0.out HB.out) | (with_reducible refine Kd.C_alloc ?_ _) | (with_reducible refine Kd.C_drewN ?_ _) | (with_reducible refine Kd.C_drew ?_))); (case side2 => exact HC0.out); rintro e w5 ⟨rfl, hb⟩; refine ⟨_, rfl, ?_⟩; replace BK229 := zbb BK229 hb; replace HB := zbs HB hb; (try clear hb); (try clear hb2); (try clear hk); (try clear hi)) | ((with_reducible refine gate_callee (f := 121) rfl ?_); refine goesL_ (some 6) rfl rfl Try.func121 zq0 rfl #[.slice A0 l0.length c0] rfl zq6 ?_; (with_reducible refine (slices_Max_int64_int64.calls _ _ l0 t231 _ ?side1 ?side2 A3.out).mono ?_); (case side1 => repeat (first | exact (Kd.C_below HR0.out HB.out) | (with_reducible refine Kd.C_alloc ?_ _) | (with_reducible refine Kd.C_drewN ?_ _) | (with_reducible refine Kd.C_drew ?_))); (case side2 => exact HC0.out); rintro e w6 ⟨rfl, hb⟩; refine ⟨_, rfl, ?_⟩; replace BK229 := zbb BK229 hb; replace HB := zbs HB hb; (try clear hb); (try clear hb2); (try clear hk); (try clear hi); obtain ⟨hcz7_0, hcz7_1, hfz7_0, hfz7_1⟩ := zce2 BK229.out))
 refine bodyPost_ret (results_cell_row rfl _ _ gb229 27 #[.int .i64 t230, .int .i64 t231] (0, 0) _ rfl (by (with_reducible repeat (first | refine blk_drewN ?_ _ | refine blk_drew ?_ | refine blk_alloc ?_ _)); refine blk_put (cs := #[.int .i64 t230, .int .i64 0]) ?_ 1 _ rfl; (with_reducible repeat (first | refine blk_drewN ?_ _ | refine blk_drew ?_ | refine blk_alloc ?_ _)); refine blk_put (cs := #[.int .i64 0, .int .i64 0]) ?_ 0 _ rfl; (with_reducible repeat (first | refine blk_drewN ?_ _ | refine blk_drew ?_ | refine blk_alloc ?_ _)); exact BK229.out) Try.underlying27 rfl zq0) rfl ?_
 exact ⟨zq2, zbz⟩

end Go.Proofs.Ythglkoddmpicdaa.Pr
end
