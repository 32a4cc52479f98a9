/- Part 7 of the proof of GliderLasts: what the functions compute. No condition. -/
import Derived.SizedLaws
import Derived.ChangeSlices
import Derived.Deep.Slices
import Derived.ChangeArms
import Derived.DataReads
import Derived.WideShapes
import Derived.Test.YtmhaiihjfgfaoaaGqGliderLasts1
import Derived.Test.YtmhaiihjfgfaoaaGqGliderLasts5
import Derived.Test.YtmhaiihjfgfaoaaGqGliderLasts6
import Derived.Test.YtmhaiihjfgfaoaaGqGliderLasts2
section
-- PRINTED by print.py (a twelfth state) out of the translation. Not trusted: Lean checks it.
namespace Go.Proofs.Ytmhaiihjfgfaoaa.Pr
open Go.RowKit Go.Proofs.YtmhaiihjfgfaoaaW.PrintWords Go.Proofs.YtmhaiihjfgfaoaaW.PrintLast Go.Proofs.YtmhaiihjfgfaoaaW.PrintMore
attribute [local go_sem] max2_int min2_int max_two min_two max_four
set_option linter.unusedVariables false
set_option linter.unusedSimpArgs false

/-! ### isobathlaw03_GliderLasts: function 7 -/
mutual
def isobathlaw03_GliderLasts.j0 : Nat → List (S33) → Int → List Int → Bool → Int → Int → Int → Int → Int → Int → Int → Int → Int → Option (Bool)
  | 0, _, _, _, _, _, _, _, _, _, _, _, _, _ => none
  | k + 1, x2, x3, x4, x26, x611000, x611001, x611002, x611003, x611004, x611005, x611006, x612000, x612001 => if x26 = true then ((isobathlaw03_Works.f k).bind fun t613 => (some t613)) else ((glider_Lasts.f k x611000 x611001 x611002 x611003 x611004 x611005 x611006 x612000 x612001).bind fun bt614 => ((glider_Energy.f k x611000 x611001 x611002 x611003 x611004 x611005 x611006 x612000 x612001 x2).bind fun bt616 => (if bt614.2 = 0 then (if bt614.1 < 0 then (isobathlaw03_GliderLasts.j1 k x2 x3 x4 bt614.1 bt616.1 bt616.2.1 bt616.2.2 true x611000 x611001 x611002 x611003 x611004 x611005 x611006 x612000 x612001) else (if (mx x611003 x611005) < 1 then (isobathlaw03_GliderLasts.j1 k x2 x3 x4 bt614.1 bt616.1 bt616.2.1 bt616.2.2 true x611000 x611001 x611002 x611003 x611004 x611005 x611006 x612000 x612001) else (if bt614.1 > x612000 then (isobathlaw03_GliderLasts.j1 k x2 x3 x4 bt614.1 bt616.1 bt616.2.1 bt616.2.2 true x611000 x611001 x611002 x611003 x611004 x611005 x611006 x612000 x612001) else (if (wrap64 (x612000 - (wrap64 (bt614.1 * (mx x611003 x611005))))) < x611006 then (isobathlaw03_GliderLasts.j1 k x2 x3 x4 bt614.1 bt616.1 bt616.2.1 bt616.2.2 true x611000 x611001 x611002 x611003 x611004 x611005 x611006 x612000 x612001) else (isobathlaw03_GliderLasts.j1 k x2 x3 x4 bt614.1 bt616.1 bt616.2.1 bt616.2.2 (decide ((wrap64 (x612000 - (wrap64 ((wrap64 (bt614.1 + 1)) * (mx x611003 x611005))))) ≥ x611006)) x611000 x611001 x611002 x611003 x611004 x611005 x611006 x612000 x612001))))) else (isobathlaw03_GliderLasts.j2 k x2 x3 x4 bt616.1 bt616.2.1 bt616.2.2 x611000 x611001 x611002 x611003 x611004 x611005 x611006 x612000 x612001))))
def isobathlaw03_GliderLasts.j2 : Nat → List (S33) → Int → List Int → List (S27) → Int → Int → Int → Int → Int → Int → Int → Int → Int → Int → Int → Option (Bool)
  | 0, _, _, _, _, _, _, _, _, _, _, _, _, _, _, _ => none
  | k + 1, x2, x3, x4, x13, x14, x15, x611000, x611001, x611002, x611003, x611004, x611005, x611006, x612000, x612001 => if x15 = 0 then (if x14 = (x2.length : Int) then (isobathlaw03_GliderLasts.j3 k x2 x3 x4 x13 ((x13.length : Int) != x14) x611000 x611001 x611002 x611003 x611004 x611005 x611006 x612000 x612001) else (isobathlaw03_GliderLasts.j3 k x2 x3 x4 x13 true x611000 x611001 x611002 x611003 x611004 x611005 x611006 x612000 x612001)) else (if (x13.length : Int) = 0 then ((isobathlaw03_Works.f k).bind fun t621 => (some t621)) else (some false))
def isobathlaw03_GliderLasts.j3 : Nat → List (S33) → Int → List Int → List (S27) → Bool → Int → Int → Int → Int → Int → Int → Int → Int → Int → Option (Bool)
  | 0, _, _, _, _, _, _, _, _, _, _, _, _, _, _ => none
  | k + 1, x2, x3, x4, x13, x111, x611000, x611001, x611002, x611003, x611004, x611005, x611006, x612000, x612001 => if x111 = true then (some false) else ((isobathlaw01_Part.f x612000 x612001 x3).bind fun t622 => (isobathlaw03_GliderLasts.l0 k x2 x4 x13 t622 0 x611000 x611001 x611002 x611003 x611004 x611005 x611006))
def isobathlaw03_GliderLasts.l0 : Nat → List (S33) → List Int → List (S27) → Int → Int → Int → Int → Int → Int → Int → Int → Int → Option (Bool)
  | 0, _, _, _, _, _, _, _, _, _, _, _, _ => none
  | k + 1, x2, x4, x13, x17, x18, x611000, x611001, x611002, x611003, x611004, x611005, x611006 => if x18 < (x2.length : Int) then (if 0 ≤ x18 then ((isobathref03_Takes.f x611000 x611001 x611002 x611003 x611004 x611005 x611006 ((rd_T33 x2 x18).f0) ((rd_T33 x2 x18).f1)).bind fun bt625 => ((isobathlaw03_pick.f x4 x18).bind fun t627 => ((isobathlaw01_Part.f bt625.1 bt625.2 t627).bind fun t628 => (if (wrap64 (x17 - t628)) < x611006 then (some false) else (if x18 < (x13.length : Int) then (if (wrap64 (x17 - t628)) < ((rd_T27 x13 x18).f0) then (some false) else (if (wrap64 (x17 - t628)) > ((rd_T27 x13 x18).f1) then (some false) else (isobathlaw03_GliderLasts.l0 k x2 x4 x13 (wrap64 (x17 - t628)) (wrap64 (x18 + 1)) x611000 x611001 x611002 x611003 x611004 x611005 x611006))) else (none)))))) else (none)) else ((isobathlaw03_Works.f k).bind fun t623 => (some t623))
def isobathlaw03_GliderLasts.j1 : Nat → List (S33) → Int → List Int → Int → List (S27) → Int → Int → Bool → Int → Int → Int → Int → Int → Int → Int → Int → Int → Option (Bool)
  | 0, _, _, _, _, _, _, _, _, _, _, _, _, _, _, _, _, _ => none
  | k + 1, x2, x3, x4, x11, x13, x14, x15, x85, x611000, x611001, x611002, x611003, x611004, x611005, x611006, x612000, x612001 => if x85 = true then (some false) else (if (x2.length : Int) ≤ x11 then (if x15 = 19 then (some false) else (isobathlaw03_GliderLasts.j2 k x2 x3 x4 x13 x14 x15 x611000 x611001 x611002 x611003 x611004 x611005 x611006 x612000 x612001)) else (isobathlaw03_GliderLasts.j2 k x2 x3 x4 x13 x14 x15 x611000 x611001 x611002 x611003 x611004 x611005 x611006 x612000 x612001))
end
def isobathlaw03_GliderLasts.f (k : Nat) (a0_0 : Int) (a0_1 : Int) (a0_2 : Int) (a0_3 : Int) (a0_4 : Int) (a0_5 : Int) (a0_6 : Int) (a1_0 : Int) (a1_1 : Int) (l2 : List (S33)) (a3 : Int) (l4 : List Int) : Option (Bool) := (isobathref03_CheckVehicle.f a0_0 a0_1 a0_2 a0_3 a0_4 a0_5 a0_6).bind fun t612 => (if t612 = 0 then (isobathlaw03_GliderLasts.j0 k l2 a3 l4 (decide ((l2.length : Int) > 64)) a0_0 a0_1 a0_2 a0_3 a0_4 a0_5 a0_6 a1_0 a1_1) else (isobathlaw03_GliderLasts.j0 k l2 a3 l4 true a0_0 a0_1 a0_2 a0_3 a0_4 a0_5 a0_6 a1_0 a1_1))
def isobathlaw03_GliderLasts.T19 : Bool × List (List Nat × List Nat) := (true, [([], []), ([], []), ([], []), ([], []), ([2, 3], [2, 3]), ([4], [4]), ([1, 5], [1, 5]), ([], []), ([], []), ([7, 8, 6], [7, 8]), ([6, 9, 9], [6, 9]), ([0, 10], [0, 10]), ([11, 10, 0, 1, 2, 3, 4, 5, 6, 7, 8, 9, 10, 11], [0, 11])])
def isobathlaw03_GliderLasts.B19 : List Nat := [0, 0, 0, 0, 12, 28, 62, 0, 0, 510, 1022, 2047, 4095]
theorem isobathlaw03_GliderLasts.tab19 : rtab .any (opsOf Try.f7 19) = isobathlaw03_GliderLasts.T19 := by kernel_rfl
theorem isobathlaw03_GliderLasts.bits19 : waitsOk isobathlaw03_GliderLasts.T19.2 isobathlaw03_GliderLasts.B19 = true := by kernel_rfl
set_option maxHeartbeats 8000000 in
set_option maxRecDepth 100000 in
theorem isobathlaw03_GliderLasts.calls (k : Nat) (a0_0 : Int) (a0_1 : Int) (a0_2 : Int) (a0_3 : Int) (a0_4 : Int) (a0_5 : Int) (a0_6 : Int) (a1_0 : Int) (a1_1 : Int) (A2 : Option Addr) (c2 : Nat) (l2 : List (S33)) (a3 : Int) (A4 : Option Addr) (c4 : Nat) (l4 : List Int) (r : Bool) (w : World) (hr2 : Kd.C k33 w A2 l2.length l2) (hc2 : l2.length ≤ c2) (hr4 : Kd.C (Kd.int .u16) w A4 l4.length l4) (hc4 : l4.length ≤ c4) (h : isobathlaw03_GliderLasts.f k a0_0 a0_1 a0_2 a0_3 a0_4 a0_5 a0_6 a1_0 a1_1 l2 a3 l4 = some r) (hr_ : Aside0 (r = true)) :
    Calls Try.prog 7 #[.agg #[.int .i64 a0_0, .int .i64 a0_1, .int .i64 a0_2, .int .i64 a0_3, .int .i64 a0_4, .int .i64 a0_5, .int .i64 a0_6], .agg #[.int .i64 a1_0, .int .i64 a1_1], .slice A2 l2.length c2, .int .u16 a3, .slice A4 l4.length c4] w fun e w' => e = .returned (.bool r) ∧ Below w.heap.size w w' := by
  have hu29 := Try.underlying29
  have hu27 := Try.underlying27
  have hu33 := Try.underlying33
  have HR2 := Aside0.mk hr2
  have HC2 := Aside0.mk hc2
  clear hr2 hc2
  have HR4 := Aside0.mk hr4
  have HC4 := Aside0.mk hc4
  clear hr4 hc4
  have HB := Aside0.mk (Below.refl w.heap.size w)
  have H : ((isobathref03_CheckVehicle.f a0_0 a0_1 a0_2 a0_3 a0_4 a0_5 a0_6).bind fun t612 => (if t612 = 0 then (isobathlaw03_GliderLasts.j0 k l2 a3 l4 (decide ((l2.length : Int) > 64)) a0_0 a0_1 a0_2 a0_3 a0_4 a0_5 a0_6 a1_0 a1_1) else (isobathlaw03_GliderLasts.j0 k l2 a3 l4 true a0_0 a0_1 a0_2 a0_3 a0_4 a0_5 a0_6 a1_0 a1_1))) = some r := h
  clear h
  have HC6 := Aside0.mk H
  clear H
  go_enter Try.func7, Try.ntmps7
  go_upto_region 1 with (first | ((with_reducible refine gate_dst (N := 5) rfl ?_); (try (refine gate_guard (by rfl) ?_; dsimp only)); refine box_event ?hg (N := 5) ?hd (cs := #[.int .i64 a0_0, .int .i64 a0_1, .int .i64 a0_2, .int .i64 a0_3, .int .i64 a0_4, .int .i64 a0_5, .int .i64 a0_6]) (t := 29) ?hr ?_; (case hd => rfl); (case hg => rfl); (case hr => first | (go_simp; done) | (go_simp; rfl)); intro gb610 hg w7 hbox hb; have n0_ := Aside0.mk (below_step (by repeat (first | (with_reducible first | exact HB.out | apply below_alloc | apply pw_below_drewN | apply below_drew1) | exact HB.out)) hb); have n1_ := Aside0.mk (hbox); have n2_ := Aside0.mk ((by rw [hg]; exact (below_size (by repeat (first | (with_reducible first | exact HB.out | apply below_alloc | apply pw_below_drewN | apply below_drew1) | exact HB.out))) : w.heap.size ≤ gb610)); have n3_ := Aside0.mk ((by rw [hg]; exact (below_size (by repeat (first | (with_reducible first | exact HB.out | apply below_alloc | apply pw_below_drewN | apply below_drew1) | exact HB.out))) : w.heap.size ≤ gb610)); clear HB; have HB := n0_; have BK610 := n1_; have GW610 := n2_; have GE610 := n3_; clear n0_ n1_ n2_ n3_; clear hb hbox hg) | ((with_reducible refine gate_dst (N := 6) rfl ?_); (try (refine gate_guard (by rfl) ?_; dsimp only)); refine box_event ?hg (N := 6) ?hd (cs := #[.int .i64 a1_0, .int .i64 a1_1]) (t := 27) ?hr ?_; (case hd => rfl); (case hg => rfl); (case hr => first | (go_simp; done) | (go_simp; rfl)); intro gb611 hg w8 hbox hb; have n0_ := Aside0.mk (blk_below (g := gb610) (o := .cells #[.int .i64 a0_0, .int .i64 a0_1, .int .i64 a0_2, .int .i64 a0_3, .int .i64 a0_4, .int .i64 a0_5, .int .i64 a0_6] 29 (0, 0)) (by (with_reducible repeat (first | refine blk_drewN ?_ _ | refine blk_drew ?_ | refine blk_alloc ?_ _)); exact BK610.out) hb); have n1_ := Aside0.mk (below_step (by repeat (first | (with_reducible first | exact HB.out | apply below_alloc | apply pw_below_drewN | apply below_drew1 | refine below_set ?_ GE610.out) | exact HB.out)) hb); have n2_ := Aside0.mk (hbox); have n3_ := Aside0.mk ((by rw [hg]; exact (below_size (by repeat (first | (with_reducible first | exact HB.out | apply below_alloc | apply pw_below_drewN | apply below_drew1 | refine below_set ?_ GE610.out) | exact HB.out))) : w.heap.size ≤ gb611)); have n4_ := Aside0.mk ((by rw [hg]; exact (below_size (by repeat (first | (with_reducible first | exact HB.out | apply below_alloc | apply pw_below_drewN | apply below_drew1 | refine below_set ?_ GE610.out) | exact HB.out))) : w.heap.size ≤ gb611)); have n5_ := Aside0.mk ((by rw [hg]; exact Nat.ne_of_lt (blk_lt (g := gb610) (o := .cells #[.int .i64 a0_0, .int .i64 a0_1, .int .i64 a0_2, .int .i64 a0_3, .int .i64 a0_4, .int .i64 a0_5, .int .i64 a0_6] 29 (0, 0)) (by (with_reducible repeat (first | refine blk_drewN ?_ _ | refine blk_drew ?_ | refine blk_alloc ?_ _)); exact BK610.out)) : gb610 ≠ gb611)); have n6_ := Aside0.mk ((by rw [hg]; exact Nat.ne_of_gt (blk_lt (g := gb610) (o := .cells #[.int .i64 a0_0, .int .i64 a0_1, .int .i64 a0_2, .int .i64 a0_3, .int .i64 a0_4, .int .i64 a0_5, .int .i64 a0_6] 29 (0, 0)) (by (with_reducible repeat (first | refine blk_drewN ?_ _ | refine blk_drew ?_ | refine blk_alloc ?_ _)); exact BK610.out)) : gb611 ≠ gb610)); clear BK610; clear HB; have BK610 := n0_; have HB := n1_; have BK611 := n2_; have GW611 := n3_; have GE611 := n4_; have NB610_611 := n5_; have NB611_610 := n6_; clear n0_ n1_ n2_ n3_ n4_ n5_ n6_; clear hb hbox hg))
  (try simp only [Act.put, List.setIfInBounds_toArray, List.set_cons_zero, List.set_cons_succ])
  go_cut [26] (fun v26 wc => ∃ (kq : Nat) (x26_5 : Bool), v26 = .bool x26_5 ∧ Aside0 (isobathlaw03_GliderLasts.j0 kq l2 a3 l4 x26_5 a0_0 a0_1 a0_2 a0_3 a0_4 a0_5 a0_6 a1_0 a1_1 = some r) ∧ Aside0 (kq ≤ k) ∧ Aside0 (wc.heap[gb610]? = some (.cells #[.int .i64 a0_0, .int .i64 a0_1, .int .i64 a0_2, .int .i64 a0_3, .int .i64 a0_4, .int .i64 a0_5, .int .i64 a0_6] 29 (0, 0))) ∧ Aside0 (wc.heap[gb611]? = some (.cells #[.int .i64 a1_0, .int .i64 a1_1] 27 (0, 0))) ∧ Aside0 (Below w.heap.size w wc))
  case first =>
    have H := HC6.out
    clear HC6
    replace H := Option.bind_eq_some_iff.mp H
    obtain ⟨t612, A90, H⟩ := H
    replace H : (if t612 = 0 then (isobathlaw03_GliderLasts.j0 k l2 a3 l4 (decide ((l2.length : Int) > 64)) a0_0 a0_1 a0_2 a0_3 a0_4 a0_5 a0_6 a1_0 a1_1) else (isobathlaw03_GliderLasts.j0 k l2 a3 l4 true a0_0 a0_1 a0_2 a0_3 a0_4 a0_5 a0_6 a1_0 a1_1)) = some r := H
    have A9 := Aside0.mk A90
    clear A90
    by_cases c10 : t612 = 0
    · rw [if_pos c10] at H
      have c10b0 : (t612 == 0) = true := beq_iff_eq.mpr c10
      have c10b1 : (t612 != 0) = false := bne_eq_false_iff_eq.mpr c10
      clear c10
      (first | rw [c10b0] | (simp only [i64_w, i32_w]; rw [c10b0]) | skip)
      have H' := Aside0.mk H
      clear H
      have hnb11 := NB610_611.out
      have hnc11 := NB611_610.out
      have hcz12_0 : w8.cell? ⟨gb610, 0, none⟩ = some (.int .i64 a0_0) := (blk_cell BK610.out 0).trans rfl
      have hcz12_1 : w8.cell? ⟨gb610, 1, none⟩ = some (.int .i64 a0_1) := (blk_cell BK610.out 1).trans rfl
      have hcz12_2 : w8.cell? ⟨gb610, 2, none⟩ = some (.int .i64 a0_2) := (blk_cell BK610.out 2).trans rfl
      have hcz12_3 : w8.cell? ⟨gb610, 3, none⟩ = some (.int .i64 a0_3) := (blk_cell BK610.out 3).trans rfl
      have hcz12_4 : w8.cell? ⟨gb610, 4, none⟩ = some (.int .i64 a0_4) := (blk_cell BK610.out 4).trans rfl
      have hcz12_5 : w8.cell? ⟨gb610, 5, none⟩ = some (.int .i64 a0_5) := (blk_cell BK610.out 5).trans rfl
      have hcz12_6 : w8.cell? ⟨gb610, 6, none⟩ = some (.int .i64 a0_6) := (blk_cell BK610.out 6).trans rfl
      have hfz12_0 := blk_frozen BK610.out 0
      have hfz12_1 := blk_frozen BK610.out 1
      have hfz12_2 := blk_frozen BK610.out 2
      have hfz12_3 := blk_frozen BK610.out 3
      have hfz12_4 := blk_frozen BK610.out 4
      have hfz12_5 := blk_frozen BK610.out 5
      have hfz12_6 := blk_frozen BK610.out 6
      go_wp2_with (first | ((with_reducible refine gate_callee (f := 28) rfl ?_); refine goesL_ (some 20) rfl rfl Try.func28 (by kernel_rfl) rfl #[.agg #[.int .i64 a0_0, .int .i64 a0_1, .int .i64 a0_2, .int .i64 a0_3, .int .i64 a0_4, .int .i64 a0_5, .int .i64 a0_6]] rfl (by (try simp only [List.map_toArray, List.map_cons, List.map_nil]); first | done | rfl | (simp only [List.length_drop, List.length_take]; rfl)) ?_; (with_reducible refine (isobathref03_CheckVehicle.calls a0_0 a0_1 a0_2 a0_3 a0_4 a0_5 a0_6 t612 _ A9.out).mono ?_); rintro e w13 ⟨rfl, hb⟩; refine ⟨_, rfl, ?_⟩; have n0_ := Aside0.mk (blk_below (g := gb610) (o := .cells #[.int .i64 a0_0, .int .i64 a0_1, .int .i64 a0_2, .int .i64 a0_3, .int .i64 a0_4, .int .i64 a0_5, .int .i64 a0_6] 29 (0, 0)) (by (with_reducible repeat (first | refine blk_drewN ?_ _ | refine blk_drew ?_ | refine blk_alloc ?_ _)); exact BK610.out) hb); have n1_ := Aside0.mk (blk_below (g := gb611) (o := .cells #[.int .i64 a1_0, .int .i64 a1_1] 27 (0, 0)) (by (with_reducible repeat (first | refine blk_drewN ?_ _ | refine blk_drew ?_ | refine blk_alloc ?_ _)); exact BK611.out) hb); have n2_ := Aside0.mk (below_step (by repeat (first | (with_reducible first | exact HB.out | apply below_alloc | apply pw_below_drewN | apply below_drew1 | refine below_set ?_ GE610.out | refine below_set ?_ GE611.out) | exact HB.out)) hb); clear BK610; clear BK611; clear HB; have BK610 := n0_; have BK611 := n1_; have HB := n2_; clear n0_ n1_ n2_; (try clear hb); (try clear hb2); (try clear hk); (try clear hi)))
      go_meet
      case rel => exact ⟨_, (decide ((l2.length : Int) > 64)), (by first | rfl | (simp; done) | (simp [*]; done)), H', ⟨by first | omega | exact Nat.le_refl _⟩, ⟨by (with_reducible repeat (first | refine blk_drewN ?_ _ | refine blk_drew ?_ | refine blk_alloc ?_ _)); exact BK610.out⟩, ⟨by (with_reducible repeat (first | refine blk_drewN ?_ _ | refine blk_drew ?_ | refine blk_alloc ?_ _)); exact BK611.out⟩, ⟨by repeat (first | (with_reducible first | exact HB.out | apply below_alloc | apply pw_below_drewN | apply below_drew1 | refine below_set ?_ GE610.out | refine below_set ?_ GE611.out) | exact HB.out)⟩⟩
    · rw [if_neg c10] at H
      have c10b0 : (t612 == 0) = false := beq_eq_false_iff_ne.mpr c10
      have c10b1 : (t612 != 0) = true := bne_iff_ne.mpr c10
      (first | rw [c10b0] | (simp only [i64_w, i32_w]; rw [c10b0]) | skip)
      have H' := Aside0.mk H
      clear H
      have hnb14 := NB610_611.out
      have hnc14 := NB611_610.out
      have hcz15_0 : w8.cell? ⟨gb610, 0, none⟩ = some (.int .i64 a0_0) := (blk_cell BK610.out 0).trans rfl
      have hcz15_1 : w8.cell? ⟨gb610, 1, none⟩ = some (.int .i64 a0_1) := (blk_cell BK610.out 1).trans rfl
      have hcz15_2 : w8.cell? ⟨gb610, 2, none⟩ = some (.int .i64 a0_2) := (blk_cell BK610.out 2).trans rfl
      have hcz15_3 : w8.cell? ⟨gb610, 3, none⟩ = some (.int .i64 a0_3) := (blk_cell BK610.out 3).trans rfl
      have hcz15_4 : w8.cell? ⟨gb610, 4, none⟩ = some (.int .i64 a0_4) := (blk_cell BK610.out 4).trans rfl
      have hcz15_5 : w8.cell? ⟨gb610, 5, none⟩ = some (.int .i64 a0_5) := (blk_cell BK610.out 5).trans rfl
      have hcz15_6 : w8.cell? ⟨gb610, 6, none⟩ = some (.int .i64 a0_6) := (blk_cell BK610.out 6).trans rfl
      have hfz15_0 := blk_frozen BK610.out 0
      have hfz15_1 := blk_frozen BK610.out 1
      have hfz15_2 := blk_frozen BK610.out 2
      have hfz15_3 := blk_frozen BK610.out 3
      have hfz15_4 := blk_frozen BK610.out 4
      have hfz15_5 := blk_frozen BK610.out 5
      have hfz15_6 := blk_frozen BK610.out 6
      go_wp2_with (first | ((with_reducible refine gate_callee (f := 28) rfl ?_); refine goesL_ (some 20) rfl rfl Try.func28 (by kernel_rfl) rfl #[.agg #[.int .i64 a0_0, .int .i64 a0_1, .int .i64 a0_2, .int .i64 a0_3, .int .i64 a0_4, .int .i64 a0_5, .int .i64 a0_6]] rfl (by (try simp only [List.map_toArray, List.map_cons, List.map_nil]); first | done | rfl | (simp only [List.length_drop, List.length_take]; rfl)) ?_; (with_reducible refine (isobathref03_CheckVehicle.calls a0_0 a0_1 a0_2 a0_3 a0_4 a0_5 a0_6 t612 _ A9.out).mono ?_); rintro e w16 ⟨rfl, hb⟩; refine ⟨_, rfl, ?_⟩; have n0_ := Aside0.mk (blk_below (g := gb610) (o := .cells #[.int .i64 a0_0, .int .i64 a0_1, .int .i64 a0_2, .int .i64 a0_3, .int .i64 a0_4, .int .i64 a0_5, .int .i64 a0_6] 29 (0, 0)) (by (with_reducible repeat (first | refine blk_drewN ?_ _ | refine blk_drew ?_ | refine blk_alloc ?_ _)); exact BK610.out) hb); have n1_ := Aside0.mk (blk_below (g := gb611) (o := .cells #[.int .i64 a1_0, .int .i64 a1_1] 27 (0, 0)) (by (with_reducible repeat (first | refine blk_drewN ?_ _ | refine blk_drew ?_ | refine blk_alloc ?_ _)); exact BK611.out) hb); have n2_ := Aside0.mk (below_step (by repeat (first | (with_reducible first | exact HB.out | apply below_alloc | apply pw_below_drewN | apply below_drew1 | refine below_set ?_ GE610.out | refine below_set ?_ GE611.out) | exact HB.out)) hb); clear BK610; clear BK611; clear HB; have BK610 := n0_; have BK611 := n1_; have HB := n2_; clear n0_ n1_ n2_; (try clear hb); (try clear hb2); (try clear hk); (try clear hi)))
      go_meet
      case rel => exact ⟨_, (true), (by first | rfl | (simp; done) | (simp [*]; done)), H', ⟨by first | omega | exact Nat.le_refl _⟩, ⟨by (with_reducible repeat (first | refine blk_drewN ?_ _ | refine blk_drew ?_ | refine blk_alloc ?_ _)); exact BK610.out⟩, ⟨by (with_reducible repeat (first | refine blk_drewN ?_ _ | refine blk_drew ?_ | refine blk_alloc ?_ _)); exact BK611.out⟩, ⟨by repeat (first | (with_reducible first | exact HB.out | apply below_alloc | apply pw_below_drewN | apply below_drew1 | refine below_set ?_ GE610.out | refine below_set ?_ GE611.out) | exact HB.out)⟩⟩
  case rest =>
    clear HC6
    try clear c1
    try clear c2
    try clear p2
    try clear c4
    try clear c7
    try clear c10
    try clear c10b0
    try clear c10b1
    try clear c11
    try clear c14
    try clear hcz12_0
    try clear hcz12_1
    try clear hcz12_2
    try clear hcz12_3
    try clear hcz12_4
    try clear hcz12_5
    try clear hcz12_6
    try clear hcz15_0
    try clear hcz15_1
    try clear hcz15_2
    try clear hcz15_3
    try clear hcz15_4
    try clear hcz15_5
    try clear hcz15_6
    try clear hfz12_0
    try clear hfz12_1
    try clear hfz12_2
    try clear hfz12_3
    try clear hfz12_4
    try clear hfz12_5
    try clear hfz12_6
    try clear hfz15_0
    try clear hfz15_1
    try clear hfz15_2
    try clear hfz15_3
    try clear hfz15_4
    try clear hfz15_5
    try clear hfz15_6
    obtain ⟨kq, x26_5, rfl, HA, HJ5, BK610, BK611, HB⟩ := hcut
    cases kq with
    | zero => exact absurd HA.out (by simp [isobathlaw03_GliderLasts.j0])
    | succ kj5 =>
      have H := HA.out
      clear HA
      simp only [isobathlaw03_GliderLasts.j0] at H
      by_cases c17 : x26_5 = true
      · subst c17
        have H1 : ((isobathlaw03_Works.f kj5).bind fun t613 => (some t613)) = some r := by rw [if_pos rfl] at H; exact H
        clear H
        have H := H1
        clear H1
        replace H := Option.bind_eq_some_iff.mp H
        obtain ⟨t613, A180, H⟩ := H
        replace H : (some t613) = some r := H
        have A18 := Aside0.mk A180
        clear A180
        obtain rfl := Option.some.inj H
        go_wp2_with (first | ((with_reducible refine gate_callee (f := 19) rfl ?_); refine goesL_ (some 27) rfl rfl Try.func19 (by kernel_rfl) rfl #[] rfl (by (try simp only [List.map_toArray, List.map_cons, List.map_nil]); first | done | rfl | (simp only [List.length_drop, List.length_take]; rfl)) ?_; (with_reducible refine (isobathlaw03_Works.calls kj5  t613 _ A18.out).mono ?_); rintro e w19 ⟨rfl, hb⟩; refine ⟨_, rfl, ?_⟩; have n0_ := Aside0.mk (blk_below (g := gb610) (o := .cells #[.int .i64 a0_0, .int .i64 a0_1, .int .i64 a0_2, .int .i64 a0_3, .int .i64 a0_4, .int .i64 a0_5, .int .i64 a0_6] 29 (0, 0)) (by (with_reducible repeat (first | refine blk_drewN ?_ _ | refine blk_drew ?_ | refine blk_alloc ?_ _)); exact BK610.out) hb); have n1_ := Aside0.mk (blk_below (g := gb611) (o := .cells #[.int .i64 a1_0, .int .i64 a1_1] 27 (0, 0)) (by (with_reducible repeat (first | refine blk_drewN ?_ _ | refine blk_drew ?_ | refine blk_alloc ?_ _)); exact BK611.out) hb); have n2_ := Aside0.mk (below_step (by repeat (first | (with_reducible first | exact HB.out | apply below_alloc | apply pw_below_drewN | apply below_drew1 | refine below_set ?_ GE610.out | refine below_set ?_ GE611.out) | exact HB.out)) hb); clear BK610; clear BK611; clear HB; have BK610 := n0_; have BK611 := n1_; have HB := n2_; clear n0_ n1_ n2_; (try clear hb); (try clear hb2); (try clear hk); (try clear hi)))
        go_ret
        exact ⟨by first | rfl | (simp [errW_none, errW_some] <;> rfl) | (simp [*, errW_none, errW_some] <;> rfl), by repeat (first | (with_reducible first | exact HB.out | apply below_alloc | apply pw_below_drewN | apply below_drew1 | refine below_set ?_ GE610.out | refine below_set ?_ GE611.out) | exact HB.out)⟩
      · replace c17 := Bool.eq_false_iff.mpr c17
        subst c17
        have H1 : ((glider_Lasts.f kj5 a0_0 a0_1 a0_2 a0_3 a0_4 a0_5 a0_6 a1_0 a1_1).bind fun bt614 => ((glider_Energy.f kj5 a0_0 a0_1 a0_2 a0_3 a0_4 a0_5 a0_6 a1_0 a1_1 l2).bind fun bt616 => (if bt614.2 = 0 then (if bt614.1 < 0 then (isobathlaw03_GliderLasts.j1 kj5 l2 a3 l4 bt614.1 bt616.1 bt616.2.1 bt616.2.2 true a0_0 a0_1 a0_2 a0_3 a0_4 a0_5 a0_6 a1_0 a1_1) else (if (mx a0_3 a0_5) < 1 then (isobathlaw03_GliderLasts.j1 kj5 l2 a3 l4 bt614.1 bt616.1 bt616.2.1 bt616.2.2 true a0_0 a0_1 a0_2 a0_3 a0_4 a0_5 a0_6 a1_0 a1_1) else (if bt614.1 > a1_0 then (isobathlaw03_GliderLasts.j1 kj5 l2 a3 l4 bt614.1 bt616.1 bt616.2.1 bt616.2.2 true a0_0 a0_1 a0_2 a0_3 a0_4 a0_5 a0_6 a1_0 a1_1) else (if (wrap64 (a1_0 - (wrap64 (bt614.1 * (mx a0_3 a0_5))))) < a0_6 then (isobathlaw03_GliderLasts.j1 kj5 l2 a3 l4 bt614.1 bt616.1 bt616.2.1 bt616.2.2 true a0_0 a0_1 a0_2 a0_3 a0_4 a0_5 a0_6 a1_0 a1_1) else (isobathlaw03_GliderLasts.j1 kj5 l2 a3 l4 bt614.1 bt616.1 bt616.2.1 bt616.2.2 (decide ((wrap64 (a1_0 - (wrap64 ((wrap64 (bt614.1 + 1)) * (mx a0_3 a0_5))))) ≥ a0_6)) a0_0 a0_1 a0_2 a0_3 a0_4 a0_5 a0_6 a1_0 a1_1))))) else (isobathlaw03_GliderLasts.j2 kj5 l2 a3 l4 bt616.1 bt616.2.1 bt616.2.2 a0_0 a0_1 a0_2 a0_3 a0_4 a0_5 a0_6 a1_0 a1_1)))) = some r := by rw [if_neg (show ¬ (false = true) by decide)] at H; exact H
        clear H
        have H := H1
        clear H1
        replace H := Option.bind_eq_some_iff.mp H
        obtain ⟨⟨t614, t615⟩, A200, H⟩ := H
        replace H : ((glider_Energy.f kj5 a0_0 a0_1 a0_2 a0_3 a0_4 a0_5 a0_6 a1_0 a1_1 l2).bind fun bt616 => (if t615 = 0 then (if t614 < 0 then (isobathlaw03_GliderLasts.j1 kj5 l2 a3 l4 t614 bt616.1 bt616.2.1 bt616.2.2 true a0_0 a0_1 a0_2 a0_3 a0_4 a0_5 a0_6 a1_0 a1_1) else (if (mx a0_3 a0_5) < 1 then (isobathlaw03_GliderLasts.j1 kj5 l2 a3 l4 t614 bt616.1 bt616.2.1 bt616.2.2 true a0_0 a0_1 a0_2 a0_3 a0_4 a0_5 a0_6 a1_0 a1_1) else (if t614 > a1_0 then (isobathlaw03_GliderLasts.j1 kj5 l2 a3 l4 t614 bt616.1 bt616.2.1 bt616.2.2 true a0_0 a0_1 a0_2 a0_3 a0_4 a0_5 a0_6 a1_0 a1_1) else (if (wrap64 (a1_0 - (wrap64 (t614 * (mx a0_3 a0_5))))) < a0_6 then (isobathlaw03_GliderLasts.j1 kj5 l2 a3 l4 t614 bt616.1 bt616.2.1 bt616.2.2 true a0_0 a0_1 a0_2 a0_3 a0_4 a0_5 a0_6 a1_0 a1_1) else (isobathlaw03_GliderLasts.j1 kj5 l2 a3 l4 t614 bt616.1 bt616.2.1 bt616.2.2 (decide ((wrap64 (a1_0 - (wrap64 ((wrap64 (t614 + 1)) * (mx a0_3 a0_5))))) ≥ a0_6)) a0_0 a0_1 a0_2 a0_3 a0_4 a0_5 a0_6 a1_0 a1_1))))) else (isobathlaw03_GliderLasts.j2 kj5 l2 a3 l4 bt616.1 bt616.2.1 bt616.2.2 a0_0 a0_1 a0_2 a0_3 a0_4 a0_5 a0_6 a1_0 a1_1))) = some r := H
        have A20 := Aside0.mk A200
        clear A200
        replace H := Option.bind_eq_some_iff.mp H
        obtain ⟨⟨t616, t619, t620⟩, A210, H⟩ := H
        replace H : (if t615 = 0 then (if t614 < 0 then (isobathlaw03_GliderLasts.j1 kj5 l2 a3 l4 t614 t616 t619 t620 true a0_0 a0_1 a0_2 a0_3 a0_4 a0_5 a0_6 a1_0 a1_1) else (if (mx a0_3 a0_5) < 1 then (isobathlaw03_GliderLasts.j1 kj5 l2 a3 l4 t614 t616 t619 t620 true a0_0 a0_1 a0_2 a0_3 a0_4 a0_5 a0_6 a1_0 a1_1) else (if t614 > a1_0 then (isobathlaw03_GliderLasts.j1 kj5 l2 a3 l4 t614 t616 t619 t620 true a0_0 a0_1 a0_2 a0_3 a0_4 a0_5 a0_6 a1_0 a1_1) else (if (wrap64 (a1_0 - (wrap64 (t614 * (mx a0_3 a0_5))))) < a0_6 then (isobathlaw03_GliderLasts.j1 kj5 l2 a3 l4 t614 t616 t619 t620 true a0_0 a0_1 a0_2 a0_3 a0_4 a0_5 a0_6 a1_0 a1_1) else (isobathlaw03_GliderLasts.j1 kj5 l2 a3 l4 t614 t616 t619 t620 (decide ((wrap64 (a1_0 - (wrap64 ((wrap64 (t614 + 1)) * (mx a0_3 a0_5))))) ≥ a0_6)) a0_0 a0_1 a0_2 a0_3 a0_4 a0_5 a0_6 a1_0 a1_1))))) else (isobathlaw03_GliderLasts.j2 kj5 l2 a3 l4 t616 t619 t620 a0_0 a0_1 a0_2 a0_3 a0_4 a0_5 a0_6 a1_0 a1_1)) = some r := H
        have A21 := Aside0.mk A210
        clear A210
        have HC22 := Aside0.mk H
        clear H
        have hnb23 := NB610_611.out
        have hnc23 := NB611_610.out
        have hcz24_0 : wc.cell? ⟨gb610, 0, none⟩ = some (.int .i64 a0_0) := (blk_cell BK610.out 0).trans rfl
        have hcz24_1 : wc.cell? ⟨gb610, 1, none⟩ = some (.int .i64 a0_1) := (blk_cell BK610.out 1).trans rfl
        have hcz24_2 : wc.cell? ⟨gb610, 2, none⟩ = some (.int .i64 a0_2) := (blk_cell BK610.out 2).trans rfl
        have hcz24_3 : wc.cell? ⟨gb610, 3, none⟩ = some (.int .i64 a0_3) := (blk_cell BK610.out 3).trans rfl
        have hcz24_4 : wc.cell? ⟨gb610, 4, none⟩ = some (.int .i64 a0_4) := (blk_cell BK610.out 4).trans rfl
        have hcz24_5 : wc.cell? ⟨gb610, 5, none⟩ = some (.int .i64 a0_5) := (blk_cell BK610.out 5).trans rfl
        have hcz24_6 : wc.cell? ⟨gb610, 6, none⟩ = some (.int .i64 a0_6) := (blk_cell BK610.out 6).trans rfl
        have hfz24_0 := blk_frozen BK610.out 0
        have hfz24_1 := blk_frozen BK610.out 1
        have hfz24_2 := blk_frozen BK610.out 2
        have hfz24_3 := blk_frozen BK610.out 3
        have hfz24_4 := blk_frozen BK610.out 4
        have hfz24_5 := blk_frozen BK610.out 5
        have hfz24_6 := blk_frozen BK610.out 6
        have hcz25_0 : wc.cell? ⟨gb611, 0, none⟩ = some (.int .i64 a1_0) := (blk_cell BK611.out 0).trans rfl
        have hcz25_1 : wc.cell? ⟨gb611, 1, none⟩ = some (.int .i64 a1_1) := (blk_cell BK611.out 1).trans rfl
        have hfz25_0 := blk_frozen BK611.out 0
        have hfz25_1 := blk_frozen BK611.out 1
        go_upto_if 43 with (first | ((with_reducible refine gate_callee (f := 37) rfl ?_); refine goesL_ (some 31) rfl rfl Try.func37 (by kernel_rfl) rfl #[.agg #[.int .i64 a0_0, .int .i64 a0_1, .int .i64 a0_2, .int .i64 a0_3, .int .i64 a0_4, .int .i64 a0_5, .int .i64 a0_6], .agg #[.int .i64 a1_0, .int .i64 a1_1]] rfl (by (try simp only [List.map_toArray, List.map_cons, List.map_nil]); first | done | rfl | (simp only [List.length_drop, List.length_take]; rfl)) ?_; (with_reducible refine (glider_Lasts.calls kj5 a0_0 a0_1 a0_2 a0_3 a0_4 a0_5 a0_6 a1_0 a1_1 t614 t615 _ A20.out).mono ?_); rintro e w26 ⟨rfl, hb⟩; refine ⟨_, rfl, ?_⟩; have n0_ := Aside0.mk (blk_below (g := gb610) (o := .cells #[.int .i64 a0_0, .int .i64 a0_1, .int .i64 a0_2, .int .i64 a0_3, .int .i64 a0_4, .int .i64 a0_5, .int .i64 a0_6] 29 (0, 0)) (by (with_reducible repeat (first | refine blk_drewN ?_ _ | refine blk_drew ?_ | refine blk_alloc ?_ _)); exact BK610.out) hb); have n1_ := Aside0.mk (blk_below (g := gb611) (o := .cells #[.int .i64 a1_0, .int .i64 a1_1] 27 (0, 0)) (by (with_reducible repeat (first | refine blk_drewN ?_ _ | refine blk_drew ?_ | refine blk_alloc ?_ _)); exact BK611.out) hb); have n2_ := Aside0.mk (below_step (by repeat (first | (with_reducible first | exact HB.out | apply below_alloc | apply pw_below_drewN | apply below_drew1 | refine below_set ?_ GE610.out | refine below_set ?_ GE611.out) | exact HB.out)) hb); clear BK610; clear BK611; clear HB; have BK610 := n0_; have BK611 := n1_; have HB := n2_; clear n0_ n1_ n2_; (try clear hb); (try clear hb2); (try clear hk); (try clear hi); have hcz27_0 : w26.cell? ⟨gb610, 0, none⟩ = some (.int .i64 a0_0) := (blk_cell BK610.out 0).trans rfl; have hcz27_1 : w26.cell? ⟨gb610, 1, none⟩ = some (.int .i64 a0_1) := (blk_cell BK610.out 1).trans rfl; have hcz27_2 : w26.cell? ⟨gb610, 2, none⟩ = some (.int .i64 a0_2) := (blk_cell BK610.out 2).trans rfl; have hcz27_3 : w26.cell? ⟨gb610, 3, none⟩ = some (.int .i64 a0_3) := (blk_cell BK610.out 3).trans rfl; have hcz27_4 : w26.cell? ⟨gb610, 4, none⟩ = some (.int .i64 a0_4) := (blk_cell BK610.out 4).trans rfl; have hcz27_5 : w26.cell? ⟨gb610, 5, none⟩ = some (.int .i64 a0_5) := (blk_cell BK610.out 5).trans rfl; have hcz27_6 : w26.cell? ⟨gb610, 6, none⟩ = some (.int .i64 a0_6) := (blk_cell BK610.out 6).trans rfl; have hfz27_0 := blk_frozen BK610.out 0; have hfz27_1 := blk_frozen BK610.out 1; have hfz27_2 := blk_frozen BK610.out 2; have hfz27_3 := blk_frozen BK610.out 3; have hfz27_4 := blk_frozen BK610.out 4; have hfz27_5 := blk_frozen BK610.out 5; have hfz27_6 := blk_frozen BK610.out 6; have hcz28_0 : w26.cell? ⟨gb611, 0, none⟩ = some (.int .i64 a1_0) := (blk_cell BK611.out 0).trans rfl; have hcz28_1 : w26.cell? ⟨gb611, 1, none⟩ = some (.int .i64 a1_1) := (blk_cell BK611.out 1).trans rfl; have hfz28_0 := blk_frozen BK611.out 0; have hfz28_1 := blk_frozen BK611.out 1) | ((with_reducible refine gate_callee (f := 38) rfl ?_); refine goesL_ (some 38) rfl rfl Try.func38 (by kernel_rfl) rfl #[.agg #[.int .i64 a0_0, .int .i64 a0_1, .int .i64 a0_2, .int .i64 a0_3, .int .i64 a0_4, .int .i64 a0_5, .int .i64 a0_6], .agg #[.int .i64 a1_0, .int .i64 a1_1], .slice A2 l2.length c2] rfl (by (try simp only [List.map_toArray, List.map_cons, List.map_nil]); first | done | rfl | (simp only [List.length_drop, List.length_take]; rfl)) ?_; (with_reducible refine (glider_Energy.calls kj5 a0_0 a0_1 a0_2 a0_3 a0_4 a0_5 a0_6 a1_0 a1_1 _ _ l2 t616 t619 t620 _ ?side1 ?side2 A21.out).mono ?_); (case side1 => repeat (first | exact (Kd.C_below HR2.out HB.out) | (with_reducible refine Kd.C_alloc ?_ _) | (with_reducible refine Kd.C_drewN ?_ _) | (with_reducible refine Kd.C_drew ?_))); (case side2 => exact HC2.out); rintro e w29 ⟨v617, rfl, ho0, hb⟩; refine ⟨_, rfl, ?_⟩; have n0_ := Aside0.mk (Kd.R_lower (Kd.R_newB ho0 (g := gb611) (o := .cells #[.int .i64 a1_0, .int .i64 a1_1] 27 (0, 0)) (by (with_reducible repeat (first | refine blk_drewN ?_ _ | refine blk_drew ?_ | refine blk_alloc ?_ _)); exact BK611.out)) (below_size (by repeat (first | (with_reducible first | exact HB.out | apply below_alloc | apply pw_below_drewN | apply below_drew1 | refine below_set ?_ GE610.out | refine below_set ?_ GE611.out) | exact HB.out)))); have n1_ := Aside0.mk (blk_below (g := gb610) (o := .cells #[.int .i64 a0_0, .int .i64 a0_1, .int .i64 a0_2, .int .i64 a0_3, .int .i64 a0_4, .int .i64 a0_5, .int .i64 a0_6] 29 (0, 0)) (by (with_reducible repeat (first | refine blk_drewN ?_ _ | refine blk_drew ?_ | refine blk_alloc ?_ _)); exact BK610.out) hb); have n2_ := Aside0.mk (blk_below (g := gb611) (o := .cells #[.int .i64 a1_0, .int .i64 a1_1] 27 (0, 0)) (by (with_reducible repeat (first | refine blk_drewN ?_ _ | refine blk_drew ?_ | refine blk_alloc ?_ _)); exact BK611.out) hb); have n3_ := Aside0.mk (below_step (by repeat (first | (with_reducible first | exact HB.out | apply below_alloc | apply pw_below_drewN | apply below_drew1 | refine below_set ?_ GE610.out | refine below_set ?_ GE611.out) | exact HB.out)) hb); clear BK610; clear BK611; clear HB; have HO618 := n0_; have BK610 := n1_; have BK611 := n2_; have HB := n3_; clear n0_ n1_ n2_ n3_; (try clear hb); (try clear hb2); (try clear hk); (try clear hi); (try clear ho0)))
        (try simp only [Act.put, List.setIfInBounds_toArray, List.set_cons_zero, List.set_cons_succ])
        go_cut [] (fun wc => ∃ (kq : Nat), Aside0 (isobathlaw03_GliderLasts.j2 kq l2 a3 l4 t616 t619 t620 a0_0 a0_1 a0_2 a0_3 a0_4 a0_5 a0_6 a1_0 a1_1 = some r) ∧ Aside0 (kq ≤ kj5) ∧ Aside0 (Kd.R k27 27 wc w.heap.size (fun k_ => k_ ≠ gb611) v617 t616) ∧ Aside0 (wc.heap[gb610]? = some (.cells #[.int .i64 a0_0, .int .i64 a0_1, .int .i64 a0_2, .int .i64 a0_3, .int .i64 a0_4, .int .i64 a0_5, .int .i64 a0_6] 29 (0, 0))) ∧ Aside0 (wc.heap[gb611]? = some (.cells #[.int .i64 a1_0, .int .i64 a1_1] 27 (0, 0))) ∧ Aside0 (Below w.heap.size w wc))
        case first =>
          have H := HC22.out
          clear HC22
          by_cases c30 : t615 = 0
          · rw [if_pos c30] at H
            have c30b0 : (t615 == 0) = true := beq_iff_eq.mpr c30
            have c30b1 : (t615 != 0) = false := bne_eq_false_iff_eq.mpr c30
            clear c30
            (first | rw [c30b0] | (simp only [i64_w, i32_w]; rw [c30b0]) | skip)
            obtain ⟨ji31, hji31⟩ : ∃ j_ : Int, (mx a0_3 a0_5) = j_ := ⟨_, rfl⟩
            replace H : (if t614 < 0 then (isobathlaw03_GliderLasts.j1 kj5 l2 a3 l4 t614 t616 t619 t620 true a0_0 a0_1 a0_2 a0_3 a0_4 a0_5 a0_6 a1_0 a1_1) else (if (ji31) < 1 then (isobathlaw03_GliderLasts.j1 kj5 l2 a3 l4 t614 t616 t619 t620 true a0_0 a0_1 a0_2 a0_3 a0_4 a0_5 a0_6 a1_0 a1_1) else (if t614 > a1_0 then (isobathlaw03_GliderLasts.j1 kj5 l2 a3 l4 t614 t616 t619 t620 true a0_0 a0_1 a0_2 a0_3 a0_4 a0_5 a0_6 a1_0 a1_1) else (if (wrap64 (a1_0 - (wrap64 (t614 * (ji31))))) < a0_6 then (isobathlaw03_GliderLasts.j1 kj5 l2 a3 l4 t614 t616 t619 t620 true a0_0 a0_1 a0_2 a0_3 a0_4 a0_5 a0_6 a1_0 a1_1) else (isobathlaw03_GliderLasts.j1 kj5 l2 a3 l4 t614 t616 t619 t620 (decide ((wrap64 (a1_0 - (wrap64 ((wrap64 (t614 + 1)) * (ji31))))) ≥ a0_6)) a0_0 a0_1 a0_2 a0_3 a0_4 a0_5 a0_6 a1_0 a1_1))))) = some r := by first | (rw [hji31] at H; exact H) | (simp only [hji31] at H ⊢; exact H)
            have hji31_ : (if a0_3 < a0_5 then a0_5 else a0_3) = ji31 := hji31
            have HC32 := Aside0.mk H
            clear H
            have hnb33 := NB610_611.out
            have hnc33 := NB611_610.out
            have hcz34_0 : w29.cell? ⟨gb610, 0, none⟩ = some (.int .i64 a0_0) := (blk_cell BK610.out 0).trans rfl
            have hcz34_1 : w29.cell? ⟨gb610, 1, none⟩ = some (.int .i64 a0_1) := (blk_cell BK610.out 1).trans rfl
            have hcz34_2 : w29.cell? ⟨gb610, 2, none⟩ = some (.int .i64 a0_2) := (blk_cell BK610.out 2).trans rfl
            have hcz34_3 : w29.cell? ⟨gb610, 3, none⟩ = some (.int .i64 a0_3) := (blk_cell BK610.out 3).trans rfl
            have hcz34_4 : w29.cell? ⟨gb610, 4, none⟩ = some (.int .i64 a0_4) := (blk_cell BK610.out 4).trans rfl
            have hcz34_5 : w29.cell? ⟨gb610, 5, none⟩ = some (.int .i64 a0_5) := (blk_cell BK610.out 5).trans rfl
            have hcz34_6 : w29.cell? ⟨gb610, 6, none⟩ = some (.int .i64 a0_6) := (blk_cell BK610.out 6).trans rfl
            have hfz34_0 := blk_frozen BK610.out 0
            have hfz34_1 := blk_frozen BK610.out 1
            have hfz34_2 := blk_frozen BK610.out 2
            have hfz34_3 := blk_frozen BK610.out 3
            have hfz34_4 := blk_frozen BK610.out 4
            have hfz34_5 := blk_frozen BK610.out 5
            have hfz34_6 := blk_frozen BK610.out 6
            go_upto_region 7 with (fail)
            go_cut [85] (fun v85 wc => ∃ (kq : Nat) (x85_31 : Bool), v85 = .bool x85_31 ∧ Aside0 (isobathlaw03_GliderLasts.j1 kq l2 a3 l4 t614 t616 t619 t620 x85_31 a0_0 a0_1 a0_2 a0_3 a0_4 a0_5 a0_6 a1_0 a1_1 = some r) ∧ Aside0 (kq ≤ kj5) ∧ Aside0 (Kd.R k27 27 wc w.heap.size (fun k_ => k_ ≠ gb611) v617 t616) ∧ Aside0 (wc.heap[gb610]? = some (.cells #[.int .i64 a0_0, .int .i64 a0_1, .int .i64 a0_2, .int .i64 a0_3, .int .i64 a0_4, .int .i64 a0_5, .int .i64 a0_6] 29 (0, 0))) ∧ Aside0 (wc.heap[gb611]? = some (.cells #[.int .i64 a1_0, .int .i64 a1_1] 27 (0, 0))) ∧ Aside0 (Below w.heap.size w wc))
            case first =>
              have H := HC32.out
              clear HC32
              by_cases c35 : t614 < 0
              · rw [if_pos c35] at H
                have c35b0 : decide (t614 < 0) = true := decide_eq_true c35
                clear c35
                (first | rw [c35b0] | (simp only [i64_w, i32_w]; rw [c35b0]) | skip)
                have H' := Aside0.mk H
                clear H
                go_wp2
                go_meet
                case rel => exact ⟨_, (true), (by first | rfl | (simp; done) | (simp [*]; done)), H', ⟨by have := HJ5.out; first | omega | exact Nat.le_refl _⟩, ⟨by (with_reducible repeat (first | apply Kd.R_alloc | apply Kd.R_drewN | apply Kd.R_drew)); exact Kd.R_mono HO618.out (fun _ hk => hk.2)⟩, ⟨by (with_reducible repeat (first | refine blk_drewN ?_ _ | refine blk_drew ?_ | refine blk_alloc ?_ _)); exact BK610.out⟩, ⟨by (with_reducible repeat (first | refine blk_drewN ?_ _ | refine blk_drew ?_ | refine blk_alloc ?_ _)); exact BK611.out⟩, ⟨by repeat (first | (with_reducible first | exact HB.out | apply below_alloc | apply pw_below_drewN | apply below_drew1 | refine below_set ?_ GE610.out | refine below_set ?_ GE611.out) | exact HB.out)⟩⟩
              · rw [if_neg c35] at H
                have c35b0 : decide (t614 < 0) = false := decide_eq_false c35
                clear c35
                (first | rw [c35b0] | (simp only [i64_w, i32_w]; rw [c35b0]) | skip)
                by_cases c36 : (ji31) < 1
                · rw [if_pos c36] at H
                  have c36b0 : decide ((ji31) < 1) = true := decide_eq_true c36
                  clear c36
                  have H' := Aside0.mk H
                  clear H
                  go_wp2
                  go_meet
                  case rel => exact ⟨_, (true), (by first | rfl | (simp; done) | (simp [*]; done)), H', ⟨by have := HJ5.out; first | omega | exact Nat.le_refl _⟩, ⟨by (with_reducible repeat (first | apply Kd.R_alloc | apply Kd.R_drewN | apply Kd.R_drew)); exact Kd.R_mono HO618.out (fun _ hk => hk.2)⟩, ⟨by (with_reducible repeat (first | refine blk_drewN ?_ _ | refine blk_drew ?_ | refine blk_alloc ?_ _)); exact BK610.out⟩, ⟨by (with_reducible repeat (first | refine blk_drewN ?_ _ | refine blk_drew ?_ | refine blk_alloc ?_ _)); exact BK611.out⟩, ⟨by repeat (first | (with_reducible first | exact HB.out | apply below_alloc | apply pw_below_drewN | apply below_drew1 | refine below_set ?_ GE610.out | refine below_set ?_ GE611.out) | exact HB.out)⟩⟩
                · rw [if_neg c36] at H
                  have c36b0 : decide ((ji31) < 1) = false := decide_eq_false c36
                  clear c36
                  by_cases c37 : t614 > a1_0
                  · rw [if_pos c37] at H
                    have c37b0 : decide (a1_0 < t614) = true := decide_eq_true c37
                    clear c37
                    have H' := Aside0.mk H
                    clear H
                    have hnb38 := NB611_610.out
                    have hnc38 := NB610_611.out
                    have hcz39_0 : w29.cell? ⟨gb611, 0, none⟩ = some (.int .i64 a1_0) := (blk_cell BK611.out 0).trans rfl
                    have hcz39_1 : w29.cell? ⟨gb611, 1, none⟩ = some (.int .i64 a1_1) := (blk_cell BK611.out 1).trans rfl
                    have hfz39_0 := blk_frozen BK611.out 0
                    have hfz39_1 := blk_frozen BK611.out 1
                    go_wp2
                    go_meet
                    case rel => exact ⟨_, (true), (by first | rfl | (simp; done) | (simp [*]; done)), H', ⟨by have := HJ5.out; first | omega | exact Nat.le_refl _⟩, ⟨by (with_reducible repeat (first | apply Kd.R_alloc | apply Kd.R_drewN | apply Kd.R_drew)); exact Kd.R_mono HO618.out (fun _ hk => hk.2)⟩, ⟨by (with_reducible repeat (first | refine blk_drewN ?_ _ | refine blk_drew ?_ | refine blk_alloc ?_ _)); exact BK610.out⟩, ⟨by (with_reducible repeat (first | refine blk_drewN ?_ _ | refine blk_drew ?_ | refine blk_alloc ?_ _)); exact BK611.out⟩, ⟨by repeat (first | (with_reducible first | exact HB.out | apply below_alloc | apply pw_below_drewN | apply below_drew1 | refine below_set ?_ GE610.out | refine below_set ?_ GE611.out) | exact HB.out)⟩⟩
                  · rw [if_neg c37] at H
                    have c37b0 : decide (a1_0 < t614) = false := decide_eq_false c37
                    clear c37
                    by_cases c40 : (wrap64 (a1_0 - (wrap64 (t614 * (ji31))))) < a0_6
                    · rw [if_pos c40] at H
                      have c40b0 : decide ((wrap64 (a1_0 - (wrap64 (t614 * (ji31))))) < a0_6) = true := decide_eq_true c40
                      clear c40
                      have H' := Aside0.mk H
                      clear H
                      have hnb41 := NB611_610.out
                      have hnc41 := NB610_611.out
                      have hcz42_0 : w29.cell? ⟨gb611, 0, none⟩ = some (.int .i64 a1_0) := (blk_cell BK611.out 0).trans rfl
                      have hcz42_1 : w29.cell? ⟨gb611, 1, none⟩ = some (.int .i64 a1_1) := (blk_cell BK611.out 1).trans rfl
                      have hfz42_0 := blk_frozen BK611.out 0
                      have hfz42_1 := blk_frozen BK611.out 1
                      have hcz43_0 : w29.cell? ⟨gb610, 0, none⟩ = some (.int .i64 a0_0) := (blk_cell BK610.out 0).trans rfl
                      have hcz43_1 : w29.cell? ⟨gb610, 1, none⟩ = some (.int .i64 a0_1) := (blk_cell BK610.out 1).trans rfl
                      have hcz43_2 : w29.cell? ⟨gb610, 2, none⟩ = some (.int .i64 a0_2) := (blk_cell BK610.out 2).trans rfl
                      have hcz43_3 : w29.cell? ⟨gb610, 3, none⟩ = some (.int .i64 a0_3) := (blk_cell BK610.out 3).trans rfl
                      have hcz43_4 : w29.cell? ⟨gb610, 4, none⟩ = some (.int .i64 a0_4) := (blk_cell BK610.out 4).trans rfl
                      have hcz43_5 : w29.cell? ⟨gb610, 5, none⟩ = some (.int .i64 a0_5) := (blk_cell BK610.out 5).trans rfl
                      have hcz43_6 : w29.cell? ⟨gb610, 6, none⟩ = some (.int .i64 a0_6) := (blk_cell BK610.out 6).trans rfl
                      have hfz43_0 := blk_frozen BK610.out 0
                      have hfz43_1 := blk_frozen BK610.out 1
                      have hfz43_2 := blk_frozen BK610.out 2
                      have hfz43_3 := blk_frozen BK610.out 3
                      have hfz43_4 := blk_frozen BK610.out 4
                      have hfz43_5 := blk_frozen BK610.out 5
                      have hfz43_6 := blk_frozen BK610.out 6
                      go_wp2
                      go_meet
                      case rel => exact ⟨_, (true), (by first | rfl | (simp; done) | (simp [*]; done)), H', ⟨by have := HJ5.out; first | omega | exact Nat.le_refl _⟩, ⟨by (with_reducible repeat (first | apply Kd.R_alloc | apply Kd.R_drewN | apply Kd.R_drew)); exact Kd.R_mono HO618.out (fun _ hk => hk.2)⟩, ⟨by (with_reducible repeat (first | refine blk_drewN ?_ _ | refine blk_drew ?_ | refine blk_alloc ?_ _)); exact BK610.out⟩, ⟨by (with_reducible repeat (first | refine blk_drewN ?_ _ | refine blk_drew ?_ | refine blk_alloc ?_ _)); exact BK611.out⟩, ⟨by repeat (first | (with_reducible first | exact HB.out | apply below_alloc | apply pw_below_drewN | apply below_drew1 | refine below_set ?_ GE610.out | refine below_set ?_ GE611.out) | exact HB.out)⟩⟩
                    · rw [if_neg c40] at H
                      have c40b0 : decide ((wrap64 (a1_0 - (wrap64 (t614 * (ji31))))) < a0_6) = false := decide_eq_false c40
                      clear c40
                      have H' := Aside0.mk H
                      clear H
                      have hnb44 := NB611_610.out
                      have hnc44 := NB610_611.out
                      have hcz45_0 : w29.cell? ⟨gb611, 0, none⟩ = some (.int .i64 a1_0) := (blk_cell BK611.out 0).trans rfl
                      have hcz45_1 : w29.cell? ⟨gb611, 1, none⟩ = some (.int .i64 a1_1) := (blk_cell BK611.out 1).trans rfl
                      have hfz45_0 := blk_frozen BK611.out 0
                      have hfz45_1 := blk_frozen BK611.out 1
                      have hcz46_0 : w29.cell? ⟨gb610, 0, none⟩ = some (.int .i64 a0_0) := (blk_cell BK610.out 0).trans rfl
                      have hcz46_1 : w29.cell? ⟨gb610, 1, none⟩ = some (.int .i64 a0_1) := (blk_cell BK610.out 1).trans rfl
                      have hcz46_2 : w29.cell? ⟨gb610, 2, none⟩ = some (.int .i64 a0_2) := (blk_cell BK610.out 2).trans rfl
                      have hcz46_3 : w29.cell? ⟨gb610, 3, none⟩ = some (.int .i64 a0_3) := (blk_cell BK610.out 3).trans rfl
                      have hcz46_4 : w29.cell? ⟨gb610, 4, none⟩ = some (.int .i64 a0_4) := (blk_cell BK610.out 4).trans rfl
                      have hcz46_5 : w29.cell? ⟨gb610, 5, none⟩ = some (.int .i64 a0_5) := (blk_cell BK610.out 5).trans rfl
                      have hcz46_6 : w29.cell? ⟨gb610, 6, none⟩ = some (.int .i64 a0_6) := (blk_cell BK610.out 6).trans rfl
                      have hfz46_0 := blk_frozen BK610.out 0
                      have hfz46_1 := blk_frozen BK610.out 1
                      have hfz46_2 := blk_frozen BK610.out 2
                      have hfz46_3 := blk_frozen BK610.out 3
                      have hfz46_4 := blk_frozen BK610.out 4
                      have hfz46_5 := blk_frozen BK610.out 5
                      have hfz46_6 := blk_frozen BK610.out 6
                      go_wp2
                      go_meet
                      case rel => exact ⟨_, (decide ((wrap64 (a1_0 - (wrap64 ((wrap64 (t614 + 1)) * (ji31))))) ≥ a0_6)), (by first | rfl | (simp; done) | (simp only [← hji31] <;> (first | rfl | simp)) | (simp [*]; done)), H', ⟨by have := HJ5.out; first | omega | exact Nat.le_refl _⟩, ⟨by (with_reducible repeat (first | apply Kd.R_alloc | apply Kd.R_drewN | apply Kd.R_drew)); exact Kd.R_mono HO618.out (fun _ hk => hk.2)⟩, ⟨by (with_reducible repeat (first | refine blk_drewN ?_ _ | refine blk_drew ?_ | refine blk_alloc ?_ _)); exact BK610.out⟩, ⟨by (with_reducible repeat (first | refine blk_drewN ?_ _ | refine blk_drew ?_ | refine blk_alloc ?_ _)); exact BK611.out⟩, ⟨by repeat (first | (with_reducible first | exact HB.out | apply below_alloc | apply pw_below_drewN | apply below_drew1 | refine below_set ?_ GE610.out | refine below_set ?_ GE611.out) | exact HB.out)⟩⟩
            case rest =>
              clear HC32
              try clear c1
              try clear c2
              try clear p2
              try clear c3
              try clear c4
              try clear p6
              try clear c7
              try clear c10
              try clear c10b0
              try clear c10b1
              try clear c11
              try clear c14
              try clear c17
              try clear c19
              try clear c23
              try clear c28
              try clear c30
              try clear c30b0
              try clear c30b1
              try clear c33
              try clear c35
              try clear c35b0
              try clear c36
              try clear c36b0
              try clear c37
              try clear c37b0
              try clear c38
              try clear c40
              try clear c40b0
              try clear c41
              try clear c44
              try clear hcz12_0
              try clear hcz12_1
              try clear hcz12_2
              try clear hcz12_3
              try clear hcz12_4
              try clear hcz12_5
              try clear hcz12_6
              try clear hcz15_0
              try clear hcz15_1
              try clear hcz15_2
              try clear hcz15_3
              try clear hcz15_4
              try clear hcz15_5
              try clear hcz15_6
              try clear hcz24_0
              try clear hcz24_1
              try clear hcz24_2
              try clear hcz24_3
              try clear hcz24_4
              try clear hcz24_5
              try clear hcz24_6
              try clear hcz25_0
              try clear hcz25_1
              try clear hcz27_0
              try clear hcz27_1
              try clear hcz27_2
              try clear hcz27_3
              try clear hcz27_4
              try clear hcz27_5
              try clear hcz27_6
              try clear hcz28_0
              try clear hcz28_1
              try clear hcz34_0
              try clear hcz34_1
              try clear hcz34_2
              try clear hcz34_3
              try clear hcz34_4
              try clear hcz34_5
              try clear hcz34_6
              try clear hcz39_0
              try clear hcz39_1
              try clear hcz42_0
              try clear hcz42_1
              try clear hcz43_0
              try clear hcz43_1
              try clear hcz43_2
              try clear hcz43_3
              try clear hcz43_4
              try clear hcz43_5
              try clear hcz43_6
              try clear hcz45_0
              try clear hcz45_1
              try clear hcz46_0
              try clear hcz46_1
              try clear hcz46_2
              try clear hcz46_3
              try clear hcz46_4
              try clear hcz46_5
              try clear hcz46_6
              try clear hfz12_0
              try clear hfz12_1
              try clear hfz12_2
              try clear hfz12_3
              try clear hfz12_4
              try clear hfz12_5
              try clear hfz12_6
              try clear hfz15_0
              try clear hfz15_1
              try clear hfz15_2
              try clear hfz15_3
              try clear hfz15_4
              try clear hfz15_5
              try clear hfz15_6
              try clear hfz24_0
              try clear hfz24_1
              try clear hfz24_2
              try clear hfz24_3
              try clear hfz24_4
              try clear hfz24_5
              try clear hfz24_6
              try clear hfz25_0
              try clear hfz25_1
              try clear hfz27_0
              try clear hfz27_1
              try clear hfz27_2
              try clear hfz27_3
              try clear hfz27_4
              try clear hfz27_5
              try clear hfz27_6
              try clear hfz28_0
              try clear hfz28_1
              try clear hfz34_0
              try clear hfz34_1
              try clear hfz34_2
              try clear hfz34_3
              try clear hfz34_4
              try clear hfz34_5
              try clear hfz34_6
              try clear hfz39_0
              try clear hfz39_1
              try clear hfz42_0
              try clear hfz42_1
              try clear hfz43_0
              try clear hfz43_1
              try clear hfz43_2
              try clear hfz43_3
              try clear hfz43_4
              try clear hfz43_5
              try clear hfz43_6
              try clear hfz45_0
              try clear hfz45_1
              try clear hfz46_0
              try clear hfz46_1
              try clear hfz46_2
              try clear hfz46_3
              try clear hfz46_4
              try clear hfz46_5
              try clear hfz46_6
              try clear p2
              obtain ⟨kq, x85_31, rfl, HA, HJ31, HO_13, BK610, BK611, HB⟩ := hcut
              cases kq with
              | zero => exact absurd HA.out (by simp [isobathlaw03_GliderLasts.j1])
              | succ kj31 =>
                have H := HA.out
                clear HA
                simp only [isobathlaw03_GliderLasts.j1] at H
                by_cases c47 : x85_31 = true
                · subst c47
                  have H1 : (some false) = some r := by rw [if_pos rfl] at H; exact H
                  clear H
                  have H := H1
                  clear H1
                  have hh_ := Option.some.inj H
                  rw [hr_.out] at hh_
                  cases hh_
                · replace c47 := Bool.eq_false_iff.mpr c47
                  subst c47
                  have H1 : (if (l2.length : Int) ≤ t614 then (if t620 = 19 then (some false) else (isobathlaw03_GliderLasts.j2 kj31 l2 a3 l4 t616 t619 t620 a0_0 a0_1 a0_2 a0_3 a0_4 a0_5 a0_6 a1_0 a1_1)) else (isobathlaw03_GliderLasts.j2 kj31 l2 a3 l4 t616 t619 t620 a0_0 a0_1 a0_2 a0_3 a0_4 a0_5 a0_6 a1_0 a1_1)) = some r := by rw [if_neg (show ¬ (false = true) by decide)] at H; exact H
                  clear H
                  have H := H1
                  clear H1
                  by_cases c48 : (l2.length : Int) ≤ t614
                  · rw [if_pos c48] at H
                    have c48b0 : decide ((l2.length : Int) ≤ t614) = true := decide_eq_true c48
                    clear c48
                    by_cases c49 : t620 = 19
                    · rw [if_pos c49] at H
                      have c49b0 : (t620 == 19) = true := beq_iff_eq.mpr c49
                      have c49b1 : (t620 != 19) = false := bne_eq_false_iff_eq.mpr c49
                      clear c49
                      have hh_ := Option.some.inj H
                      rw [hr_.out] at hh_
                      cases hh_
                    · rw [if_neg c49] at H
                      have c49b0 : (t620 == 19) = false := beq_eq_false_iff_ne.mpr c49
                      have c49b1 : (t620 != 19) = true := bne_iff_ne.mpr c49
                      have H' := Aside0.mk H
                      clear H
                      go_wp2
                      go_meet
                      case rel => exact ⟨_, H', ⟨by have := HJ5.out; have := HJ31.out; first | omega | exact Nat.le_refl _⟩, ⟨by (with_reducible repeat (first | apply Kd.R_alloc | apply Kd.R_drewN | apply Kd.R_drew)); exact HO_13.out⟩, ⟨by (with_reducible repeat (first | refine blk_drewN ?_ _ | refine blk_drew ?_ | refine blk_alloc ?_ _)); exact BK610.out⟩, ⟨by (with_reducible repeat (first | refine blk_drewN ?_ _ | refine blk_drew ?_ | refine blk_alloc ?_ _)); exact BK611.out⟩, ⟨by repeat (first | (with_reducible first | exact HB.out | apply below_alloc | apply pw_below_drewN | apply below_drew1 | refine below_set ?_ GE610.out | refine below_set ?_ GE611.out) | exact HB.out)⟩⟩
                  · rw [if_neg c48] at H
                    have c48b0 : decide ((l2.length : Int) ≤ t614) = false := decide_eq_false c48
                    clear c48
                    have H' := Aside0.mk H
                    clear H
                    go_wp2
                    go_meet
                    case rel => exact ⟨_, H', ⟨by have := HJ5.out; have := HJ31.out; first | omega | exact Nat.le_refl _⟩, ⟨by (with_reducible repeat (first | apply Kd.R_alloc | apply Kd.R_drewN | apply Kd.R_drew)); exact HO_13.out⟩, ⟨by (with_reducible repeat (first | refine blk_drewN ?_ _ | refine blk_drew ?_ | refine blk_alloc ?_ _)); exact BK610.out⟩, ⟨by (with_reducible repeat (first | refine blk_drewN ?_ _ | refine blk_drew ?_ | refine blk_alloc ?_ _)); exact BK611.out⟩, ⟨by repeat (first | (with_reducible first | exact HB.out | apply below_alloc | apply pw_below_drewN | apply below_drew1 | refine below_set ?_ GE610.out | refine below_set ?_ GE611.out) | exact HB.out)⟩⟩
          · rw [if_neg c30] at H
            have c30b0 : (t615 == 0) = false := beq_eq_false_iff_ne.mpr c30
            have c30b1 : (t615 != 0) = true := bne_iff_ne.mpr c30
            (first | rw [c30b0] | (simp only [i64_w, i32_w]; rw [c30b0]) | skip)
            have H' := Aside0.mk H
            clear H
            go_wp2
            go_meet
            case rel => exact ⟨_, H', ⟨by have := HJ5.out; first | omega | exact Nat.le_refl _⟩, ⟨by (with_reducible repeat (first | apply Kd.R_alloc | apply Kd.R_drewN | apply Kd.R_drew)); exact Kd.R_mono HO618.out (fun _ hk => hk.2)⟩, ⟨by (with_reducible repeat (first | refine blk_drewN ?_ _ | refine blk_drew ?_ | refine blk_alloc ?_ _)); exact BK610.out⟩, ⟨by (with_reducible repeat (first | refine blk_drewN ?_ _ | refine blk_drew ?_ | refine blk_alloc ?_ _)); exact BK611.out⟩, ⟨by repeat (first | (with_reducible first | exact HB.out | apply below_alloc | apply pw_below_drewN | apply below_drew1 | refine below_set ?_ GE610.out | refine below_set ?_ GE611.out) | exact HB.out)⟩⟩
        case rest =>
          clear HC22
          try clear c1
          try clear c2
          try clear p2
          try clear c3
          try clear c4
          try clear p6
          try clear c7
          try clear c10
          try clear c10b0
          try clear c10b1
          try clear c11
          try clear c14
          try clear c17
          try clear c19
          try clear c23
          try clear c28
          try clear c30
          try clear c30b0
          try clear c30b1
          try clear c33
          try clear c35
          try clear c35b0
          try clear c36
          try clear c36b0
          try clear c37
          try clear c37b0
          try clear c38
          try clear c40
          try clear c40b0
          try clear c41
          try clear c44
          try clear c47
          try clear c48
          try clear c48b0
          try clear c49
          try clear c49b0
          try clear c49b1
          try clear hcz12_0
          try clear hcz12_1
          try clear hcz12_2
          try clear hcz12_3
          try clear hcz12_4
          try clear hcz12_5
          try clear hcz12_6
          try clear hcz15_0
          try clear hcz15_1
          try clear hcz15_2
          try clear hcz15_3
          try clear hcz15_4
          try clear hcz15_5
          try clear hcz15_6
          try clear hcz24_0
          try clear hcz24_1
          try clear hcz24_2
          try clear hcz24_3
          try clear hcz24_4
          try clear hcz24_5
          try clear hcz24_6
          try clear hcz25_0
          try clear hcz25_1
          try clear hcz27_0
          try clear hcz27_1
          try clear hcz27_2
          try clear hcz27_3
          try clear hcz27_4
          try clear hcz27_5
          try clear hcz27_6
          try clear hcz28_0
          try clear hcz28_1
          try clear hcz34_0
          try clear hcz34_1
          try clear hcz34_2
          try clear hcz34_3
          try clear hcz34_4
          try clear hcz34_5
          try clear hcz34_6
          try clear hcz39_0
          try clear hcz39_1
          try clear hcz42_0
          try clear hcz42_1
          try clear hcz43_0
          try clear hcz43_1
          try clear hcz43_2
          try clear hcz43_3
          try clear hcz43_4
          try clear hcz43_5
          try clear hcz43_6
          try clear hcz45_0
          try clear hcz45_1
          try clear hcz46_0
          try clear hcz46_1
          try clear hcz46_2
          try clear hcz46_3
          try clear hcz46_4
          try clear hcz46_5
          try clear hcz46_6
          try clear hfz12_0
          try clear hfz12_1
          try clear hfz12_2
          try clear hfz12_3
          try clear hfz12_4
          try clear hfz12_5
          try clear hfz12_6
          try clear hfz15_0
          try clear hfz15_1
          try clear hfz15_2
          try clear hfz15_3
          try clear hfz15_4
          try clear hfz15_5
          try clear hfz15_6
          try clear hfz24_0
          try clear hfz24_1
          try clear hfz24_2
          try clear hfz24_3
          try clear hfz24_4
          try clear hfz24_5
          try clear hfz24_6
          try clear hfz25_0
          try clear hfz25_1
          try clear hfz27_0
          try clear hfz27_1
          try clear hfz27_2
          try clear hfz27_3
          try clear hfz27_4
          try clear hfz27_5
          try clear hfz27_6
          try clear hfz28_0
          try clear hfz28_1
          try clear hfz34_0
          try clear hfz34_1
          try clear hfz34_2
          try clear hfz34_3
          try clear hfz34_4
          try clear hfz34_5
          try clear hfz34_6
          try clear hfz39_0
          try clear hfz39_1
          try clear hfz42_0
          try clear hfz42_1
          try clear hfz43_0
          try clear hfz43_1
          try clear hfz43_2
          try clear hfz43_3
          try clear hfz43_4
          try clear hfz43_5
          try clear hfz43_6
          try clear hfz45_0
          try clear hfz45_1
          try clear hfz46_0
          try clear hfz46_1
          try clear hfz46_2
          try clear hfz46_3
          try clear hfz46_4
          try clear hfz46_5
          try clear hfz46_6
          try clear p2
          try clear p6
          obtain ⟨kq, HA, HJ21, HO_13, BK610, BK611, HB⟩ := hcut
          cases kq with
          | zero => exact absurd HA.out (by simp [isobathlaw03_GliderLasts.j2])
          | succ kj21 =>
            have H := HA.out
            clear HA
            simp only [isobathlaw03_GliderLasts.j2] at H
            by_cases c50 : t620 = 0
            · rw [if_pos c50] at H
              have c50b0 : (t620 == 0) = true := beq_iff_eq.mpr c50
              have c50b1 : (t620 != 0) = false := bne_eq_false_iff_eq.mpr c50
              clear c50
              have HC51 := Aside0.mk H
              clear H
              go_upto_region 13 with (fail)
              go_cut [111] (fun v111 wc => ∃ (kq : Nat) (x111_50 : Bool), v111 = .bool x111_50 ∧ Aside0 (isobathlaw03_GliderLasts.j3 kq l2 a3 l4 t616 x111_50 a0_0 a0_1 a0_2 a0_3 a0_4 a0_5 a0_6 a1_0 a1_1 = some r) ∧ Aside0 (kq ≤ kj21) ∧ Aside0 (Kd.R k27 27 wc w.heap.size (fun k_ => k_ ≠ gb611) v617 t616) ∧ Aside0 (wc.heap[gb610]? = some (.cells #[.int .i64 a0_0, .int .i64 a0_1, .int .i64 a0_2, .int .i64 a0_3, .int .i64 a0_4, .int .i64 a0_5, .int .i64 a0_6] 29 (0, 0))) ∧ Aside0 (wc.heap[gb611]? = some (.cells #[.int .i64 a1_0, .int .i64 a1_1] 27 (0, 0))) ∧ Aside0 (Below w.heap.size w wc))
              case first =>
                have H := HC51.out
                clear HC51
                by_cases c52 : t619 = (l2.length : Int)
                · rw [if_pos c52] at H
                  have c52b0 : (t619 == (l2.length : Int)) = true := beq_iff_eq.mpr c52
                  have c52b1 : (t619 != (l2.length : Int)) = false := bne_eq_false_iff_eq.mpr c52
                  clear c52
                  (first | rw [c52b0] | (simp only [i64_w, i32_w]; rw [c52b0]) | skip)
                  have H' := Aside0.mk H
                  clear H
                  obtain ⟨Ao53, co53, eo53⟩ := Kd.R_slice HO_13.out
                  subst eo53
                  go_wp2
                  go_meet
                  case rel => exact ⟨_, (((t616.length : Int) != t619)), (by first | rfl | (simp; done) | (simp [*]; done)), H', ⟨by have := HJ5.out; have := HJ21.out; first | omega | exact Nat.le_refl _⟩, ⟨by (with_reducible repeat (first | apply Kd.R_alloc | apply Kd.R_drewN | apply Kd.R_drew)); exact HO_13.out⟩, ⟨by (with_reducible repeat (first | refine blk_drewN ?_ _ | refine blk_drew ?_ | refine blk_alloc ?_ _)); exact BK610.out⟩, ⟨by (with_reducible repeat (first | refine blk_drewN ?_ _ | refine blk_drew ?_ | refine blk_alloc ?_ _)); exact BK611.out⟩, ⟨by repeat (first | (with_reducible first | exact HB.out | apply below_alloc | apply pw_below_drewN | apply below_drew1 | refine below_set ?_ GE610.out | refine below_set ?_ GE611.out) | exact HB.out)⟩⟩
                · rw [if_neg c52] at H
                  have c52b0 : (t619 == (l2.length : Int)) = false := beq_eq_false_iff_ne.mpr c52
                  have c52b1 : (t619 != (l2.length : Int)) = true := bne_iff_ne.mpr c52
                  (first | rw [c52b0] | (simp only [i64_w, i32_w]; rw [c52b0]) | skip)
                  have H' := Aside0.mk H
                  clear H
                  go_wp2
                  go_meet
                  case rel => exact ⟨_, (true), (by first | rfl | (simp; done) | (simp [*]; done)), H', ⟨by have := HJ5.out; have := HJ21.out; first | omega | exact Nat.le_refl _⟩, ⟨by (with_reducible repeat (first | apply Kd.R_alloc | apply Kd.R_drewN | apply Kd.R_drew)); exact HO_13.out⟩, ⟨by (with_reducible repeat (first | refine blk_drewN ?_ _ | refine blk_drew ?_ | refine blk_alloc ?_ _)); exact BK610.out⟩, ⟨by (with_reducible repeat (first | refine blk_drewN ?_ _ | refine blk_drew ?_ | refine blk_alloc ?_ _)); exact BK611.out⟩, ⟨by repeat (first | (with_reducible first | exact HB.out | apply below_alloc | apply pw_below_drewN | apply below_drew1 | refine below_set ?_ GE610.out | refine below_set ?_ GE611.out) | exact HB.out)⟩⟩
              case rest =>
                clear HC51
                try clear c1
                try clear c2
                try clear p2
                try clear c3
                try clear c4
                try clear c5
                try clear p6
                try clear c7
                try clear c10
                try clear c10b0
                try clear c10b1
                try clear c11
                try clear c14
                try clear c17
                try clear c19
                try clear c23
                try clear c28
                try clear c30
                try clear c30b0
                try clear c30b1
                try clear c33
                try clear c35
                try clear c35b0
                try clear c36
                try clear c36b0
                try clear c37
                try clear c37b0
                try clear c38
                try clear c40
                try clear c40b0
                try clear c41
                try clear c44
                try clear c47
                try clear c48
                try clear c48b0
                try clear c49
                try clear c49b0
                try clear c49b1
                try clear c50
                try clear c50b0
                try clear c50b1
                try clear c52
                try clear c52b0
                try clear c52b1
                try clear hcz12_0
                try clear hcz12_1
                try clear hcz12_2
                try clear hcz12_3
                try clear hcz12_4
                try clear hcz12_5
                try clear hcz12_6
                try clear hcz15_0
                try clear hcz15_1
                try clear hcz15_2
                try clear hcz15_3
                try clear hcz15_4
                try clear hcz15_5
                try clear hcz15_6
                try clear hcz24_0
                try clear hcz24_1
                try clear hcz24_2
                try clear hcz24_3
                try clear hcz24_4
                try clear hcz24_5
                try clear hcz24_6
                try clear hcz25_0
                try clear hcz25_1
                try clear hcz27_0
                try clear hcz27_1
                try clear hcz27_2
                try clear hcz27_3
                try clear hcz27_4
                try clear hcz27_5
                try clear hcz27_6
                try clear hcz28_0
                try clear hcz28_1
                try clear hcz34_0
                try clear hcz34_1
                try clear hcz34_2
                try clear hcz34_3
                try clear hcz34_4
                try clear hcz34_5
                try clear hcz34_6
                try clear hcz39_0
                try clear hcz39_1
                try clear hcz42_0
                try clear hcz42_1
                try clear hcz43_0
                try clear hcz43_1
                try clear hcz43_2
                try clear hcz43_3
                try clear hcz43_4
                try clear hcz43_5
                try clear hcz43_6
                try clear hcz45_0
                try clear hcz45_1
                try clear hcz46_0
                try clear hcz46_1
                try clear hcz46_2
                try clear hcz46_3
                try clear hcz46_4
                try clear hcz46_5
                try clear hcz46_6
                try clear hfz12_0
                try clear hfz12_1
                try clear hfz12_2
                try clear hfz12_3
                try clear hfz12_4
                try clear hfz12_5
                try clear hfz12_6
                try clear hfz15_0
                try clear hfz15_1
                try clear hfz15_2
                try clear hfz15_3
                try clear hfz15_4
                try clear hfz15_5
                try clear hfz15_6
                try clear hfz24_0
                try clear hfz24_1
                try clear hfz24_2
                try clear hfz24_3
                try clear hfz24_4
                try clear hfz24_5
                try clear hfz24_6
                try clear hfz25_0
                try clear hfz25_1
                try clear hfz27_0
                try clear hfz27_1
                try clear hfz27_2
                try clear hfz27_3
                try clear hfz27_4
                try clear hfz27_5
                try clear hfz27_6
                try clear hfz28_0
                try clear hfz28_1
                try clear hfz34_0
                try clear hfz34_1
                try clear hfz34_2
                try clear hfz34_3
                try clear hfz34_4
                try clear hfz34_5
                try clear hfz34_6
                try clear hfz39_0
                try clear hfz39_1
                try clear hfz42_0
                try clear hfz42_1
                try clear hfz43_0
                try clear hfz43_1
                try clear hfz43_2
                try clear hfz43_3
                try clear hfz43_4
                try clear hfz43_5
                try clear hfz43_6
                try clear hfz45_0
                try clear hfz45_1
                try clear hfz46_0
                try clear hfz46_1
                try clear hfz46_2
                try clear hfz46_3
                try clear hfz46_4
                try clear hfz46_5
                try clear hfz46_6
                try clear p2
                try clear p6
                obtain ⟨kq, x111_50, rfl, HA, HJ50, HO_13, BK610, BK611, HB⟩ := hcut
                cases kq with
                | zero => exact absurd HA.out (by simp [isobathlaw03_GliderLasts.j3])
                | succ kj50 =>
                  have H := HA.out
                  clear HA
                  simp only [isobathlaw03_GliderLasts.j3] at H
                  by_cases c54 : x111_50 = true
                  · subst c54
                    have H1 : (some false) = some r := by rw [if_pos rfl] at H; exact H
                    clear H
                    have H := H1
                    clear H1
                    have hh_ := Option.some.inj H
                    rw [hr_.out] at hh_
                    cases hh_
                  · replace c54 := Bool.eq_false_iff.mpr c54
                    subst c54
                    have H1 : ((isobathlaw01_Part.f a1_0 a1_1 a3).bind fun t622 => (isobathlaw03_GliderLasts.l0 kj50 l2 l4 t616 t622 0 a0_0 a0_1 a0_2 a0_3 a0_4 a0_5 a0_6)) = some r := by rw [if_neg (show ¬ (false = true) by decide)] at H; exact H
                    clear H
                    have H := H1
                    clear H1
                    replace H := Option.bind_eq_some_iff.mp H
                    obtain ⟨t622, A550, H⟩ := H
                    replace H : (isobathlaw03_GliderLasts.l0 kj50 l2 l4 t616 t622 0 a0_0 a0_1 a0_2 a0_3 a0_4 a0_5 a0_6) = some r := H
                    have A55 := Aside0.mk A550
                    clear A550
                    have H' := Aside0.mk H
                    clear H
                    have hnb56 := NB611_610.out
                    have hnc56 := NB610_611.out
                    have hcz57_0 : wc.cell? ⟨gb611, 0, none⟩ = some (.int .i64 a1_0) := (blk_cell BK611.out 0).trans rfl
                    have hcz57_1 : wc.cell? ⟨gb611, 1, none⟩ = some (.int .i64 a1_1) := (blk_cell BK611.out 1).trans rfl
                    have hfz57_0 := blk_frozen BK611.out 0
                    have hfz57_1 := blk_frozen BK611.out 1
                    go_wp2_with (first | ((with_reducible refine gate_callee (f := 33) rfl ?_); refine goesL_ (some 114) rfl rfl Try.func33 (by kernel_rfl) rfl #[.agg #[.int .i64 a1_0, .int .i64 a1_1], .int .u16 a3] rfl (by (try simp only [List.map_toArray, List.map_cons, List.map_nil]); first | done | rfl | (simp only [List.length_drop, List.length_take]; rfl)) ?_; (with_reducible refine (isobathlaw01_Part.calls a1_0 a1_1 a3 t622 _ A55.out).mono ?_); rintro e w58 ⟨rfl, hb⟩; refine ⟨_, rfl, ?_⟩; have n0_ := Aside0.mk (Kd.R_below (by (with_reducible repeat (first | apply Kd.R_alloc | apply Kd.R_drewN | apply Kd.R_drew)); exact HO_13.out) hb); have n1_ := Aside0.mk (blk_below (g := gb610) (o := .cells #[.int .i64 a0_0, .int .i64 a0_1, .int .i64 a0_2, .int .i64 a0_3, .int .i64 a0_4, .int .i64 a0_5, .int .i64 a0_6] 29 (0, 0)) (by (with_reducible repeat (first | refine blk_drewN ?_ _ | refine blk_drew ?_ | refine blk_alloc ?_ _)); exact BK610.out) hb); have n2_ := Aside0.mk (blk_below (g := gb611) (o := .cells #[.int .i64 a1_0, .int .i64 a1_1] 27 (0, 0)) (by (with_reducible repeat (first | refine blk_drewN ?_ _ | refine blk_drew ?_ | refine blk_alloc ?_ _)); exact BK611.out) hb); have n3_ := Aside0.mk (below_step (by repeat (first | (with_reducible first | exact HB.out | apply below_alloc | apply pw_below_drewN | apply below_drew1 | refine below_set ?_ GE610.out | refine below_set ?_ GE611.out) | exact HB.out)) hb); clear HO_13; clear BK610; clear BK611; clear HB; have HO_13 := n0_; have BK610 := n1_; have BK611 := n2_; have HB := n3_; clear n0_ n1_ n2_ n3_; (try clear hb); (try clear hb2); (try clear hk); (try clear hi)))
                    go_loopg [17, 18] kj50 (fun kq v17 v18 w' => ∃ (x17_4 : Int) (x18_4 : Int), v17 = .int .i64 x17_4 ∧ v18 = .int .i64 x18_4 ∧ Aside0 (isobathlaw03_GliderLasts.l0 kq l2 l4 t616 x17_4 x18_4 a0_0 a0_1 a0_2 a0_3 a0_4 a0_5 a0_6 = some r) ∧ Aside0 (kq ≤ kj50) ∧ Aside0 (Kd.R k27 27 w' w.heap.size (fun k_ => k_ ≠ gb611) v617 t616) ∧ Aside0 (w'.heap[gb610]? = some (.cells #[.int .i64 a0_0, .int .i64 a0_1, .int .i64 a0_2, .int .i64 a0_3, .int .i64 a0_4, .int .i64 a0_5, .int .i64 a0_6] 29 (0, 0))) ∧ Aside0 (w'.heap[gb611]? = some (.cells #[.int .i64 a1_0, .int .i64 a1_1] 27 (0, 0))) ∧ Aside0 (Below w.heap.size w w'))
                    case atStart => exact ⟨(t622), (0), (by first | rfl | (simp; done) | (simp [*]; done)), (by first | rfl | (simp; done) | (simp [*]; done)), H', ⟨Nat.le_refl _⟩, ⟨by (with_reducible repeat (first | apply Kd.R_alloc | apply Kd.R_drewN | apply Kd.R_drew)); exact HO_13.out⟩, ⟨by (with_reducible repeat (first | refine blk_drewN ?_ _ | refine blk_drew ?_ | refine blk_alloc ?_ _)); exact BK610.out⟩, ⟨by (with_reducible repeat (first | refine blk_drewN ?_ _ | refine blk_drew ?_ | refine blk_alloc ?_ _)); exact BK611.out⟩, ⟨by repeat (first | (with_reducible first | exact HB.out | apply below_alloc | apply pw_below_drewN | apply below_drew1 | refine below_set ?_ GE610.out | refine below_set ?_ GE611.out) | exact HB.out)⟩⟩
                    case round =>
                      clear H'
                      try clear c1
                      try clear c2
                      try clear p2
                      try clear c3
                      try clear c4
                      try clear c5
                      try clear p6
                      try clear c7
                      try clear c10
                      try clear c10b0
                      try clear c10b1
                      try clear c11
                      try clear c14
                      try clear c17
                      try clear c19
                      try clear c23
                      try clear c28
                      try clear c30
                      try clear c30b0
                      try clear c30b1
                      try clear c33
                      try clear c35
                      try clear c35b0
                      try clear c36
                      try clear c36b0
                      try clear c37
                      try clear c37b0
                      try clear c38
                      try clear c40
                      try clear c40b0
                      try clear c41
                      try clear c44
                      try clear c47
                      try clear c48
                      try clear c48b0
                      try clear c49
                      try clear c49b0
                      try clear c49b1
                      try clear c50
                      try clear c50b0
                      try clear c50b1
                      try clear c52
                      try clear c52b0
                      try clear c52b1
                      try clear c54
                      try clear c56
                      try clear hcz12_0
                      try clear hcz12_1
                      try clear hcz12_2
                      try clear hcz12_3
                      try clear hcz12_4
                      try clear hcz12_5
                      try clear hcz12_6
                      try clear hcz15_0
                      try clear hcz15_1
                      try clear hcz15_2
                      try clear hcz15_3
                      try clear hcz15_4
                      try clear hcz15_5
                      try clear hcz15_6
                      try clear hcz24_0
                      try clear hcz24_1
                      try clear hcz24_2
                      try clear hcz24_3
                      try clear hcz24_4
                      try clear hcz24_5
                      try clear hcz24_6
                      try clear hcz25_0
                      try clear hcz25_1
                      try clear hcz27_0
                      try clear hcz27_1
                      try clear hcz27_2
                      try clear hcz27_3
                      try clear hcz27_4
                      try clear hcz27_5
                      try clear hcz27_6
                      try clear hcz28_0
                      try clear hcz28_1
                      try clear hcz34_0
                      try clear hcz34_1
                      try clear hcz34_2
                      try clear hcz34_3
                      try clear hcz34_4
                      try clear hcz34_5
                      try clear hcz34_6
                      try clear hcz39_0
                      try clear hcz39_1
                      try clear hcz42_0
                      try clear hcz42_1
                      try clear hcz43_0
                      try clear hcz43_1
                      try clear hcz43_2
                      try clear hcz43_3
                      try clear hcz43_4
                      try clear hcz43_5
                      try clear hcz43_6
                      try clear hcz45_0
                      try clear hcz45_1
                      try clear hcz46_0
                      try clear hcz46_1
                      try clear hcz46_2
                      try clear hcz46_3
                      try clear hcz46_4
                      try clear hcz46_5
                      try clear hcz46_6
                      try clear hcz57_0
                      try clear hcz57_1
                      try clear hfz12_0
                      try clear hfz12_1
                      try clear hfz12_2
                      try clear hfz12_3
                      try clear hfz12_4
                      try clear hfz12_5
                      try clear hfz12_6
                      try clear hfz15_0
                      try clear hfz15_1
                      try clear hfz15_2
                      try clear hfz15_3
                      try clear hfz15_4
                      try clear hfz15_5
                      try clear hfz15_6
                      try clear hfz24_0
                      try clear hfz24_1
                      try clear hfz24_2
                      try clear hfz24_3
                      try clear hfz24_4
                      try clear hfz24_5
                      try clear hfz24_6
                      try clear hfz25_0
                      try clear hfz25_1
                      try clear hfz27_0
                      try clear hfz27_1
                      try clear hfz27_2
                      try clear hfz27_3
                      try clear hfz27_4
                      try clear hfz27_5
                      try clear hfz27_6
                      try clear hfz28_0
                      try clear hfz28_1
                      try clear hfz34_0
                      try clear hfz34_1
                      try clear hfz34_2
                      try clear hfz34_3
                      try clear hfz34_4
                      try clear hfz34_5
                      try clear hfz34_6
                      try clear hfz39_0
                      try clear hfz39_1
                      try clear hfz42_0
                      try clear hfz42_1
                      try clear hfz43_0
                      try clear hfz43_1
                      try clear hfz43_2
                      try clear hfz43_3
                      try clear hfz43_4
                      try clear hfz43_5
                      try clear hfz43_6
                      try clear hfz45_0
                      try clear hfz45_1
                      try clear hfz46_0
                      try clear hfz46_1
                      try clear hfz46_2
                      try clear hfz46_3
                      try clear hfz46_4
                      try clear hfz46_5
                      try clear hfz46_6
                      try clear hfz57_0
                      try clear hfz57_1
                      try clear p2
                      try clear p6
                      obtain ⟨x17_4, x18_4, rfl, rfl, HA, HK4, HO_13, BK610, BK611, HB⟩ := hrel
                      cases gk with
                      | zero => exact absurd HA.out (by simp [isobathlaw03_GliderLasts.l0])
                      | succ k4 =>
                        have H := HA.out
                        clear HA
                        simp only [isobathlaw03_GliderLasts.l0] at H
                        by_cases c59 : x18_4 < (l2.length : Int)
                        · rw [if_pos c59] at H
                          have c59b0 : decide (x18_4 < (l2.length : Int)) = true := decide_eq_true c59
                          clear c59
                          by_cases c60 : 0 ≤ x18_4
                          · rw [if_pos c60] at H
                            have c60b0 : decide (0 ≤ x18_4) = true := decide_eq_true c60
                            clear c60
                            replace H := Option.bind_eq_some_iff.mp H
                            obtain ⟨⟨t625, t626⟩, A610, H⟩ := H
                            replace H : ((isobathlaw03_pick.f l4 x18_4).bind fun t627 => ((isobathlaw01_Part.f t625 t626 t627).bind fun t628 => (if (wrap64 (x17_4 - t628)) < a0_6 then (some false) else (if x18_4 < (t616.length : Int) then (if (wrap64 (x17_4 - t628)) < ((rd_T27 t616 x18_4).f0) then (some false) else (if (wrap64 (x17_4 - t628)) > ((rd_T27 t616 x18_4).f1) then (some false) else (isobathlaw03_GliderLasts.l0 k4 l2 l4 t616 (wrap64 (x17_4 - t628)) (wrap64 (x18_4 + 1)) a0_0 a0_1 a0_2 a0_3 a0_4 a0_5 a0_6))) else (none))))) = some r := H
                            have A61 := Aside0.mk A610
                            clear A610
                            replace H := Option.bind_eq_some_iff.mp H
                            obtain ⟨t627, A620, H⟩ := H
                            replace H : ((isobathlaw01_Part.f t625 t626 t627).bind fun t628 => (if (wrap64 (x17_4 - t628)) < a0_6 then (some false) else (if x18_4 < (t616.length : Int) then (if (wrap64 (x17_4 - t628)) < ((rd_T27 t616 x18_4).f0) then (some false) else (if (wrap64 (x17_4 - t628)) > ((rd_T27 t616 x18_4).f1) then (some false) else (isobathlaw03_GliderLasts.l0 k4 l2 l4 t616 (wrap64 (x17_4 - t628)) (wrap64 (x18_4 + 1)) a0_0 a0_1 a0_2 a0_3 a0_4 a0_5 a0_6))) else (none)))) = some r := H
                            have A62 := Aside0.mk A620
                            clear A620
                            replace H := Option.bind_eq_some_iff.mp H
                            obtain ⟨t628, A630, H⟩ := H
                            replace H : (if (wrap64 (x17_4 - t628)) < a0_6 then (some false) else (if x18_4 < (t616.length : Int) then (if (wrap64 (x17_4 - t628)) < ((rd_T27 t616 x18_4).f0) then (some false) else (if (wrap64 (x17_4 - t628)) > ((rd_T27 t616 x18_4).f1) then (some false) else (isobathlaw03_GliderLasts.l0 k4 l2 l4 t616 (wrap64 (x17_4 - t628)) (wrap64 (x18_4 + 1)) a0_0 a0_1 a0_2 a0_3 a0_4 a0_5 a0_6))) else (none))) = some r := H
                            have A63 := Aside0.mk A630
                            clear A630
                            by_cases c64 : (wrap64 (x17_4 - t628)) < a0_6
                            · rw [if_pos c64] at H
                              have c64b0 : decide ((wrap64 (x17_4 - t628)) < a0_6) = true := decide_eq_true c64
                              clear c64
                              have hh_ := Option.some.inj H
                              rw [hr_.out] at hh_
                              cases hh_
                            · rw [if_neg c64] at H
                              have c64b0 : decide ((wrap64 (x17_4 - t628)) < a0_6) = false := decide_eq_false c64
                              clear c64
                              by_cases c70 : x18_4 < (t616.length : Int)
                              · rw [if_pos c70] at H
                                have c70b0 : decide (x18_4 < (t616.length : Int)) = true := decide_eq_true c70
                                clear c70
                                by_cases c71 : (wrap64 (x17_4 - t628)) < ((rd_T27 t616 x18_4).f0)
                                · rw [if_pos c71] at H
                                  have c71b0 : decide ((wrap64 (x17_4 - t628)) < ((rd_T27 t616 x18_4).f0)) = true := decide_eq_true c71
                                  clear c71
                                  have hh_ := Option.some.inj H
                                  rw [hr_.out] at hh_
                                  cases hh_
                                · rw [if_neg c71] at H
                                  have c71b0 : decide ((wrap64 (x17_4 - t628)) < ((rd_T27 t616 x18_4).f0)) = false := decide_eq_false c71
                                  clear c71
                                  by_cases c78 : (wrap64 (x17_4 - t628)) > ((rd_T27 t616 x18_4).f1)
                                  · rw [if_pos c78] at H
                                    have c78b0 : decide (((rd_T27 t616 x18_4).f1) < (wrap64 (x17_4 - t628))) = true := decide_eq_true c78
                                    clear c78
                                    have hh_ := Option.some.inj H
                                    rw [hr_.out] at hh_
                                    cases hh_
                                  · rw [if_neg c78] at H
                                    have c78b0 : decide (((rd_T27 t616 x18_4).f1) < (wrap64 (x17_4 - t628))) = false := decide_eq_false c78
                                    clear c78
                                    have H' := Aside0.mk H
                                    clear H
                                    try go_wp2
                                    have n0_ := Aside0.mk (Kd.R_drew HO_13.out)
                                    have n1_ := Aside0.mk (blk_drew BK610.out)
                                    have n2_ := Aside0.mk (blk_drew BK611.out)
                                    have n3_ := Aside0.mk (below_drew1 HB.out)
                                    clear HO_13
                                    clear BK610
                                    clear BK611
                                    clear HB
                                    have HO_13 := n0_
                                    have BK610 := n1_
                                    have BK611 := n2_
                                    have HB := n3_
                                    clear n0_ n1_ n2_ n3_
                                    have p624 : 0 ≤ (x18_4 : Int) := of_decide_eq_true (by first | (with_reducible assumption) | assumption)
                                    have q624 : x18_4 < (l2.length : Int) := of_decide_eq_true (by first | (with_reducible assumption) | assumption)
                                    obtain ⟨ad624, e624, hx624_0, hx624_1⟩ := at_T33 HR2.out x18_4 p624 q624
                                    have hw624_1 := hx624_1
                                    have hw624_0 := hx624_0
                                    cases e624
                                    replace hx624_0 := (HB.out.cell (World.block_lt_of_cell? w _ hx624_0)).trans hx624_0
                                    replace hx624_1 := (HB.out.cell (World.block_lt_of_cell? w _ hx624_1)).trans hx624_1
                                    replace p624 := eq_true p624
                                    replace q624 := eq_true q624
                                    refine start_ (n := 13) (S := fun w' => w'.cell? ⟨gb610, 0, none⟩ = some (.int .i64 a0_0) ∧ w'.cell? ⟨gb610, 1, none⟩ = some (.int .i64 a0_1) ∧ w'.cell? ⟨gb610, 2, none⟩ = some (.int .i64 a0_2) ∧ w'.cell? ⟨gb610, 3, none⟩ = some (.int .i64 a0_3) ∧ w'.cell? ⟨gb610, 4, none⟩ = some (.int .i64 a0_4) ∧ w'.cell? ⟨gb610, 5, none⟩ = some (.int .i64 a0_5) ∧ w'.cell? ⟨gb610, 6, none⟩ = some (.int .i64 a0_6) ∧ w'.cell? (ad624.add ((x18_4).toNat * 2)) = some (.int .i64 ((rd_T33 l2 x18_4).f0)) ∧ w'.cell? ⟨(ad624.add ((x18_4).toNat * 2)).block, (ad624.add ((x18_4).toNat * 2)).off + 1, none⟩ = some (.int .i64 ((rd_T33 l2 x18_4).f1))) (ds := []) #[false, false, false, false, false, false, false, false, false, false, false, false, false] (by kernel_rfl) rfl rfl ⟨(blk_cell BK610.out 0).trans rfl, (blk_cell BK610.out 1).trans rfl, (blk_cell BK610.out 2).trans rfl, (blk_cell BK610.out 3).trans rfl, (blk_cell BK610.out 4).trans rfl, (blk_cell BK610.out 5).trans rfl, (blk_cell BK610.out 6).trans rfl, ((HB.out.cell (World.block_lt_of_cell? w _ hw624_0)).trans hw624_0), ((HB.out.cell (World.block_lt_of_cell? w _ hw624_1)).trans hw624_1)⟩ (fun hHeld => ?_); refine with_tabW isobathlaw03_GliderLasts.tab19 isobathlaw03_GliderLasts.bits19 (fun HT_ HW_ => ?_)
                                    generalize wr.drew = w85 at HO_13 BK610 BK611 HB hx624_0 hx624_1 hHeld ⊢
                                    refine pure_ (i := 0) (N := some 121) (v := ?_) (a' := ?_) #[true, false, false, false, false, false, false, false, false, false, false, false, false] rfl rfl (any_of HT_.out (by kernel_rfl)) (fun _ _ _ h => h) (Or.inl ⟨by rfl, ?_⟩) ?_ ?_
                                    rotate_left
                                    · intro w'
                                      go_simp
                                      with_reducible rfl
                                    rotate_left
                                    · simp only [Act.put, List.setIfInBounds_toArray, List.set_cons_zero, List.set_cons_succ, i64_w, i32_w]
                                      rfl
                                    refine pure_ (i := 2) (N := some 123) (v := ?_) (a' := ?_) #[true, false, true, false, false, false, false, false, false, false, false, false, false] rfl rfl (any_of HT_.out (by kernel_rfl)) (fun _ _ _ h => h) (Or.inl ⟨by rfl, ?_⟩) ?_ ?_
                                    rotate_left
                                    · intro w'
                                      go_simp
                                      with_reducible rfl
                                    rotate_left
                                    · simp only [Act.put, List.setIfInBounds_toArray, List.set_cons_zero, List.set_cons_succ, i64_w, i32_w]
                                      rfl
                                    refine pure_ (i := 3) (N := some 124) (v := ?_) (a' := ?_) #[true, false, true, true, false, false, false, false, false, false, false, false, false] rfl rfl (any_of HT_.out (by kernel_rfl)) (fun _ _ _ h => h) (Or.inl ⟨by rfl, ?_⟩) ?_ ?_
                                    rotate_left
                                    · intro w'
                                      go_simp
                                      with_reducible rfl
                                    rotate_left
                                    · simp only [Act.put, List.setIfInBounds_toArray, List.set_cons_zero, List.set_cons_succ, i64_w, i32_w]
                                      rfl
                                    refine pure_ (i := 4) (N := some 125) (v := ?_) (a' := ?_) #[true, false, true, true, true, false, false, false, false, false, false, false, false] rfl rfl (any_of HT_.out (by kernel_rfl)) (fun _ _ _ h => h) (Or.inl ⟨by rfl, ?_⟩) ?_ ?_
                                    rotate_left
                                    · intro w'
                                      go_simp
                                      with_reducible rfl
                                    rotate_left
                                    · simp only [Act.put, List.setIfInBounds_toArray, List.set_cons_zero, List.set_cons_succ, i64_w, i32_w]
                                      rfl
                                    refine pure_ (i := 7) (N := some 128) (v := ?_) (a' := ?_) #[true, false, true, true, true, false, false, true, false, false, false, false, false] rfl rfl (any_of HT_.out (by kernel_rfl)) (fun _ _ _ h => h) (Or.inl ⟨by rfl, ?_⟩) ?_ ?_
                                    rotate_left
                                    · intro w'
                                      go_simp
                                      with_reducible rfl
                                    rotate_left
                                    · simp only [Act.put, List.setIfInBounds_toArray, List.set_cons_zero, List.set_cons_succ, i64_w, i32_w]
                                      rfl
                                    refine pure_ (i := 8) (N := some 129) (v := ?_) (a' := ?_) #[true, false, true, true, true, false, false, true, true, false, false, false, false] rfl rfl (any_of HT_.out (by kernel_rfl)) (fun _ _ _ h => h) (Or.inl ⟨by rfl, ?_⟩) ?_ ?_
                                    rotate_left
                                    · intro w'
                                      go_simp
                                      with_reducible rfl
                                    rotate_left
                                    · simp only [Act.put, List.setIfInBounds_toArray, List.set_cons_zero, List.set_cons_succ, i64_w, i32_w]
                                      rfl
                                    refine take_ (i := 1) (N := some 122) (v := ?_) (a' := ?_) #[true, true, true, true, true, false, false, true, true, false, false, false, false] rfl rfl (take_ofW HT_.out HW_.out (by kernel_rfl)) (fun _ _ _ h => h) (Or.inl ⟨by rfl, ?_⟩) hHeld ?_ ?_
                                    rotate_left
                                    · rintro w' ⟨s0, s1, s2, s3, s4, s5, s6, s7, s8⟩
                                      go_simp
                                      with_reducible rfl
                                    rotate_left
                                    · simp only [Act.put, List.setIfInBounds_toArray, List.set_cons_zero, List.set_cons_succ, i64_w, i32_w]
                                      rfl
                                    refine take_ (i := 5) (N := some 126) (v := ?_) (a' := ?_) #[true, true, true, true, true, true, false, true, true, false, false, false, false] rfl rfl (take_ofW HT_.out HW_.out (by kernel_rfl)) (fun _ _ _ h => h) (Or.inl ⟨by rfl, ?_⟩) hHeld ?_ ?_
                                    rotate_left
                                    · rintro w' ⟨s0, s1, s2, s3, s4, s5, s6, s7, s8⟩
                                      go_simp
                                      with_reducible rfl
                                    rotate_left
                                    · simp only [Act.put, List.setIfInBounds_toArray, List.set_cons_zero, List.set_cons_succ, i64_w, i32_w]
                                      rfl
                                    refine one_ (i := 6) (N := some 127) #[true, true, true, true, true, true, true, true, true, false, false, false, false] rfl rfl (one_of HT_.out (by kernel_rfl)) (by decide) (fun K hK => ?_)
                                    refine goes_ Try.func39 (by kernel_rfl) rfl #[.agg #[.int .i64 a0_0, .int .i64 a0_1, .int .i64 a0_2, .int .i64 a0_3, .int .i64 a0_4, .int .i64 a0_5, .int .i64 a0_6], .agg #[.int .i64 ((rd_T33 l2 x18_4).f0), .int .i64 ((rd_T33 l2 x18_4).f1)]] (by rfl) rfl rfl (by (try simp only [List.map_toArray, List.map_cons, List.map_nil]); first | done | rfl | (simp only [List.length_drop, List.length_take]; rfl)) ?_
                                    with_reducible refine (isobathref03_Takes.calls a0_0 a0_1 a0_2 a0_3 a0_4 a0_5 a0_6 ((rd_T33 l2 x18_4).f0) ((rd_T33 l2 x18_4).f1) t625 t626 _ A61.out).mono ?_
                                    rintro e w86 ⟨rfl, hb⟩
                                    refine ⟨_, rfl, ?_⟩
                                    have n0_ := Aside0.mk (Kd.R_below (by (with_reducible repeat (first | apply Kd.R_alloc | apply Kd.R_drewN | apply Kd.R_drew)); exact HO_13.out) hb)
                                    have n1_ := Aside0.mk (blk_below (g := gb610) (o := .cells #[.int .i64 a0_0, .int .i64 a0_1, .int .i64 a0_2, .int .i64 a0_3, .int .i64 a0_4, .int .i64 a0_5, .int .i64 a0_6] 29 (0, 0)) (by (with_reducible repeat (first | refine blk_drewN ?_ _ | refine blk_drew ?_ | refine blk_alloc ?_ _)); exact BK610.out) hb)
                                    have n2_ := Aside0.mk (blk_below (g := gb611) (o := .cells #[.int .i64 a1_0, .int .i64 a1_1] 27 (0, 0)) (by (with_reducible repeat (first | refine blk_drewN ?_ _ | refine blk_drew ?_ | refine blk_alloc ?_ _)); exact BK611.out) hb)
                                    have n3_ := Aside0.mk (below_step (by repeat (first | (with_reducible first | exact HB.out | apply below_alloc | apply pw_below_drewN | apply below_drew1 | refine below_set ?_ GE610.out | refine below_set ?_ GE611.out) | exact HB.out)) hb)
                                    clear HO_13
                                    clear BK610
                                    clear BK611
                                    clear HB
                                    have HO_13 := n0_
                                    have BK610 := n1_
                                    have BK611 := n2_
                                    have HB := n3_
                                    clear n0_ n1_ n2_ n3_
                                    (try clear hb)
                                    (try clear hb2)
                                    (try clear hk)
                                    (try clear hi)
                                    refine hK.out _ _ ⟨(blk_cell BK610.out 0).trans rfl, (blk_cell BK610.out 1).trans rfl, (blk_cell BK610.out 2).trans rfl, (blk_cell BK610.out 3).trans rfl, (blk_cell BK610.out 4).trans rfl, (blk_cell BK610.out 5).trans rfl, (blk_cell BK610.out 6).trans rfl, ((HB.out.cell (World.block_lt_of_cell? w _ hw624_0)).trans hw624_0), ((HB.out.cell (World.block_lt_of_cell? w _ hw624_1)).trans hw624_1)⟩ (fun hHeld => ?_)
                                    clear hK K
                                    refine norm_ (a' := ?_) ?_ ?_
                                    rotate_left
                                    · show Act.put _ (some 127) _ = _
                                      simp only [Act.put, List.setIfInBounds_toArray, List.set_cons_zero, List.set_cons_succ, i64_w, i32_w]
                                      rfl
                                    refine one_ (i := 9) (N := some 130) #[true, true, true, true, true, true, true, true, true, true, false, false, false] rfl rfl (one_of HT_.out (by kernel_rfl)) (by decide) (fun K hK => ?_)
                                    refine goes_ Try.func35 (by kernel_rfl) rfl #[.slice A4 l4.length c4, .int .i64 x18_4] (by rfl) rfl rfl (by (try simp only [List.map_toArray, List.map_cons, List.map_nil]); first | done | rfl | (simp only [List.length_drop, List.length_take]; rfl)) ?_
                                    with_reducible refine (isobathlaw03_pick.calls _ _ l4 x18_4 t627 _ ?side1 ?side2 A62.out).mono ?_
                                    (case side1 => repeat (first | exact (Kd.C_below HR4.out HB.out) | (with_reducible refine Kd.C_alloc ?_ _) | (with_reducible refine Kd.C_drewN ?_ _) | (with_reducible refine Kd.C_drew ?_)))
                                    (case side2 => exact HC4.out)
                                    rintro e w' ⟨rfl, ⟨nd, rfl⟩⟩
                                    refine ⟨_, rfl, ?_⟩
                                    refine hK.out _ _ ⟨(blk_cell BK610.out 0).trans rfl, (blk_cell BK610.out 1).trans rfl, (blk_cell BK610.out 2).trans rfl, (blk_cell BK610.out 3).trans rfl, (blk_cell BK610.out 4).trans rfl, (blk_cell BK610.out 5).trans rfl, (blk_cell BK610.out 6).trans rfl, ((HB.out.cell (World.block_lt_of_cell? w _ hw624_0)).trans hw624_0), ((HB.out.cell (World.block_lt_of_cell? w _ hw624_1)).trans hw624_1)⟩ (fun hHeld => ?_)
                                    clear hK K
                                    refine norm_ (a' := ?_) ?_ ?_
                                    rotate_left
                                    · show Act.put _ (some 130) _ = _
                                      simp only [Act.put, List.setIfInBounds_toArray, List.set_cons_zero, List.set_cons_succ, i64_w, i32_w]
                                      rfl
                                    refine one_ (i := 10) (N := some 131) #[true, true, true, true, true, true, true, true, true, true, true, false, false] rfl rfl (one_of HT_.out (by kernel_rfl)) (by decide) (fun K hK => ?_)
                                    refine goes_ Try.func33 (by kernel_rfl) rfl #[.agg #[.int .i64 t625, .int .i64 t626], .int .u16 t627] (by rfl) rfl rfl (by (try simp only [List.map_toArray, List.map_cons, List.map_nil]); first | done | rfl | (simp only [List.length_drop, List.length_take]; rfl)) ?_
                                    with_reducible refine (isobathlaw01_Part.calls t625 t626 t627 t628 _ A63.out).mono ?_
                                    rintro e w87 ⟨rfl, hb⟩
                                    refine ⟨_, rfl, ?_⟩
                                    have n0_ := Aside0.mk (Kd.R_below (by (with_reducible repeat (first | apply Kd.R_alloc | apply Kd.R_drewN | apply Kd.R_drew)); exact HO_13.out) hb)
                                    have n1_ := Aside0.mk (blk_below (g := gb610) (o := .cells #[.int .i64 a0_0, .int .i64 a0_1, .int .i64 a0_2, .int .i64 a0_3, .int .i64 a0_4, .int .i64 a0_5, .int .i64 a0_6] 29 (0, 0)) (by (with_reducible repeat (first | refine blk_drewN ?_ _ | refine blk_drew ?_ | refine blk_alloc ?_ _)); exact BK610.out) hb)
                                    have n2_ := Aside0.mk (blk_below (g := gb611) (o := .cells #[.int .i64 a1_0, .int .i64 a1_1] 27 (0, 0)) (by (with_reducible repeat (first | refine blk_drewN ?_ _ | refine blk_drew ?_ | refine blk_alloc ?_ _)); exact BK611.out) hb)
                                    have n3_ := Aside0.mk (below_step (by repeat (first | (with_reducible first | exact HB.out | apply below_alloc | apply pw_below_drewN | apply below_drew1 | refine below_set ?_ GE610.out | refine below_set ?_ GE611.out) | exact HB.out)) hb)
                                    clear HO_13
                                    clear BK610
                                    clear BK611
                                    clear HB
                                    have HO_13 := n0_
                                    have BK610 := n1_
                                    have BK611 := n2_
                                    have HB := n3_
                                    clear n0_ n1_ n2_ n3_
                                    (try clear hb)
                                    (try clear hb2)
                                    (try clear hk)
                                    (try clear hi)
                                    refine hK.out _ _ ⟨(blk_cell BK610.out 0).trans rfl, (blk_cell BK610.out 1).trans rfl, (blk_cell BK610.out 2).trans rfl, (blk_cell BK610.out 3).trans rfl, (blk_cell BK610.out 4).trans rfl, (blk_cell BK610.out 5).trans rfl, (blk_cell BK610.out 6).trans rfl, ((HB.out.cell (World.block_lt_of_cell? w _ hw624_0)).trans hw624_0), ((HB.out.cell (World.block_lt_of_cell? w _ hw624_1)).trans hw624_1)⟩ (fun hHeld => ?_)
                                    clear hK K
                                    refine norm_ (a' := ?_) ?_ ?_
                                    rotate_left
                                    · show Act.put _ (some 131) _ = _
                                      simp only [Act.put, List.setIfInBounds_toArray, List.set_cons_zero, List.set_cons_succ, i64_w, i32_w]
                                      rfl
                                    refine pure_ (i := 11) (N := some 132) (v := ?_) (a' := ?_) #[true, true, true, true, true, true, true, true, true, true, true, true, false] rfl rfl (any_of HT_.out (by kernel_rfl)) (fun _ _ _ h => h) (Or.inl ⟨by rfl, ?_⟩) ?_ ?_
                                    rotate_left
                                    · intro w'
                                      go_simp
                                      with_reducible rfl
                                    rotate_left
                                    · simp only [Act.put, List.setIfInBounds_toArray, List.set_cons_zero, List.set_cons_succ, i64_w, i32_w]
                                      rfl
                                    refine pure_ (i := 12) (N := some 17) (v := ?_) (a' := ?_) #[true, true, true, true, true, true, true, true, true, true, true, true, true] rfl rfl (any_of HT_.out (by kernel_rfl)) (fun _ _ _ h => h) (Or.inl ⟨by rfl, ?_⟩) ?_ ?_
                                    rotate_left
                                    · intro w'
                                      go_simp
                                      with_reducible rfl
                                    rotate_left
                                    · simp only [Act.put, List.setIfInBounds_toArray, List.set_cons_zero, List.set_cons_succ, i64_w, i32_w]
                                      rfl
                                    refine done_ (done_of HT_.out (by kernel_rfl)) ?_
                                    have hnb88 := NB610_611.out
                                    have hnc88 := NB611_610.out
                                    have hcz89_0 : w87.cell? ⟨gb610, 0, none⟩ = some (.int .i64 a0_0) := (blk_cell BK610.out 0).trans rfl
                                    have hcz89_1 : w87.cell? ⟨gb610, 1, none⟩ = some (.int .i64 a0_1) := (blk_cell BK610.out 1).trans rfl
                                    have hcz89_2 : w87.cell? ⟨gb610, 2, none⟩ = some (.int .i64 a0_2) := (blk_cell BK610.out 2).trans rfl
                                    have hcz89_3 : w87.cell? ⟨gb610, 3, none⟩ = some (.int .i64 a0_3) := (blk_cell BK610.out 3).trans rfl
                                    have hcz89_4 : w87.cell? ⟨gb610, 4, none⟩ = some (.int .i64 a0_4) := (blk_cell BK610.out 4).trans rfl
                                    have hcz89_5 : w87.cell? ⟨gb610, 5, none⟩ = some (.int .i64 a0_5) := (blk_cell BK610.out 5).trans rfl
                                    have hcz89_6 : w87.cell? ⟨gb610, 6, none⟩ = some (.int .i64 a0_6) := (blk_cell BK610.out 6).trans rfl
                                    have hfz89_0 := blk_frozen BK610.out 0
                                    have hfz89_1 := blk_frozen BK610.out 1
                                    have hfz89_2 := blk_frozen BK610.out 2
                                    have hfz89_3 := blk_frozen BK610.out 3
                                    have hfz89_4 := blk_frozen BK610.out 4
                                    have hfz89_5 := blk_frozen BK610.out 5
                                    have hfz89_6 := blk_frozen BK610.out 6
                                    obtain ⟨Ao90, co90, eo90⟩ := Kd.R_slice HO_13.out
                                    subst eo90
                                    have p629 : 0 ≤ (x18_4 : Int) := of_decide_eq_true (by first | (with_reducible assumption) | assumption)
                                    have q629 : x18_4 < (t616.length : Int) := of_decide_eq_true (by first | (with_reducible assumption) | assumption)
                                    obtain ⟨ad629, e629, hx629_0, hx629_1⟩ := at_T27 (Kd.R_reads' HO_13.out).2.2 x18_4 p629 q629
                                    cases e629
                                    replace p629 := eq_true p629
                                    replace q629 := eq_true q629
                                    have p630 : 0 ≤ (x18_4 : Int) := of_decide_eq_true (by first | (with_reducible assumption) | assumption)
                                    have q630 : x18_4 < (t616.length : Int) := of_decide_eq_true (by first | (with_reducible assumption) | assumption)
                                    obtain ⟨ad630, e630, hx630_0, hx630_1⟩ := at_T27 (Kd.R_reads' HO_13.out).2.2 x18_4 p630 q630
                                    obtain rfl : ad629 = ad630 := (by injection e630)
                                    replace p630 := eq_true p630
                                    replace q630 := eq_true q630
                                    try go_wp2
                                    go_roundg k4
                                    case measure => have := HJ5.out; have := HJ21.out; have := HJ50.out; have := HK4.out; omega
                                    case rel => exact ⟨(wrap64 (x17_4 - t628)), (wrap64 (x18_4 + 1)), (by first | rfl | (simp; done) | (simp [*]; done)), (by first | rfl | (simp; done) | (simp [*]; done)), H', ⟨by have := HJ5.out; have := HJ21.out; have := HJ50.out; have := HK4.out; omega⟩, ⟨by (with_reducible repeat (first | apply Kd.R_alloc | apply Kd.R_drewN | apply Kd.R_drew)); exact HO_13.out⟩, ⟨by (with_reducible repeat (first | refine blk_drewN ?_ _ | refine blk_drew ?_ | refine blk_alloc ?_ _)); exact BK610.out⟩, ⟨by (with_reducible repeat (first | refine blk_drewN ?_ _ | refine blk_drew ?_ | refine blk_alloc ?_ _)); exact BK611.out⟩, ⟨by repeat (first | (with_reducible first | exact HB.out | apply below_alloc | apply pw_below_drewN | apply below_drew1 | refine below_set ?_ GE610.out | refine below_set ?_ GE611.out) | exact HB.out)⟩⟩
                              · rw [if_neg c70] at H
                                exact absurd H (by simp)
                          · rw [if_neg c60] at H
                            exact absurd H (by simp)
                        · rw [if_neg c59] at H
                          have c59b0 : decide (x18_4 < (l2.length : Int)) = false := decide_eq_false c59
                          clear c59
                          replace H := Option.bind_eq_some_iff.mp H
                          obtain ⟨t623, A910, H⟩ := H
                          replace H : (some t623) = some r := H
                          have A91 := Aside0.mk A910
                          clear A910
                          obtain rfl := Option.some.inj H
                          go_wp2_with (first | ((with_reducible refine gate_callee (f := 19) rfl ?_); refine goesL_ (some 155) rfl rfl Try.func19 (by kernel_rfl) rfl #[] rfl (by (try simp only [List.map_toArray, List.map_cons, List.map_nil]); first | done | rfl | (simp only [List.length_drop, List.length_take]; rfl)) ?_; (with_reducible refine (isobathlaw03_Works.calls k4  t623 _ A91.out).mono ?_); rintro e w92 ⟨rfl, hb⟩; refine ⟨_, rfl, ?_⟩; have n0_ := Aside0.mk (Kd.R_below (by (with_reducible repeat (first | apply Kd.R_alloc | apply Kd.R_drewN | apply Kd.R_drew)); exact HO_13.out) hb); have n1_ := Aside0.mk (blk_below (g := gb610) (o := .cells #[.int .i64 a0_0, .int .i64 a0_1, .int .i64 a0_2, .int .i64 a0_3, .int .i64 a0_4, .int .i64 a0_5, .int .i64 a0_6] 29 (0, 0)) (by (with_reducible repeat (first | refine blk_drewN ?_ _ | refine blk_drew ?_ | refine blk_alloc ?_ _)); exact BK610.out) hb); have n2_ := Aside0.mk (blk_below (g := gb611) (o := .cells #[.int .i64 a1_0, .int .i64 a1_1] 27 (0, 0)) (by (with_reducible repeat (first | refine blk_drewN ?_ _ | refine blk_drew ?_ | refine blk_alloc ?_ _)); exact BK611.out) hb); have n3_ := Aside0.mk (below_step (by repeat (first | (with_reducible first | exact HB.out | apply below_alloc | apply pw_below_drewN | apply below_drew1 | refine below_set ?_ GE610.out | refine below_set ?_ GE611.out) | exact HB.out)) hb); clear HO_13; clear BK610; clear BK611; clear HB; have HO_13 := n0_; have BK610 := n1_; have BK611 := n2_; have HB := n3_; clear n0_ n1_ n2_ n3_; (try clear hb); (try clear hb2); (try clear hk); (try clear hi)))
                          go_ret
                          exact ⟨by first | rfl | (simp [errW_none, errW_some] <;> rfl) | (simp [*, errW_none, errW_some] <;> rfl), by repeat (first | (with_reducible first | exact HB.out | apply below_alloc | apply pw_below_drewN | apply below_drew1 | refine below_set ?_ GE610.out | refine below_set ?_ GE611.out) | exact HB.out)⟩
            · rw [if_neg c50] at H
              have c50b0 : (t620 == 0) = false := beq_eq_false_iff_ne.mpr c50
              have c50b1 : (t620 != 0) = true := bne_iff_ne.mpr c50
              by_cases c93 : (t616.length : Int) = 0
              · rw [if_pos c93] at H
                have c93b0 : ((t616.length : Int) == 0) = true := beq_iff_eq.mpr c93
                have c93b1 : ((t616.length : Int) != 0) = false := bne_eq_false_iff_eq.mpr c93
                clear c93
                replace H := Option.bind_eq_some_iff.mp H
                obtain ⟨t621, A940, H⟩ := H
                replace H : (some t621) = some r := H
                have A94 := Aside0.mk A940
                clear A940
                obtain rfl := Option.some.inj H
                obtain ⟨Ao95, co95, eo95⟩ := Kd.R_slice HO_13.out
                subst eo95
                go_wp2_with (first | (go_at_call 19; (with_reducible refine (isobathlaw03_Works.calls kj21  t621 _ A94.out).mono ?_); rintro e w96 ⟨rfl, hb⟩; have n0_ := Aside0.mk (Kd.R_below (by (with_reducible repeat (first | apply Kd.R_alloc | apply Kd.R_drewN | apply Kd.R_drew)); exact HO_13.out) hb); have n1_ := Aside0.mk (blk_below (g := gb610) (o := .cells #[.int .i64 a0_0, .int .i64 a0_1, .int .i64 a0_2, .int .i64 a0_3, .int .i64 a0_4, .int .i64 a0_5, .int .i64 a0_6] 29 (0, 0)) (by (with_reducible repeat (first | refine blk_drewN ?_ _ | refine blk_drew ?_ | refine blk_alloc ?_ _)); exact BK610.out) hb); have n2_ := Aside0.mk (blk_below (g := gb611) (o := .cells #[.int .i64 a1_0, .int .i64 a1_1] 27 (0, 0)) (by (with_reducible repeat (first | refine blk_drewN ?_ _ | refine blk_drew ?_ | refine blk_alloc ?_ _)); exact BK611.out) hb); have n3_ := Aside0.mk (below_step (by repeat (first | (with_reducible first | exact HB.out | apply below_alloc | apply pw_below_drewN | apply below_drew1 | refine below_set ?_ GE610.out | refine below_set ?_ GE611.out) | exact HB.out)) hb); clear HO_13; clear BK610; clear BK611; clear HB; have HO_13 := n0_; have BK610 := n1_; have BK611 := n2_; have HB := n3_; clear n0_ n1_ n2_ n3_; (try clear hb); (try clear hb2); (try clear hk); (try clear hi)))
                go_ret
                exact ⟨by first | rfl | (simp [errW_none, errW_some] <;> rfl) | (simp [*, errW_none, errW_some] <;> rfl), by repeat (first | (with_reducible first | exact HB.out | apply below_alloc | apply pw_below_drewN | apply below_drew1 | refine below_set ?_ GE610.out | refine below_set ?_ GE611.out) | exact HB.out)⟩
              · rw [if_neg c93] at H
                have c93b0 : ((t616.length : Int) == 0) = false := beq_eq_false_iff_ne.mpr c93
                have c93b1 : ((t616.length : Int) != 0) = true := bne_iff_ne.mpr c93
                have c93b2 : ¬ (t616 = []) := fun h_ => c93 (by rw [h_]; rfl)
                have hh_ := Option.some.inj H
                rw [hr_.out] at hh_
                cases hh_

end Go.Proofs.Ytmhaiihjfgfaoaa.Pr
end
section
-- PRINTED BY print.sh 35421559b90ae4d0a3588c463048766b98c2df88dd9212a6774a882060cdf62d: not written by this session
-- PRINTED WORDS (module Derived/Print/Sized.lean): go-gate-2's, for the rows of laws over slices: an AI agent of Go's test side, Tue Nov 17 2026; no person has read it. Lean checks it.
namespace Go.Proofs.YtmhaiihjfgfaoaaW.PrintWords
open Go.ChangeShapes Go.WideShapes
end Go.Proofs.YtmhaiihjfgfaoaaW.PrintWords
end
section
/- What is read of an argument of a law: a datum of a type reads as a value of its kind; its whole numbers are of their kind, and its slices are within the reach. No condition. -/
namespace Go.Proofs.YtmhaiihjfgfaoaaW.Opens
open Go.RowKit Go.Proofs.YtmhaiihjfgfaoaaW.PrintWords Go.Deep Go.ChangeShapes Go.WideShapes
set_option linter.unusedVariables false
section
variable {H : Type} {enc : TypeId × Value → H} {P : Program}

/-- A datum of type t reads as a value of the kind K of which G holds. -/
def Opens {α : Type} (enc : TypeId × Value → H) (P : Program) (t : TypeId) (K : Kd α) (G : α → Prop) : Prop :=
  ∀ (w : World) (fuel : Nat) (cs : List Value) (x : DataW H × List MemPlace), DataW.trod enc P w 0 (fun _ => true) true fuel t cs = some x → (DataW.weights P t x.1).all (· ≤ reachBytes) = true → ∃ y, K.K w y cs ∧ G y

theorem Opens.int {t : TypeId} {k : IntKind} (hu : P.underlying t = some (.int k)) : Opens enc P t (Kd.int k) (fun n => (Lit.int k n).wf = true) := by
  intro w fuel cs x h _
  cases fuel with
  | zero => simp [DataW.trod] at h
  | succ n =>
    unfold DataW.trod at h
    rw [hu] at h
    split at h <;> simp_all
    obtain ⟨⟨rfl, hw⟩, _⟩ := h
    rename_i n _ _
    exact ⟨_, rfl, hw⟩
/-- The fields from offset off on. -/
def OpensFs {α : Type} (enc : TypeId × Value → H) (P : Program) (off : Nat) (fs : List Field) (K : Kd α) (G : α → Prop) : Prop :=
  ∀ (w : World) (fuel : Nat) (cs : List Value) (xs : List (DataW H × List MemPlace)), cs.length = off + K.sz → xs.length = fs.length →
    (∀ (i : Nat) (f : Field), fs[i]? = some f → DataW.trod enc P w 0 (fun _ => true) true fuel f.type ((cs.drop f.offset).take (P.cellsOf f.type)) = xs[i]?) →
    (DataW.weightsEach P (fs.map (·.type)) (xs.map (·.1))).all (· ≤ reachBytes) = true → ∃ y, K.K w y (cs.drop off) ∧ G y

theorem OpensFs.one {α : Type} {off : Nat} {f : Field} {K : Kd α} {G : α → Prop} (hoff : f.offset = off) (hsz : P.cellsOf f.type = K.sz) (h : Opens enc P f.type K G) : OpensFs enc P off [f] K G := by
  intro w fuel cs xs hl hx hi hw
  obtain ⟨x, rfl⟩ : ∃ x, xs = [x] := by
    match xs, hx with
    | [x], _ => exact ⟨x, rfl⟩
  have h1 := hi 0 f rfl
  rw [hoff, hsz, List.take_of_length_le (by simp; omega)] at h1
  exact h w fuel _ x h1 (by simpa [DataW.weightsEach] using hw)
theorem OpensFs.cons {α β : Type} {off : Nat} {f : Field} {fs : List Field} {K : Kd α} {G : α → Prop} {K' : Kd β} {G' : β → Prop} (hoff : f.offset = off) (hsz : P.cellsOf f.type = K.sz) (h : Opens enc P f.type K G) (h' : OpensFs enc P (off + K.sz) fs K' G') :
    OpensFs enc P off (f :: fs) (Kd.pair K K') (fun y => G y.1 ∧ G' y.2) := by
  intro w fuel cs xs hl hx hi hw
  obtain ⟨x, xs', rfl⟩ : ∃ x xs', xs = x :: xs' := by
    match xs, hx with
    | x :: xs', _ => exact ⟨x, xs', rfl⟩
  have hl2 : cs.length = off + (K.sz + K'.sz) := hl
  have h1 := hi 0 f rfl
  rw [hoff, hsz] at h1
  simp only [List.map_cons, DataW.weightsEach, List.all_append, Bool.and_eq_true] at hw
  obtain ⟨y, hy, gy⟩ := h w fuel _ x h1 hw.1
  obtain ⟨y', hy', gy'⟩ := h' w fuel cs xs' (by omega) (by simpa using hx) (fun i g hg => by simpa using hi (i + 1) g (by simpa using hg)) hw.2
  refine ⟨(y, y'), ⟨_, _, ?_, hy, hy'⟩, gy, gy'⟩
  rw [← List.drop_drop, List.take_append_drop]
theorem Opens.struct {α β : Type} {t : TypeId} {fs : Array Field} {K : Kd α} {G : α → Prop} {f : β → α} (g : α → β) (hu : P.underlying t = some (.struct fs)) (hsz : P.cellsOf t = K.sz) (hg : ∀ y, f (g y) = y) (h : OpensFs enc P 0 fs.toList K G) :
    Opens enc P t (Kd.iso K f) (fun z => G (f z)) := by
  intro w fuel cs x hx hw
  obtain ⟨xs, n, rfl, rfl, hl, hxl, hi⟩ := DataW.trod_struct hu hx
  obtain ⟨y, hy, gy⟩ := h w n cs xs (by omega) (by simpa using hxl) (fun i f hf => hi i f (by simpa using hf)) (by simpa [DataW.weights, hu] using hw)
  refine ⟨g y, ?_, by show G (f (g y)); rw [hg]; exact gy⟩
  show K.K w (f (g y)) cs
  rw [hg]
  simpa using hy

theorem list_of_lt {α : Type} {Q : Nat → α → Prop} : ∀ (n : Nat), (∀ i, i < n → ∃ y, Q i y) → ∃ ys : List α, ys.length = n ∧ ∀ i y, ys[i]? = some y → Q i y
  | 0, _ => ⟨[], rfl, fun i y h => by simp at h⟩
  | n + 1, h => by
    obtain ⟨ys, hl, hq⟩ := list_of_lt n (fun i hi => h i (by omega))
    obtain ⟨y, hy⟩ := h n (by omega)
    refine ⟨ys ++ [y], by simp [hl], fun i z hz => ?_⟩
    rw [List.getElem?_append] at hz
    split at hz
    · exact hq i z hz
    · rename_i hi
      obtain rfl : i = n := by
        have := (List.getElem?_eq_some_iff.1 hz).1
        simp at this
        omega
      simp [hl] at hz
      exact hz ▸ hy
theorem weightsAll_mem {e : TypeId} : ∀ {ds : List (DataW H)} {d : DataW H}, (DataW.weightsAll P e ds).all (· ≤ reachBytes) = true → d ∈ ds → (DataW.weights P e d).all (· ≤ reachBytes) = true
  | [], _, _, h => by cases h
  | a :: r, d, hw, h => by
    simp only [DataW.weightsAll, List.all_append, Bool.and_eq_true] at hw
    rcases List.mem_cons.1 h with rfl | h
    · exact hw.1
    · exact weightsAll_mem hw.2 h
theorem Opens.slice {α : Type} {t e : TypeId} (e' : Nat) {K : Kd α} {G : α → Prop} (hu : P.underlying t = some (.slice e)) (hsz : P.cellsOf e = K.sz) (h : Opens enc P e K G) :
    Opens enc P t (Kd.slice e' K) (fun ys => (∀ y ∈ ys, G y) ∧ ys.length * P.bytesOf e ≤ reachBytes) := by
  intro w fuel cs x hx hw
  rcases open_slice hu hx with ⟨rfl, rfl⟩ | ⟨a, len, cap, m, n, D, Pl, rfl, hb, hl, hm, hmm, rfl, hi⟩
  · exact ⟨[], ⟨none, 0, rfl, by simp, ⟨rfl, by simp, fun h => by simp at h⟩⟩, by simp, by simp⟩
  · have hmc : m = cap := by simpa using hmm
    subst hmc
    simp only [DataW.weights, hu, List.all_cons, List.all_append, Bool.and_eq_true, decide_eq_true_eq, List.length_map, List.length_range] at hw
    obtain ⟨ys, hyl, hys⟩ := list_of_lt (Q := fun i y => (∃ cs', w.cells? 0 (a.add (i * P.cellsOf e)) (P.cellsOf e) = some cs' ∧ K.K w y cs') ∧ G y) len (fun i hil => by
      obtain ⟨cs', hc, ht⟩ := hi i (by omega)
      obtain ⟨y, hy, gy⟩ := h w n cs' _ ht (weightsAll_mem hw.2.1 (List.mem_map.2 ⟨i, List.mem_range.2 hil, rfl⟩))
      exact ⟨y, ⟨cs', hc, hy⟩, gy⟩)
    refine ⟨ys, ⟨some a, m, by rw [hyl], by omega, hyl.trans hyl.symm |>.trans (by rfl), ?_, fun _ => ⟨a, rfl, fun j p hj => ?_⟩⟩, fun y hy => ?_, ?_⟩
    · unfold maxLen at hm
      omega
    · obtain ⟨⟨cs', hc, hk⟩, _⟩ := hys j p hj
      obtain ⟨_, hcl, hcell⟩ := World.cells?_some hc
      refine ⟨cs', by rw [hcl, hsz], hk, fun i u hu' => ?_⟩
      have hlt := (List.getElem?_eq_some_iff.1 hu').1
      rw [← Go.Deep.add_add, ← hsz, hcell i (by omega), hu']
    · obtain ⟨j, hj⟩ := List.getElem?_of_mem hy
      exact (hys j y hj).2
    · refine Nat.le_trans (Nat.mul_le_mul_right _ (show ys.length ≤ len + (m - len) by omega)) hw.1
/-- An argument of a law. -/
theorem Opens.arg {α : Type} {t : TypeId} {K : Kd α} {G : α → Prop} (h : Opens enc P t K G) {w : World} {v : Value} {d : DataW H} {p : List MemPlace} (ht : DataW.Trod enc P w 0 (fun _ => true) true t v d p)
    {ts : List TypeId} {ds : List (DataW H)} (hsz : (DataW.weightsEach P ts ds).all (· ≤ reachBytes) = true) {j : Nat} (hj : ts[j]? = some t) (hd : ds[j]? = some d) : ∃ y, K.K w y v.cells.toList ∧ G y := by
  obtain ⟨fuel, hf⟩ := ht
  exact h w fuel _ _ hf (List.all_eq_true.2 fun n hn => List.all_eq_true.1 hsz _ (DataW.weights_mem_each hj hd n hn))
end
end Go.Proofs.YtmhaiihjfgfaoaaW.Opens
end
section
/- What is known of the arguments of the laws. -/
namespace Go.Proofs.Ytmhaiihjfgfaoaa.Good
open Go.RowKit Go.Proofs.YtmhaiihjfgfaoaaW.PrintWords Go.Proofs.YtmhaiihjfgfaoaaW.PrintLast Go.Proofs.YtmhaiihjfgfaoaaW.PrintMore Go.Proofs.Ytmhaiihjfgfaoaa.Pr Go.Proofs.YtmhaiihjfgfaoaaW.Opens
set_option linter.unusedVariables false
def W27 (x : S27) : Prop := (Lit.int .i64 x.f0).wf = true ∧ (Lit.int .i64 x.f1).wf = true
theorem opens27 {H : Type} {enc : TypeId × Value → H} : Opens enc Try.prog 27 k27 W27 := Opens.struct (fun p => ⟨p.1, p.2⟩) Try.underlying27 (by kernel_rfl) (fun _ => rfl) (OpensFs.cons rfl (by kernel_rfl) (Opens.int Try.underlying2) (OpensFs.one rfl (by kernel_rfl) (Opens.int Try.underlying2)))
def W29 (x : S29) : Prop := (Lit.int .i64 x.f0).wf = true ∧ (Lit.int .i64 x.f1).wf = true ∧ W27 x.f2 ∧ W27 x.f3 ∧ (Lit.int .i64 x.f4).wf = true
theorem opens29 {H : Type} {enc : TypeId × Value → H} : Opens enc Try.prog 29 k29 W29 := Opens.struct (fun p => ⟨p.1, p.2.1, p.2.2.1, p.2.2.2.1, p.2.2.2.2⟩) Try.underlying29 (by kernel_rfl) (fun _ => rfl) (OpensFs.cons rfl (by kernel_rfl) (Opens.int Try.underlying2) (OpensFs.cons rfl (by kernel_rfl) (Opens.int Try.underlying2) (OpensFs.cons rfl (by kernel_rfl) opens27 (OpensFs.cons rfl (by kernel_rfl) opens27 (OpensFs.one rfl (by kernel_rfl) (Opens.int Try.underlying2))))))
def W33 (x : S33) : Prop := (Lit.int .i64 x.f0).wf = true ∧ (Lit.int .i64 x.f1).wf = true
theorem opens33 {H : Type} {enc : TypeId × Value → H} : Opens enc Try.prog 33 k33 W33 := Opens.struct (fun p => ⟨p.1, p.2⟩) Try.underlying33 (by kernel_rfl) (fun _ => rfl) (OpensFs.cons rfl (by kernel_rfl) (Opens.int Try.underlying3) (OpensFs.one rfl (by kernel_rfl) (Opens.int Try.underlying3)))
end Go.Proofs.Ytmhaiihjfgfaoaa.Good
end
section
-- PRINTED by print.py (a twelfth state) out of the translation. Not trusted: Lean checks it.
namespace Go.Proofs.Ytmhaiihjfgfaoaa.Pr
open Go.RowKit Go.Proofs.YtmhaiihjfgfaoaaW.PrintWords Go.Proofs.YtmhaiihjfgfaoaaW.PrintLast Go.Proofs.YtmhaiihjfgfaoaaW.PrintMore
attribute [local go_sem] max2_int min2_int max_two min_two max_four
set_option linter.unusedVariables false
set_option linter.unusedSimpArgs false

/-! ### isobathlaw03_great: function 22 -/
end Go.Proofs.Ytmhaiihjfgfaoaa.Pr
end
section
-- PRINTED by print.py (a twelfth state) out of the translation. Not trusted: Lean checks it.
namespace Go.Proofs.Ytmhaiihjfgfaoaa.Pr
open Go.RowKit Go.Proofs.YtmhaiihjfgfaoaaW.PrintWords Go.Proofs.YtmhaiihjfgfaoaaW.PrintLast Go.Proofs.YtmhaiihjfgfaoaaW.PrintMore
attribute [local go_sem] max2_int min2_int max_two min_two max_four
set_option linter.unusedVariables false
set_option linter.unusedSimpArgs false

/-! ### isobathref03_CheckSea: function 26 -/
end Go.Proofs.Ytmhaiihjfgfaoaa.Pr
end
section
-- PRINTED by print.py (a twelfth state) out of the translation. Not trusted: Lean checks it.
namespace Go.Proofs.Ytmhaiihjfgfaoaa.Pr
open Go.RowKit Go.Proofs.YtmhaiihjfgfaoaaW.PrintWords Go.Proofs.YtmhaiihjfgfaoaaW.PrintLast Go.Proofs.YtmhaiihjfgfaoaaW.PrintMore
attribute [local go_sem] max2_int min2_int max_two min_two max_four
set_option linter.unusedVariables false
set_option linter.unusedSimpArgs false

/-! ### isobathref01_ValidBox: function 63 -/
end Go.Proofs.Ytmhaiihjfgfaoaa.Pr
end
section
-- PRINTED by print.py (a twelfth state) out of the translation. Not trusted: Lean checks it.
namespace Go.Proofs.Ytmhaiihjfgfaoaa.Pr
open Go.RowKit Go.Proofs.YtmhaiihjfgfaoaaW.PrintWords Go.Proofs.YtmhaiihjfgfaoaaW.PrintLast Go.Proofs.YtmhaiihjfgfaoaaW.PrintMore
attribute [local go_sem] max2_int min2_int max_two min_two max_four
set_option linter.unusedVariables false
set_option linter.unusedSimpArgs false

/-! ### isobathlaw03_valid: function 18 -/
end Go.Proofs.Ytmhaiihjfgfaoaa.Pr
end
section
/- What the document's answer says of seas, vehicles and boxes: the same as the program. -/
namespace Go.Proofs.Ytmhaiihjfgfaoaa.Gl
open Go.RowKit Go.Proofs.YtmhaiihjfgfaoaaW.PrintWords Go.Proofs.YtmhaiihjfgfaoaaW.PrintLast Go.Proofs.YtmhaiihjfgfaoaaW.PrintMore Go.Proofs.Ytmhaiihjfgfaoaa.Pr
set_option linter.unusedVariables false
theorem w64_id {x : Int} (h : -9223372036854775808 ≤ x ∧ x < 9223372036854775808) : wrap64 x = x := by unfold wrap64; omega
theorem ref_valid (lo hi : Int) : isobathref01_Valid.f lo hi = some (okS lo hi) := by
  unfold isobathref01_Valid.f isobathref01_Within.f
  rw [show okS lo hi = (decide (lo ≤ hi) && (decide (-1073741824 ≤ lo) && decide (lo ≤ 1073741824)) && (decide (-1073741824 ≤ hi) && decide (hi ≤ 1073741824))) from by
    rw [Bool.eq_iff_iff, okS_iff]; simp only [Bool.and_eq_true, decide_eq_true_eq]; omega]
  by_cases h1 : lo ≤ hi <;> by_cases h2 : -1073741824 ≤ lo <;> by_cases h3 : lo ≤ 1073741824 <;> by_cases h4 : -1073741824 ≤ hi <;> by_cases h5 : hi ≤ 1073741824 <;> simp [h1, h2, h3, h4, h5]
theorem ref_bounded (lo hi a b : Int) : isobathref03_bounded.f lo hi a b = some (bndB lo hi a b) := by
  unfold isobathref03_bounded.f bndB
  rw [ref_valid, Option.bind_some]
  cases okS lo hi with
  | false => rfl
  | true =>
    by_cases h : a ≤ lo <;> simp [h]
theorem ref_veh (v : Veh) : isobathref03_CheckVehicle.f v.speed v.dive v.use.f0 v.use.f1 v.drift.f0 v.drift.f1 v.reserve = some (vehE v) := by
  unfold isobathref03_CheckVehicle.f vehE vehB btwB
  simp only [ref_bounded, Option.bind_some]
  by_cases h1 : v.speed < 0
  · rw [if_pos h1, show decide (0 ≤ v.speed) = false from decide_eq_false (by omega)]; rfl
  rw [if_neg h1, show decide (0 ≤ v.speed) = true from decide_eq_true (by omega)]
  by_cases h2 : v.speed > 5000
  · rw [if_pos h2, show decide (v.speed ≤ 5000) = false from decide_eq_false (by omega)]; rfl
  rw [if_neg h2, show decide (v.speed ≤ 5000) = true from decide_eq_true (by omega)]
  by_cases h3 : v.dive < 1
  · rw [if_pos h3, show decide (1 ≤ v.dive) = false from decide_eq_false (by omega)]; rfl
  rw [if_neg h3, show decide (1 ≤ v.dive) = true from decide_eq_true (by omega)]
  by_cases h4 : v.dive > 131072
  · rw [if_pos h4, show decide (v.dive ≤ 131072) = false from decide_eq_false (by omega)]; rfl
  rw [if_neg h4, show decide (v.dive ≤ 131072) = true from decide_eq_true (by omega)]
  cases bndB v.use.f0 v.use.f1 0 1073741824
  · rfl
  cases bndB v.drift.f0 v.drift.f1 0 1073741824
  · rfl
  by_cases h5 : v.reserve < 0
  · rw [if_pos h5, show decide (0 ≤ v.reserve) = false from decide_eq_false (by omega)]; rfl
  rw [if_neg h5, show decide (0 ≤ v.reserve) = true from decide_eq_true (by omega)]
  by_cases h6 : v.reserve > 1073741824
  · rw [if_pos h6, show decide (v.reserve ≤ 1073741824) = false from decide_eq_false (by omega)]; rfl
  rw [if_neg h6, show decide (v.reserve ≤ 1073741824) = true from decide_eq_true (by omega)]; rfl
end Go.Proofs.Ytmhaiihjfgfaoaa.Gl
end
section
/- The dives that an energy lasts, and the energy that is left: the pure statement about what the program computes. -/
namespace Go.Proofs.Ytmhaiihjfgfaoaa.Pure
open Go.RowKit Go.Proofs.YtmhaiihjfgfaoaaW.PrintWords Go.Proofs.YtmhaiihjfgfaoaaW.PrintLast Go.Proofs.Ytmhaiihjfgfaoaa.Pr Go.Proofs.Ytmhaiihjfgfaoaa.Good Go.Proofs.Ytmhaiihjfgfaoaa.Gl
namespace Lasts
theorem works {k : Nat} (h : 60 ≤ k) : isobathlaw03_Works.f k = some true := at_rounds isobathlaw03_Works.mono h isobathlaw03_Works.true_
theorem wf_u16 {x : Int} (h : (Lit.int .u16 x).wf = true) : 0 ≤ x ∧ x ≤ 65535 := by
  unfold Lit.wf at h
  simp only [Bool.and_eq_true, decide_eq_true_eq] at h
  exact ⟨h.1, h.2⟩
theorem part_in {a b m : Int} (h0 : -1099511627776 ≤ a) (h1 : a ≤ b) (h2 : b ≤ 1099511627776) (hm : 0 ≤ m ∧ m ≤ 65535) : ∃ p, isobathlaw01_Part.f a b m = some p ∧ a ≤ p ∧ p ≤ b := by
  obtain ⟨p0, p1⟩ := mul_in (a := b - a) (b := m) (m := 2199023255552) (n := 65535) (by omega) (by omega) hm.1 hm.2
  have p2 := Int.mul_le_mul_of_nonneg_left hm.2 (show 0 ≤ b - a by omega)
  unfold isobathlaw01_Part.f
  rw [w64_id (x := b - a) (by omega), w64_id (x := m) (by omega), w64_id (x := (b - a) * m) (by omega), Int.tdiv_eq_ediv_of_nonneg p0]
  generalize (b - a) * m = P at *
  rw [w64_id (x := P / 65535) (by omega), w64_id (x := a + P / 65535) (by omega)]
  exact ⟨_, rfl, by omega, by omega⟩
theorem pick_in {l : List Int} (hl : ∀ y ∈ l, (Lit.int .u16 y).wf = true) (i : Nat) : ∃ p, isobathlaw03_pick.f l (i : Int) = some p ∧ 0 ≤ p ∧ p ≤ 65535 := by
  unfold isobathlaw03_pick.f
  by_cases h : (i : Int) < (l.length : Int)
  · have hi : i < l.length := by omega
    have e : rd l (i : Int) = l[i] := by
      unfold rd
      simp [hi]
    rw [if_pos h, if_pos (by omega), e]
    exact ⟨_, rfl, wf_u16 (hl _ (List.getElem_mem hi))⟩
  · rw [if_neg h]
    exact ⟨0, rfl, by omega, by omega⟩
theorem en_err (v : Veh) : ∀ (l : List S33) (e : S27) (n : Int) (out : List S27), (enI v l e n out).2.2 = 0 ∨ ((enI v l e n out).1 = [] ∧ (enI v l e n out).2.2 = 19)
  | [], e, n, out => .inl rfl
  | c :: l, e, n, out => by
    unfold enI
    split
    · exact .inr ⟨rfl, rfl⟩
    · exact en_err v l _ _ _
theorem en_ok (v : Veh) : ∀ (l : List S33) (e : S27) (n : Int) (out : List S27), (enI v l e n out).2.2 = 0 → (enI v l e n out).2.1 = n + (l.length : Int) ∧ (enI v l e n out).1.length = out.length + l.length ∧ out <+: (enI v l e n out).1
  | [], e, n, out, h => by unfold enI; exact ⟨by simp, by simp, List.prefix_refl _⟩
  | c :: l, e, n, out, h => by
    unfold enI at h ⊢
    split at h
    · cases h
    · rename_i hn
      rw [if_neg hn]
      obtain ⟨h1, h2, h3⟩ := en_ok v l _ _ _ h
      refine ⟨by rw [h1, List.length_cons]; omega, by rw [h2]; simp only [List.length_append, List.length_cons, List.length_nil]; omega, (List.prefix_append _ _).trans h3⟩
theorem en_most (v : Veh) (most : Int) (hm : ∀ c, (takeI v c).f1 ≤ most) : ∀ (l : List S33) (e : S27) (n : Int) (out : List S27), v.reserve ≤ e.f0 - (l.length : Int) * most → 0 ≤ most → (enI v l e n out).2.2 = 0
  | [], e, n, out, h, h0 => rfl
  | c :: l, e, n, out, h, h0 => by
    have hc := hm c
    have hp : 0 ≤ (l.length : Int) * most := Int.mul_nonneg (by omega) h0
    rw [List.length_cons, show ((l.length + 1 : Nat) : Int) = (l.length : Int) + 1 from by omega, Int.add_mul, Int.one_mul] at h
    unfold enI
    rw [if_neg (by omega)]
    exact en_most v most hm l _ _ _ (by dsimp only; omega) h0
theorem loop (v : Veh) (hv : vehB v = true) (l : List S33) (hl : l.length ≤ 64) (parts : List Int) (hp : ∀ y ∈ parts, (Lit.int .u16 y).wf = true) (R : List S27) (cnt : Int) : ∀ (m i K : Nat) (E : S27) (left : Int) (out : List S27), i + m = l.length → m + 61 ≤ K → out.length = i →
    enI v (l.drop i) E (i : Int) out = (R, cnt, 0) → (0 ≤ E.f0 ∧ E.f0 ≤ left ∧ left ≤ E.f1 ∧ E.f1 ≤ 1073741824) →
    isobathlaw03_GliderLasts.l0 K l parts R left (i : Int) v.speed v.dive v.use.f0 v.use.f1 v.drift.f0 v.drift.f1 v.reserve = some true
  | 0, i, K + 1, E, left, out, h, hk, ho, hR, hE => by
    rw [isobathlaw03_GliderLasts.l0, if_neg (by omega), works (by omega)]; rfl
  | m + 1, i, K + 1, E, left, out, h, hk, ho, hR, hE => by
    have hi : i < l.length := by omega
    have e : rd_T33 l (i : Int) = l[i] := by
      unfold rd_T33
      simp [hi]
    have hus := vehB_use hv l[i]
    have hres := vehB_res hv
    rw [List.drop_eq_getElem_cons hi] at hR
    unfold enI at hR
    by_cases hlow : E.f0 - (takeI v l[i]).f1 < v.reserve
    · rw [if_pos hlow] at hR
      have := congrArg (fun q => q.2.2) hR
      cases this
    rw [if_neg hlow] at hR
    have hok := en_ok v (l.drop (i + 1)) ⟨E.f0 - (takeI v l[i]).f1, E.f1 - (takeI v l[i]).f0⟩ ((i : Int) + 1) (out ++ [⟨E.f0 - (takeI v l[i]).f1, E.f1 - (takeI v l[i]).f0⟩]) (by rw [hR])
    rw [hR] at hok
    dsimp only at hok
    obtain ⟨_, hlen, hpre⟩ := hok
    rw [List.length_append, List.length_singleton, ho] at hlen
    have hRi : i < R.length := by omega
    have hget : rd_T27 R (i : Int) = ⟨E.f0 - (takeI v l[i]).f1, E.f1 - (takeI v l[i]).f0⟩ := by
      obtain ⟨t, ht⟩ := hpre
      unfold rd_T27
      rw [← ht, Int.toNat_natCast, List.getD_eq_getElem?_getD, List.append_assoc, List.getElem?_append_right (by omega), ho, Nat.sub_self]
      rfl
    obtain ⟨pk, hpk, hpk0, hpk1⟩ := pick_in hp i
    have htk : isobathref03_Takes.f v.speed v.dive v.use.f0 v.use.f1 v.drift.f0 v.drift.f1 v.reserve l[i].f0 l[i].f1 = some ((takeI v l[i]).f0, (takeI v l[i]).f1) := by
      unfold isobathref03_Takes.f takeI
      split <;> rfl
    obtain ⟨p, hp', hp0, hp1⟩ := part_in (a := (takeI v l[i]).f0) (b := (takeI v l[i]).f1) (by omega) hus.2.1 (by omega) ⟨hpk0, hpk1⟩
    rw [isobathlaw03_GliderLasts.l0, if_pos (by omega), if_pos (by omega), e, htk, Option.bind_some, hpk, Option.bind_some, hp', Option.bind_some, w64_id (x := left - p) (by omega), if_neg (by omega), if_pos (by omega), hget, if_neg (by dsimp only; omega), if_neg (by dsimp only; omega), w64_id (x := (i : Int) + 1) (by omega)]
    exact loop v hv l hl parts hp R cnt m (i + 1) K ⟨E.f0 - (takeI v l[i]).f1, E.f1 - (takeI v l[i]).f0⟩ (left - p) (out ++ [(⟨E.f0 - (takeI v l[i]).f1, E.f1 - (takeI v l[i]).f0⟩ : S27)]) (by omega) (by omega) (by rw [List.length_append, ho]; rfl) hR (by dsimp only; omega)
/-- What Energy returns. -/
def EnX (v : Veh) (e : S27) (l : List S33) : List S27 × Int × Int := if bndB e.f0 e.f1 0 1073741824 = true then if crsE l (-1) = 0 then enI v l e 0 [] else ([], 0, crsE l (-1)) else ([], 0, 2)
theorem crs_some' (l : List S33) (layers : Int) (K : Nat) (hk : 66 ≤ K) : glider_checkCourses.f K l layers = some (crsE l layers) := at_rounds (glider_checkCourses.mono _ _) hk (crs_some l layers)
theorem energy_some (v : Veh) (hv : vehB v = true) (e : S27) (l : List S33) (K : Nat) (hk : 100 ≤ K) : glider_Energy.f K v.speed v.dive v.use.f0 v.use.f1 v.drift.f0 v.drift.f1 v.reserve e.f0 e.f1 l = some (EnX v e l) := by
  have h0 : vehE v = 0 := by unfold vehE; rw [if_pos hv]
  unfold glider_Energy.f EnX
  refine Eq.trans (congrArg (fun o => Option.bind o _) (at_rounds (glider_CheckVehicle.mono _ _ _ _ _ _ _) (show 4 ≤ K by omega) (veh_some v))) ?_
  rw [Option.bind_some, if_pos h0]
  refine Eq.trans (congrArg (fun o => Option.bind o _) (at_rounds (glider_bounded.mono _ _ _ _) (show 2 ≤ K by omega) (bnd_some 0 e.f0 e.f1 0 1073741824))) ?_
  rw [Option.bind_some]
  cases hb : bndB e.f0 e.f1 0 1073741824 with
  | false => rfl
  | true =>
    rw [if_pos rfl, if_pos rfl, crs_some' l (-1) K (by omega), Option.bind_some]
    by_cases hc : crsE l (-1) = 0
    · rw [if_pos hc, if_pos hc]
      have hg : (vehB v && bndB e.f0 e.f1 0 1073741824 && decide (l.length ≤ 64)) = true := by rw [hv, hb, decide_eq_true (crsE_ok hc).1]; rfl
      unfold glider_energy.f
      refine Eq.trans (congrArg (fun o => Option.bind o _) (if_pos hg)) ?_
      rw [Option.bind_some]
    · rw [if_neg hc, if_neg hc]
/-- What Lasts returns. -/
def LaX (v : Veh) (e : S27) : Int × Int := if bndB e.f0 e.f1 0 1073741824 = true then if e.f0 < v.reserve then (0, 19) else if mx v.use.f1 v.drift.f1 = 0 then (0, 4) else (wrap64 (Int.tdiv (wrap64 (e.f0 - v.reserve)) (mx v.use.f1 v.drift.f1)), 0) else (0, 2)
theorem lasts_some (v : Veh) (hv : vehB v = true) (e : S27) (K : Nat) (hk : 100 ≤ K) : glider_Lasts.f K v.speed v.dive v.use.f0 v.use.f1 v.drift.f0 v.drift.f1 v.reserve e.f0 e.f1 = some (LaX v e) := by
  have h0 : vehE v = 0 := by unfold vehE; rw [if_pos hv]
  unfold glider_Lasts.f LaX
  refine Eq.trans (congrArg (fun o => Option.bind o _) (at_rounds (glider_CheckVehicle.mono _ _ _ _ _ _ _) (show 4 ≤ K by omega) (veh_some v))) ?_
  rw [Option.bind_some, if_pos h0]
  refine Eq.trans (congrArg (fun o => Option.bind o _) (at_rounds (glider_bounded.mono _ _ _ _) (show 2 ≤ K by omega) (bnd_some 0 e.f0 e.f1 0 1073741824))) ?_
  rw [Option.bind_some]
  cases hb : bndB e.f0 e.f1 0 1073741824 with
  | false => rfl
  | true =>
    rw [if_pos rfl, if_pos rfl]
    split
    · rfl
    · split <;> rfl
theorem crs_not19 (l : List S33) (n : Int) : crsE l n ≠ 19 := by
  unfold crsE
  split
  · decide
  · split <;> decide
theorem j2_true (v : Veh) (hv : vehB v = true) (e : S27) (l : List S33) (hl : l.length ≤ 64) (begin_ : Int) (hb : 0 ≤ begin_ ∧ begin_ ≤ 65535) (parts : List Int) (hp : ∀ y ∈ parts, (Lit.int .u16 y).wf = true) (K : Nat) (hk : 200 ≤ K) :
    isobathlaw03_GliderLasts.j2 K l begin_ parts (EnX v e l).1 (EnX v e l).2.1 (EnX v e l).2.2 v.speed v.dive v.use.f0 v.use.f1 v.drift.f0 v.drift.f1 v.reserve e.f0 e.f1 = some true := by
  obtain ⟨K, rfl⟩ : ∃ z, K = z + 2 := ⟨K - 2, by omega⟩
  rw [isobathlaw03_GliderLasts.j2]
  have hcase : (EnX v e l).2.2 ≠ 0 → (EnX v e l).1 = [] := by
    unfold EnX
    split
    · split
      · intro h
        rcases en_err v l e 0 [] with h1 | ⟨h1, _⟩
        · exact absurd h1 h
        · exact h1
      · intro _; rfl
    · intro _; rfl
  by_cases h0 : (EnX v e l).2.2 = 0
  · rw [if_pos h0]
    by_cases hbn : bndB e.f0 e.f1 0 1073741824 = true
    · by_cases hc : crsE l (-1) = 0
      · have hX : EnX v e l = enI v l e 0 [] := by unfold EnX; rw [if_pos hbn, if_pos hc]
        rw [hX] at h0 ⊢
        obtain ⟨h1, h2, _⟩ := en_ok v l e 0 [] h0
        rw [List.length_nil, Nat.zero_add] at h2
        rw [Int.zero_add] at h1
        rw [if_pos h1, isobathlaw03_GliderLasts.j3, if_neg (by rw [h1, h2]; simp)]
        have hbb := bndB_iff.1 hbn
        obtain ⟨p, hp', hp0, hp1⟩ := part_in (a := e.f0) (b := e.f1) (m := begin_) (by omega) hbb.1.1 (by omega) hb
        rw [hp', Option.bind_some]
        have := loop v hv l hl parts hp (enI v l e 0 []).1 (enI v l e 0 []).2.1 l.length 0 K e p [] (by omega) (by omega) rfl (by rw [List.drop_zero]; exact Prod.ext rfl (Prod.ext rfl h0)) (by omega)
        exact this
      · have : EnX v e l = ([], 0, crsE l (-1)) := by unfold EnX; rw [if_pos hbn, if_neg hc]
        rw [this] at h0
        exact absurd h0 hc
    · have : EnX v e l = ([], 0, 2) := by unfold EnX; rw [if_neg hbn]
      rw [this] at h0
      cases h0
  · rw [if_neg h0, hcase h0, if_pos (show (([] : List S27).length : Int) = 0 from rfl), works (by omega)]; rfl
end Lasts
open Lasts in
theorem GliderLasts : ∀ (x0 : S29) (x1 : S27) (x2 : (List S33)) (x3 : Int) (x4 : (List Int)), W29 x0 → W27 x1 → ((∀ y ∈ x2, W33 y) ∧ x2.length * Try.prog.bytesOf 33 ≤ reachBytes) → (Lit.int .u16 x3).wf = true → ((∀ y ∈ x4, (Lit.int .u16 y).wf = true) ∧ x4.length * Try.prog.bytesOf 55 ≤ reachBytes) → ∃ k, isobathlaw03_GliderLasts.f k (x0.f0) (x0.f1) (x0.f2.f0) (x0.f2.f1) (x0.f3.f0) (x0.f3.f1) (x0.f4) (x1.f0) (x1.f1) x2 x3 x4 = some true := by
  intro x0 x1 x2 x3 x4 g0 g1 g2 g3 g4
  let v : Veh := ⟨x0.f0, x0.f1, ⟨x0.f2.f0, x0.f2.f1⟩, ⟨x0.f3.f0, x0.f3.f1⟩, x0.f4⟩
  refine ⟨400, ?_⟩
  have hb3 := wf_u16 g3
  unfold isobathlaw03_GliderLasts.f
  refine Eq.trans (congrArg (fun o => Option.bind o _) (ref_veh v)) ?_
  rw [Option.bind_some]
  have ht : isobathlaw03_GliderLasts.j0 400 x2 x3 x4 true x0.f0 x0.f1 x0.f2.f0 x0.f2.f1 x0.f3.f0 x0.f3.f1 x0.f4 x1.f0 x1.f1 = some true := by
    rw [isobathlaw03_GliderLasts.j0, if_pos rfl, works (by omega)]; rfl
  rw [ht]
  cases hv : vehB v with
  | false =>
    have : vehE v = 2 := by unfold vehE; rw [hv]; rfl
    rw [this, if_neg (by decide)]
  | true =>
    have : vehE v = 0 := by unfold vehE; rw [hv]; rfl
    rw [this, if_pos rfl]
    by_cases hl : (x2.length : Int) > 64
    · rw [decide_eq_true hl, ht]
    rw [decide_eq_false hl, isobathlaw03_GliderLasts.j0, if_neg (by decide)]
    refine Eq.trans (congrArg (fun o => Option.bind o _) (lasts_some v hv x1 399 (by omega))) ?_
    rw [Option.bind_some]
    refine Eq.trans (congrArg (fun o => Option.bind o _) (energy_some v hv x1 x2 399 (by omega))) ?_
    rw [Option.bind_some]
    have hj2 := j2_true v hv x1 x2 (by omega) x3 hb3 x4 g4.1
    by_cases hL : (LaX v x1).2 = 0
    · refine Eq.trans (if_pos hL) ?_
      unfold LaX at hL
      by_cases hbn : bndB x1.f0 x1.f1 0 1073741824 = true
      · rw [if_pos hbn] at hL
        by_cases h19 : x1.f0 < v.reserve
        · rw [if_pos h19] at hL; cases hL
        rw [if_neg h19] at hL
        by_cases h4 : mx v.use.f1 v.drift.f1 = 0
        · rw [if_pos h4] at hL; cases hL
        have hLX : LaX v x1 = (wrap64 (Int.tdiv (wrap64 (x1.f0 - v.reserve)) (mx v.use.f1 v.drift.f1)), 0) := by unfold LaX; rw [if_pos hbn, if_neg h19, if_neg h4]
        have hu := vehB_use hv ⟨0, 0⟩
        have hd := vehB_use hv ⟨8, 0⟩
        have hu' : takeI v ⟨0, 0⟩ = v.use := rfl
        have hd' : takeI v ⟨8, 0⟩ = v.drift := rfl
        rw [hu'] at hu
        rw [hd'] at hd
        have hres := vehB_res hv
        have hbb := bndB_iff.1 hbn
        have hmm := mx_max' v.use.f1 v.drift.f1
        have hmost : ∀ c, (takeI v c).f1 ≤ mx v.use.f1 v.drift.f1 := by
          intro c
          unfold takeI
          rw [hmm]
          split <;> omega
        have hmo1 : 1 ≤ mx v.use.f1 v.drift.f1 := by omega
        have hmo2 : mx v.use.f1 v.drift.f1 ≤ 1073741824 := by omega
        clear hmm
        rw [hLX]
        have hmdef : mx x0.f2.f1 x0.f3.f1 = mx v.use.f1 v.drift.f1 := rfl
        have hrdef : x0.f4 = v.reserve := rfl
        rw [hmdef, hrdef]
        generalize mx v.use.f1 v.drift.f1 = M at *
        rw [w64_id (x := x1.f0 - v.reserve) (by omega), Int.tdiv_eq_ediv_of_nonneg (by omega)]
        have hq0 : 0 ≤ (x1.f0 - v.reserve) / M := Int.ediv_nonneg (by omega) (by omega)
        have hq1 : (x1.f0 - v.reserve) / M * M ≤ x1.f0 - v.reserve := Int.ediv_mul_le _ (by omega)
        have hq2 : x1.f0 - v.reserve < ((x1.f0 - v.reserve) / M + 1) * M := Int.lt_ediv_add_one_mul_self _ (by omega)
        have hq3 : (x1.f0 - v.reserve) / M ≤ x1.f0 - v.reserve := Int.ediv_le_self _ (by omega)
        generalize (x1.f0 - v.reserve) / M = q at *
        rw [w64_id (x := q) (by omega)]
        obtain ⟨r0, r1⟩ := mul_in (a := q + 1) (b := M) (m := 1073741825) (n := 1073741824) (by omega) (by omega) (by omega) (by omega)
        have r2 : 0 ≤ q * M := Int.mul_nonneg hq0 (by omega)
        rw [w64_id (x := q * M) (by omega), w64_id (x := x1.f0 - q * M) (by omega), w64_id (x := q + 1) (by omega), w64_id (x := (q + 1) * M) (by omega), w64_id (x := x1.f0 - (q + 1) * M) (by omega)]
        refine Eq.trans (if_neg (by first | omega | (dsimp only; omega))) ?_
        refine Eq.trans (if_neg (by omega)) ?_
        refine Eq.trans (if_neg (by first | omega | (dsimp only; omega))) ?_
        refine Eq.trans (if_neg (by first | omega | (dsimp only; omega))) ?_
        rw [decide_eq_false (by omega), isobathlaw03_GliderLasts.j1, if_neg (by decide)]
        have hgo := hj2 398 (by omega)
        by_cases hlen : (x2.length : Int) ≤ q
        · have hne : (EnX v x1 x2).2.2 ≠ 19 := by
            unfold EnX
            rw [if_pos hbn]
            by_cases hc : crsE x2 (-1) = 0
            · rw [if_pos hc]
              have hle := Int.mul_le_mul_of_nonneg_right hlen (show 0 ≤ M by omega)
              rw [en_most v M hmost x2 x1 0 [] (by omega) (by omega)]
              decide
            · rw [if_neg hc]
              exact crs_not19 _ _
          refine Eq.trans (if_pos hlen) ?_
          refine Eq.trans (if_neg hne) ?_
          exact hgo
        · refine Eq.trans (if_neg hlen) ?_
          exact hgo
      · rw [if_neg hbn] at hL; cases hL
    · refine Eq.trans (if_neg hL) ?_
      exact hj2 399 (by omega)
end Go.Proofs.Ytmhaiihjfgfaoaa.Pure
end
