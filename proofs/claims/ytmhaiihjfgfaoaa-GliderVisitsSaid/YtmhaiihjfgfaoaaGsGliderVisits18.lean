/- Part 18 of the proof of GliderVisits: what the functions compute. No condition. -/
import Derived.Test.YtmhaiihjfgfaoaaGsGliderVisits3
import Derived.Test.YtmhaiihjfgfaoaaGsGliderVisits16
section
namespace Go.Proofs.Ytmhaiihjfgfaoaa.Pr
open Go.RowKit Go.Proofs.YtmhaiihjfgfaoaaW.PrintWords Go.Proofs.YtmhaiihjfgfaoaaW.PrintLast Go.Proofs.YtmhaiihjfgfaoaaW.PrintMore
attribute [local go_sem] max2_int min2_int max_two min_two max_four
set_option linter.unusedVariables false
set_option linter.unusedSimpArgs false

/-! ### isobathref03_Cell: function 42 -/
def isobathref03_Cell.f (a0_0 : Int) (a0_1 : Int) (a0_2 : Int) (a0_3 : Int) (a0_4 : Int) (a0_5 : Int) (a0_6 : Int) (l0_7 : List Bool) (l0_8 : List (S40)) (a1 : Int) : Option (Int × Int × Int × Int) := if a0_0 = 0 then (none) else (some (wrap64 ((Int.tmod a1 a0_0) * a0_2), wrap64 ((wrap64 ((Int.tmod a1 a0_0) + 1)) * a0_2), wrap64 ((wrap64 (Int.tdiv a1 a0_0)) * a0_2), wrap64 ((wrap64 ((wrap64 (Int.tdiv a1 a0_0)) + 1)) * a0_2)))
set_option maxHeartbeats 8000000 in
set_option maxRecDepth 100000 in
theorem isobathref03_Cell.calls (a0_0 : Int) (a0_1 : Int) (a0_2 : Int) (a0_3 : Int) (a0_4 : Int) (a0_5 : Int) (a0_6 : Int) (A0_7 : Option Addr) (c0_7 : Nat) (l0_7 : List Bool) (A0_8 : Option Addr) (c0_8 : Nat) (l0_8 : List (S40)) (a1 : Int) (r1 : Int) (r2 : Int) (r3 : Int) (r4 : Int) (w : World) (hr0_7 : Kd.C Kd.bool w A0_7 l0_7.length l0_7) (hc0_7 : l0_7.length ≤ c0_7) (hr0_8 : Kd.C k40 w A0_8 l0_8.length l0_8) (hc0_8 : l0_8.length ≤ c0_8) (h : isobathref03_Cell.f a0_0 a0_1 a0_2 a0_3 a0_4 a0_5 a0_6 l0_7 l0_8 a1 = some (r1, r2, r3, r4)) :
  Calls Try.prog 42 #[.agg #[.int .i64 a0_0, .int .i64 a0_1, .int .i64 a0_2, .int .i64 a0_3, .int .i64 a0_4, .int .i64 a0_5, .int .i64 a0_6, .slice A0_7 l0_7.length c0_7, .slice A0_8 l0_8.length c0_8], .int .i64 a1] w fun e w' => e = .returned (.agg #[.int .i64 r1, .int .i64 r2, .int .i64 r3, .int .i64 r4]) ∧ Below w.heap.size w w' := by
 have hu25 := Try.underlying25
 have hu31 := Try.underlying31
 have hu27 := Try.underlying27
 have HR0_7 := Aside0.mk hr0_7
 have HC0_7 := Aside0.mk hc0_7
 clear hr0_7 hc0_7
 have HR0_8 := Aside0.mk hr0_8
 have HC0_8 := Aside0.mk hc0_8
 clear hr0_8 hc0_8
 have HB := Aside0.mk (Below.refl w.heap.size w)
 have H : (if a0_0 = 0 then (none) else (some (wrap64 ((Int.tmod a1 a0_0) * a0_2), wrap64 ((wrap64 ((Int.tmod a1 a0_0) + 1)) * a0_2), wrap64 ((wrap64 (Int.tdiv a1 a0_0)) * a0_2), wrap64 ((wrap64 ((wrap64 (Int.tdiv a1 a0_0)) + 1)) * a0_2)))) = some (r1, r2, r3, r4) := h
 clear h
 by_cases c3 : a0_0 = 0
 ·rw [if_pos c3] at H
  exact absurd H (by simp)
 ·rw [if_neg c3] at H
  have c3b0 : (a0_0 == 0) = false := beq_eq_false_iff_ne.mpr c3
  have c3b1 : (a0_0 != 0) = true := bne_iff_ne.mpr c3
  simp only [Option.some.injEq, Prod.mk.injEq] at H
  obtain ⟨rfl, rfl, rfl, rfl⟩ := H
  go_enter Try.func42, Try.ntmps42
  go_wp2_with (first | ((with_reducible refine gate_dst (N := 2) rfl ?_); refine box_event (by rfl) (N := 2) (by rfl) (cs := #[.int .i64 a0_0, .int .i64 a0_1, .int .i64 a0_2, .int .i64 a0_3, .int .i64 a0_4, .int .i64 a0_5, .int .i64 a0_6, .slice A0_7 l0_7.length c0_7, .slice A0_8 l0_8.length c0_8]) (t := 25) zq5 ?_; intro gb331 hg w4 hbox hb; have BK331 := Aside0.mk (hbox); have GW331 := zgs HB hg; have GE331 := zgs HB hg; replace HB := zbs HB hb; clear hb hbox hg) | ((with_reducible refine gate_dst (N := 4) rfl ?_); refine box_event (by rfl) (N := 4) (by rfl) (cs := #[.int .i64 0, .int .i64 0, .int .i64 0, .int .i64 0]) (t := 31) zq5 ?_; intro gb332 hg w5 hbox hb; have BK332 := Aside0.mk (hbox); have GW332 := zgs HB hg; have GE332 := zgs HB hg; have NB331_332 := znp BK331 hg; have NB332_331 := znq BK331 hg; replace BK331 := zbb BK331 hb; replace HB := zbs HB hb; clear hb hbox hg; have hnb6 := NB331_332.out; have hnc6 := NB332_331.out; obtain ⟨hcz7_0, hcz7_1, hcz7_2, hcz7_3, hcz7_4, hcz7_5, hcz7_6, hcz7_7, hcz7_8, hfz7_0, hfz7_1, hfz7_2, hfz7_3, hfz7_4, hfz7_5, hfz7_6, hfz7_7, hfz7_8⟩ := zce9 BK331.out; obtain ⟨hcz8_0, hcz8_1, hcz8_2, hcz8_3, hfz8_0, hfz8_1, hfz8_2, hfz8_3⟩ := zce4 BK332.out))
  repeat (go_quiet (first | ((with_reducible refine gate_dst (N := 2) rfl ?_); refine box_event (by rfl) (N := 2) (by rfl) (cs := #[.int .i64 a0_0, .int .i64 a0_1, .int .i64 a0_2, .int .i64 a0_3, .int .i64 a0_4, .int .i64 a0_5, .int .i64 a0_6, .slice A0_7 l0_7.length c0_7, .slice A0_8 l0_8.length c0_8]) (t := 25) zq5 ?_; intro gb331 hg w4 hbox hb; have BK331 := Aside0.mk (hbox); have GW331 := zgs HB hg; have GE331 := zgs HB hg; replace HB := zbs HB hb; clear hb hbox hg) | ((with_reducible refine gate_dst (N := 4) rfl ?_); refine box_event (by rfl) (N := 4) (by rfl) (cs := #[.int .i64 0, .int .i64 0, .int .i64 0, .int .i64 0]) (t := 31) zq5 ?_; intro gb332 hg w5 hbox hb; have BK332 := Aside0.mk (hbox); have GW332 := zgs HB hg; have GE332 := zgs HB hg; have NB331_332 := znp BK331 hg; have NB332_331 := znq BK331 hg; replace BK331 := zbb BK331 hb; replace HB := zbs HB hb; clear hb hbox hg; have hnb6 := NB331_332.out; have hnc6 := NB332_331.out; obtain ⟨hcz7_0, hcz7_1, hcz7_2, hcz7_3, hcz7_4, hcz7_5, hcz7_6, hcz7_7, hcz7_8, hfz7_0, hfz7_1, hfz7_2, hfz7_3, hfz7_4, hfz7_5, hfz7_6, hfz7_7, hfz7_8⟩ := zce9 BK331.out; obtain ⟨hcz8_0, hcz8_1, hcz8_2, hcz8_3, hfz8_0, hfz8_1, hfz8_2, hfz8_3⟩ := zce4 BK332.out)); try go_wp2_with (first | ((with_reducible refine gate_dst (N := 2) rfl ?_); refine box_event (by rfl) (N := 2) (by rfl) (cs := #[.int .i64 a0_0, .int .i64 a0_1, .int .i64 a0_2, .int .i64 a0_3, .int .i64 a0_4, .int .i64 a0_5, .int .i64 a0_6, .slice A0_7 l0_7.length c0_7, .slice A0_8 l0_8.length c0_8]) (t := 25) zq5 ?_; intro gb331 hg w4 hbox hb; have BK331 := Aside0.mk (hbox); have GW331 := zgs HB hg; have GE331 := zgs HB hg; replace HB := zbs HB hb; clear hb hbox hg) | ((with_reducible refine gate_dst (N := 4) rfl ?_); refine box_event (by rfl) (N := 4) (by rfl) (cs := #[.int .i64 0, .int .i64 0, .int .i64 0, .int .i64 0]) (t := 31) zq5 ?_; intro gb332 hg w5 hbox hb; have BK332 := Aside0.mk (hbox); have GW332 := zgs HB hg; have GE332 := zgs HB hg; have NB331_332 := znp BK331 hg; have NB332_331 := znq BK331 hg; replace BK331 := zbb BK331 hb; replace HB := zbs HB hb; clear hb hbox hg; have hnb6 := NB331_332.out; have hnc6 := NB332_331.out; obtain ⟨hcz7_0, hcz7_1, hcz7_2, hcz7_3, hcz7_4, hcz7_5, hcz7_6, hcz7_7, hcz7_8, hfz7_0, hfz7_1, hfz7_2, hfz7_3, hfz7_4, hfz7_5, hfz7_6, hfz7_7, hfz7_8⟩ := zce9 BK331.out; obtain ⟨hcz8_0, hcz8_1, hcz8_2, hcz8_3, hfz8_0, hfz8_1, hfz8_2, hfz8_3⟩ := zce4 BK332.out)))
  refine bodyPost_ret (results_cell_row rfl _ _ gb332 31 #[.int .i64 (wrap64 ((Int.tmod a1 a0_0) * a0_2)), .int .i64 (wrap64 ((wrap64 ((Int.tmod a1 a0_0) + 1)) * a0_2)), .int .i64 (wrap64 ((wrap64 (Int.tdiv a1 a0_0)) * a0_2)), .int .i64 (wrap64 ((wrap64 ((wrap64 (Int.tdiv a1 a0_0)) + 1)) * a0_2))] (0, 0) _ rfl (by (with_reducible repeat (first | refine blk_drewN ?_ _ | refine blk_drew ?_ | refine blk_alloc ?_ _)); refine blk_put (cs := #[.int .i64 (wrap64 ((Int.tmod a1 a0_0) * a0_2)), .int .i64 (wrap64 ((wrap64 ((Int.tmod a1 a0_0) + 1)) * a0_2)), .int .i64 (wrap64 ((wrap64 (Int.tdiv a1 a0_0)) * a0_2)), .int .i64 0]) ?_ 3 _ rfl; (with_reducible repeat (first | refine blk_drewN ?_ _ | refine blk_drew ?_ | refine blk_alloc ?_ _)); refine blk_put (cs := #[.int .i64 (wrap64 ((Int.tmod a1 a0_0) * a0_2)), .int .i64 (wrap64 ((wrap64 ((Int.tmod a1 a0_0) + 1)) * a0_2)), .int .i64 0, .int .i64 0]) ?_ 2 _ rfl; (with_reducible repeat (first | refine blk_drewN ?_ _ | refine blk_drew ?_ | refine blk_alloc ?_ _)); refine blk_put (cs := #[.int .i64 (wrap64 ((Int.tmod a1 a0_0) * a0_2)), .int .i64 0, .int .i64 0, .int .i64 0]) ?_ 1 _ rfl; (with_reducible repeat (first | refine blk_drewN ?_ _ | refine blk_drew ?_ | refine blk_alloc ?_ _)); refine blk_put (cs := #[.int .i64 0, .int .i64 0, .int .i64 0, .int .i64 0]) ?_ 0 _ rfl; (with_reducible repeat (first | refine blk_drewN ?_ _ | refine blk_drew ?_ | refine blk_alloc ?_ _)); exact BK332.out) Try.underlying31 rfl zq1) rfl ?_
  exact ⟨zq6, zbz⟩

end Go.Proofs.Ytmhaiihjfgfaoaa.Pr
end
section
namespace Go.Proofs.Ytmhaiihjfgfaoaa.Pr
open Go.RowKit Go.Proofs.YtmhaiihjfgfaoaaW.PrintWords Go.Proofs.YtmhaiihjfgfaoaaW.PrintLast Go.Proofs.YtmhaiihjfgfaoaaW.PrintMore
attribute [local go_sem] max2_int min2_int max_two min_two max_four
set_option linter.unusedVariables false
set_option linter.unusedSimpArgs false

/-! ### isobathref01_In: function 91 -/
mutual
def isobathref01_In.j0 : Nat → Bool → Int → Int → Int → Int → Option (Int × Int)
 | 0, _, _, _, _, _ => none
 | k + 1, x13, x646000, x646001, x647000, x647001 => if x13 = true then (some (0, 2)) else (if x646000 ≥ x647000 then (isobathref01_In.j1 k (decide (x646001 ≤ x647001)) x646000 x646001 x647000 x647001) else (isobathref01_In.j1 k false x646000 x646001 x647000 x647001))
def isobathref01_In.j1 : Nat → Bool → Int → Int → Int → Int → Option (Int × Int)
 | 0, _, _, _, _, _ => none
 | k + 1, x25, x646000, x646001, x647000, x647001 => if x25 = true then (some (2, 0)) else (if x646001 < x647000 then (some (0, 0)) else (if x646000 > x647001 then (some (0, 0)) else (some (1, 0))))
end
def isobathref01_In.f (k : Nat) (a0_0 : Int) (a0_1 : Int) (a1_0 : Int) (a1_1 : Int) : Option (Int × Int) := (isobathref01_Valid.f a0_0 a0_1).bind fun t647 => (if t647 = true then ((isobathref01_Valid.f a1_0 a1_1).bind fun t648 => (isobathref01_In.j0 k (!t648) a0_0 a0_1 a1_0 a1_1)) else (isobathref01_In.j0 k true a0_0 a0_1 a1_0 a1_1))
set_option maxHeartbeats 8000000 in
set_option maxRecDepth 100000 in
theorem isobathref01_In.calls (k : Nat) (a0_0 : Int) (a0_1 : Int) (a1_0 : Int) (a1_1 : Int) (r1 : Int) (r2 : Int) (w : World) (h : isobathref01_In.f k a0_0 a0_1 a1_0 a1_1 = some (r1, r2)) :
  Calls Try.prog 91 #[.agg #[.int .i64 a0_0, .int .i64 a0_1], .agg #[.int .i64 a1_0, .int .i64 a1_1]] w fun e w' => e = .returned (.tuple #[.int .i64 r1, .int .i64 r2]) ∧ Below w.heap.size w w' := by
 have hu27 := Try.underlying27
 have HB := Aside0.mk (Below.refl w.heap.size w)
 have H : ((isobathref01_Valid.f a0_0 a0_1).bind fun t647 => (if t647 = true then ((isobathref01_Valid.f a1_0 a1_1).bind fun t648 => (isobathref01_In.j0 k (!t648) a0_0 a0_1 a1_0 a1_1)) else (isobathref01_In.j0 k true a0_0 a0_1 a1_0 a1_1))) = some (r1, r2) := h
 clear h
 have HC3 := Aside0.mk H
 clear H
 go_enter Try.func91, Try.ntmps91
 go_upto_region 1 with (first | ((with_reducible refine gate_dst (N := 2) rfl ?_); refine box_event (by rfl) (N := 2) (by rfl) (cs := #[.int .i64 a0_0, .int .i64 a0_1]) (t := 27) zq5 ?_; intro gb645 hg w4 hbox hb; have BK645 := Aside0.mk (hbox); have GW645 := zgs HB hg; have GE645 := zgs HB hg; replace HB := zbs HB hb; clear hb hbox hg) | ((with_reducible refine gate_dst (N := 3) rfl ?_); refine box_event (by rfl) (N := 3) (by rfl) (cs := #[.int .i64 a1_0, .int .i64 a1_1]) (t := 27) zq5 ?_; intro gb646 hg w5 hbox hb; have BK646 := Aside0.mk (hbox); have GW646 := zgs HB hg; have GE646 := zgs HB hg; have NB645_646 := znp BK645 hg; have NB646_645 := znq BK645 hg; replace BK645 := zbb BK645 hb; replace HB := zbs HB hb; clear hb hbox hg))
 (try simp only [Act.put, List.setIfInBounds_toArray, List.set_cons_zero, List.set_cons_succ])
 go_cut [13] (fun v13 wc => ∃ (kq : Nat) (x13_2 : Bool), v13 = .bool x13_2 ∧ Aside0 (isobathref01_In.j0 kq x13_2 a0_0 a0_1 a1_0 a1_1 = some (r1, r2)) ∧ Aside0 (kq ≤ k) ∧ Aside0 (wc.heap[gb645]? = some (.cells #[.int .i64 a0_0, .int .i64 a0_1] 27 (0, 0))) ∧ Aside0 (wc.heap[gb646]? = some (.cells #[.int .i64 a1_0, .int .i64 a1_1] 27 (0, 0))) ∧ Aside0 (Below w.heap.size w wc))
 case first =>
  have H := HC3.out
  clear HC3
  replace H := Option.bind_eq_some_iff.mp H
  obtain ⟨t647, A60, H⟩ := H
  replace H : (if t647 = true then ((isobathref01_Valid.f a1_0 a1_1).bind fun t648 => (isobathref01_In.j0 k (!t648) a0_0 a0_1 a1_0 a1_1)) else (isobathref01_In.j0 k true a0_0 a0_1 a1_0 a1_1)) = some (r1, r2) := H
  have A6 := Aside0.mk A60
  clear A60
  by_cases c7 : t647 = true
  ·subst c7
   have H1 : ((isobathref01_Valid.f a1_0 a1_1).bind fun t648 => (isobathref01_In.j0 k (!t648) a0_0 a0_1 a1_0 a1_1)) = some (r1, r2) := by rw [if_pos rfl] at H; exact H
   clear H
   have H := H1
   clear H1
   replace H := Option.bind_eq_some_iff.mp H
   obtain ⟨t648, A80, H⟩ := H
   replace H : (isobathref01_In.j0 k (!t648) a0_0 a0_1 a1_0 a1_1) = some (r1, r2) := H
   have A8 := Aside0.mk A80
   clear A80
   have H' := Aside0.mk H
   clear H
   have hnb9 := NB645_646.out
   have hnc9 := NB646_645.out
   obtain ⟨hcz10_0, hcz10_1, hfz10_0, hfz10_1⟩ := zce2 BK645.out
   go_wp2_with (first | ((with_reducible refine gate_callee (f := 111) rfl ?_); refine goesL_ (some 7) rfl rfl Try.func111 zq1 rfl #[.agg #[.int .i64 a0_0, .int .i64 a0_1]] rfl zq8 ?_; (with_reducible refine (isobathref01_Valid.calls a0_0 a0_1 true _ A6.out).mono ?_); rintro e w11 ⟨rfl, hb⟩; refine ⟨_, rfl, ?_⟩; replace BK645 := zbb BK645 hb; replace BK646 := zbb BK646 hb; replace HB := zbs HB hb; (try clear hb); (try clear hb2); (try clear hk); (try clear hi); obtain ⟨hcz12_0, hcz12_1, hfz12_0, hfz12_1⟩ := zce2 BK646.out) | (go_at_call 111; (with_reducible refine (isobathref01_Valid.calls a1_0 a1_1 t648 _ A8.out).mono ?_); rintro e w13 ⟨rfl, hb⟩; replace BK645 := zbb BK645 hb; replace BK646 := zbb BK646 hb; replace HB := zbs HB hb; (try clear hb); (try clear hb2); (try clear hk); (try clear hi)))
   go_meet
   case rel => exact ⟨_, (!t648), zq2, H', ⟨zq47⟩, ⟨by (with_reducible repeat (first | refine blk_drewN ?_ _ | refine blk_drew ?_ | refine blk_alloc ?_ _)); exact BK645.out⟩, ⟨by (with_reducible repeat (first | refine blk_drewN ?_ _ | refine blk_drew ?_ | refine blk_alloc ?_ _)); exact BK646.out⟩, ⟨zbz⟩⟩
  ·replace c7 := Bool.eq_false_iff.mpr c7
   subst c7
   have H1 : (isobathref01_In.j0 k true a0_0 a0_1 a1_0 a1_1) = some (r1, r2) := by rw [if_neg (show ¬ (false = true) by decide)] at H; exact H
   clear H
   have H := H1
   clear H1
   have H' := Aside0.mk H
   clear H
   have hnb14 := NB645_646.out
   have hnc14 := NB646_645.out
   obtain ⟨hcz15_0, hcz15_1, hfz15_0, hfz15_1⟩ := zce2 BK645.out
   go_wp2_with (first | ((with_reducible refine gate_callee (f := 111) rfl ?_); refine goesL_ (some 7) rfl rfl Try.func111 zq1 rfl #[.agg #[.int .i64 a0_0, .int .i64 a0_1]] rfl zq8 ?_; (with_reducible refine (isobathref01_Valid.calls a0_0 a0_1 false _ A6.out).mono ?_); rintro e w16 ⟨rfl, hb⟩; refine ⟨_, rfl, ?_⟩; replace BK645 := zbb BK645 hb; replace BK646 := zbb BK646 hb; replace HB := zbs HB hb; (try clear hb); (try clear hb2); (try clear hk); (try clear hi)))
   go_meet
   case rel => exact ⟨_, (true), zq2, H', ⟨zq47⟩, ⟨by (with_reducible repeat (first | refine blk_drewN ?_ _ | refine blk_drew ?_ | refine blk_alloc ?_ _)); exact BK645.out⟩, ⟨by (with_reducible repeat (first | refine blk_drewN ?_ _ | refine blk_drew ?_ | refine blk_alloc ?_ _)); exact BK646.out⟩, ⟨zbz⟩⟩
 case rest =>
  clear HC3
  try clear c1
  try clear p2
  try clear c7
  try clear c9
  try clear c11
  try clear c14
  try clear hcz10_0 hcz10_1
  try clear hcz12_0 hcz12_1
  try clear hcz15_0 hcz15_1
  try clear hfz10_0 hfz10_1
  try clear hfz12_0 hfz12_1
  try clear hfz15_0 hfz15_1
  obtain ⟨kq, x13_2, rfl, HA, HJ2, BK645, BK646, HB⟩ := hcut
  cases kq with
  | zero => exact absurd HA.out (by simp [isobathref01_In.j0])
  | succ kj2 =>
   have H := HA.out
   clear HA
   simp only [isobathref01_In.j0] at H
   by_cases c17 : x13_2 = true
   ·subst c17
    have H1 : (some (0, 2)) = some (r1, r2) := by rw [if_pos rfl] at H; exact H
    clear H
    have H := H1
    clear H1
    simp only [Option.some.injEq, Prod.mk.injEq] at H
    obtain ⟨rfl, rfl⟩ := H
    go_wp2
    go_ret2
    exact ⟨zq6, zbz⟩
   ·replace c17 := Bool.eq_false_iff.mpr c17
    subst c17
    have H1 : (if a0_0 ≥ a1_0 then (isobathref01_In.j1 kj2 (decide (a0_1 ≤ a1_1)) a0_0 a0_1 a1_0 a1_1) else (isobathref01_In.j1 kj2 false a0_0 a0_1 a1_0 a1_1)) = some (r1, r2) := by rw [if_neg (show ¬ (false = true) by decide)] at H; exact H
    clear H
    have H := H1
    clear H1
    have HC18 := Aside0.mk H
    clear H
    go_upto_region 3 with (fail)
    go_cut [25] (fun v25 wc => ∃ (kq : Nat) (x25_17 : Bool), v25 = .bool x25_17 ∧ Aside0 (isobathref01_In.j1 kq x25_17 a0_0 a0_1 a1_0 a1_1 = some (r1, r2)) ∧ Aside0 (kq ≤ kj2) ∧ Aside0 (wc.heap[gb645]? = some (.cells #[.int .i64 a0_0, .int .i64 a0_1] 27 (0, 0))) ∧ Aside0 (wc.heap[gb646]? = some (.cells #[.int .i64 a1_0, .int .i64 a1_1] 27 (0, 0))) ∧ Aside0 (Below w.heap.size w wc))
    case first =>
     have H := HC18.out
     clear HC18
     by_cases c19 : a0_0 ≥ a1_0
     ·rw [if_pos c19] at H
      have c19b0 : decide (a1_0 ≤ a0_0) = true := decide_eq_true c19
      clear c19
      (first | rw [c19b0] | (simp only [i64_w, i32_w]; rw [c19b0]) | skip)
      have H' := Aside0.mk H
      clear H
      have hnb20 := NB645_646.out
      have hnc20 := NB646_645.out
      obtain ⟨hcz21_0, hcz21_1, hfz21_0, hfz21_1⟩ := zce2 BK645.out
      obtain ⟨hcz22_0, hcz22_1, hfz22_0, hfz22_1⟩ := zce2 BK646.out
      go_wp2
      go_meet
      case rel => exact ⟨_, (decide (a0_1 ≤ a1_1)), zq2, H', ⟨by have := HJ2.out; first | omega | exact Nat.le_refl _⟩, ⟨by (with_reducible repeat (first | refine blk_drewN ?_ _ | refine blk_drew ?_ | refine blk_alloc ?_ _)); exact BK645.out⟩, ⟨by (with_reducible repeat (first | refine blk_drewN ?_ _ | refine blk_drew ?_ | refine blk_alloc ?_ _)); exact BK646.out⟩, ⟨zbz⟩⟩
     ·rw [if_neg c19] at H
      have c19b0 : decide (a1_0 ≤ a0_0) = false := decide_eq_false c19
      clear c19
      (first | rw [c19b0] | (simp only [i64_w, i32_w]; rw [c19b0]) | skip)
      have H' := Aside0.mk H
      clear H
      have hnb23 := NB645_646.out
      have hnc23 := NB646_645.out
      obtain ⟨hcz24_0, hcz24_1, hfz24_0, hfz24_1⟩ := zce2 BK645.out
      obtain ⟨hcz25_0, hcz25_1, hfz25_0, hfz25_1⟩ := zce2 BK646.out
      go_wp2
      go_meet
      case rel => exact ⟨_, (false), zq2, H', ⟨by have := HJ2.out; first | omega | exact Nat.le_refl _⟩, ⟨by (with_reducible repeat (first | refine blk_drewN ?_ _ | refine blk_drew ?_ | refine blk_alloc ?_ _)); exact BK645.out⟩, ⟨by (with_reducible repeat (first | refine blk_drewN ?_ _ | refine blk_drew ?_ | refine blk_alloc ?_ _)); exact BK646.out⟩, ⟨zbz⟩⟩
    case rest =>
     clear HC18
     try clear c1
     try clear c2
     try clear p2
     try clear c7
     try clear c9
     try clear c11
     try clear c14
     try clear c17
     try clear c19
     try clear c19b0
     try clear c20
     try clear c23
     try clear hcz10_0 hcz10_1
     try clear hcz12_0 hcz12_1
     try clear hcz15_0 hcz15_1
     try clear hcz21_0 hcz21_1
     try clear hcz22_0 hcz22_1
     try clear hcz24_0 hcz24_1
     try clear hcz25_0 hcz25_1
     try clear hfz10_0 hfz10_1
     try clear hfz12_0 hfz12_1
     try clear hfz15_0 hfz15_1
     try clear hfz21_0 hfz21_1
     try clear hfz22_0 hfz22_1
     try clear hfz24_0 hfz24_1
     try clear hfz25_0 hfz25_1
     try clear p2
     obtain ⟨kq, x25_17, rfl, HA, HJ17, BK645, BK646, HB⟩ := hcut
     cases kq with
     | zero => exact absurd HA.out (by simp [isobathref01_In.j1])
     | succ kj17 =>
      have H := HA.out
      clear HA
      simp only [isobathref01_In.j1] at H
      by_cases c26 : x25_17 = true
      ·subst c26
       have H1 : (some (2, 0)) = some (r1, r2) := by rw [if_pos rfl] at H; exact H
       clear H
       have H := H1
       clear H1
       simp only [Option.some.injEq, Prod.mk.injEq] at H
       obtain ⟨rfl, rfl⟩ := H
       go_wp2
       go_ret2
       exact ⟨zq6, zbz⟩
      ·replace c26 := Bool.eq_false_iff.mpr c26
       subst c26
       have H1 : (if a0_1 < a1_0 then (some (0, 0)) else (if a0_0 > a1_1 then (some (0, 0)) else (some (1, 0)))) = some (r1, r2) := by rw [if_neg (show ¬ (false = true) by decide)] at H; exact H
       clear H
       have H := H1
       clear H1
       by_cases c27 : a0_1 < a1_0
       ·rw [if_pos c27] at H
        have c27b0 : decide (a0_1 < a1_0) = true := decide_eq_true c27
        clear c27
        simp only [Option.some.injEq, Prod.mk.injEq] at H
        obtain ⟨rfl, rfl⟩ := H
        have hnb28 := NB645_646.out
        have hnc28 := NB646_645.out
        obtain ⟨hcz29_0, hcz29_1, hfz29_0, hfz29_1⟩ := zce2 BK645.out
        obtain ⟨hcz30_0, hcz30_1, hfz30_0, hfz30_1⟩ := zce2 BK646.out
        go_wp2
        go_ret2
        exact ⟨zq6, zbz⟩
       ·rw [if_neg c27] at H
        have c27b0 : decide (a0_1 < a1_0) = false := decide_eq_false c27
        clear c27
        by_cases c31 : a0_0 > a1_1
        ·rw [if_pos c31] at H
         have c31b0 : decide (a1_1 < a0_0) = true := decide_eq_true c31
         clear c31
         simp only [Option.some.injEq, Prod.mk.injEq] at H
         obtain ⟨rfl, rfl⟩ := H
         have hnb32 := NB645_646.out
         have hnc32 := NB646_645.out
         obtain ⟨hcz33_0, hcz33_1, hfz33_0, hfz33_1⟩ := zce2 BK645.out
         obtain ⟨hcz34_0, hcz34_1, hfz34_0, hfz34_1⟩ := zce2 BK646.out
         go_wp2
         go_ret2
         exact ⟨zq6, zbz⟩
        ·rw [if_neg c31] at H
         have c31b0 : decide (a1_1 < a0_0) = false := decide_eq_false c31
         clear c31
         simp only [Option.some.injEq, Prod.mk.injEq] at H
         obtain ⟨rfl, rfl⟩ := H
         have hnb35 := NB645_646.out
         have hnc35 := NB646_645.out
         obtain ⟨hcz36_0, hcz36_1, hfz36_0, hfz36_1⟩ := zce2 BK645.out
         obtain ⟨hcz37_0, hcz37_1, hfz37_0, hfz37_1⟩ := zce2 BK646.out
         go_wp2
         go_ret2
         exact ⟨zq6, zbz⟩

end Go.Proofs.Ytmhaiihjfgfaoaa.Pr
end
section
namespace Go.Proofs.Ytmhaiihjfgfaoaa.Pr
open Go.RowKit Go.Proofs.YtmhaiihjfgfaoaaW.PrintWords Go.Proofs.YtmhaiihjfgfaoaaW.PrintLast Go.Proofs.YtmhaiihjfgfaoaaW.PrintMore
attribute [local go_sem] max2_int min2_int max_two min_two max_four
set_option linter.unusedVariables false
set_option linter.unusedSimpArgs false

/-! ### isobathref03_Inside: function 43 -/
def isobathref03_Inside.f (k : Nat) (a0_0 : Int) (a0_1 : Int) (a0_2 : Int) (a0_3 : Int) (a1_0 : Int) (a1_1 : Int) (a1_2 : Int) (a1_3 : Int) : Option (Int) := (isobathref01_In.f k a0_0 a0_1 a1_0 a1_1).bind fun bt651 => ((isobathref01_In.f k a0_2 a0_3 a1_2 a1_3).bind fun bt653 => (some (mn bt651.1 bt653.1)))
set_option maxHeartbeats 8000000 in
set_option maxRecDepth 100000 in
theorem isobathref03_Inside.calls (k : Nat) (a0_0 : Int) (a0_1 : Int) (a0_2 : Int) (a0_3 : Int) (a1_0 : Int) (a1_1 : Int) (a1_2 : Int) (a1_3 : Int) (r : Int) (w : World) (h : isobathref03_Inside.f k a0_0 a0_1 a0_2 a0_3 a1_0 a1_1 a1_2 a1_3 = some r) :
  Calls Try.prog 43 #[.agg #[.int .i64 a0_0, .int .i64 a0_1, .int .i64 a0_2, .int .i64 a0_3], .agg #[.int .i64 a1_0, .int .i64 a1_1, .int .i64 a1_2, .int .i64 a1_3]] w fun e w' => e = .returned (.int .i64 r) ∧ Below w.heap.size w w' := by
 have hu31 := Try.underlying31
 have hu27 := Try.underlying27
 have HB := Aside0.mk (Below.refl w.heap.size w)
 have H : ((isobathref01_In.f k a0_0 a0_1 a1_0 a1_1).bind fun bt651 => ((isobathref01_In.f k a0_2 a0_3 a1_2 a1_3).bind fun bt653 => (some (mn bt651.1 bt653.1)))) = some r := h
 clear h
 replace H := Option.bind_eq_some_iff.mp H
 obtain ⟨⟨t651, t652⟩, A30, H⟩ := H
 replace H : ((isobathref01_In.f k a0_2 a0_3 a1_2 a1_3).bind fun bt653 => (some (mn t651 bt653.1))) = some r := H
 have A3 := Aside0.mk A30
 clear A30
 replace H := Option.bind_eq_some_iff.mp H
 obtain ⟨⟨t653, t654⟩, A40, H⟩ := H
 replace H : (some (mn t651 t653)) = some r := H
 have A4 := Aside0.mk A40
 clear A40
 obtain ⟨ji5, hji5⟩ : ∃ j_ : Int, (mn t651 t653) = j_ := ⟨_, rfl⟩
 replace H : (some ji5) = some r := by first | (rw [hji5] at H; exact H) | (simp only [hji5] at H ⊢; exact H)
 (try rw [hji5] at A3)
 (try rw [hji5] at A4)
 have hji5_ : (if t653 < t651 then t653 else t651) = ji5 := hji5
 obtain rfl := Option.some.inj H
 go_enter Try.func43, Try.ntmps43
 go_wp2_with (first | ((with_reducible refine gate_dst (N := 2) rfl ?_); refine box_event (by rfl) (N := 2) (by rfl) (cs := #[.int .i64 a0_0, .int .i64 a0_1, .int .i64 a0_2, .int .i64 a0_3]) (t := 31) zq5 ?_; intro gb649 hg w6 hbox hb; have BK649 := Aside0.mk (hbox); have GW649 := zgs HB hg; have GE649 := zgs HB hg; replace HB := zbs HB hb; clear hb hbox hg) | ((with_reducible refine gate_dst (N := 3) rfl ?_); refine box_event (by rfl) (N := 3) (by rfl) (cs := #[.int .i64 a1_0, .int .i64 a1_1, .int .i64 a1_2, .int .i64 a1_3]) (t := 31) zq5 ?_; intro gb650 hg w7 hbox hb; have BK650 := Aside0.mk (hbox); have GW650 := zgs HB hg; have GE650 := zgs HB hg; have NB649_650 := znp BK649 hg; have NB650_649 := znq BK649 hg; replace BK649 := zbb BK649 hb; replace HB := zbs HB hb; clear hb hbox hg; have hnb8 := NB649_650.out; have hnc8 := NB650_649.out; obtain ⟨hcz9_0, hcz9_1, hcz9_2, hcz9_3, hfz9_0, hfz9_1, hfz9_2, hfz9_3⟩ := zce4 BK649.out; obtain ⟨hcz10_0, hcz10_1, hcz10_2, hcz10_3, hfz10_0, hfz10_1, hfz10_2, hfz10_3⟩ := zce4 BK650.out) | ((with_reducible refine gate_callee (f := 91) rfl ?_); refine goesL_ (some 14) rfl rfl Try.func91 zq1 rfl #[.agg #[.int .i64 a0_0, .int .i64 a0_1], .agg #[.int .i64 a1_0, .int .i64 a1_1]] rfl zq8 ?_; (with_reducible refine (isobathref01_In.calls k a0_0 a0_1 a1_0 a1_1 t651 t652 _ A3.out).mono ?_); rintro e w11 ⟨rfl, hb⟩; refine ⟨_, rfl, ?_⟩; replace BK649 := zbb BK649 hb; replace BK650 := zbb BK650 hb; replace HB := zbs HB hb; (try clear hb); (try clear hb2); (try clear hk); (try clear hi); obtain ⟨hcz12_0, hcz12_1, hcz12_2, hcz12_3, hfz12_0, hfz12_1, hfz12_2, hfz12_3⟩ := zce4 BK649.out; obtain ⟨hcz13_0, hcz13_1, hcz13_2, hcz13_3, hfz13_0, hfz13_1, hfz13_2, hfz13_3⟩ := zce4 BK650.out) | ((with_reducible refine gate_callee (f := 91) rfl ?_); refine goesL_ (some 22) rfl rfl Try.func91 zq1 rfl #[.agg #[.int .i64 a0_2, .int .i64 a0_3], .agg #[.int .i64 a1_2, .int .i64 a1_3]] rfl zq8 ?_; (with_reducible refine (isobathref01_In.calls k a0_2 a0_3 a1_2 a1_3 t653 t654 _ A4.out).mono ?_); rintro e w14 ⟨rfl, hb⟩; refine ⟨_, rfl, ?_⟩; replace BK649 := zbb BK649 hb; replace BK650 := zbb BK650 hb; replace HB := zbs HB hb; (try clear hb); (try clear hb2); (try clear hk); (try clear hi)))
 go_ret
 exact ⟨by first | rfl | (simp [errW_none, errW_some] <;> rfl) | (simp only [← hji5]; first | rfl | (simp [errW_none, errW_some] <;> rfl)) | (simp [*, errW_none, errW_some] <;> rfl), zbz⟩

end Go.Proofs.Ytmhaiihjfgfaoaa.Pr
end
section
namespace Go.Proofs.Ytmhaiihjfgfaoaa.Pr
open Go.RowKit Go.Proofs.YtmhaiihjfgfaoaaW.PrintWords Go.Proofs.YtmhaiihjfgfaoaaW.PrintLast Go.Proofs.YtmhaiihjfgfaoaaW.PrintMore
attribute [local go_sem] max2_int min2_int max_two min_two max_four
set_option linter.unusedVariables false
set_option linter.unusedSimpArgs false

/-! ### isobathref01_ValidBox: function 63 -/
def isobathref01_ValidBox.f (a0_0 : Int) (a0_1 : Int) (a0_2 : Int) (a0_3 : Int) : Option (Bool) := (isobathref01_Valid.f a0_0 a0_1).bind fun t116 => (if t116 = true then ((isobathref01_Valid.f a0_2 a0_3).bind fun t117 => (if t117 = true then ((isobathref01_Within.f a0_0 (-268435456) 268435456).bind fun t118 => (if t118 = true then ((isobathref01_Within.f a0_1 (-268435456) 268435456).bind fun t119 => (if t119 = true then ((isobathref01_Within.f a0_2 (-268435456) 268435456).bind fun t120 => (if t120 = true then ((isobathref01_Within.f a0_3 (-268435456) 268435456).bind fun t121 => (some t121)) else (some false))) else (some false))) else (some false))) else (some false))) else (some false))
set_option maxHeartbeats 8000000 in
set_option maxRecDepth 100000 in
theorem isobathref01_ValidBox.calls (a0_0 : Int) (a0_1 : Int) (a0_2 : Int) (a0_3 : Int) (r : Bool) (w : World) (h : isobathref01_ValidBox.f a0_0 a0_1 a0_2 a0_3 = some r) :
  Calls Try.prog 63 #[.agg #[.int .i64 a0_0, .int .i64 a0_1, .int .i64 a0_2, .int .i64 a0_3]] w fun e w' => e = .returned (.bool r) ∧ Below w.heap.size w w' := by
 have hu31 := Try.underlying31
 have hu27 := Try.underlying27
 have HB := Aside0.mk (Below.refl w.heap.size w)
 have H : ((isobathref01_Valid.f a0_0 a0_1).bind fun t116 => (if t116 = true then ((isobathref01_Valid.f a0_2 a0_3).bind fun t117 => (if t117 = true then ((isobathref01_Within.f a0_0 (-268435456) 268435456).bind fun t118 => (if t118 = true then ((isobathref01_Within.f a0_1 (-268435456) 268435456).bind fun t119 => (if t119 = true then ((isobathref01_Within.f a0_2 (-268435456) 268435456).bind fun t120 => (if t120 = true then ((isobathref01_Within.f a0_3 (-268435456) 268435456).bind fun t121 => (some t121)) else (some false))) else (some false))) else (some false))) else (some false))) else (some false))) = some r := h
 clear h
 replace H := Option.bind_eq_some_iff.mp H
 obtain ⟨t116, A20, H⟩ := H
 replace H : (if t116 = true then ((isobathref01_Valid.f a0_2 a0_3).bind fun t117 => (if t117 = true then ((isobathref01_Within.f a0_0 (-268435456) 268435456).bind fun t118 => (if t118 = true then ((isobathref01_Within.f a0_1 (-268435456) 268435456).bind fun t119 => (if t119 = true then ((isobathref01_Within.f a0_2 (-268435456) 268435456).bind fun t120 => (if t120 = true then ((isobathref01_Within.f a0_3 (-268435456) 268435456).bind fun t121 => (some t121)) else (some false))) else (some false))) else (some false))) else (some false))) else (some false)) = some r := H
 have A2 := Aside0.mk A20
 clear A20
 by_cases c3 : t116 = true
 ·subst c3
  have H1 : ((isobathref01_Valid.f a0_2 a0_3).bind fun t117 => (if t117 = true then ((isobathref01_Within.f a0_0 (-268435456) 268435456).bind fun t118 => (if t118 = true then ((isobathref01_Within.f a0_1 (-268435456) 268435456).bind fun t119 => (if t119 = true then ((isobathref01_Within.f a0_2 (-268435456) 268435456).bind fun t120 => (if t120 = true then ((isobathref01_Within.f a0_3 (-268435456) 268435456).bind fun t121 => (some t121)) else (some false))) else (some false))) else (some false))) else (some false))) = some r := by rw [if_pos rfl] at H; exact H
  clear H
  have H := H1
  clear H1
  replace H := Option.bind_eq_some_iff.mp H
  obtain ⟨t117, A40, H⟩ := H
  replace H : (if t117 = true then ((isobathref01_Within.f a0_0 (-268435456) 268435456).bind fun t118 => (if t118 = true then ((isobathref01_Within.f a0_1 (-268435456) 268435456).bind fun t119 => (if t119 = true then ((isobathref01_Within.f a0_2 (-268435456) 268435456).bind fun t120 => (if t120 = true then ((isobathref01_Within.f a0_3 (-268435456) 268435456).bind fun t121 => (some t121)) else (some false))) else (some false))) else (some false))) else (some false)) = some r := H
  have A4 := Aside0.mk A40
  clear A40
  by_cases c5 : t117 = true
  ·subst c5
   have H1 : ((isobathref01_Within.f a0_0 (-268435456) 268435456).bind fun t118 => (if t118 = true then ((isobathref01_Within.f a0_1 (-268435456) 268435456).bind fun t119 => (if t119 = true then ((isobathref01_Within.f a0_2 (-268435456) 268435456).bind fun t120 => (if t120 = true then ((isobathref01_Within.f a0_3 (-268435456) 268435456).bind fun t121 => (some t121)) else (some false))) else (some false))) else (some false))) = some r := by rw [if_pos rfl] at H; exact H
   clear H
   have H := H1
   clear H1
   replace H := Option.bind_eq_some_iff.mp H
   obtain ⟨t118, A60, H⟩ := H
   replace H : (if t118 = true then ((isobathref01_Within.f a0_1 (-268435456) 268435456).bind fun t119 => (if t119 = true then ((isobathref01_Within.f a0_2 (-268435456) 268435456).bind fun t120 => (if t120 = true then ((isobathref01_Within.f a0_3 (-268435456) 268435456).bind fun t121 => (some t121)) else (some false))) else (some false))) else (some false)) = some r := H
   have A6 := Aside0.mk A60
   clear A60
   by_cases c7 : t118 = true
   ·subst c7
    have H1 : ((isobathref01_Within.f a0_1 (-268435456) 268435456).bind fun t119 => (if t119 = true then ((isobathref01_Within.f a0_2 (-268435456) 268435456).bind fun t120 => (if t120 = true then ((isobathref01_Within.f a0_3 (-268435456) 268435456).bind fun t121 => (some t121)) else (some false))) else (some false))) = some r := by rw [if_pos rfl] at H; exact H
    clear H
    have H := H1
    clear H1
    replace H := Option.bind_eq_some_iff.mp H
    obtain ⟨t119, A80, H⟩ := H
    replace H : (if t119 = true then ((isobathref01_Within.f a0_2 (-268435456) 268435456).bind fun t120 => (if t120 = true then ((isobathref01_Within.f a0_3 (-268435456) 268435456).bind fun t121 => (some t121)) else (some false))) else (some false)) = some r := H
    have A8 := Aside0.mk A80
    clear A80
    by_cases c9 : t119 = true
    ·subst c9
     have H1 : ((isobathref01_Within.f a0_2 (-268435456) 268435456).bind fun t120 => (if t120 = true then ((isobathref01_Within.f a0_3 (-268435456) 268435456).bind fun t121 => (some t121)) else (some false))) = some r := by rw [if_pos rfl] at H; exact H
     clear H
     have H := H1
     clear H1
     replace H := Option.bind_eq_some_iff.mp H
     obtain ⟨t120, A100, H⟩ := H
     replace H : (if t120 = true then ((isobathref01_Within.f a0_3 (-268435456) 268435456).bind fun t121 => (some t121)) else (some false)) = some r := H
     have A10 := Aside0.mk A100
     clear A100
     by_cases c11 : t120 = true
     ·subst c11
      have H1 : ((isobathref01_Within.f a0_3 (-268435456) 268435456).bind fun t121 => (some t121)) = some r := by rw [if_pos rfl] at H; exact H
      clear H
      have H := H1
      clear H1
      replace H := Option.bind_eq_some_iff.mp H
      obtain ⟨t121, A120, H⟩ := H
      replace H : (some t121) = some r := H
      have A12 := Aside0.mk A120
      clear A120
      obtain rfl := Option.some.inj H
      go_enter Try.func63, Try.ntmps63
      go_wp2_with (first | ((with_reducible refine gate_dst (N := 1) rfl ?_); refine box_event (by rfl) (N := 1) (by rfl) (cs := #[.int .i64 a0_0, .int .i64 a0_1, .int .i64 a0_2, .int .i64 a0_3]) (t := 31) zq5 ?_; intro gb115 hg w13 hbox hb; have BK115 := Aside0.mk (hbox); have GW115 := zgs HB hg; have GE115 := zgs HB hg; replace HB := zbs HB hb; clear hb hbox hg; obtain ⟨hcz14_0, hcz14_1, hcz14_2, hcz14_3, hfz14_0, hfz14_1, hfz14_2, hfz14_3⟩ := zce4 BK115.out) | ((with_reducible refine gate_callee (f := 111) rfl ?_); refine goesL_ (some 5) rfl rfl Try.func111 zq1 rfl #[.agg #[.int .i64 a0_0, .int .i64 a0_1]] rfl zq8 ?_; (with_reducible refine (isobathref01_Valid.calls a0_0 a0_1 true _ A2.out).mono ?_); rintro e w15 ⟨rfl, hb⟩; refine ⟨_, rfl, ?_⟩; replace BK115 := zbb BK115 hb; replace HB := zbs HB hb; (try clear hb); (try clear hb2); (try clear hk); (try clear hi); obtain ⟨hcz16_0, hcz16_1, hcz16_2, hcz16_3, hfz16_0, hfz16_1, hfz16_2, hfz16_3⟩ := zce4 BK115.out) | (go_at_call 111; (with_reducible refine (isobathref01_Valid.calls a0_2 a0_3 true _ A4.out).mono ?_); rintro e w17 ⟨rfl, hb⟩; replace BK115 := zbb BK115 hb; replace HB := zbs HB hb; (try clear hb); (try clear hb2); (try clear hk); (try clear hi); obtain ⟨hcz18_0, hcz18_1, hcz18_2, hcz18_3, hfz18_0, hfz18_1, hfz18_2, hfz18_3⟩ := zce4 BK115.out) | (go_at_call 112; (with_reducible refine (isobathref01_Within.calls a0_0 (-268435456) 268435456 true _ A6.out).mono ?_); rintro e w' ⟨rfl, ⟨nd, rfl⟩⟩) | (go_at_call 112; (with_reducible refine (isobathref01_Within.calls a0_1 (-268435456) 268435456 true _ A8.out).mono ?_); rintro e w' ⟨rfl, ⟨nd, rfl⟩⟩) | (go_at_call 112; (with_reducible refine (isobathref01_Within.calls a0_2 (-268435456) 268435456 true _ A10.out).mono ?_); rintro e w' ⟨rfl, ⟨nd, rfl⟩⟩) | (go_at_call 112; (with_reducible refine (isobathref01_Within.calls a0_3 (-268435456) 268435456 t121 _ A12.out).mono ?_); rintro e w' ⟨rfl, ⟨nd, rfl⟩⟩))
      go_ret
      exact ⟨zq6, zbz⟩
     ·replace c11 := Bool.eq_false_iff.mpr c11
      subst c11
      have H1 : (some false) = some r := by rw [if_neg (show ¬ (false = true) by decide)] at H; exact H
      clear H
      have H := H1
      clear H1
      obtain rfl := Option.some.inj H
      go_enter Try.func63, Try.ntmps63
      go_wp2_with (first | ((with_reducible refine gate_dst (N := 1) rfl ?_); refine box_event (by rfl) (N := 1) (by rfl) (cs := #[.int .i64 a0_0, .int .i64 a0_1, .int .i64 a0_2, .int .i64 a0_3]) (t := 31) zq5 ?_; intro gb115 hg w19 hbox hb; have BK115 := Aside0.mk (hbox); have GW115 := zgs HB hg; have GE115 := zgs HB hg; replace HB := zbs HB hb; clear hb hbox hg; obtain ⟨hcz20_0, hcz20_1, hcz20_2, hcz20_3, hfz20_0, hfz20_1, hfz20_2, hfz20_3⟩ := zce4 BK115.out) | ((with_reducible refine gate_callee (f := 111) rfl ?_); refine goesL_ (some 5) rfl rfl Try.func111 zq1 rfl #[.agg #[.int .i64 a0_0, .int .i64 a0_1]] rfl zq8 ?_; (with_reducible refine (isobathref01_Valid.calls a0_0 a0_1 true _ A2.out).mono ?_); rintro e w21 ⟨rfl, hb⟩; refine ⟨_, rfl, ?_⟩; replace BK115 := zbb BK115 hb; replace HB := zbs HB hb; (try clear hb); (try clear hb2); (try clear hk); (try clear hi); obtain ⟨hcz22_0, hcz22_1, hcz22_2, hcz22_3, hfz22_0, hfz22_1, hfz22_2, hfz22_3⟩ := zce4 BK115.out) | (go_at_call 111; (with_reducible refine (isobathref01_Valid.calls a0_2 a0_3 true _ A4.out).mono ?_); rintro e w23 ⟨rfl, hb⟩; replace BK115 := zbb BK115 hb; replace HB := zbs HB hb; (try clear hb); (try clear hb2); (try clear hk); (try clear hi); obtain ⟨hcz24_0, hcz24_1, hcz24_2, hcz24_3, hfz24_0, hfz24_1, hfz24_2, hfz24_3⟩ := zce4 BK115.out) | (go_at_call 112; (with_reducible refine (isobathref01_Within.calls a0_0 (-268435456) 268435456 true _ A6.out).mono ?_); rintro e w' ⟨rfl, ⟨nd, rfl⟩⟩) | (go_at_call 112; (with_reducible refine (isobathref01_Within.calls a0_1 (-268435456) 268435456 true _ A8.out).mono ?_); rintro e w' ⟨rfl, ⟨nd, rfl⟩⟩) | (go_at_call 112; (with_reducible refine (isobathref01_Within.calls a0_2 (-268435456) 268435456 false _ A10.out).mono ?_); rintro e w' ⟨rfl, ⟨nd, rfl⟩⟩))
      go_ret
      exact ⟨zq6, zbz⟩
    ·replace c9 := Bool.eq_false_iff.mpr c9
     subst c9
     have H1 : (some false) = some r := by rw [if_neg (show ¬ (false = true) by decide)] at H; exact H
     clear H
     have H := H1
     clear H1
     obtain rfl := Option.some.inj H
     go_enter Try.func63, Try.ntmps63
     go_wp2_with (first | ((with_reducible refine gate_dst (N := 1) rfl ?_); refine box_event (by rfl) (N := 1) (by rfl) (cs := #[.int .i64 a0_0, .int .i64 a0_1, .int .i64 a0_2, .int .i64 a0_3]) (t := 31) zq5 ?_; intro gb115 hg w25 hbox hb; have BK115 := Aside0.mk (hbox); have GW115 := zgs HB hg; have GE115 := zgs HB hg; replace HB := zbs HB hb; clear hb hbox hg; obtain ⟨hcz26_0, hcz26_1, hcz26_2, hcz26_3, hfz26_0, hfz26_1, hfz26_2, hfz26_3⟩ := zce4 BK115.out) | ((with_reducible refine gate_callee (f := 111) rfl ?_); refine goesL_ (some 5) rfl rfl Try.func111 zq1 rfl #[.agg #[.int .i64 a0_0, .int .i64 a0_1]] rfl zq8 ?_; (with_reducible refine (isobathref01_Valid.calls a0_0 a0_1 true _ A2.out).mono ?_); rintro e w27 ⟨rfl, hb⟩; refine ⟨_, rfl, ?_⟩; replace BK115 := zbb BK115 hb; replace HB := zbs HB hb; (try clear hb); (try clear hb2); (try clear hk); (try clear hi); obtain ⟨hcz28_0, hcz28_1, hcz28_2, hcz28_3, hfz28_0, hfz28_1, hfz28_2, hfz28_3⟩ := zce4 BK115.out) | (go_at_call 111; (with_reducible refine (isobathref01_Valid.calls a0_2 a0_3 true _ A4.out).mono ?_); rintro e w29 ⟨rfl, hb⟩; replace BK115 := zbb BK115 hb; replace HB := zbs HB hb; (try clear hb); (try clear hb2); (try clear hk); (try clear hi); obtain ⟨hcz30_0, hcz30_1, hcz30_2, hcz30_3, hfz30_0, hfz30_1, hfz30_2, hfz30_3⟩ := zce4 BK115.out) | (go_at_call 112; (with_reducible refine (isobathref01_Within.calls a0_0 (-268435456) 268435456 true _ A6.out).mono ?_); rintro e w' ⟨rfl, ⟨nd, rfl⟩⟩) | (go_at_call 112; (with_reducible refine (isobathref01_Within.calls a0_1 (-268435456) 268435456 false _ A8.out).mono ?_); rintro e w' ⟨rfl, ⟨nd, rfl⟩⟩))
     go_ret
     exact ⟨zq6, zbz⟩
   ·replace c7 := Bool.eq_false_iff.mpr c7
    subst c7
    have H1 : (some false) = some r := by rw [if_neg (show ¬ (false = true) by decide)] at H; exact H
    clear H
    have H := H1
    clear H1
    obtain rfl := Option.some.inj H
    go_enter Try.func63, Try.ntmps63
    go_wp2_with (first | ((with_reducible refine gate_dst (N := 1) rfl ?_); refine box_event (by rfl) (N := 1) (by rfl) (cs := #[.int .i64 a0_0, .int .i64 a0_1, .int .i64 a0_2, .int .i64 a0_3]) (t := 31) zq5 ?_; intro gb115 hg w31 hbox hb; have BK115 := Aside0.mk (hbox); have GW115 := zgs HB hg; have GE115 := zgs HB hg; replace HB := zbs HB hb; clear hb hbox hg; obtain ⟨hcz32_0, hcz32_1, hcz32_2, hcz32_3, hfz32_0, hfz32_1, hfz32_2, hfz32_3⟩ := zce4 BK115.out) | ((with_reducible refine gate_callee (f := 111) rfl ?_); refine goesL_ (some 5) rfl rfl Try.func111 zq1 rfl #[.agg #[.int .i64 a0_0, .int .i64 a0_1]] rfl zq8 ?_; (with_reducible refine (isobathref01_Valid.calls a0_0 a0_1 true _ A2.out).mono ?_); rintro e w33 ⟨rfl, hb⟩; refine ⟨_, rfl, ?_⟩; replace BK115 := zbb BK115 hb; replace HB := zbs HB hb; (try clear hb); (try clear hb2); (try clear hk); (try clear hi); obtain ⟨hcz34_0, hcz34_1, hcz34_2, hcz34_3, hfz34_0, hfz34_1, hfz34_2, hfz34_3⟩ := zce4 BK115.out) | (go_at_call 111; (with_reducible refine (isobathref01_Valid.calls a0_2 a0_3 true _ A4.out).mono ?_); rintro e w35 ⟨rfl, hb⟩; replace BK115 := zbb BK115 hb; replace HB := zbs HB hb; (try clear hb); (try clear hb2); (try clear hk); (try clear hi); obtain ⟨hcz36_0, hcz36_1, hcz36_2, hcz36_3, hfz36_0, hfz36_1, hfz36_2, hfz36_3⟩ := zce4 BK115.out) | (go_at_call 112; (with_reducible refine (isobathref01_Within.calls a0_0 (-268435456) 268435456 false _ A6.out).mono ?_); rintro e w' ⟨rfl, ⟨nd, rfl⟩⟩))
    go_ret
    exact ⟨zq6, zbz⟩
  ·replace c5 := Bool.eq_false_iff.mpr c5
   subst c5
   have H1 : (some false) = some r := by rw [if_neg (show ¬ (false = true) by decide)] at H; exact H
   clear H
   have H := H1
   clear H1
   obtain rfl := Option.some.inj H
   go_enter Try.func63, Try.ntmps63
   go_wp2_with (first | ((with_reducible refine gate_dst (N := 1) rfl ?_); refine box_event (by rfl) (N := 1) (by rfl) (cs := #[.int .i64 a0_0, .int .i64 a0_1, .int .i64 a0_2, .int .i64 a0_3]) (t := 31) zq5 ?_; intro gb115 hg w37 hbox hb; have BK115 := Aside0.mk (hbox); have GW115 := zgs HB hg; have GE115 := zgs HB hg; replace HB := zbs HB hb; clear hb hbox hg; obtain ⟨hcz38_0, hcz38_1, hcz38_2, hcz38_3, hfz38_0, hfz38_1, hfz38_2, hfz38_3⟩ := zce4 BK115.out) | ((with_reducible refine gate_callee (f := 111) rfl ?_); refine goesL_ (some 5) rfl rfl Try.func111 zq1 rfl #[.agg #[.int .i64 a0_0, .int .i64 a0_1]] rfl zq8 ?_; (with_reducible refine (isobathref01_Valid.calls a0_0 a0_1 true _ A2.out).mono ?_); rintro e w39 ⟨rfl, hb⟩; refine ⟨_, rfl, ?_⟩; replace BK115 := zbb BK115 hb; replace HB := zbs HB hb; (try clear hb); (try clear hb2); (try clear hk); (try clear hi); obtain ⟨hcz40_0, hcz40_1, hcz40_2, hcz40_3, hfz40_0, hfz40_1, hfz40_2, hfz40_3⟩ := zce4 BK115.out) | (go_at_call 111; (with_reducible refine (isobathref01_Valid.calls a0_2 a0_3 false _ A4.out).mono ?_); rintro e w41 ⟨rfl, hb⟩; replace BK115 := zbb BK115 hb; replace HB := zbs HB hb; (try clear hb); (try clear hb2); (try clear hk); (try clear hi)))
   go_ret
   exact ⟨zq6, zbz⟩
 ·replace c3 := Bool.eq_false_iff.mpr c3
  subst c3
  have H1 : (some false) = some r := by rw [if_neg (show ¬ (false = true) by decide)] at H; exact H
  clear H
  have H := H1
  clear H1
  obtain rfl := Option.some.inj H
  go_enter Try.func63, Try.ntmps63
  go_wp2_with (first | ((with_reducible refine gate_dst (N := 1) rfl ?_); refine box_event (by rfl) (N := 1) (by rfl) (cs := #[.int .i64 a0_0, .int .i64 a0_1, .int .i64 a0_2, .int .i64 a0_3]) (t := 31) zq5 ?_; intro gb115 hg w42 hbox hb; have BK115 := Aside0.mk (hbox); have GW115 := zgs HB hg; have GE115 := zgs HB hg; replace HB := zbs HB hb; clear hb hbox hg; obtain ⟨hcz43_0, hcz43_1, hcz43_2, hcz43_3, hfz43_0, hfz43_1, hfz43_2, hfz43_3⟩ := zce4 BK115.out) | ((with_reducible refine gate_callee (f := 111) rfl ?_); refine goesL_ (some 5) rfl rfl Try.func111 zq1 rfl #[.agg #[.int .i64 a0_0, .int .i64 a0_1]] rfl zq8 ?_; (with_reducible refine (isobathref01_Valid.calls a0_0 a0_1 false _ A2.out).mono ?_); rintro e w44 ⟨rfl, hb⟩; refine ⟨_, rfl, ?_⟩; replace BK115 := zbb BK115 hb; replace HB := zbs HB hb; (try clear hb); (try clear hb2); (try clear hk); (try clear hi)))
  go_ret
  exact ⟨zq6, zbz⟩

end Go.Proofs.Ytmhaiihjfgfaoaa.Pr
end
section
namespace Go.Proofs.Ytmhaiihjfgfaoaa.Pr
open Go.RowKit Go.Proofs.YtmhaiihjfgfaoaaW.PrintWords Go.Proofs.YtmhaiihjfgfaoaaW.PrintLast Go.Proofs.YtmhaiihjfgfaoaaW.PrintMore
attribute [local go_sem] max2_int min2_int max_two min_two max_four
set_option linter.unusedVariables false
set_option linter.unusedSimpArgs false

/-! ### isobathref03_boxes: function 90 -/
def isobathref03_boxes.l0 : Nat → List (S31) → Int → Option (Int)
 | 0, _, _ => none
 | k + 1, x0, x3 => if x3 < (x0.length : Int) then (if 0 ≤ x3 then ((isobathref01_ValidBox.f ((rd_T31 x0 x3).f0.f0) ((rd_T31 x0 x3).f0.f1) ((rd_T31 x0 x3).f1.f0) ((rd_T31 x0 x3).f1.f1)).bind fun t656 => (if t656 = true then (isobathref03_boxes.l0 k x0 (wrap64 (x3 + 1))) else (some 2))) else (none)) else (some 0)
def isobathref03_boxes.f (k : Nat) (l0 : List (S31)) : Option (Int) := if (l0.length : Int) > 64 then (some 6) else (isobathref03_boxes.l0 k l0 0)
set_option maxHeartbeats 8000000 in
set_option maxRecDepth 100000 in
theorem isobathref03_boxes.calls (k : Nat) (A0 : Option Addr) (c0 : Nat) (l0 : List (S31)) (r : Int) (w : World) (hr0 : Kd.C k31 w A0 l0.length l0) (hc0 : l0.length ≤ c0) (h : isobathref03_boxes.f k l0 = some r) :
  Calls Try.prog 90 #[.slice A0 l0.length c0] w fun e w' => e = .returned (.int .i64 r) ∧ Below w.heap.size w w' := by
 have hu31 := Try.underlying31
 have HR0 := Aside0.mk hr0
 have HC0 := Aside0.mk hc0
 clear hr0 hc0
 have HB := Aside0.mk (Below.refl w.heap.size w)
 have H : (if (l0.length : Int) > 64 then (some 6) else (isobathref03_boxes.l0 k l0 0)) = some r := h
 clear h
 by_cases c2 : (l0.length : Int) > 64
 ·rw [if_pos c2] at H
  have c2b0 : decide (64 < (l0.length : Int)) = true := decide_eq_true c2
  have c2b1 : decide (64 < l0.length) = true := decide_eq_true (by omega)
  clear c2
  obtain rfl := Option.some.inj H
  go_enter Try.func90, Try.ntmps90
  go_wp2
  go_ret
  exact ⟨zq6, zbz⟩
 ·rw [if_neg c2] at H
  have c2b0 : decide (64 < (l0.length : Int)) = false := decide_eq_false c2
  have c2b1 : decide (64 < l0.length) = false := decide_eq_false (by omega)
  clear c2
  have H' := Aside0.mk H
  clear H
  go_enter Try.func90, Try.ntmps90
  go_wp2
  go_loopg [3] k (fun kq v3 w' => ∃ (x3_1 : Int), v3 = .int .i64 x3_1 ∧ Aside0 (isobathref03_boxes.l0 kq l0 x3_1 = some r) ∧ Aside0 (kq ≤ k) ∧ Aside0 (Below w.heap.size w w'))
  case atStart => exact ⟨(0), zq2, H', ⟨Nat.le_refl _⟩, ⟨zbz⟩⟩
  case round =>
   clear H'
   try clear c2
   try clear c2b0
   try clear c2b1
   try clear p2
   obtain ⟨x3_1, rfl, HA, HK1, HB⟩ := hrel
   cases gk with
   | zero => exact absurd HA.out (by simp [isobathref03_boxes.l0])
   | succ k1 =>
    have H := HA.out
    clear HA
    simp only [isobathref03_boxes.l0] at H
    by_cases c3 : x3_1 < (l0.length : Int)
    ·rw [if_pos c3] at H
     have c3b0 : decide (x3_1 < (l0.length : Int)) = true := decide_eq_true c3
     clear c3
     by_cases c4 : 0 ≤ x3_1
     ·rw [if_pos c4] at H
      have c4b0 : decide (0 ≤ x3_1) = true := decide_eq_true c4
      clear c4
      replace H := Option.bind_eq_some_iff.mp H
      obtain ⟨t656, A50, H⟩ := H
      replace H : (if t656 = true then (isobathref03_boxes.l0 k1 l0 (wrap64 (x3_1 + 1))) else (some 2)) = some r := H
      have A5 := Aside0.mk A50
      clear A50
      by_cases c6 : t656 = true
      ·subst c6
       have H1 : (isobathref03_boxes.l0 k1 l0 (wrap64 (x3_1 + 1))) = some r := by rw [if_pos rfl] at H; exact H
       clear H
       have H := H1
       clear H1
       have H' := Aside0.mk H
       clear H
       have p655 : 0 ≤ (x3_1 : Int) := of_decide_eq_true zq4
       have q655 : x3_1 < (l0.length : Int) := of_decide_eq_true zq4
       obtain ⟨ad655, e655, hx655_0, hx655_1, hx655_2, hx655_3⟩ := at_T31 HR0.out x3_1 p655 q655
       cases e655
       replace hx655_0 := (HB.out.cell (World.block_lt_of_cell? w _ hx655_0)).trans hx655_0
       replace hx655_1 := (HB.out.cell (World.block_lt_of_cell? w _ hx655_1)).trans hx655_1
       replace hx655_2 := (HB.out.cell (World.block_lt_of_cell? w _ hx655_2)).trans hx655_2
       replace hx655_3 := (HB.out.cell (World.block_lt_of_cell? w _ hx655_3)).trans hx655_3
       replace p655 := eq_true p655
       replace q655 := eq_true q655
       go_wp2_with (first | ((with_reducible refine gate_callee (f := 63) rfl ?_); refine goesL_ (some 17) rfl rfl Try.func63 zq1 rfl #[.agg #[.int .i64 ((rd_T31 l0 x3_1).f0.f0), .int .i64 ((rd_T31 l0 x3_1).f0.f1), .int .i64 ((rd_T31 l0 x3_1).f1.f0), .int .i64 ((rd_T31 l0 x3_1).f1.f1)]] rfl zq8 ?_; (with_reducible refine (isobathref01_ValidBox.calls ((rd_T31 l0 x3_1).f0.f0) ((rd_T31 l0 x3_1).f0.f1) ((rd_T31 l0 x3_1).f1.f0) ((rd_T31 l0 x3_1).f1.f1) true _ A5.out).mono ?_); rintro e w7 ⟨rfl, hb⟩; refine ⟨_, rfl, ?_⟩; replace HB := zbs HB hb; (try clear hb); (try clear hb2); (try clear hk); (try clear hi)))
       go_roundg k1
       case measure => have := HK1.out; omega
       case rel => exact ⟨(wrap64 (x3_1 + 1)), zq2, H', ⟨zq7⟩, ⟨zbz⟩⟩
      ·replace c6 := Bool.eq_false_iff.mpr c6
       subst c6
       have H1 : (some 2) = some r := by rw [if_neg (show ¬ (false = true) by decide)] at H; exact H
       clear H
       have H := H1
       clear H1
       obtain rfl := Option.some.inj H
       have p655 : 0 ≤ (x3_1 : Int) := of_decide_eq_true zq4
       have q655 : x3_1 < (l0.length : Int) := of_decide_eq_true zq4
       obtain ⟨ad655, e655, hx655_0, hx655_1, hx655_2, hx655_3⟩ := at_T31 HR0.out x3_1 p655 q655
       cases e655
       replace hx655_0 := (HB.out.cell (World.block_lt_of_cell? w _ hx655_0)).trans hx655_0
       replace hx655_1 := (HB.out.cell (World.block_lt_of_cell? w _ hx655_1)).trans hx655_1
       replace hx655_2 := (HB.out.cell (World.block_lt_of_cell? w _ hx655_2)).trans hx655_2
       replace hx655_3 := (HB.out.cell (World.block_lt_of_cell? w _ hx655_3)).trans hx655_3
       replace p655 := eq_true p655
       replace q655 := eq_true q655
       go_wp2_with (first | ((with_reducible refine gate_callee (f := 63) rfl ?_); refine goesL_ (some 17) rfl rfl Try.func63 zq1 rfl #[.agg #[.int .i64 ((rd_T31 l0 x3_1).f0.f0), .int .i64 ((rd_T31 l0 x3_1).f0.f1), .int .i64 ((rd_T31 l0 x3_1).f1.f0), .int .i64 ((rd_T31 l0 x3_1).f1.f1)]] rfl zq8 ?_; (with_reducible refine (isobathref01_ValidBox.calls ((rd_T31 l0 x3_1).f0.f0) ((rd_T31 l0 x3_1).f0.f1) ((rd_T31 l0 x3_1).f1.f0) ((rd_T31 l0 x3_1).f1.f1) false _ A5.out).mono ?_); rintro e w8 ⟨rfl, hb⟩; refine ⟨_, rfl, ?_⟩; replace HB := zbs HB hb; (try clear hb); (try clear hb2); (try clear hk); (try clear hi)))
       go_ret
       exact ⟨zq6, zbz⟩
     ·rw [if_neg c4] at H
      exact absurd H (by simp)
    ·rw [if_neg c3] at H
     have c3b0 : decide (x3_1 < (l0.length : Int)) = false := decide_eq_false c3
     clear c3
     obtain rfl := Option.some.inj H
     go_wp2
     go_ret
     exact ⟨zq6, zbz⟩

end Go.Proofs.Ytmhaiihjfgfaoaa.Pr
end
