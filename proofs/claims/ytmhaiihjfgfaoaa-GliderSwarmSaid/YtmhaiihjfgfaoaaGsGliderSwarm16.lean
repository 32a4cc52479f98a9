/- Part 16 of the proof of GliderSwarm: what the functions compute. No condition. -/
import Derived.Test.YtmhaiihjfgfaoaaGsGliderSwarm3
import Derived.Test.YtmhaiihjfgfaoaaGsGliderSwarm14
set_option linter.unusedSimpArgs false
section
namespace Go.Proofs.Ytmhaiihjfgfaoaa.Pr
open Go.RowKit Go.Proofs.YtmhaiihjfgfaoaaW.PrintWords Go.Proofs.YtmhaiihjfgfaoaaW.PrintLast Go.Proofs.YtmhaiihjfgfaoaaW.PrintMore
attribute [local go_sem] max2_int min2_int max_two min_two max_four
set_option linter.unusedVariables false
set_option linter.unusedSimpArgs false

/-! ### isobathref03_Cell: function 42 -/
def isobathref03_Cell.f (a0_0 : Int) (a0_1 : Int) (a0_2 : Int) (a0_3 : Int) (a0_4 : Int) (a0_5 : Int) (a0_6 : Int) (l0_7 : List Bool) (l0_8 : List (S40)) (a1 : Int) : Option (Int × Int × Int × Int) := if a0_0 = 0 then (none) else (some (wrap64 ((Int.tmod a1 a0_0) * a0_2), wrap64 ((wrap64 ((Int.tmod a1 a0_0) + 1)) * a0_2), wrap64 ((wrap64 (Int.tdiv a1 a0_0)) * a0_2), wrap64 ((wrap64 ((wrap64 (Int.tdiv a1 a0_0)) + 1)) * a0_2)))
set_option maxHeartbeats 8000000 in
set_option maxRecDepth 100000 in
theorem isobathref03_Cell.calls (a0_0 : Int) (a0_1 : Int) (a0_2 : Int) (a0_3 : Int) (a0_4 : Int) (a0_5 : Int) (a0_6 : Int) (A0_7 : Option Addr) (c0_7 : Nat) (l0_7 : List Bool) (A0_8 : Option Addr) (c0_8 : Nat) (l0_8 : List (S40)) (a1 : Int) (r1 : Int) (r2 : Int) (r3 : Int) (r4 : Int) (w : World) (hr0_7 : Kd.C Kd.bool w A0_7 l0_7.length l0_7) (hc0_7 : l0_7.length ≤ c0_7) (hr0_8 : Kd.C k40 w A0_8 l0_8.length l0_8) (hc0_8 : l0_8.length ≤ c0_8) (h : isobathref03_Cell.f a0_0 a0_1 a0_2 a0_3 a0_4 a0_5 a0_6 l0_7 l0_8 a1 = some (r1, r2, r3, r4)) :
  Calls Try.prog 42 #[.agg #[.int .i64 a0_0, .int .i64 a0_1, .int .i64 a0_2, .int .i64 a0_3, .int .i64 a0_4, .int .i64 a0_5, .int .i64 a0_6, .slice A0_7 l0_7.length c0_7, .slice A0_8 l0_8.length c0_8], .int .i64 a1] w fun e w' => e = .returned (.agg #[.int .i64 r1, .int .i64 r2, .int .i64 r3, .int .i64 r4]) ∧ Below w.heap.size w w' := by
 have hu25 := Try.underlying25
 have hu31 := Try.underlying31
 have hu27 := Try.underlying27
 have HR0_7 := Aside0.mk hr0_7
 have HC0_7 := Aside0.mk hc0_7
 clear hr0_7 hc0_7
 have HR0_8 := Aside0.mk hr0_8
 have HC0_8 := Aside0.mk hc0_8
 clear hr0_8 hc0_8
 have HB := Aside0.mk (Below.refl w.heap.size w)
 have H : (if a0_0 = 0 then (none) else (some (wrap64 ((Int.tmod a1 a0_0) * a0_2), wrap64 ((wrap64 ((Int.tmod a1 a0_0) + 1)) * a0_2), wrap64 ((wrap64 (Int.tdiv a1 a0_0)) * a0_2), wrap64 ((wrap64 ((wrap64 (Int.tdiv a1 a0_0)) + 1)) * a0_2)))) = some (r1, r2, r3, r4) := h
 clear h
 by_cases c3 : a0_0 = 0
 ·rw [if_pos c3] at H
  exact absurd H (by simp)
 ·rw [if_neg c3] at H
  have c3b0 : (a0_0 == 0) = false := beq_eq_false_iff_ne.mpr c3
  have c3b1 : (a0_0 != 0) = true := bne_iff_ne.mpr c3
  simp only [Option.some.injEq, Prod.mk.injEq] at H
  obtain ⟨rfl, rfl, rfl, rfl⟩ := H
  go_enter Try.func42, Try.ntmps42
  go_wp2_with (first | ((with_reducible refine gate_dst (N := 2) rfl ?_); refine box_event (by rfl) (N := 2) (by rfl) (cs := #[.int .i64 a0_0, .int .i64 a0_1, .int .i64 a0_2, .int .i64 a0_3, .int .i64 a0_4, .int .i64 a0_5, .int .i64 a0_6, .slice A0_7 l0_7.length c0_7, .slice A0_8 l0_8.length c0_8]) (t := 25) zq5 ?_; intro gb331 hg w4 hbox hb; have BK331 := Aside0.mk (hbox); have GW331 := zgs HB hg; have GE331 := zgs HB hg; replace HB := zbs HB hb; clear hb hbox hg) | ((with_reducible refine gate_dst (N := 4) rfl ?_); refine box_event (by rfl) (N := 4) (by rfl) (cs := #[.int .i64 0, .int .i64 0, .int .i64 0, .int .i64 0]) (t := 31) zq5 ?_; intro gb332 hg w5 hbox hb; have BK332 := Aside0.mk (hbox); have GW332 := zgs HB hg; have GE332 := zgs HB hg; have NB331_332 := znp BK331 hg; have NB332_331 := znq BK331 hg; replace BK331 := zbb BK331 hb; replace HB := zbs HB hb; clear hb hbox hg; have hnb6 := NB331_332.out; have hnc6 := NB332_331.out; obtain ⟨hcz7_0, hcz7_1, hcz7_2, hcz7_3, hcz7_4, hcz7_5, hcz7_6, hcz7_7, hcz7_8, hfz7_0, hfz7_1, hfz7_2, hfz7_3, hfz7_4, hfz7_5, hfz7_6, hfz7_7, hfz7_8⟩ := zce9 BK331.out; obtain ⟨hcz8_0, hcz8_1, hcz8_2, hcz8_3, hfz8_0, hfz8_1, hfz8_2, hfz8_3⟩ := zce4 BK332.out))
  repeat (go_quiet (first | ((with_reducible refine gate_dst (N := 2) rfl ?_); refine box_event (by rfl) (N := 2) (by rfl) (cs := #[.int .i64 a0_0, .int .i64 a0_1, .int .i64 a0_2, .int .i64 a0_3, .int .i64 a0_4, .int .i64 a0_5, .int .i64 a0_6, .slice A0_7 l0_7.length c0_7, .slice A0_8 l0_8.length c0_8]) (t := 25) zq5 ?_; intro gb331 hg w4 hbox hb; have BK331 := Aside0.mk (hbox); have GW331 := zgs HB hg; have GE331 := zgs HB hg; replace HB := zbs HB hb; clear hb hbox hg) | ((with_reducible refine gate_dst (N := 4) rfl ?_); refine box_event (by rfl) (N := 4) (by rfl) (cs := #[.int .i64 0, .int .i64 0, .int .i64 0, .int .i64 0]) (t := 31) zq5 ?_; intro gb332 hg w5 hbox hb; have BK332 := Aside0.mk (hbox); have GW332 := zgs HB hg; have GE332 := zgs HB hg; have NB331_332 := znp BK331 hg; have NB332_331 := znq BK331 hg; replace BK331 := zbb BK331 hb; replace HB := zbs HB hb; clear hb hbox hg; have hnb6 := NB331_332.out; have hnc6 := NB332_331.out; obtain ⟨hcz7_0, hcz7_1, hcz7_2, hcz7_3, hcz7_4, hcz7_5, hcz7_6, hcz7_7, hcz7_8, hfz7_0, hfz7_1, hfz7_2, hfz7_3, hfz7_4, hfz7_5, hfz7_6, hfz7_7, hfz7_8⟩ := zce9 BK331.out; obtain ⟨hcz8_0, hcz8_1, hcz8_2, hcz8_3, hfz8_0, hfz8_1, hfz8_2, hfz8_3⟩ := zce4 BK332.out)); try go_wp2_with (first | ((with_reducible refine gate_dst (N := 2) rfl ?_); refine box_event (by rfl) (N := 2) (by rfl) (cs := #[.int .i64 a0_0, .int .i64 a0_1, .int .i64 a0_2, .int .i64 a0_3, .int .i64 a0_4, .int .i64 a0_5, .int .i64 a0_6, .slice A0_7 l0_7.length c0_7, .slice A0_8 l0_8.length c0_8]) (t := 25) zq5 ?_; intro gb331 hg w4 hbox hb; have BK331 := Aside0.mk (hbox); have GW331 := zgs HB hg; have GE331 := zgs HB hg; replace HB := zbs HB hb; clear hb hbox hg) | ((with_reducible refine gate_dst (N := 4) rfl ?_); refine box_event (by rfl) (N := 4) (by rfl) (cs := #[.int .i64 0, .int .i64 0, .int .i64 0, .int .i64 0]) (t := 31) zq5 ?_; intro gb332 hg w5 hbox hb; have BK332 := Aside0.mk (hbox); have GW332 := zgs HB hg; have GE332 := zgs HB hg; have NB331_332 := znp BK331 hg; have NB332_331 := znq BK331 hg; replace BK331 := zbb BK331 hb; replace HB := zbs HB hb; clear hb hbox hg; have hnb6 := NB331_332.out; have hnc6 := NB332_331.out; obtain ⟨hcz7_0, hcz7_1, hcz7_2, hcz7_3, hcz7_4, hcz7_5, hcz7_6, hcz7_7, hcz7_8, hfz7_0, hfz7_1, hfz7_2, hfz7_3, hfz7_4, hfz7_5, hfz7_6, hfz7_7, hfz7_8⟩ := zce9 BK331.out; obtain ⟨hcz8_0, hcz8_1, hcz8_2, hcz8_3, hfz8_0, hfz8_1, hfz8_2, hfz8_3⟩ := zce4 BK332.out)))
  refine bodyPost_ret (results_cell_row rfl _ _ gb332 31 #[.int .i64 (wrap64 ((Int.tmod a1 a0_0) * a0_2)), .int .i64 (wrap64 ((wrap64 ((Int.tmod a1 a0_0) + 1)) * a0_2)), .int .i64 (wrap64 ((wrap64 (Int.tdiv a1 a0_0)) * a0_2)), .int .i64 (wrap64 ((wrap64 ((wrap64 (Int.tdiv a1 a0_0)) + 1)) * a0_2))] (0, 0) _ rfl (by (with_reducible repeat (first | refine blk_drewN ?_ _ | refine blk_drew ?_ | refine blk_alloc ?_ _)); refine blk_put (cs := #[.int .i64 (wrap64 ((Int.tmod a1 a0_0) * a0_2)), .int .i64 (wrap64 ((wrap64 ((Int.tmod a1 a0_0) + 1)) * a0_2)), .int .i64 (wrap64 ((wrap64 (Int.tdiv a1 a0_0)) * a0_2)), .int .i64 0]) ?_ 3 _ rfl; (with_reducible repeat (first | refine blk_drewN ?_ _ | refine blk_drew ?_ | refine blk_alloc ?_ _)); refine blk_put (cs := #[.int .i64 (wrap64 ((Int.tmod a1 a0_0) * a0_2)), .int .i64 (wrap64 ((wrap64 ((Int.tmod a1 a0_0) + 1)) * a0_2)), .int .i64 0, .int .i64 0]) ?_ 2 _ rfl; (with_reducible repeat (first | refine blk_drewN ?_ _ | refine blk_drew ?_ | refine blk_alloc ?_ _)); refine blk_put (cs := #[.int .i64 (wrap64 ((Int.tmod a1 a0_0) * a0_2)), .int .i64 0, .int .i64 0, .int .i64 0]) ?_ 1 _ rfl; (with_reducible repeat (first | refine blk_drewN ?_ _ | refine blk_drew ?_ | refine blk_alloc ?_ _)); refine blk_put (cs := #[.int .i64 0, .int .i64 0, .int .i64 0, .int .i64 0]) ?_ 0 _ rfl; (with_reducible repeat (first | refine blk_drewN ?_ _ | refine blk_drew ?_ | refine blk_alloc ?_ _)); exact BK332.out) Try.underlying31 rfl zq1) rfl ?_
  exact ⟨zq6, zbz⟩

end Go.Proofs.Ytmhaiihjfgfaoaa.Pr
end
section
namespace Go.Proofs.Ytmhaiihjfgfaoaa.Pr
open Go.RowKit Go.Proofs.YtmhaiihjfgfaoaaW.PrintWords Go.Proofs.YtmhaiihjfgfaoaaW.PrintLast Go.Proofs.YtmhaiihjfgfaoaaW.PrintMore
attribute [local go_sem] max2_int min2_int max_two min_two max_four
set_option linter.unusedVariables false
set_option linter.unusedSimpArgs false

/-! ### isobathref01_In: function 91 -/
mutual
def isobathref01_In.j0 : Nat → Bool → Int → Int → Int → Int → Option (Int × Int)
 | 0, _, _, _, _, _ => none
 | k + 1, x13, x646000, x646001, x647000, x647001 => if x13 = true then (some (0, 2)) else (if x646000 ≥ x647000 then (isobathref01_In.j1 k (decide (x646001 ≤ x647001)) x646000 x646001 x647000 x647001) else (isobathref01_In.j1 k false x646000 x646001 x647000 x647001))
def isobathref01_In.j1 : Nat → Bool → Int → Int → Int → Int → Option (Int × Int)
 | 0, _, _, _, _, _ => none
 | k + 1, x25, x646000, x646001, x647000, x647001 => if x25 = true then (some (2, 0)) else (if x646001 < x647000 then (some (0, 0)) else (if x646000 > x647001 then (some (0, 0)) else (some (1, 0))))
end
def isobathref01_In.f (k : Nat) (a0_0 : Int) (a0_1 : Int) (a1_0 : Int) (a1_1 : Int) : Option (Int × Int) := (isobathref01_Valid.f a0_0 a0_1).bind fun t647 => (if t647 = true then ((isobathref01_Valid.f a1_0 a1_1).bind fun t648 => (isobathref01_In.j0 k (!t648) a0_0 a0_1 a1_0 a1_1)) else (isobathref01_In.j0 k true a0_0 a0_1 a1_0 a1_1))
set_option maxHeartbeats 8000000 in
set_option maxRecDepth 100000 in
theorem isobathref01_In.calls (k : Nat) (a0_0 : Int) (a0_1 : Int) (a1_0 : Int) (a1_1 : Int) (r1 : Int) (r2 : Int) (w : World) (h : isobathref01_In.f k a0_0 a0_1 a1_0 a1_1 = some (r1, r2)) :
  Calls Try.prog 91 #[.agg #[.int .i64 a0_0, .int .i64 a0_1], .agg #[.int .i64 a1_0, .int .i64 a1_1]] w fun e w' => e = .returned (.tuple #[.int .i64 r1, .int .i64 r2]) ∧ Below w.heap.size w w' := by
 have hu27 := Try.underlying27
 have HB := Aside0.mk (Below.refl w.heap.size w)
 have H : ((isobathref01_Valid.f a0_0 a0_1).bind fun t647 => (if t647 = true then ((isobathref01_Valid.f a1_0 a1_1).bind fun t648 => (isobathref01_In.j0 k (!t648) a0_0 a0_1 a1_0 a1_1)) else (isobathref01_In.j0 k true a0_0 a0_1 a1_0 a1_1))) = some (r1, r2) := h
 clear h
 have HC3 := Aside0.mk H
 clear H
 go_enter Try.func91, Try.ntmps91
 go_upto_region 1 with (first | ((with_reducible refine gate_dst (N := 2) rfl ?_); refine box_event (by rfl) (N := 2) (by rfl) (cs := #[.int .i64 a0_0, .int .i64 a0_1]) (t := 27) zq5 ?_; intro gb645 hg w4 hbox hb; have BK645 := Aside0.mk (hbox); have GW645 := zgs HB hg; have GE645 := zgs HB hg; replace HB := zbs HB hb; clear hb hbox hg) | ((with_reducible refine gate_dst (N := 3) rfl ?_); refine box_event (by rfl) (N := 3) (by rfl) (cs := #[.int .i64 a1_0, .int .i64 a1_1]) (t := 27) zq5 ?_; intro gb646 hg w5 hbox hb; have BK646 := Aside0.mk (hbox); have GW646 := zgs HB hg; have GE646 := zgs HB hg; have NB645_646 := znp BK645 hg; have NB646_645 := znq BK645 hg; replace BK645 := zbb BK645 hb; replace HB := zbs HB hb; clear hb hbox hg))
 (try simp only [Act.put, List.setIfInBounds_toArray, List.set_cons_zero, List.set_cons_succ])
 go_cut [13] (fun v13 wc => ∃ (kq : Nat) (x13_2 : Bool), v13 = .bool x13_2 ∧ Aside0 (isobathref01_In.j0 kq x13_2 a0_0 a0_1 a1_0 a1_1 = some (r1, r2)) ∧ Aside0 (kq ≤ k) ∧ Aside0 (wc.heap[gb645]? = some (.cells #[.int .i64 a0_0, .int .i64 a0_1] 27 (0, 0))) ∧ Aside0 (wc.heap[gb646]? = some (.cells #[.int .i64 a1_0, .int .i64 a1_1] 27 (0, 0))) ∧ Aside0 (Below w.heap.size w wc))
 case first =>
  have H := HC3.out
  clear HC3
  replace H := Option.bind_eq_some_iff.mp H
  obtain ⟨t647, A60, H⟩ := H
  replace H : (if t647 = true then ((isobathref01_Valid.f a1_0 a1_1).bind fun t648 => (isobathref01_In.j0 k (!t648) a0_0 a0_1 a1_0 a1_1)) else (isobathref01_In.j0 k true a0_0 a0_1 a1_0 a1_1)) = some (r1, r2) := H
  have A6 := Aside0.mk A60
  clear A60
  by_cases c7 : t647 = true
  ·subst c7
   have H1 : ((isobathref01_Valid.f a1_0 a1_1).bind fun t648 => (isobathref01_In.j0 k (!t648) a0_0 a0_1 a1_0 a1_1)) = some (r1, r2) := by rw [if_pos rfl] at H; exact H
   clear H
   have H := H1
   clear H1
   replace H := Option.bind_eq_some_iff.mp H
   obtain ⟨t648, A80, H⟩ := H
   replace H : (isobathref01_In.j0 k (!t648) a0_0 a0_1 a1_0 a1_1) = some (r1, r2) := H
   have A8 := Aside0.mk A80
   clear A80
   have H' := Aside0.mk H
   clear H
   have hnb9 := NB645_646.out
   have hnc9 := NB646_645.out
   obtain ⟨hcz10_0, hcz10_1, hfz10_0, hfz10_1⟩ := zce2 BK645.out
   go_wp2_with (first | ((with_reducible refine gate_callee (f := 111) rfl ?_); refine goesL_ (some 7) rfl rfl Try.func111 zq1 rfl #[.agg #[.int .i64 a0_0, .int .i64 a0_1]] rfl zq7 ?_; (with_reducible refine (isobathref01_Valid.calls a0_0 a0_1 true _ A6.out).mono ?_); rintro e w11 ⟨rfl, hb⟩; refine ⟨_, rfl, ?_⟩; replace BK645 := zbb BK645 hb; replace BK646 := zbb BK646 hb; replace HB := zbs HB hb; (try clear hb); (try clear hb2); (try clear hk); (try clear hi); obtain ⟨hcz12_0, hcz12_1, hfz12_0, hfz12_1⟩ := zce2 BK646.out) | (go_at_call 111; (with_reducible refine (isobathref01_Valid.calls a1_0 a1_1 t648 _ A8.out).mono ?_); rintro e w13 ⟨rfl, hb⟩; replace BK645 := zbb BK645 hb; replace BK646 := zbb BK646 hb; replace HB := zbs HB hb; (try clear hb); (try clear hb2); (try clear hk); (try clear hi)))
   go_meet
   case rel => exact ⟨_, (!t648), zq2, H', ⟨zq42⟩, ⟨zbf⟩, ⟨zbf⟩, ⟨zbz⟩⟩
  ·replace c7 := Bool.eq_false_iff.mpr c7
   subst c7
   have H1 : (isobathref01_In.j0 k true a0_0 a0_1 a1_0 a1_1) = some (r1, r2) := by rw [if_neg (show ¬ (false = true) by decide)] at H; exact H
   clear H
   have H := H1
   clear H1
   have H' := Aside0.mk H
   clear H
   have hnb14 := NB645_646.out
   have hnc14 := NB646_645.out
   obtain ⟨hcz15_0, hcz15_1, hfz15_0, hfz15_1⟩ := zce2 BK645.out
   go_wp2_with (first | ((with_reducible refine gate_callee (f := 111) rfl ?_); refine goesL_ (some 7) rfl rfl Try.func111 zq1 rfl #[.agg #[.int .i64 a0_0, .int .i64 a0_1]] rfl zq7 ?_; (with_reducible refine (isobathref01_Valid.calls a0_0 a0_1 false _ A6.out).mono ?_); rintro e w16 ⟨rfl, hb⟩; refine ⟨_, rfl, ?_⟩; replace BK645 := zbb BK645 hb; replace BK646 := zbb BK646 hb; replace HB := zbs HB hb; (try clear hb); (try clear hb2); (try clear hk); (try clear hi)))
   go_meet
   case rel => exact ⟨_, (true), zq2, H', ⟨zq42⟩, ⟨zbf⟩, ⟨zbf⟩, ⟨zbz⟩⟩
 case rest =>
  clear HC3
  try clear c1
  try clear p2
  try clear c7
  try clear c9
  try clear c11
  try clear c14
  try clear hcz10_0 hcz10_1
  try clear hcz12_0 hcz12_1
  try clear hcz15_0 hcz15_1
  try clear hfz10_0 hfz10_1
  try clear hfz12_0 hfz12_1
  try clear hfz15_0 hfz15_1
  obtain ⟨kq, x13_2, rfl, HA, HJ2, BK645, BK646, HB⟩ := hcut
  cases kq with
  | zero => exact absurd HA.out (by simp [isobathref01_In.j0])
  | succ kj2 =>
   have H := HA.out
   clear HA
   simp only [isobathref01_In.j0] at H
   by_cases c17 : x13_2 = true
   ·subst c17
    have H1 : (some (0, 2)) = some (r1, r2) := by rw [if_pos rfl] at H; exact H
    clear H
    have H := H1
    clear H1
    simp only [Option.some.injEq, Prod.mk.injEq] at H
    obtain ⟨rfl, rfl⟩ := H
    go_wp2
    go_ret2
    exact ⟨zq6, zbz⟩
   ·replace c17 := Bool.eq_false_iff.mpr c17
    subst c17
    have H1 : (if a0_0 ≥ a1_0 then (isobathref01_In.j1 kj2 (decide (a0_1 ≤ a1_1)) a0_0 a0_1 a1_0 a1_1) else (isobathref01_In.j1 kj2 false a0_0 a0_1 a1_0 a1_1)) = some (r1, r2) := by rw [if_neg (show ¬ (false = true) by decide)] at H; exact H
    clear H
    have H := H1
    clear H1
    have HC18 := Aside0.mk H
    clear H
    go_upto_region 3 with (fail)
    go_cut [25] (fun v25 wc => ∃ (kq : Nat) (x25_17 : Bool), v25 = .bool x25_17 ∧ Aside0 (isobathref01_In.j1 kq x25_17 a0_0 a0_1 a1_0 a1_1 = some (r1, r2)) ∧ Aside0 (kq ≤ kj2) ∧ Aside0 (wc.heap[gb645]? = some (.cells #[.int .i64 a0_0, .int .i64 a0_1] 27 (0, 0))) ∧ Aside0 (wc.heap[gb646]? = some (.cells #[.int .i64 a1_0, .int .i64 a1_1] 27 (0, 0))) ∧ Aside0 (Below w.heap.size w wc))
    case first =>
     have H := HC18.out
     clear HC18
     by_cases c19 : a0_0 ≥ a1_0
     ·rw [if_pos c19] at H
      have c19b0 : decide (a1_0 ≤ a0_0) = true := decide_eq_true c19
      clear c19
      (first | rw [c19b0] | (simp only [i64_w, i32_w]; rw [c19b0]) | skip)
      have H' := Aside0.mk H
      clear H
      have hnb20 := NB645_646.out
      have hnc20 := NB646_645.out
      obtain ⟨hcz21_0, hcz21_1, hfz21_0, hfz21_1⟩ := zce2 BK645.out
      obtain ⟨hcz22_0, hcz22_1, hfz22_0, hfz22_1⟩ := zce2 BK646.out
      go_wp2
      go_meet
      case rel => exact ⟨_, (decide (a0_1 ≤ a1_1)), zq2, H', ⟨by have := HJ2.out; first | omega | exact Nat.le_refl _⟩, ⟨zbf⟩, ⟨zbf⟩, ⟨zbz⟩⟩
     ·rw [if_neg c19] at H
      have c19b0 : decide (a1_0 ≤ a0_0) = false := decide_eq_false c19
      clear c19
      (first | rw [c19b0] | (simp only [i64_w, i32_w]; rw [c19b0]) | skip)
      have H' := Aside0.mk H
      clear H
      have hnb23 := NB645_646.out
      have hnc23 := NB646_645.out
      obtain ⟨hcz24_0, hcz24_1, hfz24_0, hfz24_1⟩ := zce2 BK645.out
      obtain ⟨hcz25_0, hcz25_1, hfz25_0, hfz25_1⟩ := zce2 BK646.out
      go_wp2
      go_meet
      case rel => exact ⟨_, (false), zq2, H', ⟨by have := HJ2.out; first | omega | exact Nat.le_refl _⟩, ⟨zbf⟩, ⟨zbf⟩, ⟨zbz⟩⟩
    case rest =>
     clear HC18
     try clear c1
     try clear c2
     try clear p2
     try clear c7
     try clear c9
     try clear c11
     try clear c14
     try clear c17
     try clear c19
     try clear c19b0
     try clear c20
     try clear c23
     try clear hcz10_0 hcz10_1
     try clear hcz12_0 hcz12_1
     try clear hcz15_0 hcz15_1
     try clear hcz21_0 hcz21_1
     try clear hcz22_0 hcz22_1
     try clear hcz24_0 hcz24_1
     try clear hcz25_0 hcz25_1
     try clear hfz10_0 hfz10_1
     try clear hfz12_0 hfz12_1
     try clear hfz15_0 hfz15_1
     try clear hfz21_0 hfz21_1
     try clear hfz22_0 hfz22_1
     try clear hfz24_0 hfz24_1
     try clear hfz25_0 hfz25_1
     try clear p2
     obtain ⟨kq, x25_17, rfl, HA, HJ17, BK645, BK646, HB⟩ := hcut
     cases kq with
     | zero => exact absurd HA.out (by simp [isobathref01_In.j1])
     | succ kj17 =>
      have H := HA.out
      clear HA
      simp only [isobathref01_In.j1] at H
      by_cases c26 : x25_17 = true
      ·subst c26
       have H1 : (some (2, 0)) = some (r1, r2) := by rw [if_pos rfl] at H; exact H
       clear H
       have H := H1
       clear H1
       simp only [Option.some.injEq, Prod.mk.injEq] at H
       obtain ⟨rfl, rfl⟩ := H
       go_wp2
       go_ret2
       exact ⟨zq6, zbz⟩
      ·replace c26 := Bool.eq_false_iff.mpr c26
       subst c26
       have H1 : (if a0_1 < a1_0 then (some (0, 0)) else (if a0_0 > a1_1 then (some (0, 0)) else (some (1, 0)))) = some (r1, r2) := by rw [if_neg (show ¬ (false = true) by decide)] at H; exact H
       clear H
       have H := H1
       clear H1
       by_cases c27 : a0_1 < a1_0
       ·rw [if_pos c27] at H
        have c27b0 : decide (a0_1 < a1_0) = true := decide_eq_true c27
        clear c27
        simp only [Option.some.injEq, Prod.mk.injEq] at H
        obtain ⟨rfl, rfl⟩ := H
        have hnb28 := NB645_646.out
        have hnc28 := NB646_645.out
        obtain ⟨hcz29_0, hcz29_1, hfz29_0, hfz29_1⟩ := zce2 BK645.out
        obtain ⟨hcz30_0, hcz30_1, hfz30_0, hfz30_1⟩ := zce2 BK646.out
        go_wp2
        go_ret2
        exact ⟨zq6, zbz⟩
       ·rw [if_neg c27] at H
        have c27b0 : decide (a0_1 < a1_0) = false := decide_eq_false c27
        clear c27
        by_cases c31 : a0_0 > a1_1
        ·rw [if_pos c31] at H
         have c31b0 : decide (a1_1 < a0_0) = true := decide_eq_true c31
         clear c31
         simp only [Option.some.injEq, Prod.mk.injEq] at H
         obtain ⟨rfl, rfl⟩ := H
         have hnb32 := NB645_646.out
         have hnc32 := NB646_645.out
         obtain ⟨hcz33_0, hcz33_1, hfz33_0, hfz33_1⟩ := zce2 BK645.out
         obtain ⟨hcz34_0, hcz34_1, hfz34_0, hfz34_1⟩ := zce2 BK646.out
         go_wp2
         go_ret2
         exact ⟨zq6, zbz⟩
        ·rw [if_neg c31] at H
         have c31b0 : decide (a1_1 < a0_0) = false := decide_eq_false c31
         clear c31
         simp only [Option.some.injEq, Prod.mk.injEq] at H
         obtain ⟨rfl, rfl⟩ := H
         have hnb35 := NB645_646.out
         have hnc35 := NB646_645.out
         obtain ⟨hcz36_0, hcz36_1, hfz36_0, hfz36_1⟩ := zce2 BK645.out
         obtain ⟨hcz37_0, hcz37_1, hfz37_0, hfz37_1⟩ := zce2 BK646.out
         go_wp2
         go_ret2
         exact ⟨zq6, zbz⟩

end Go.Proofs.Ytmhaiihjfgfaoaa.Pr
end
section
namespace Go.Proofs.Ytmhaiihjfgfaoaa.Pr
open Go.RowKit Go.Proofs.YtmhaiihjfgfaoaaW.PrintWords Go.Proofs.YtmhaiihjfgfaoaaW.PrintLast Go.Proofs.YtmhaiihjfgfaoaaW.PrintMore
attribute [local go_sem] max2_int min2_int max_two min_two max_four
set_option linter.unusedVariables false
set_option linter.unusedSimpArgs false

/-! ### isobathref03_Inside: function 43 -/
def isobathref03_Inside.f (k : Nat) (a0_0 : Int) (a0_1 : Int) (a0_2 : Int) (a0_3 : Int) (a1_0 : Int) (a1_1 : Int) (a1_2 : Int) (a1_3 : Int) : Option (Int) := (isobathref01_In.f k a0_0 a0_1 a1_0 a1_1).bind fun bt651 => ((isobathref01_In.f k a0_2 a0_3 a1_2 a1_3).bind fun bt653 => (some (mn bt651.1 bt653.1)))
set_option maxHeartbeats 8000000 in
set_option maxRecDepth 100000 in
theorem isobathref03_Inside.calls (k : Nat) (a0_0 : Int) (a0_1 : Int) (a0_2 : Int) (a0_3 : Int) (a1_0 : Int) (a1_1 : Int) (a1_2 : Int) (a1_3 : Int) (r : Int) (w : World) (h : isobathref03_Inside.f k a0_0 a0_1 a0_2 a0_3 a1_0 a1_1 a1_2 a1_3 = some r) :
  Calls Try.prog 43 #[.agg #[.int .i64 a0_0, .int .i64 a0_1, .int .i64 a0_2, .int .i64 a0_3], .agg #[.int .i64 a1_0, .int .i64 a1_1, .int .i64 a1_2, .int .i64 a1_3]] w fun e w' => e = .returned (.int .i64 r) ∧ Below w.heap.size w w' := by
 have hu31 := Try.underlying31
 have hu27 := Try.underlying27
 have HB := Aside0.mk (Below.refl w.heap.size w)
 have H : ((isobathref01_In.f k a0_0 a0_1 a1_0 a1_1).bind fun bt651 => ((isobathref01_In.f k a0_2 a0_3 a1_2 a1_3).bind fun bt653 => (some (mn bt651.1 bt653.1)))) = some r := h
 clear h
 replace H := Option.bind_eq_some_iff.mp H
 obtain ⟨⟨t651, t652⟩, A30, H⟩ := H
 replace H : ((isobathref01_In.f k a0_2 a0_3 a1_2 a1_3).bind fun bt653 => (some (mn t651 bt653.1))) = some r := H
 have A3 := Aside0.mk A30
 clear A30
 replace H := Option.bind_eq_some_iff.mp H
 obtain ⟨⟨t653, t654⟩, A40, H⟩ := H
 replace H : (some (mn t651 t653)) = some r := H
 have A4 := Aside0.mk A40
 clear A40
 obtain ⟨ji5, hji5⟩ : ∃ j_ : Int, (mn t651 t653) = j_ := ⟨_, rfl⟩
 replace H : (some ji5) = some r := by first | (rw [hji5] at H; exact H) | (simp only [hji5] at H ⊢; exact H)
 (try rw [hji5] at A3)
 (try rw [hji5] at A4)
 have hji5_ : (if t653 < t651 then t653 else t651) = ji5 := hji5
 obtain rfl := Option.some.inj H
 go_enter Try.func43, Try.ntmps43
 go_wp2_with (first | ((with_reducible refine gate_dst (N := 2) rfl ?_); refine box_event (by rfl) (N := 2) (by rfl) (cs := #[.int .i64 a0_0, .int .i64 a0_1, .int .i64 a0_2, .int .i64 a0_3]) (t := 31) zq5 ?_; intro gb649 hg w6 hbox hb; have BK649 := Aside0.mk (hbox); have GW649 := zgs HB hg; have GE649 := zgs HB hg; replace HB := zbs HB hb; clear hb hbox hg) | ((with_reducible refine gate_dst (N := 3) rfl ?_); refine box_event (by rfl) (N := 3) (by rfl) (cs := #[.int .i64 a1_0, .int .i64 a1_1, .int .i64 a1_2, .int .i64 a1_3]) (t := 31) zq5 ?_; intro gb650 hg w7 hbox hb; have BK650 := Aside0.mk (hbox); have GW650 := zgs HB hg; have GE650 := zgs HB hg; have NB649_650 := znp BK649 hg; have NB650_649 := znq BK649 hg; replace BK649 := zbb BK649 hb; replace HB := zbs HB hb; clear hb hbox hg; have hnb8 := NB649_650.out; have hnc8 := NB650_649.out; obtain ⟨hcz9_0, hcz9_1, hcz9_2, hcz9_3, hfz9_0, hfz9_1, hfz9_2, hfz9_3⟩ := zce4 BK649.out; obtain ⟨hcz10_0, hcz10_1, hcz10_2, hcz10_3, hfz10_0, hfz10_1, hfz10_2, hfz10_3⟩ := zce4 BK650.out) | ((with_reducible refine gate_callee (f := 91) rfl ?_); refine goesL_ (some 14) rfl rfl Try.func91 zq1 rfl #[.agg #[.int .i64 a0_0, .int .i64 a0_1], .agg #[.int .i64 a1_0, .int .i64 a1_1]] rfl zq7 ?_; (with_reducible refine (isobathref01_In.calls k a0_0 a0_1 a1_0 a1_1 t651 t652 _ A3.out).mono ?_); rintro e w11 ⟨rfl, hb⟩; refine ⟨_, rfl, ?_⟩; replace BK649 := zbb BK649 hb; replace BK650 := zbb BK650 hb; replace HB := zbs HB hb; (try clear hb); (try clear hb2); (try clear hk); (try clear hi); obtain ⟨hcz12_0, hcz12_1, hcz12_2, hcz12_3, hfz12_0, hfz12_1, hfz12_2, hfz12_3⟩ := zce4 BK649.out; obtain ⟨hcz13_0, hcz13_1, hcz13_2, hcz13_3, hfz13_0, hfz13_1, hfz13_2, hfz13_3⟩ := zce4 BK650.out) | ((with_reducible refine gate_callee (f := 91) rfl ?_); refine goesL_ (some 22) rfl rfl Try.func91 zq1 rfl #[.agg #[.int .i64 a0_2, .int .i64 a0_3], .agg #[.int .i64 a1_2, .int .i64 a1_3]] rfl zq7 ?_; (with_reducible refine (isobathref01_In.calls k a0_2 a0_3 a1_2 a1_3 t653 t654 _ A4.out).mono ?_); rintro e w14 ⟨rfl, hb⟩; refine ⟨_, rfl, ?_⟩; replace BK649 := zbb BK649 hb; replace BK650 := zbb BK650 hb; replace HB := zbs HB hb; (try clear hb); (try clear hb2); (try clear hk); (try clear hi)))
 go_ret
 exact ⟨by first | rfl | (simp [errW_none, errW_some] <;> rfl) | (simp only [← hji5]; first | rfl | (simp [errW_none, errW_some] <;> rfl)) | (simp [*, errW_none, errW_some] <;> rfl), zbz⟩

end Go.Proofs.Ytmhaiihjfgfaoaa.Pr
end
section
namespace Go.Proofs.Ytmhaiihjfgfaoaa.Pr
open Go.RowKit Go.Proofs.YtmhaiihjfgfaoaaW.PrintWords Go.Proofs.YtmhaiihjfgfaoaaW.PrintLast Go.Proofs.YtmhaiihjfgfaoaaW.PrintMore
attribute [local go_sem] max2_int min2_int max_two min_two max_four
set_option linter.unusedVariables false
set_option linter.unusedSimpArgs false

/-! ### bound_meet: function 138 -/
def bound_meet.f (a0_0 : Int) (a0_1 : Int) (a1_0 : Int) (a1_1 : Int) : Option (Int × Int × Bool) := some (mx a0_0 a1_0, mn a0_1 a1_1, decide ((mx a0_0 a1_0) ≤ (mn a0_1 a1_1)))
def bound_meet.T2 : Bool × List (List Nat × List Nat) := (true, [([], []), ([], []), ([1], [1]), ([], []), ([3], [3]), ([2, 4], [2, 4]), ([0, 0], [0]), ([5, 6, 0, 1, 2, 3, 4, 5, 6], [5])])
def bound_meet.B2 : List Nat := [0, 0, 2, 0, 8, 30, 1, 127]
theorem bound_meet.tab2 : rtab .any (opsOf Try.f138 2) = bound_meet.T2 := by kernel_rfl
theorem bound_meet.bits2 : waitsOk bound_meet.T2.2 bound_meet.B2 = true := by kernel_rfl
set_option maxHeartbeats 8000000 in
set_option maxRecDepth 100000 in
theorem bound_meet.calls (a0_0 : Int) (a0_1 : Int) (a1_0 : Int) (a1_1 : Int) (r1 : Int) (r2 : Int) (r3 : Bool) (w : World) (h : bound_meet.f a0_0 a0_1 a1_0 a1_1 = some (r1, r2, r3)) :
  Calls Try.prog 138 #[.agg #[.int .i64 a0_0, .int .i64 a0_1], .agg #[.int .i64 a1_0, .int .i64 a1_1]] w fun e w' => e = .returned (.tuple #[.agg #[.int .i64 r1, .int .i64 r2], .bool r3]) ∧ Below w.heap.size w w' := by
 have hu27 := Try.underlying27
 have HB := Aside0.mk (Below.refl w.heap.size w)
 have H : (some (mx a0_0 a1_0, mn a0_1 a1_1, decide ((mx a0_0 a1_0) ≤ (mn a0_1 a1_1)))) = some (r1, r2, r3) := h
 clear h
 obtain ⟨ji3, hji3⟩ : ∃ j_ : Int, (mx a0_0 a1_0) = j_ := ⟨_, rfl⟩
 replace H : (some (ji3, mn a0_1 a1_1, decide ((ji3) ≤ (mn a0_1 a1_1)))) = some (r1, r2, r3) := by first | (rw [hji3] at H; exact H) | (simp only [hji3] at H ⊢; exact H)
 have hji3_ : (if a0_0 < a1_0 then a1_0 else a0_0) = ji3 := hji3
 obtain ⟨ji4, hji4⟩ : ∃ j_ : Int, (mn a0_1 a1_1) = j_ := ⟨_, rfl⟩
 replace H : (some (ji3, ji4, decide ((ji3) ≤ (ji4)))) = some (r1, r2, r3) := by first | (rw [hji4] at H; exact H) | (simp only [hji4] at H ⊢; exact H)
 have hji4_ : (if a1_1 < a0_1 then a1_1 else a0_1) = ji4 := hji4
 simp only [Option.some.injEq, Prod.mk.injEq] at H
 obtain ⟨rfl, rfl, rfl⟩ := H
 go_enter Try.func138, Try.ntmps138
 try go_wp2_with (first | ((with_reducible refine gate_dst (N := 2) rfl ?_); refine box_event (by rfl) (N := 2) (by rfl) (cs := #[.int .i64 a0_0, .int .i64 a0_1]) (t := 27) zq5 ?_; intro gb631 hg w5 hbox hb; have BK631 := Aside0.mk (hbox); have GW631 := zgs HB hg; have GE631 := zgs HB hg; replace HB := zbs HB hb; clear hb hbox hg) | ((with_reducible refine gate_dst (N := 3) rfl ?_); refine box_event (by rfl) (N := 3) (by rfl) (cs := #[.int .i64 a1_0, .int .i64 a1_1]) (t := 27) zq5 ?_; intro gb632 hg w6 hbox hb; have BK632 := Aside0.mk (hbox); have GW632 := zgs HB hg; have GE632 := zgs HB hg; have NB631_632 := znp BK631 hg; have NB632_631 := znq BK631 hg; replace BK631 := zbb BK631 hb; replace HB := zbs HB hb; clear hb hbox hg) | ((with_reducible refine gate_dst (N := 4) rfl ?_); refine box_event (by rfl) (N := 4) (by rfl) (cs := #[.int .i64 0, .int .i64 0]) (t := 27) zq5 ?_; intro gb633 hg w7 hbox hb; have BK633 := Aside0.mk (hbox); have GW633 := zgs HB hg; have GE633 := zgs HB hg; have NB631_633 := znp BK631 hg; have NB633_631 := znq BK631 hg; have NB632_633 := znp BK632 hg; have NB633_632 := znq BK632 hg; replace BK631 := zbb BK631 hb; replace BK632 := zbb BK632 hb; replace HB := zbs HB hb; clear hb hbox hg; have hnb8 := NB631_632.out; have hnc8 := NB632_631.out; have hnb9 := NB631_633.out; have hnc9 := NB633_631.out; obtain ⟨hcz10_0, hcz10_1, hfz10_0, hfz10_1⟩ := zce2 BK631.out; have hnb11 := NB632_633.out; have hnc11 := NB633_632.out; obtain ⟨hcz12_0, hcz12_1, hfz12_0, hfz12_1⟩ := zce2 BK632.out) | ((with_reducible refine gate_dst (N := 6) rfl ?_); refine box_event (by rfl) (N := 6) (by rfl) (cs := #[.int .i64 0, .int .i64 0]) (t := 27) zq5 ?_; intro gb634 hg w13 hbox hb; have BK634 := Aside0.mk (hbox); have GW634 := zgs HB hg; have GE634 := zgs HB hg; have NB631_634 := znp BK631 hg; have NB634_631 := znq BK631 hg; have NB632_634 := znp BK632 hg; have NB634_632 := znq BK632 hg; have NB633_634 := znp BK633 hg; have NB634_633 := znq BK633 hg; replace BK631 := zbb BK631 hb; replace BK632 := zbb BK632 hb; replace BK633 := zbb BK633 hb; replace HB := zbs HB hb; clear hb hbox hg; have hnb14 := NB634_631.out; have hnc14 := NB631_634.out; have hnb15 := NB634_632.out; have hnc15 := NB632_634.out; have hnb16 := NB634_633.out; have hnc16 := NB633_634.out; obtain ⟨hcz17_0, hcz17_1, hfz17_0, hfz17_1⟩ := zce2 BK634.out))
 have n0_ : Aside0 (((w13.setCell ⟨gb634, 0, none⟩ (.int .i64 ji3)).setCell ⟨gb634, 1, none⟩ (.int .i64 ji4)).heap[gb631]? = some (.cells #[.int .i64 a0_0, .int .i64 a0_1] 27 (0, 0))) := ⟨zbf⟩
 have n1_ : Aside0 (((w13.setCell ⟨gb634, 0, none⟩ (.int .i64 ji3)).setCell ⟨gb634, 1, none⟩ (.int .i64 ji4)).heap[gb632]? = some (.cells #[.int .i64 a1_0, .int .i64 a1_1] 27 (0, 0))) := ⟨zbf⟩
 have n2_ : Aside0 (((w13.setCell ⟨gb634, 0, none⟩ (.int .i64 ji3)).setCell ⟨gb634, 1, none⟩ (.int .i64 ji4)).heap[gb633]? = some (.cells #[.int .i64 0, .int .i64 0] 27 (0, 0))) := ⟨zbf⟩
 have n3_ : Aside0 (((w13.setCell ⟨gb634, 0, none⟩ (.int .i64 ji3)).setCell ⟨gb634, 1, none⟩ (.int .i64 ji4)).heap[gb634]? = some (.cells #[.int .i64 ji3, .int .i64 ji4] 27 (0, 0))) := ⟨by (with_reducible repeat (first | refine blk_drewN ?_ _ | refine blk_drew ?_ | refine blk_alloc ?_ _)); refine blk_put (cs := #[.int .i64 ji3, .int .i64 0]) ?_ 1 _ rfl; (with_reducible repeat (first | refine blk_drewN ?_ _ | refine blk_drew ?_ | refine blk_alloc ?_ _)); refine blk_put (cs := #[.int .i64 0, .int .i64 0]) ?_ 0 _ rfl; (with_reducible repeat (first | refine blk_drewN ?_ _ | refine blk_drew ?_ | refine blk_alloc ?_ _)); exact BK634.out⟩
 have n4_ : Aside0 (Below w.heap.size w ((w13.setCell ⟨gb634, 0, none⟩ (.int .i64 ji3)).setCell ⟨gb634, 1, none⟩ (.int .i64 ji4))) := ⟨zbz⟩
 (try clear BK631)
 (try clear BK632)
 (try clear BK633)
 (try clear BK634)
 (try clear HB)
 generalize ((w13.setCell ⟨gb634, 0, none⟩ (.int .i64 ji3)).setCell ⟨gb634, 1, none⟩ (.int .i64 ji4)) = w18 at n0_ n1_ n2_ n3_ n4_ ⊢
 have BK631 := n0_
 have BK632 := n1_
 have BK633 := n2_
 have BK634 := n3_
 have HB := n4_
 clear n0_ n1_ n2_ n3_ n4_
 replace BK631 := Aside0.mk (blk_drew BK631.out)
 replace BK632 := Aside0.mk (blk_drew BK632.out)
 replace BK633 := Aside0.mk (blk_drew BK633.out)
 replace BK634 := Aside0.mk (blk_drew BK634.out)
 replace HB := Aside0.mk (below_drew1 HB.out)
 refine start_ (n := 8) (S := fun w' => w'.cell? ⟨gb634, 0, none⟩ = some (.int .i64 ji3) ∧ w'.cell? ⟨gb634, 1, none⟩ = some (.int .i64 ji4)) (ds := []) #[false, false, false, false, false, false, false, false] zq1 rfl rfl ⟨(blk_cell BK634.out 0).trans rfl, (blk_cell BK634.out 1).trans rfl⟩ (fun hHeld => ?_); refine with_tabW bound_meet.tab2 bound_meet.bits2 (fun HT_ HW_ => ?_)
 generalize w18.drew = w19 at BK631 BK632 BK633 BK634 HB hHeld ⊢
 refine zpz (i := 1) (N := some 19) (any_of HT_.out zq1) ?_
 refine zpz (i := 3) (N := some 21) (any_of HT_.out zq1) ?_
 refine ztz (i := 0) (N := some 18) (take_ofW HT_.out HW_.out zq1) hHeld ?_
 refine ztz (i := 2) (N := some 20) (take_ofW HT_.out HW_.out zq1) hHeld ?_
 refine ztz (i := 4) (N := some 22) (take_ofW HT_.out HW_.out zq1) hHeld ?_
 refine zpz (i := 5) (N := some 23) (any_of HT_.out zq1) ?_
 refine one_ (i := 6) (N := none) #[true, true, true, true, true, true, true, false] rfl rfl (one_of HT_.out zq1) (by decide) (fun K hK => ?_)
 have hs20 : w19.cell? ⟨gb633, 0, none⟩ = some (.int .i64 0) := (blk_cell BK633.out 0).trans rfl
 have hfs20 := blk_frozen BK633.out 0
 have hns20_0 := NB631_633.out
 have hns20_1 := NB632_633.out
 have hns20_3 := NB634_633.out
 have hms20_0 := NB633_631.out
 have hms20_1 := NB633_632.out
 have hms20_3 := NB633_634.out
 have hs21 : w19.cell? ⟨gb633, 1, none⟩ = some (.int .i64 0) := (blk_cell BK633.out 1).trans rfl
 have hfs21 := blk_frozen BK633.out 1
 have hns21_0 := NB631_633.out
 have hns21_1 := NB632_633.out
 have hns21_3 := NB634_633.out
 have hms21_0 := NB633_631.out
 have hms21_1 := NB633_632.out
 have hms21_3 := NB633_634.out
 refine skip_ (w1 := ?_) (by rfl) rfl ?_ ?_
 rotate_left
 ·go_simp
  rfl
 refine hK.out _ _ ⟨((cell_far (p := ⟨gb633, _, none⟩) NB634_633.out _).trans (((cell_far (p := ⟨gb633, _, none⟩) NB634_633.out _).trans (hHeld.1)))), ((cell_far (p := ⟨gb633, _, none⟩) NB634_633.out _).trans (((cell_far (p := ⟨gb633, _, none⟩) NB634_633.out _).trans (hHeld.2))))⟩ (fun hHeld => ?_)
 clear hK K
 refine zpz (i := 7) (N := some 5) (any_of HT_.out zq1) ?_
 refine done_ (done_of HT_.out zq1) ?_
 try go_wp2
 refine bodyPost_ret (results_ct rfl _ _ gb633 27 #[.int .i64 ji3, .int .i64 ji4] (0, 0) _ rfl (by (with_reducible repeat (first | refine blk_drewN ?_ _ | refine blk_drew ?_ | refine blk_alloc ?_ _)); refine blk_put (cs := #[.int .i64 ji3, .int .i64 0]) ?_ 1 _ rfl; (with_reducible repeat (first | refine blk_drewN ?_ _ | refine blk_drew ?_ | refine blk_alloc ?_ _)); refine blk_put (cs := #[.int .i64 0, .int .i64 0]) ?_ 0 _ rfl; (with_reducible repeat (first | refine blk_drewN ?_ _ | refine blk_drew ?_ | refine blk_alloc ?_ _)); exact BK633.out) Try.underlying27 rfl zq1) rfl ?_
 exact ⟨by first | rfl | (simp [errW_none, errW_some] <;> rfl) | (simp only [← hji3, ← hji4]; first | rfl | (simp [errW_none, errW_some] <;> rfl)) | (simp [*, errW_none, errW_some] <;> rfl), zbz⟩

end Go.Proofs.Ytmhaiihjfgfaoaa.Pr
end
section
namespace Go.Proofs.Ytmhaiihjfgfaoaa.Pr
open Go.RowKit Go.Proofs.YtmhaiihjfgfaoaaW.PrintWords Go.Proofs.YtmhaiihjfgfaoaaW.PrintLast Go.Proofs.YtmhaiihjfgfaoaaW.PrintMore
attribute [local go_sem] max2_int min2_int max_two min_two max_four
set_option linter.unusedVariables false
set_option linter.unusedSimpArgs false

attribute [local go_sem high] eqA27
/-! ### bound_In: function 128 -/
def bound_In.f (k : Nat) (a0_0 : Int) (a0_1 : Int) (a1_0 : Int) (a1_1 : Int) : Option (Int × Int) := (bound_check.f k (([(⟨a0_0, a0_1⟩ : S27), (⟨a1_0, a1_1⟩ : S27)] : List (S27)))).bind fun t640 => (if t640 = 0 then ((bound_meet.f a0_0 a0_1 a1_0 a1_1).bind fun bt641 => (if bt641.2.2 = true then (if (bt641.1 == a0_0 && (bt641.2.1 == a0_1)) = true then (some (2, 0)) else (some (1, 0))) else (some (0, 0)))) else (some (0, t640)))
set_option maxHeartbeats 8000000 in
set_option maxRecDepth 100000 in
theorem bound_In.calls (k : Nat) (a0_0 : Int) (a0_1 : Int) (a1_0 : Int) (a1_1 : Int) (r1 : Int) (r2 : Int) (w : World) (h : bound_In.f k a0_0 a0_1 a1_0 a1_1 = some (r1, r2)) :
  Calls Try.prog 128 #[.agg #[.int .i64 a0_0, .int .i64 a0_1], .agg #[.int .i64 a1_0, .int .i64 a1_1]] w fun e w' => e = .returned (.tuple #[.int .i64 r1, .int .i64 r2]) ∧ Below w.heap.size w w' := by
 have hu27 := Try.underlying27
 have HB := Aside0.mk (Below.refl w.heap.size w)
 have H : ((bound_check.f k (([(⟨a0_0, a0_1⟩ : S27), (⟨a1_0, a1_1⟩ : S27)] : List (S27)))).bind fun t640 => (if t640 = 0 then ((bound_meet.f a0_0 a0_1 a1_0 a1_1).bind fun bt641 => (if bt641.2.2 = true then (if (bt641.1 == a0_0 && (bt641.2.1 == a0_1)) = true then (some (2, 0)) else (some (1, 0))) else (some (0, 0)))) else (some (0, t640)))) = some (r1, r2) := h
 clear h
 obtain ⟨y637, hy637⟩ : ∃ y_ : List (S27), y_ = (([(⟨a0_0, a0_1⟩ : S27), (⟨a1_0, a1_1⟩ : S27)] : List (S27))) := ⟨_, rfl⟩
 replace H : ((bound_check.f k y637).bind fun t640 => (if t640 = 0 then ((bound_meet.f a0_0 a0_1 a1_0 a1_1).bind fun bt641 => (if bt641.2.2 = true then (if (bt641.1 == a0_0 && (bt641.2.1 == a0_1)) = true then (some (2, 0)) else (some (1, 0))) else (some (0, 0)))) else (some (0, t640)))) = some (r1, r2) := by first | (rw [hy637]; with_reducible exact H) | (have H2_ := (Option.bind_some _ _).symm.trans H; rw [hy637]; with_reducible exact H2_) | (have H2_ := (Option.bind_some _ _).symm.trans H; with_reducible exact H2_) | with_reducible exact H | (rw [hy637]; exact H) | exact H
 have Ny637 := Aside0.mk hy637
 clear hy637
 replace H := Option.bind_eq_some_iff.mp H
 obtain ⟨t640, A30, H⟩ := H
 replace H : (if t640 = 0 then ((bound_meet.f a0_0 a0_1 a1_0 a1_1).bind fun bt641 => (if bt641.2.2 = true then (if (bt641.1 == a0_0 && (bt641.2.1 == a0_1)) = true then (some (2, 0)) else (some (1, 0))) else (some (0, 0)))) else (some (0, t640))) = some (r1, r2) := H
 have A3 := Aside0.mk A30
 clear A30
 by_cases c4 : t640 = 0
 ·rw [if_pos c4] at H
  have c4b0 : (t640 == 0) = true := beq_iff_eq.mpr c4
  have c4b1 : (t640 != 0) = false := bne_eq_false_iff_eq.mpr c4
  clear c4
  replace H := Option.bind_eq_some_iff.mp H
  obtain ⟨⟨t641, t642, t643⟩, A50, H⟩ := H
  replace H : (if t643 = true then (if (t641 == a0_0 && (t642 == a0_1)) = true then (some (2, 0)) else (some (1, 0))) else (some (0, 0))) = some (r1, r2) := H
  have A5 := Aside0.mk A50
  clear A50
  by_cases c6 : t643 = true
  ·subst c6
   have H1 : (if (t641 == a0_0 && (t642 == a0_1)) = true then (some (2, 0)) else (some (1, 0))) = some (r1, r2) := by rw [if_pos rfl] at H; exact H
   clear H
   have H := H1
   clear H1
   by_cases c7 : (t641 == a0_0 && (t642 == a0_1)) = true
   ·rw [if_pos c7] at H
    have c7b0 : (t641 == a0_0 && (t642 == a0_1)) = true := c7
    (try (have c7b1 : decide (t641 = a0_0 && (t642 == a0_1)) = true := by simpa using c7))
    (try (have c7b2 : (t641 == a0_0 && (t642 == a0_1)) = true := by simpa using c7))
    clear c7
    simp only [Option.some.injEq, Prod.mk.injEq] at H
    obtain ⟨rfl, rfl⟩ := H
    go_enter Try.func128, Try.ntmps128
    go_wp2_with (first | ((with_reducible refine gate_dst (N := 2) rfl ?_); refine box_event (by rfl) (N := 2) (by rfl) (cs := #[.int .i64 a0_0, .int .i64 a0_1]) (t := 27) zq5 ?_; intro gb635 hg w8 hbox hb; have BK635 := Aside0.mk (hbox); have GW635 := zgs HB hg; have GE635 := zgs HB hg; replace HB := zbs HB hb; clear hb hbox hg) | ((with_reducible refine gate_dst (N := 3) rfl ?_); refine box_event (by rfl) (N := 3) (by rfl) (cs := #[.int .i64 a1_0, .int .i64 a1_1]) (t := 27) zq5 ?_; intro gb636 hg w9 hbox hb; have BK636 := Aside0.mk (hbox); have GW636 := zgs HB hg; have GE636 := zgs HB hg; have NB635_636 := znp BK635 hg; have NB636_635 := znq BK635 hg; replace BK635 := zbb BK635 hb; replace HB := zbs HB hb; clear hb hbox hg; have hnb10 := NB635_636.out; have hnc10 := NB636_635.out; obtain ⟨hcz11_0, hcz11_1, hfz11_0, hfz11_1⟩ := zce2 BK635.out; obtain ⟨hcz12_0, hcz12_1, hfz12_0, hfz12_1⟩ := zce2 BK636.out) | ((with_reducible refine gate_dst (N := 11) rfl ?_); refine Kd.R_lit k27 _ 27 (by rfl) (N := 11) (by rfl) (xs := ([(⟨a0_0, a0_1⟩ : S27), (⟨a1_0, a1_1⟩ : S27)] : List (S27))) (inner := [.int .i64 a0_0, .int .i64 a0_1, .int .i64 a1_0, .int .i64 a1_1]) (ok := fun _ => True) (okp := fun _ => True) zq5 zq45 (fun _ hk => hk) trivial (Below.refl _ _) (Nat.le_refl _) (by simp) ?_; intro v638 w13 ho14 hb hg_ hnew_; clear hg_ hnew_; (first | rw [← Ny637.out] at ho14 | (simp only [Int.reduceToNat] at ho14; rw [← Ny637.out] at ho14)); have HO639 := Aside0.mk (Kd.R_lower (Kd.R_newB (Kd.R_newB ho14 (g := gb635) (o := .cells #[.int .i64 a0_0, .int .i64 a0_1] 27 (0, 0)) zbf) (g := gb636) (o := .cells #[.int .i64 a1_0, .int .i64 a1_1] 27 (0, 0)) zbf) (below_size zbz)); replace BK635 := zbb BK635 hb; replace BK636 := zbb BK636 hb; replace HB := zbs HB hb; clear hb ho14; obtain ⟨Ao15, co15, eo15⟩ := Kd.R_slice HO639.out; subst eo15) | ((with_reducible refine gate_callee (f := 116) rfl ?_); refine goesL_ (some 12) rfl rfl Try.func116 zq1 rfl #[.slice Ao15 y637.length co15] rfl zq7 ?_; (with_reducible refine (bound_check.calls k _ _ y637 t640 _ ?side1 ?side2 A3.out).mono ?_); (case side1 => repeat (first | exact (Kd.R_reads' HO639.out).2.2 | (with_reducible refine Kd.C_alloc ?_ _) | (with_reducible refine Kd.C_drewN ?_ _) | (with_reducible refine Kd.C_drew ?_))); (case side2 => exact (Kd.R_reads' HO639.out).2.1); rintro e w16 ⟨rfl, hb⟩; refine ⟨_, rfl, ?_⟩; replace HO639 := zrb HO639 hb; replace BK635 := zbb BK635 hb; replace BK636 := zbb BK636 hb; replace HB := zbs HB hb; (try clear hb); (try clear hb2); (try clear hk); (try clear hi); obtain ⟨hcz17_0, hcz17_1, hfz17_0, hfz17_1⟩ := zce2 BK635.out; obtain ⟨hcz18_0, hcz18_1, hfz18_0, hfz18_1⟩ := zce2 BK636.out) | ((with_reducible refine gate_callee (f := 138) rfl ?_); refine goesL_ (some 19) rfl rfl Try.func138 zq1 rfl #[.agg #[.int .i64 a0_0, .int .i64 a0_1], .agg #[.int .i64 a1_0, .int .i64 a1_1]] rfl zq7 ?_; (with_reducible refine (bound_meet.calls a0_0 a0_1 a1_0 a1_1 t641 t642 true _ A5.out).mono ?_); rintro e w19 ⟨rfl, hb⟩; refine ⟨_, rfl, ?_⟩; replace HO639 := zrb HO639 hb; replace BK635 := zbb BK635 hb; replace BK636 := zbb BK636 hb; replace HB := zbs HB hb; (try clear hb); (try clear hb2); (try clear hk); (try clear hi)) | ((with_reducible refine gate_dst (N := 7) rfl ?_); refine box_event (by rfl) (N := 7) (by rfl) (cs := #[.int .i64 0, .int .i64 0]) (t := 27) zq5 ?_; intro gb644 hg w20 hbox hb; have BK644 := Aside0.mk (hbox); have GW644 := zgs HB hg; have GE644 := zgs HB hg; have NB635_644 := znp BK635 hg; have NB644_635 := znq BK635 hg; have NB636_644 := znp BK636 hg; have NB644_636 := znq BK636 hg; replace HO639 := Aside0.mk (Kd.R_below (Kd.R_elderB zq46 gb644 (Nat.le_of_eq hg.symm)) hb); replace BK635 := zbb BK635 hb; replace BK636 := zbb BK636 hb; replace HB := zbs HB hb; clear hb hbox hg; have hnb21 := NB644_635.out; have hnc21 := NB635_644.out; have hnb22 := NB644_636.out; have hnc22 := NB636_644.out; obtain ⟨hcz23_0, hcz23_1, hfz23_0, hfz23_1⟩ := zce2 BK644.out; obtain ⟨hcz24_0, hcz24_1, hfz24_0, hfz24_1⟩ := zce2 BK635.out))
    go_ret2
    exact ⟨zq6, zbz⟩
   ·rw [if_neg c7] at H
    have c7b0 : (t641 == a0_0 && (t642 == a0_1)) = false := by simpa using c7
    (try (have c7b1 : decide (t641 = a0_0 && (t642 == a0_1)) = false := by simpa using c7))
    (try (have c7b2 : (t641 == a0_0 && (t642 == a0_1)) = false := by simpa using c7))
    (try (have c7b3 : ¬ (t641 = a0_0 && (t642 == a0_1)) := by simpa using c7))
    clear c7
    simp only [Option.some.injEq, Prod.mk.injEq] at H
    obtain ⟨rfl, rfl⟩ := H
    go_enter Try.func128, Try.ntmps128
    go_wp2_with (first | ((with_reducible refine gate_dst (N := 2) rfl ?_); refine box_event (by rfl) (N := 2) (by rfl) (cs := #[.int .i64 a0_0, .int .i64 a0_1]) (t := 27) zq5 ?_; intro gb635 hg w25 hbox hb; have BK635 := Aside0.mk (hbox); have GW635 := zgs HB hg; have GE635 := zgs HB hg; replace HB := zbs HB hb; clear hb hbox hg) | ((with_reducible refine gate_dst (N := 3) rfl ?_); refine box_event (by rfl) (N := 3) (by rfl) (cs := #[.int .i64 a1_0, .int .i64 a1_1]) (t := 27) zq5 ?_; intro gb636 hg w26 hbox hb; have BK636 := Aside0.mk (hbox); have GW636 := zgs HB hg; have GE636 := zgs HB hg; have NB635_636 := znp BK635 hg; have NB636_635 := znq BK635 hg; replace BK635 := zbb BK635 hb; replace HB := zbs HB hb; clear hb hbox hg; have hnb27 := NB635_636.out; have hnc27 := NB636_635.out; obtain ⟨hcz28_0, hcz28_1, hfz28_0, hfz28_1⟩ := zce2 BK635.out; obtain ⟨hcz29_0, hcz29_1, hfz29_0, hfz29_1⟩ := zce2 BK636.out) | ((with_reducible refine gate_dst (N := 11) rfl ?_); refine Kd.R_lit k27 _ 27 (by rfl) (N := 11) (by rfl) (xs := ([(⟨a0_0, a0_1⟩ : S27), (⟨a1_0, a1_1⟩ : S27)] : List (S27))) (inner := [.int .i64 a0_0, .int .i64 a0_1, .int .i64 a1_0, .int .i64 a1_1]) (ok := fun _ => True) (okp := fun _ => True) zq5 zq45 (fun _ hk => hk) trivial (Below.refl _ _) (Nat.le_refl _) (by simp) ?_; intro v638 w30 ho31 hb hg_ hnew_; clear hg_ hnew_; (first | rw [← Ny637.out] at ho31 | (simp only [Int.reduceToNat] at ho31; rw [← Ny637.out] at ho31)); have HO639 := Aside0.mk (Kd.R_lower (Kd.R_newB (Kd.R_newB ho31 (g := gb635) (o := .cells #[.int .i64 a0_0, .int .i64 a0_1] 27 (0, 0)) zbf) (g := gb636) (o := .cells #[.int .i64 a1_0, .int .i64 a1_1] 27 (0, 0)) zbf) (below_size zbz)); replace BK635 := zbb BK635 hb; replace BK636 := zbb BK636 hb; replace HB := zbs HB hb; clear hb ho31; obtain ⟨Ao32, co32, eo32⟩ := Kd.R_slice HO639.out; subst eo32) | ((with_reducible refine gate_callee (f := 116) rfl ?_); refine goesL_ (some 12) rfl rfl Try.func116 zq1 rfl #[.slice Ao32 y637.length co32] rfl zq7 ?_; (with_reducible refine (bound_check.calls k _ _ y637 t640 _ ?side1 ?side2 A3.out).mono ?_); (case side1 => repeat (first | exact (Kd.R_reads' HO639.out).2.2 | (with_reducible refine Kd.C_alloc ?_ _) | (with_reducible refine Kd.C_drewN ?_ _) | (with_reducible refine Kd.C_drew ?_))); (case side2 => exact (Kd.R_reads' HO639.out).2.1); rintro e w33 ⟨rfl, hb⟩; refine ⟨_, rfl, ?_⟩; replace HO639 := zrb HO639 hb; replace BK635 := zbb BK635 hb; replace BK636 := zbb BK636 hb; replace HB := zbs HB hb; (try clear hb); (try clear hb2); (try clear hk); (try clear hi); obtain ⟨hcz34_0, hcz34_1, hfz34_0, hfz34_1⟩ := zce2 BK635.out; obtain ⟨hcz35_0, hcz35_1, hfz35_0, hfz35_1⟩ := zce2 BK636.out) | ((with_reducible refine gate_callee (f := 138) rfl ?_); refine goesL_ (some 19) rfl rfl Try.func138 zq1 rfl #[.agg #[.int .i64 a0_0, .int .i64 a0_1], .agg #[.int .i64 a1_0, .int .i64 a1_1]] rfl zq7 ?_; (with_reducible refine (bound_meet.calls a0_0 a0_1 a1_0 a1_1 t641 t642 true _ A5.out).mono ?_); rintro e w36 ⟨rfl, hb⟩; refine ⟨_, rfl, ?_⟩; replace HO639 := zrb HO639 hb; replace BK635 := zbb BK635 hb; replace BK636 := zbb BK636 hb; replace HB := zbs HB hb; (try clear hb); (try clear hb2); (try clear hk); (try clear hi)) | ((with_reducible refine gate_dst (N := 7) rfl ?_); refine box_event (by rfl) (N := 7) (by rfl) (cs := #[.int .i64 0, .int .i64 0]) (t := 27) zq5 ?_; intro gb644 hg w37 hbox hb; have BK644 := Aside0.mk (hbox); have GW644 := zgs HB hg; have GE644 := zgs HB hg; have NB635_644 := znp BK635 hg; have NB644_635 := znq BK635 hg; have NB636_644 := znp BK636 hg; have NB644_636 := znq BK636 hg; replace HO639 := Aside0.mk (Kd.R_below (Kd.R_elderB zq46 gb644 (Nat.le_of_eq hg.symm)) hb); replace BK635 := zbb BK635 hb; replace BK636 := zbb BK636 hb; replace HB := zbs HB hb; clear hb hbox hg; have hnb38 := NB644_635.out; have hnc38 := NB635_644.out; have hnb39 := NB644_636.out; have hnc39 := NB636_644.out; obtain ⟨hcz40_0, hcz40_1, hfz40_0, hfz40_1⟩ := zce2 BK644.out; obtain ⟨hcz41_0, hcz41_1, hfz41_0, hfz41_1⟩ := zce2 BK635.out))
    go_ret2
    exact ⟨zq6, zbz⟩
  ·replace c6 := Bool.eq_false_iff.mpr c6
   subst c6
   have H1 : (some (0, 0)) = some (r1, r2) := by rw [if_neg (show ¬ (false = true) by decide)] at H; exact H
   clear H
   have H := H1
   clear H1
   simp only [Option.some.injEq, Prod.mk.injEq] at H
   obtain ⟨rfl, rfl⟩ := H
   go_enter Try.func128, Try.ntmps128
   go_wp2_with (first | ((with_reducible refine gate_dst (N := 2) rfl ?_); refine box_event (by rfl) (N := 2) (by rfl) (cs := #[.int .i64 a0_0, .int .i64 a0_1]) (t := 27) zq5 ?_; intro gb635 hg w42 hbox hb; have BK635 := Aside0.mk (hbox); have GW635 := zgs HB hg; have GE635 := zgs HB hg; replace HB := zbs HB hb; clear hb hbox hg) | ((with_reducible refine gate_dst (N := 3) rfl ?_); refine box_event (by rfl) (N := 3) (by rfl) (cs := #[.int .i64 a1_0, .int .i64 a1_1]) (t := 27) zq5 ?_; intro gb636 hg w43 hbox hb; have BK636 := Aside0.mk (hbox); have GW636 := zgs HB hg; have GE636 := zgs HB hg; have NB635_636 := znp BK635 hg; have NB636_635 := znq BK635 hg; replace BK635 := zbb BK635 hb; replace HB := zbs HB hb; clear hb hbox hg; have hnb44 := NB635_636.out; have hnc44 := NB636_635.out; obtain ⟨hcz45_0, hcz45_1, hfz45_0, hfz45_1⟩ := zce2 BK635.out; obtain ⟨hcz46_0, hcz46_1, hfz46_0, hfz46_1⟩ := zce2 BK636.out) | ((with_reducible refine gate_dst (N := 11) rfl ?_); refine Kd.R_lit k27 _ 27 (by rfl) (N := 11) (by rfl) (xs := ([(⟨a0_0, a0_1⟩ : S27), (⟨a1_0, a1_1⟩ : S27)] : List (S27))) (inner := [.int .i64 a0_0, .int .i64 a0_1, .int .i64 a1_0, .int .i64 a1_1]) (ok := fun _ => True) (okp := fun _ => True) zq5 zq45 (fun _ hk => hk) trivial (Below.refl _ _) (Nat.le_refl _) (by simp) ?_; intro v638 w47 ho48 hb hg_ hnew_; clear hg_ hnew_; (first | rw [← Ny637.out] at ho48 | (simp only [Int.reduceToNat] at ho48; rw [← Ny637.out] at ho48)); have HO639 := Aside0.mk (Kd.R_lower (Kd.R_newB (Kd.R_newB ho48 (g := gb635) (o := .cells #[.int .i64 a0_0, .int .i64 a0_1] 27 (0, 0)) zbf) (g := gb636) (o := .cells #[.int .i64 a1_0, .int .i64 a1_1] 27 (0, 0)) zbf) (below_size zbz)); replace BK635 := zbb BK635 hb; replace BK636 := zbb BK636 hb; replace HB := zbs HB hb; clear hb ho48; obtain ⟨Ao49, co49, eo49⟩ := Kd.R_slice HO639.out; subst eo49) | ((with_reducible refine gate_callee (f := 116) rfl ?_); refine goesL_ (some 12) rfl rfl Try.func116 zq1 rfl #[.slice Ao49 y637.length co49] rfl zq7 ?_; (with_reducible refine (bound_check.calls k _ _ y637 t640 _ ?side1 ?side2 A3.out).mono ?_); (case side1 => repeat (first | exact (Kd.R_reads' HO639.out).2.2 | (with_reducible refine Kd.C_alloc ?_ _) | (with_reducible refine Kd.C_drewN ?_ _) | (with_reducible refine Kd.C_drew ?_))); (case side2 => exact (Kd.R_reads' HO639.out).2.1); rintro e w50 ⟨rfl, hb⟩; refine ⟨_, rfl, ?_⟩; replace HO639 := zrb HO639 hb; replace BK635 := zbb BK635 hb; replace BK636 := zbb BK636 hb; replace HB := zbs HB hb; (try clear hb); (try clear hb2); (try clear hk); (try clear hi); obtain ⟨hcz51_0, hcz51_1, hfz51_0, hfz51_1⟩ := zce2 BK635.out; obtain ⟨hcz52_0, hcz52_1, hfz52_0, hfz52_1⟩ := zce2 BK636.out) | ((with_reducible refine gate_callee (f := 138) rfl ?_); refine goesL_ (some 19) rfl rfl Try.func138 zq1 rfl #[.agg #[.int .i64 a0_0, .int .i64 a0_1], .agg #[.int .i64 a1_0, .int .i64 a1_1]] rfl zq7 ?_; (with_reducible refine (bound_meet.calls a0_0 a0_1 a1_0 a1_1 t641 t642 false _ A5.out).mono ?_); rintro e w53 ⟨rfl, hb⟩; refine ⟨_, rfl, ?_⟩; replace HO639 := zrb HO639 hb; replace BK635 := zbb BK635 hb; replace BK636 := zbb BK636 hb; replace HB := zbs HB hb; (try clear hb); (try clear hb2); (try clear hk); (try clear hi)) | ((with_reducible refine gate_dst (N := 7) rfl ?_); refine box_event (by rfl) (N := 7) (by rfl) (cs := #[.int .i64 0, .int .i64 0]) (t := 27) zq5 ?_; intro gb644 hg w54 hbox hb; have BK644 := Aside0.mk (hbox); have GW644 := zgs HB hg; have GE644 := zgs HB hg; have NB635_644 := znp BK635 hg; have NB644_635 := znq BK635 hg; have NB636_644 := znp BK636 hg; have NB644_636 := znq BK636 hg; replace HO639 := Aside0.mk (Kd.R_below (Kd.R_elderB zq46 gb644 (Nat.le_of_eq hg.symm)) hb); replace BK635 := zbb BK635 hb; replace BK636 := zbb BK636 hb; replace HB := zbs HB hb; clear hb hbox hg; have hnb55 := NB644_635.out; have hnc55 := NB635_644.out; have hnb56 := NB644_636.out; have hnc56 := NB636_644.out; obtain ⟨hcz57_0, hcz57_1, hfz57_0, hfz57_1⟩ := zce2 BK644.out))
   go_ret2
   exact ⟨zq6, zbz⟩
 ·rw [if_neg c4] at H
  have c4b0 : (t640 == 0) = false := beq_eq_false_iff_ne.mpr c4
  have c4b1 : (t640 != 0) = true := bne_iff_ne.mpr c4
  simp only [Option.some.injEq, Prod.mk.injEq] at H
  obtain ⟨rfl, rfl⟩ := H
  go_enter Try.func128, Try.ntmps128
  go_wp2_with (first | ((with_reducible refine gate_dst (N := 2) rfl ?_); refine box_event (by rfl) (N := 2) (by rfl) (cs := #[.int .i64 a0_0, .int .i64 a0_1]) (t := 27) zq5 ?_; intro gb635 hg w58 hbox hb; have BK635 := Aside0.mk (hbox); have GW635 := zgs HB hg; have GE635 := zgs HB hg; replace HB := zbs HB hb; clear hb hbox hg) | ((with_reducible refine gate_dst (N := 3) rfl ?_); refine box_event (by rfl) (N := 3) (by rfl) (cs := #[.int .i64 a1_0, .int .i64 a1_1]) (t := 27) zq5 ?_; intro gb636 hg w59 hbox hb; have BK636 := Aside0.mk (hbox); have GW636 := zgs HB hg; have GE636 := zgs HB hg; have NB635_636 := znp BK635 hg; have NB636_635 := znq BK635 hg; replace BK635 := zbb BK635 hb; replace HB := zbs HB hb; clear hb hbox hg; have hnb60 := NB635_636.out; have hnc60 := NB636_635.out; obtain ⟨hcz61_0, hcz61_1, hfz61_0, hfz61_1⟩ := zce2 BK635.out; obtain ⟨hcz62_0, hcz62_1, hfz62_0, hfz62_1⟩ := zce2 BK636.out) | ((with_reducible refine gate_dst (N := 11) rfl ?_); refine Kd.R_lit k27 _ 27 (by rfl) (N := 11) (by rfl) (xs := ([(⟨a0_0, a0_1⟩ : S27), (⟨a1_0, a1_1⟩ : S27)] : List (S27))) (inner := [.int .i64 a0_0, .int .i64 a0_1, .int .i64 a1_0, .int .i64 a1_1]) (ok := fun _ => True) (okp := fun _ => True) zq5 zq45 (fun _ hk => hk) trivial (Below.refl _ _) (Nat.le_refl _) (by simp) ?_; intro v638 w63 ho64 hb hg_ hnew_; clear hg_ hnew_; (first | rw [← Ny637.out] at ho64 | (simp only [Int.reduceToNat] at ho64; rw [← Ny637.out] at ho64)); have HO639 := Aside0.mk (Kd.R_lower (Kd.R_newB (Kd.R_newB ho64 (g := gb635) (o := .cells #[.int .i64 a0_0, .int .i64 a0_1] 27 (0, 0)) zbf) (g := gb636) (o := .cells #[.int .i64 a1_0, .int .i64 a1_1] 27 (0, 0)) zbf) (below_size zbz)); replace BK635 := zbb BK635 hb; replace BK636 := zbb BK636 hb; replace HB := zbs HB hb; clear hb ho64; obtain ⟨Ao65, co65, eo65⟩ := Kd.R_slice HO639.out; subst eo65) | ((with_reducible refine gate_callee (f := 116) rfl ?_); refine goesL_ (some 12) rfl rfl Try.func116 zq1 rfl #[.slice Ao65 y637.length co65] rfl zq7 ?_; (with_reducible refine (bound_check.calls k _ _ y637 t640 _ ?side1 ?side2 A3.out).mono ?_); (case side1 => repeat (first | exact (Kd.R_reads' HO639.out).2.2 | (with_reducible refine Kd.C_alloc ?_ _) | (with_reducible refine Kd.C_drewN ?_ _) | (with_reducible refine Kd.C_drew ?_))); (case side2 => exact (Kd.R_reads' HO639.out).2.1); rintro e w66 ⟨rfl, hb⟩; refine ⟨_, rfl, ?_⟩; replace HO639 := zrb HO639 hb; replace BK635 := zbb BK635 hb; replace BK636 := zbb BK636 hb; replace HB := zbs HB hb; (try clear hb); (try clear hb2); (try clear hk); (try clear hi)))
  go_ret2
  exact ⟨zq6, zbz⟩

end Go.Proofs.Ytmhaiihjfgfaoaa.Pr
end
