/- Part 18 of the proof of GliderDives: what the functions compute. No condition. -/
import Derived.Test.YtmhaiihjfgfaoaaGtGliderDives3
import Derived.Test.YtmhaiihjfgfaoaaGtGliderDives17
section
namespace Go.Proofs.Ytmhaiihjfgfaoaa.Pr
open Go.RowKit Go.Proofs.YtmhaiihjfgfaoaaW.PrintWords Go.Proofs.YtmhaiihjfgfaoaaW.PrintLast Go.Proofs.YtmhaiihjfgfaoaaW.PrintMore
attribute [local go_sem] max2_int min2_int max_two min_two max_four
set_option linter.unusedVariables false
set_option linter.unusedSimpArgs false

/-! ### isobathref03_possible: function 105 -/
def isobathref03_possible.f (k : Nat) (a0_0 : Int) (a0_1 : Int) (a0_2 : Int) (a0_3 : Int) (a0_4 : Int) (a0_5 : Int) (a0_6 : Int) (l0_7 : List Bool) (l0_8 : List (S40)) (a1_0 : Int) (a1_1 : Int) (a1_2 : Int) (a1_3 : Int) (a1_4 : Int) (a1_5 : Int) (a1_6 : Int) (a2_0 : Int) (a2_1 : Int) (a2_2 : Int) (a2_3 : Int) (a3 : Int) : Option (Bool) := (isobathref03_Grown.f k a0_0 a0_1 a0_2 a0_3 a0_4 a0_5 a0_6 l0_7 l0_8 a1_0 a1_1 a1_2 a1_3 a1_4 a1_5 a1_6 a2_0 a2_1 a2_2 a2_3).bind fun bt412 => ((isobathref03_inSea.f a0_0 a0_1 a0_2 a0_3 a0_4 a0_5 a0_6 l0_7 l0_8 bt412.1 bt412.2.1 bt412.2.2.1 bt412.2.2.2).bind fun t416 => (if t416 = true then ((isobathref03_inTime.f a0_0 a0_1 a0_2 a0_3 a0_4 a0_5 a0_6 l0_7 l0_8 a3 (wrap64 (a3 + a1_1))).bind fun t417 => (some t417)) else (some false)))
def isobathref03_possible.T1 : Bool × List (List Nat × List Nat) := (true, [([], []), ([], []), ([], []), ([], []), ([1, 2, 3], [1, 2, 3]), ([0, 4, 4], [0, 4]), ([5, 5], [5]), ([6], [6]), ([6], [6]), ([6], [6]), ([6], [6]), ([10, 6], [6, 10]), ([9, 11, 6], [6, 9, 11]), ([7, 8, 12, 6, 6], [6, 7, 8, 12]), ([6, 13], [6, 13]), ([14, 13, 0, 1, 2, 3, 4, 5, 6, 7, 8, 9, 10, 11, 12, 13, 14], [14])])
def isobathref03_possible.B1 : List Nat := [0, 0, 0, 0, 14, 31, 63, 127, 127, 127, 127, 1151, 3711, 8191, 16383, 32767]
theorem isobathref03_possible.tab1 : rtab .any (opsOf Try.f105 1) = isobathref03_possible.T1 := by kernel_rfl
theorem isobathref03_possible.bits1 : waitsOk isobathref03_possible.T1.2 isobathref03_possible.B1 = true := by kernel_rfl
set_option maxHeartbeats 8000000 in
set_option maxRecDepth 100000 in
theorem isobathref03_possible.calls (k : Nat) (a0_0 : Int) (a0_1 : Int) (a0_2 : Int) (a0_3 : Int) (a0_4 : Int) (a0_5 : Int) (a0_6 : Int) (A0_7 : Option Addr) (c0_7 : Nat) (l0_7 : List Bool) (A0_8 : Option Addr) (c0_8 : Nat) (l0_8 : List (S40)) (a1_0 : Int) (a1_1 : Int) (a1_2 : Int) (a1_3 : Int) (a1_4 : Int) (a1_5 : Int) (a1_6 : Int) (a2_0 : Int) (a2_1 : Int) (a2_2 : Int) (a2_3 : Int) (a3 : Int) (r : Bool) (w : World) (hr0_7 : Kd.C Kd.bool w A0_7 l0_7.length l0_7) (hc0_7 : l0_7.length ≤ c0_7) (hr0_8 : Kd.C k40 w A0_8 l0_8.length l0_8) (hc0_8 : l0_8.length ≤ c0_8) (h : isobathref03_possible.f k a0_0 a0_1 a0_2 a0_3 a0_4 a0_5 a0_6 l0_7 l0_8 a1_0 a1_1 a1_2 a1_3 a1_4 a1_5 a1_6 a2_0 a2_1 a2_2 a2_3 a3 = some r) :
  Calls Try.prog 105 #[.agg #[.int .i64 a0_0, .int .i64 a0_1, .int .i64 a0_2, .int .i64 a0_3, .int .i64 a0_4, .int .i64 a0_5, .int .i64 a0_6, .slice A0_7 l0_7.length c0_7, .slice A0_8 l0_8.length c0_8], .agg #[.int .i64 a1_0, .int .i64 a1_1, .int .i64 a1_2, .int .i64 a1_3, .int .i64 a1_4, .int .i64 a1_5, .int .i64 a1_6], .agg #[.int .i64 a2_0, .int .i64 a2_1, .int .i64 a2_2, .int .i64 a2_3], .int .i64 a3] w fun e w' => e = .returned (.bool r) ∧ Below w.heap.size w w' := by
 have hu25 := Try.underlying25
 have hu29 := Try.underlying29
 have hu31 := Try.underlying31
 have HR0_7 := Aside0.mk hr0_7
 have HC0_7 := Aside0.mk hc0_7
 clear hr0_7 hc0_7
 have HR0_8 := Aside0.mk hr0_8
 have HC0_8 := Aside0.mk hc0_8
 clear hr0_8 hc0_8
 have HB := Aside0.mk (Below.refl w.heap.size w)
 have H : ((isobathref03_Grown.f k a0_0 a0_1 a0_2 a0_3 a0_4 a0_5 a0_6 l0_7 l0_8 a1_0 a1_1 a1_2 a1_3 a1_4 a1_5 a1_6 a2_0 a2_1 a2_2 a2_3).bind fun bt412 => ((isobathref03_inSea.f a0_0 a0_1 a0_2 a0_3 a0_4 a0_5 a0_6 l0_7 l0_8 bt412.1 bt412.2.1 bt412.2.2.1 bt412.2.2.2).bind fun t416 => (if t416 = true then ((isobathref03_inTime.f a0_0 a0_1 a0_2 a0_3 a0_4 a0_5 a0_6 l0_7 l0_8 a3 (wrap64 (a3 + a1_1))).bind fun t417 => (some t417)) else (some false)))) = some r := h
 clear h
 replace H := Option.bind_eq_some_iff.mp H
 obtain ⟨⟨t412, t413, t414, t415⟩, A50, H⟩ := H
 replace H : ((isobathref03_inSea.f a0_0 a0_1 a0_2 a0_3 a0_4 a0_5 a0_6 l0_7 l0_8 t412 t413 t414 t415).bind fun t416 => (if t416 = true then ((isobathref03_inTime.f a0_0 a0_1 a0_2 a0_3 a0_4 a0_5 a0_6 l0_7 l0_8 a3 (wrap64 (a3 + a1_1))).bind fun t417 => (some t417)) else (some false))) = some r := H
 have A5 := Aside0.mk A50
 clear A50
 replace H := Option.bind_eq_some_iff.mp H
 obtain ⟨t416, A60, H⟩ := H
 replace H : (if t416 = true then ((isobathref03_inTime.f a0_0 a0_1 a0_2 a0_3 a0_4 a0_5 a0_6 l0_7 l0_8 a3 (wrap64 (a3 + a1_1))).bind fun t417 => (some t417)) else (some false)) = some r := H
 have A6 := Aside0.mk A60
 clear A60
 by_cases c7 : t416 = true
 ·subst c7
  have H1 : ((isobathref03_inTime.f a0_0 a0_1 a0_2 a0_3 a0_4 a0_5 a0_6 l0_7 l0_8 a3 (wrap64 (a3 + a1_1))).bind fun t417 => (some t417)) = some r := by rw [if_pos rfl] at H; exact H
  clear H
  have H := H1
  clear H1
  replace H := Option.bind_eq_some_iff.mp H
  obtain ⟨t417, A80, H⟩ := H
  replace H : (some t417) = some r := H
  have A8 := Aside0.mk A80
  clear A80
  obtain rfl := Option.some.inj H
  go_enter Try.func105, Try.ntmps105
  try go_wp2_with (first | ((with_reducible refine gate_dst (N := 4) rfl ?_); refine box_event (by rfl) (N := 4) (by rfl) (cs := #[.int .i64 a0_0, .int .i64 a0_1, .int .i64 a0_2, .int .i64 a0_3, .int .i64 a0_4, .int .i64 a0_5, .int .i64 a0_6, .slice A0_7 l0_7.length c0_7, .slice A0_8 l0_8.length c0_8]) (t := 25) zq5 ?_; intro gb409 hg w9 hbox hb; have BK409 := Aside0.mk (hbox); have GW409 := zgs HB hg; have GE409 := zgs HB hg; replace HB := zbs HB hb; clear hb hbox hg) | ((with_reducible refine gate_dst (N := 5) rfl ?_); refine box_event (by rfl) (N := 5) (by rfl) (cs := #[.int .i64 a1_0, .int .i64 a1_1, .int .i64 a1_2, .int .i64 a1_3, .int .i64 a1_4, .int .i64 a1_5, .int .i64 a1_6]) (t := 29) zq5 ?_; intro gb410 hg w10 hbox hb; have BK410 := Aside0.mk (hbox); have GW410 := zgs HB hg; have GE410 := zgs HB hg; have NB409_410 := znp BK409 hg; have NB410_409 := znq BK409 hg; replace BK409 := zbb BK409 hb; replace HB := zbs HB hb; clear hb hbox hg) | ((with_reducible refine gate_dst (N := 6) rfl ?_); refine box_event (by rfl) (N := 6) (by rfl) (cs := #[.int .i64 a2_0, .int .i64 a2_1, .int .i64 a2_2, .int .i64 a2_3]) (t := 31) zq5 ?_; intro gb411 hg w11 hbox hb; have BK411 := Aside0.mk (hbox); have GW411 := zgs HB hg; have GE411 := zgs HB hg; have NB409_411 := znp BK409 hg; have NB411_409 := znq BK409 hg; have NB410_411 := znp BK410 hg; have NB411_410 := znq BK410 hg; replace BK409 := zbb BK409 hb; replace BK410 := zbb BK410 hb; replace HB := zbs HB hb; clear hb hbox hg))
  replace BK409 := Aside0.mk (blk_drew BK409.out)
  replace BK410 := Aside0.mk (blk_drew BK410.out)
  replace BK411 := Aside0.mk (blk_drew BK411.out)
  replace HB := Aside0.mk (below_drew1 HB.out)
  refine start_ (n := 16) (S := fun w' => w'.cell? ⟨gb409, 0, none⟩ = some (.int .i64 a0_0) ∧ w'.cell? ⟨gb409, 1, none⟩ = some (.int .i64 a0_1) ∧ w'.cell? ⟨gb409, 2, none⟩ = some (.int .i64 a0_2) ∧ w'.cell? ⟨gb409, 3, none⟩ = some (.int .i64 a0_3) ∧ w'.cell? ⟨gb409, 4, none⟩ = some (.int .i64 a0_4) ∧ w'.cell? ⟨gb409, 5, none⟩ = some (.int .i64 a0_5) ∧ w'.cell? ⟨gb409, 6, none⟩ = some (.int .i64 a0_6) ∧ w'.cell? ⟨gb409, 7, none⟩ = some (.slice A0_7 l0_7.length c0_7) ∧ w'.cell? ⟨gb409, 8, none⟩ = some (.slice A0_8 l0_8.length c0_8) ∧ w'.cell? ⟨gb410, 0, none⟩ = some (.int .i64 a1_0) ∧ w'.cell? ⟨gb410, 1, none⟩ = some (.int .i64 a1_1) ∧ w'.cell? ⟨gb410, 2, none⟩ = some (.int .i64 a1_2) ∧ w'.cell? ⟨gb410, 3, none⟩ = some (.int .i64 a1_3) ∧ w'.cell? ⟨gb410, 4, none⟩ = some (.int .i64 a1_4) ∧ w'.cell? ⟨gb410, 5, none⟩ = some (.int .i64 a1_5) ∧ w'.cell? ⟨gb410, 6, none⟩ = some (.int .i64 a1_6) ∧ w'.cell? ⟨gb411, 0, none⟩ = some (.int .i64 a2_0) ∧ w'.cell? ⟨gb411, 1, none⟩ = some (.int .i64 a2_1) ∧ w'.cell? ⟨gb411, 2, none⟩ = some (.int .i64 a2_2) ∧ w'.cell? ⟨gb411, 3, none⟩ = some (.int .i64 a2_3)) (ds := []) #[false, false, false, false, false, false, false, false, false, false, false, false, false, false, false, false] zq1 rfl rfl ⟨(blk_cell BK409.out 0).trans rfl, (blk_cell BK409.out 1).trans rfl, (blk_cell BK409.out 2).trans rfl, (blk_cell BK409.out 3).trans rfl, (blk_cell BK409.out 4).trans rfl, (blk_cell BK409.out 5).trans rfl, (blk_cell BK409.out 6).trans rfl, (blk_cell BK409.out 7).trans rfl, (blk_cell BK409.out 8).trans rfl, (blk_cell BK410.out 0).trans rfl, (blk_cell BK410.out 1).trans rfl, (blk_cell BK410.out 2).trans rfl, (blk_cell BK410.out 3).trans rfl, (blk_cell BK410.out 4).trans rfl, (blk_cell BK410.out 5).trans rfl, (blk_cell BK410.out 6).trans rfl, (blk_cell BK411.out 0).trans rfl, (blk_cell BK411.out 1).trans rfl, (blk_cell BK411.out 2).trans rfl, (blk_cell BK411.out 3).trans rfl⟩ (fun hHeld => ?_); refine with_tabW isobathref03_possible.tab1 isobathref03_possible.bits1 (fun HT_ HW_ => ?_)
  generalize w11.drew = w12 at BK409 BK410 BK411 HB hHeld ⊢
  refine ztz (i := 0) (N := some 9) (take_ofW HT_.out HW_.out zq1) hHeld ?_
  refine ztz (i := 1) (N := some 10) (take_ofW HT_.out HW_.out zq1) hHeld ?_
  refine ztz (i := 2) (N := some 11) (take_ofW HT_.out HW_.out zq1) hHeld ?_
  refine ztz (i := 3) (N := some 12) (take_ofW HT_.out HW_.out zq1) hHeld ?_
  refine one_ (i := 4) (N := some 13) #[true, true, true, true, true, false, false, false, false, false, false, false, false, false, false, false] rfl rfl (one_of HT_.out zq1) (by decide) (fun K hK => ?_)
  refine goes_ Try.func133 zq1 rfl #[.agg #[.int .i64 a0_0, .int .i64 a0_1, .int .i64 a0_2, .int .i64 a0_3, .int .i64 a0_4, .int .i64 a0_5, .int .i64 a0_6, .slice A0_7 l0_7.length c0_7, .slice A0_8 l0_8.length c0_8], .agg #[.int .i64 a1_0, .int .i64 a1_1, .int .i64 a1_2, .int .i64 a1_3, .int .i64 a1_4, .int .i64 a1_5, .int .i64 a1_6], .agg #[.int .i64 a2_0, .int .i64 a2_1, .int .i64 a2_2, .int .i64 a2_3]] (by rfl) rfl rfl zq8 ?_
  with_reducible refine (isobathref03_Grown.calls k a0_0 a0_1 a0_2 a0_3 a0_4 a0_5 a0_6 _ _ l0_7 _ _ l0_8 a1_0 a1_1 a1_2 a1_3 a1_4 a1_5 a1_6 a2_0 a2_1 a2_2 a2_3 t412 t413 t414 t415 _ ?side1 ?side2 ?side3 ?side4 A5.out).mono ?_
  (case side1 => repeat (first | exact (Kd.C_below HR0_7.out HB.out) | (with_reducible refine Kd.C_alloc ?_ _) | (with_reducible refine Kd.C_drewN ?_ _) | (with_reducible refine Kd.C_drew ?_)))
  (case side2 => exact HC0_7.out)
  (case side3 => repeat (first | exact (Kd.C_below HR0_8.out HB.out) | (with_reducible refine Kd.C_alloc ?_ _) | (with_reducible refine Kd.C_drewN ?_ _) | (with_reducible refine Kd.C_drew ?_)))
  (case side4 => exact HC0_8.out)
  rintro e w13 ⟨rfl, hb⟩
  refine ⟨_, rfl, ?_⟩
  replace BK409 := zbb BK409 hb
  replace BK410 := zbb BK410 hb
  replace BK411 := zbb BK411 hb
  replace HB := zbs HB hb
  (try clear hb)
  (try clear hb2)
  (try clear hk)
  (try clear hi)
  refine hK.out _ _ ⟨(blk_cell BK409.out 0).trans rfl, (blk_cell BK409.out 1).trans rfl, (blk_cell BK409.out 2).trans rfl, (blk_cell BK409.out 3).trans rfl, (blk_cell BK409.out 4).trans rfl, (blk_cell BK409.out 5).trans rfl, (blk_cell BK409.out 6).trans rfl, (blk_cell BK409.out 7).trans rfl, (blk_cell BK409.out 8).trans rfl, (blk_cell BK410.out 0).trans rfl, (blk_cell BK410.out 1).trans rfl, (blk_cell BK410.out 2).trans rfl, (blk_cell BK410.out 3).trans rfl, (blk_cell BK410.out 4).trans rfl, (blk_cell BK410.out 5).trans rfl, (blk_cell BK410.out 6).trans rfl, (blk_cell BK411.out 0).trans rfl, (blk_cell BK411.out 1).trans rfl, (blk_cell BK411.out 2).trans rfl, (blk_cell BK411.out 3).trans rfl⟩ (fun hHeld => ?_)
  clear hK K
  refine norm_ zq22 ?_
  refine one_ (i := 5) (N := some 14) #[true, true, true, true, true, true, false, false, false, false, false, false, false, false, false, false] rfl rfl (one_of HT_.out zq1) (by decide) (fun K hK => ?_)
  refine goes_ Try.func71 zq1 rfl #[.agg #[.int .i64 a0_0, .int .i64 a0_1, .int .i64 a0_2, .int .i64 a0_3, .int .i64 a0_4, .int .i64 a0_5, .int .i64 a0_6, .slice A0_7 l0_7.length c0_7, .slice A0_8 l0_8.length c0_8], .agg #[.int .i64 t412, .int .i64 t413, .int .i64 t414, .int .i64 t415]] (by rfl) rfl rfl zq8 ?_
  with_reducible refine (isobathref03_inSea.calls a0_0 a0_1 a0_2 a0_3 a0_4 a0_5 a0_6 _ _ l0_7 _ _ l0_8 t412 t413 t414 t415 true _ ?side1 ?side2 ?side3 ?side4 A6.out).mono ?_
  (case side1 => repeat (first | exact (Kd.C_below HR0_7.out HB.out) | (with_reducible refine Kd.C_alloc ?_ _) | (with_reducible refine Kd.C_drewN ?_ _) | (with_reducible refine Kd.C_drew ?_)))
  (case side2 => exact HC0_7.out)
  (case side3 => repeat (first | exact (Kd.C_below HR0_8.out HB.out) | (with_reducible refine Kd.C_alloc ?_ _) | (with_reducible refine Kd.C_drewN ?_ _) | (with_reducible refine Kd.C_drew ?_)))
  (case side4 => exact HC0_8.out)
  rintro e w14 ⟨rfl, hb⟩
  refine ⟨_, rfl, ?_⟩
  replace BK409 := zbb BK409 hb
  replace BK410 := zbb BK410 hb
  replace BK411 := zbb BK411 hb
  replace HB := zbs HB hb
  (try clear hb)
  (try clear hb2)
  (try clear hk)
  (try clear hi)
  refine hK.out _ _ ⟨(blk_cell BK409.out 0).trans rfl, (blk_cell BK409.out 1).trans rfl, (blk_cell BK409.out 2).trans rfl, (blk_cell BK409.out 3).trans rfl, (blk_cell BK409.out 4).trans rfl, (blk_cell BK409.out 5).trans rfl, (blk_cell BK409.out 6).trans rfl, (blk_cell BK409.out 7).trans rfl, (blk_cell BK409.out 8).trans rfl, (blk_cell BK410.out 0).trans rfl, (blk_cell BK410.out 1).trans rfl, (blk_cell BK410.out 2).trans rfl, (blk_cell BK410.out 3).trans rfl, (blk_cell BK410.out 4).trans rfl, (blk_cell BK410.out 5).trans rfl, (blk_cell BK410.out 6).trans rfl, (blk_cell BK411.out 0).trans rfl, (blk_cell BK411.out 1).trans rfl, (blk_cell BK411.out 2).trans rfl, (blk_cell BK411.out 3).trans rfl⟩ (fun hHeld => ?_)
  clear hK K
  refine norm_ zq38 ?_
  refine zpz (i := 6) (N := some 15) (any_of HT_.out zq1) ?_
  refine zpz (i := 8) (N := some 17) (any_of HT_.out zq1) ?_
  refine zpz (i := 9) (N := some 18) (any_of HT_.out zq1) ?_
  refine zpz (i := 10) (N := some 19) (any_of HT_.out zq1) ?_
  refine ztz (i := 7) (N := some 16) (take_ofW HT_.out HW_.out zq1) hHeld ?_
  refine ztz (i := 11) (N := some 20) (take_ofW HT_.out HW_.out zq1) hHeld ?_
  refine zpz (i := 12) (N := some 21) (any_of HT_.out zq1) ?_
  refine one_ (i := 13) (N := some 22) #[true, true, true, true, true, true, true, true, true, true, true, true, true, true, false, false] rfl rfl (one_of HT_.out zq1) (by decide) (fun K hK => ?_)
  refine goes_ Try.func72 zq1 rfl #[.agg #[.int .i64 a0_0, .int .i64 a0_1, .int .i64 a0_2, .int .i64 a0_3, .int .i64 a0_4, .int .i64 a0_5, .int .i64 a0_6, .slice A0_7 l0_7.length c0_7, .slice A0_8 l0_8.length c0_8], .int .i64 a3, .int .i64 (wrap64 (a3 + a1_1))] (by rfl) rfl rfl zq8 ?_
  with_reducible refine (isobathref03_inTime.calls a0_0 a0_1 a0_2 a0_3 a0_4 a0_5 a0_6 _ _ l0_7 _ _ l0_8 a3 (wrap64 (a3 + a1_1)) t417 _ ?side1 ?side2 ?side3 ?side4 A8.out).mono ?_
  (case side1 => repeat (first | exact (Kd.C_below HR0_7.out HB.out) | (with_reducible refine Kd.C_alloc ?_ _) | (with_reducible refine Kd.C_drewN ?_ _) | (with_reducible refine Kd.C_drew ?_)))
  (case side2 => exact HC0_7.out)
  (case side3 => repeat (first | exact (Kd.C_below HR0_8.out HB.out) | (with_reducible refine Kd.C_alloc ?_ _) | (with_reducible refine Kd.C_drewN ?_ _) | (with_reducible refine Kd.C_drew ?_)))
  (case side4 => exact HC0_8.out)
  rintro e w15 ⟨rfl, hb⟩
  refine ⟨_, rfl, ?_⟩
  replace BK409 := zbb BK409 hb
  replace BK410 := zbb BK410 hb
  replace BK411 := zbb BK411 hb
  replace HB := zbs HB hb
  (try clear hb)
  (try clear hb2)
  (try clear hk)
  (try clear hi)
  refine hK.out _ _ ⟨(blk_cell BK409.out 0).trans rfl, (blk_cell BK409.out 1).trans rfl, (blk_cell BK409.out 2).trans rfl, (blk_cell BK409.out 3).trans rfl, (blk_cell BK409.out 4).trans rfl, (blk_cell BK409.out 5).trans rfl, (blk_cell BK409.out 6).trans rfl, (blk_cell BK409.out 7).trans rfl, (blk_cell BK409.out 8).trans rfl, (blk_cell BK410.out 0).trans rfl, (blk_cell BK410.out 1).trans rfl, (blk_cell BK410.out 2).trans rfl, (blk_cell BK410.out 3).trans rfl, (blk_cell BK410.out 4).trans rfl, (blk_cell BK410.out 5).trans rfl, (blk_cell BK410.out 6).trans rfl, (blk_cell BK411.out 0).trans rfl, (blk_cell BK411.out 1).trans rfl, (blk_cell BK411.out 2).trans rfl, (blk_cell BK411.out 3).trans rfl⟩ (fun hHeld => ?_)
  clear hK K
  refine norm_ (by show Act.put _ (some 22) _ = _; simp only [Act.put, List.setIfInBounds_toArray, List.set_cons_zero, List.set_cons_succ, i64_w, i32_w]; rfl) ?_
  refine zpz (i := 14) (N := some 23) (any_of HT_.out zq1) ?_
  refine zpz (i := 15) (N := some 8) (any_of HT_.out zq1) ?_
  refine done_ (done_of HT_.out zq1) ?_
  try go_wp2
  go_ret
  exact ⟨zq6, zbz⟩
 ·replace c7 := Bool.eq_false_iff.mpr c7
  subst c7
  have H1 : (some false) = some r := by rw [if_neg (show ¬ (false = true) by decide)] at H; exact H
  clear H
  have H := H1
  clear H1
  obtain rfl := Option.some.inj H
  go_enter Try.func105, Try.ntmps105
  try go_wp2_with (first | ((with_reducible refine gate_dst (N := 4) rfl ?_); refine box_event (by rfl) (N := 4) (by rfl) (cs := #[.int .i64 a0_0, .int .i64 a0_1, .int .i64 a0_2, .int .i64 a0_3, .int .i64 a0_4, .int .i64 a0_5, .int .i64 a0_6, .slice A0_7 l0_7.length c0_7, .slice A0_8 l0_8.length c0_8]) (t := 25) zq5 ?_; intro gb409 hg w16 hbox hb; have BK409 := Aside0.mk (hbox); have GW409 := zgs HB hg; have GE409 := zgs HB hg; replace HB := zbs HB hb; clear hb hbox hg) | ((with_reducible refine gate_dst (N := 5) rfl ?_); refine box_event (by rfl) (N := 5) (by rfl) (cs := #[.int .i64 a1_0, .int .i64 a1_1, .int .i64 a1_2, .int .i64 a1_3, .int .i64 a1_4, .int .i64 a1_5, .int .i64 a1_6]) (t := 29) zq5 ?_; intro gb410 hg w17 hbox hb; have BK410 := Aside0.mk (hbox); have GW410 := zgs HB hg; have GE410 := zgs HB hg; have NB409_410 := znp BK409 hg; have NB410_409 := znq BK409 hg; replace BK409 := zbb BK409 hb; replace HB := zbs HB hb; clear hb hbox hg) | ((with_reducible refine gate_dst (N := 6) rfl ?_); refine box_event (by rfl) (N := 6) (by rfl) (cs := #[.int .i64 a2_0, .int .i64 a2_1, .int .i64 a2_2, .int .i64 a2_3]) (t := 31) zq5 ?_; intro gb411 hg w18 hbox hb; have BK411 := Aside0.mk (hbox); have GW411 := zgs HB hg; have GE411 := zgs HB hg; have NB409_411 := znp BK409 hg; have NB411_409 := znq BK409 hg; have NB410_411 := znp BK410 hg; have NB411_410 := znq BK410 hg; replace BK409 := zbb BK409 hb; replace BK410 := zbb BK410 hb; replace HB := zbs HB hb; clear hb hbox hg))
  replace BK409 := Aside0.mk (blk_drew BK409.out)
  replace BK410 := Aside0.mk (blk_drew BK410.out)
  replace BK411 := Aside0.mk (blk_drew BK411.out)
  replace HB := Aside0.mk (below_drew1 HB.out)
  refine start_ (n := 16) (S := fun w' => w'.cell? ⟨gb409, 0, none⟩ = some (.int .i64 a0_0) ∧ w'.cell? ⟨gb409, 1, none⟩ = some (.int .i64 a0_1) ∧ w'.cell? ⟨gb409, 2, none⟩ = some (.int .i64 a0_2) ∧ w'.cell? ⟨gb409, 3, none⟩ = some (.int .i64 a0_3) ∧ w'.cell? ⟨gb409, 4, none⟩ = some (.int .i64 a0_4) ∧ w'.cell? ⟨gb409, 5, none⟩ = some (.int .i64 a0_5) ∧ w'.cell? ⟨gb409, 6, none⟩ = some (.int .i64 a0_6) ∧ w'.cell? ⟨gb409, 7, none⟩ = some (.slice A0_7 l0_7.length c0_7) ∧ w'.cell? ⟨gb409, 8, none⟩ = some (.slice A0_8 l0_8.length c0_8) ∧ w'.cell? ⟨gb410, 0, none⟩ = some (.int .i64 a1_0) ∧ w'.cell? ⟨gb410, 1, none⟩ = some (.int .i64 a1_1) ∧ w'.cell? ⟨gb410, 2, none⟩ = some (.int .i64 a1_2) ∧ w'.cell? ⟨gb410, 3, none⟩ = some (.int .i64 a1_3) ∧ w'.cell? ⟨gb410, 4, none⟩ = some (.int .i64 a1_4) ∧ w'.cell? ⟨gb410, 5, none⟩ = some (.int .i64 a1_5) ∧ w'.cell? ⟨gb410, 6, none⟩ = some (.int .i64 a1_6) ∧ w'.cell? ⟨gb411, 0, none⟩ = some (.int .i64 a2_0) ∧ w'.cell? ⟨gb411, 1, none⟩ = some (.int .i64 a2_1) ∧ w'.cell? ⟨gb411, 2, none⟩ = some (.int .i64 a2_2) ∧ w'.cell? ⟨gb411, 3, none⟩ = some (.int .i64 a2_3)) (ds := []) #[false, false, false, false, false, false, false, false, false, false, false, false, false, false, false, false] zq1 rfl rfl ⟨(blk_cell BK409.out 0).trans rfl, (blk_cell BK409.out 1).trans rfl, (blk_cell BK409.out 2).trans rfl, (blk_cell BK409.out 3).trans rfl, (blk_cell BK409.out 4).trans rfl, (blk_cell BK409.out 5).trans rfl, (blk_cell BK409.out 6).trans rfl, (blk_cell BK409.out 7).trans rfl, (blk_cell BK409.out 8).trans rfl, (blk_cell BK410.out 0).trans rfl, (blk_cell BK410.out 1).trans rfl, (blk_cell BK410.out 2).trans rfl, (blk_cell BK410.out 3).trans rfl, (blk_cell BK410.out 4).trans rfl, (blk_cell BK410.out 5).trans rfl, (blk_cell BK410.out 6).trans rfl, (blk_cell BK411.out 0).trans rfl, (blk_cell BK411.out 1).trans rfl, (blk_cell BK411.out 2).trans rfl, (blk_cell BK411.out 3).trans rfl⟩ (fun hHeld => ?_); refine with_tabW isobathref03_possible.tab1 isobathref03_possible.bits1 (fun HT_ HW_ => ?_)
  generalize w18.drew = w19 at BK409 BK410 BK411 HB hHeld ⊢
  refine ztz (i := 0) (N := some 9) (take_ofW HT_.out HW_.out zq1) hHeld ?_
  refine ztz (i := 1) (N := some 10) (take_ofW HT_.out HW_.out zq1) hHeld ?_
  refine ztz (i := 2) (N := some 11) (take_ofW HT_.out HW_.out zq1) hHeld ?_
  refine ztz (i := 3) (N := some 12) (take_ofW HT_.out HW_.out zq1) hHeld ?_
  refine one_ (i := 4) (N := some 13) #[true, true, true, true, true, false, false, false, false, false, false, false, false, false, false, false] rfl rfl (one_of HT_.out zq1) (by decide) (fun K hK => ?_)
  refine goes_ Try.func133 zq1 rfl #[.agg #[.int .i64 a0_0, .int .i64 a0_1, .int .i64 a0_2, .int .i64 a0_3, .int .i64 a0_4, .int .i64 a0_5, .int .i64 a0_6, .slice A0_7 l0_7.length c0_7, .slice A0_8 l0_8.length c0_8], .agg #[.int .i64 a1_0, .int .i64 a1_1, .int .i64 a1_2, .int .i64 a1_3, .int .i64 a1_4, .int .i64 a1_5, .int .i64 a1_6], .agg #[.int .i64 a2_0, .int .i64 a2_1, .int .i64 a2_2, .int .i64 a2_3]] (by rfl) rfl rfl zq8 ?_
  with_reducible refine (isobathref03_Grown.calls k a0_0 a0_1 a0_2 a0_3 a0_4 a0_5 a0_6 _ _ l0_7 _ _ l0_8 a1_0 a1_1 a1_2 a1_3 a1_4 a1_5 a1_6 a2_0 a2_1 a2_2 a2_3 t412 t413 t414 t415 _ ?side1 ?side2 ?side3 ?side4 A5.out).mono ?_
  (case side1 => repeat (first | exact (Kd.C_below HR0_7.out HB.out) | (with_reducible refine Kd.C_alloc ?_ _) | (with_reducible refine Kd.C_drewN ?_ _) | (with_reducible refine Kd.C_drew ?_)))
  (case side2 => exact HC0_7.out)
  (case side3 => repeat (first | exact (Kd.C_below HR0_8.out HB.out) | (with_reducible refine Kd.C_alloc ?_ _) | (with_reducible refine Kd.C_drewN ?_ _) | (with_reducible refine Kd.C_drew ?_)))
  (case side4 => exact HC0_8.out)
  rintro e w20 ⟨rfl, hb⟩
  refine ⟨_, rfl, ?_⟩
  replace BK409 := zbb BK409 hb
  replace BK410 := zbb BK410 hb
  replace BK411 := zbb BK411 hb
  replace HB := zbs HB hb
  (try clear hb)
  (try clear hb2)
  (try clear hk)
  (try clear hi)
  refine hK.out _ _ ⟨(blk_cell BK409.out 0).trans rfl, (blk_cell BK409.out 1).trans rfl, (blk_cell BK409.out 2).trans rfl, (blk_cell BK409.out 3).trans rfl, (blk_cell BK409.out 4).trans rfl, (blk_cell BK409.out 5).trans rfl, (blk_cell BK409.out 6).trans rfl, (blk_cell BK409.out 7).trans rfl, (blk_cell BK409.out 8).trans rfl, (blk_cell BK410.out 0).trans rfl, (blk_cell BK410.out 1).trans rfl, (blk_cell BK410.out 2).trans rfl, (blk_cell BK410.out 3).trans rfl, (blk_cell BK410.out 4).trans rfl, (blk_cell BK410.out 5).trans rfl, (blk_cell BK410.out 6).trans rfl, (blk_cell BK411.out 0).trans rfl, (blk_cell BK411.out 1).trans rfl, (blk_cell BK411.out 2).trans rfl, (blk_cell BK411.out 3).trans rfl⟩ (fun hHeld => ?_)
  clear hK K
  refine norm_ zq22 ?_
  refine one_ (i := 5) (N := some 14) #[true, true, true, true, true, true, false, false, false, false, false, false, false, false, false, false] rfl rfl (one_of HT_.out zq1) (by decide) (fun K hK => ?_)
  refine goes_ Try.func71 zq1 rfl #[.agg #[.int .i64 a0_0, .int .i64 a0_1, .int .i64 a0_2, .int .i64 a0_3, .int .i64 a0_4, .int .i64 a0_5, .int .i64 a0_6, .slice A0_7 l0_7.length c0_7, .slice A0_8 l0_8.length c0_8], .agg #[.int .i64 t412, .int .i64 t413, .int .i64 t414, .int .i64 t415]] (by rfl) rfl rfl zq8 ?_
  with_reducible refine (isobathref03_inSea.calls a0_0 a0_1 a0_2 a0_3 a0_4 a0_5 a0_6 _ _ l0_7 _ _ l0_8 t412 t413 t414 t415 false _ ?side1 ?side2 ?side3 ?side4 A6.out).mono ?_
  (case side1 => repeat (first | exact (Kd.C_below HR0_7.out HB.out) | (with_reducible refine Kd.C_alloc ?_ _) | (with_reducible refine Kd.C_drewN ?_ _) | (with_reducible refine Kd.C_drew ?_)))
  (case side2 => exact HC0_7.out)
  (case side3 => repeat (first | exact (Kd.C_below HR0_8.out HB.out) | (with_reducible refine Kd.C_alloc ?_ _) | (with_reducible refine Kd.C_drewN ?_ _) | (with_reducible refine Kd.C_drew ?_)))
  (case side4 => exact HC0_8.out)
  rintro e w21 ⟨rfl, hb⟩
  refine ⟨_, rfl, ?_⟩
  replace BK409 := zbb BK409 hb
  replace BK410 := zbb BK410 hb
  replace BK411 := zbb BK411 hb
  replace HB := zbs HB hb
  (try clear hb)
  (try clear hb2)
  (try clear hk)
  (try clear hi)
  refine hK.out _ _ ⟨(blk_cell BK409.out 0).trans rfl, (blk_cell BK409.out 1).trans rfl, (blk_cell BK409.out 2).trans rfl, (blk_cell BK409.out 3).trans rfl, (blk_cell BK409.out 4).trans rfl, (blk_cell BK409.out 5).trans rfl, (blk_cell BK409.out 6).trans rfl, (blk_cell BK409.out 7).trans rfl, (blk_cell BK409.out 8).trans rfl, (blk_cell BK410.out 0).trans rfl, (blk_cell BK410.out 1).trans rfl, (blk_cell BK410.out 2).trans rfl, (blk_cell BK410.out 3).trans rfl, (blk_cell BK410.out 4).trans rfl, (blk_cell BK410.out 5).trans rfl, (blk_cell BK410.out 6).trans rfl, (blk_cell BK411.out 0).trans rfl, (blk_cell BK411.out 1).trans rfl, (blk_cell BK411.out 2).trans rfl, (blk_cell BK411.out 3).trans rfl⟩ (fun hHeld => ?_)
  clear hK K
  refine norm_ zq38 ?_
  refine zpz (i := 6) (N := some 15) (any_of HT_.out zq1) ?_
  refine pure_ (i := 7) (N := some 16) (v := undef) (a' := ?_) #[true, true, true, true, true, true, true, true, false, false, false, false, false, false, false, false] rfl rfl (any_of HT_.out zq1) (fun _ _ _ h => h) (Or.inr ⟨by rfl, rfl⟩) ?_ ?_
  rotate_left
  ·simp only [Act.put, List.setIfInBounds_toArray, List.set_cons_zero, List.set_cons_succ, i64_w, i32_w]
   rfl
  refine pure_ (i := 8) (N := some 17) (v := undef) (a' := ?_) #[true, true, true, true, true, true, true, true, true, false, false, false, false, false, false, false] rfl rfl (any_of HT_.out zq1) (fun _ _ _ h => h) (Or.inr ⟨by rfl, rfl⟩) ?_ ?_
  rotate_left
  ·simp only [Act.put, List.setIfInBounds_toArray, List.set_cons_zero, List.set_cons_succ, i64_w, i32_w]
   rfl
  refine pure_ (i := 9) (N := some 18) (v := undef) (a' := ?_) #[true, true, true, true, true, true, true, true, true, true, false, false, false, false, false, false] rfl rfl (any_of HT_.out zq1) (fun _ _ _ h => h) (Or.inr ⟨by rfl, rfl⟩) ?_ ?_
  rotate_left
  ·simp only [Act.put, List.setIfInBounds_toArray, List.set_cons_zero, List.set_cons_succ, i64_w, i32_w]
   rfl
  refine pure_ (i := 10) (N := some 19) (v := undef) (a' := ?_) #[true, true, true, true, true, true, true, true, true, true, true, false, false, false, false, false] rfl rfl (any_of HT_.out zq1) (fun _ _ _ h => h) (Or.inr ⟨by rfl, rfl⟩) ?_ ?_
  rotate_left
  ·simp only [Act.put, List.setIfInBounds_toArray, List.set_cons_zero, List.set_cons_succ, i64_w, i32_w]
   rfl
  refine pure_ (i := 11) (N := some 20) (v := undef) (a' := ?_) #[true, true, true, true, true, true, true, true, true, true, true, true, false, false, false, false] rfl rfl (any_of HT_.out zq1) (fun _ _ _ h => h) (Or.inr ⟨by rfl, rfl⟩) ?_ ?_
  rotate_left
  ·simp only [Act.put, List.setIfInBounds_toArray, List.set_cons_zero, List.set_cons_succ, i64_w, i32_w]
   rfl
  refine pure_ (i := 12) (N := some 21) (v := undef) (a' := ?_) #[true, true, true, true, true, true, true, true, true, true, true, true, true, false, false, false] rfl rfl (any_of HT_.out zq1) (fun _ _ _ h => h) (Or.inr ⟨by rfl, rfl⟩) ?_ ?_
  rotate_left
  ·simp only [Act.put, List.setIfInBounds_toArray, List.set_cons_zero, List.set_cons_succ, i64_w, i32_w]
   rfl
  refine pure_ (i := 13) (N := some 22) (v := undef) (a' := ?_) #[true, true, true, true, true, true, true, true, true, true, true, true, true, true, false, false] rfl rfl (any_of HT_.out zq1) (fun _ _ _ h => h) (Or.inr ⟨by rfl, rfl⟩) ?_ ?_
  rotate_left
  ·simp only [Act.put, List.setIfInBounds_toArray, List.set_cons_zero, List.set_cons_succ, i64_w, i32_w]
   rfl
  refine zpz (i := 14) (N := some 23) (any_of HT_.out zq1) ?_
  refine zpz (i := 15) (N := some 8) (any_of HT_.out zq1) ?_
  refine done_ (done_of HT_.out zq1) ?_
  try go_wp2
  go_ret
  exact ⟨zq6, zbz⟩

end Go.Proofs.Ytmhaiihjfgfaoaa.Pr
end
section
namespace Go.Proofs.Ytmhaiihjfgfaoaa.Pr
open Go.RowKit Go.Proofs.YtmhaiihjfgfaoaaW.PrintWords Go.Proofs.YtmhaiihjfgfaoaaW.PrintLast Go.Proofs.YtmhaiihjfgfaoaaW.PrintMore
attribute [local go_sem] max2_int min2_int max_two min_two max_four
set_option linter.unusedVariables false
set_option linter.unusedSimpArgs false

/-! ### isobathref03_moved: function 134 -/
def isobathref03_moved.f (k : Nat) (a0_0 : Int) (a0_1 : Int) (a1 : Int) (a2_0 : Int) (a2_1 : Int) (a3 : Int) : Option (Int × Int) := (isobathref01_Down.f k (wrap64 ((wrap64 (a1 + (wrap64 (1000 * a2_0)))) * a3)) 1000000).bind fun t429 => ((isobathref01_Up.f k (wrap64 ((wrap64 (a1 + (wrap64 (1000 * a2_1)))) * a3)) 1000000).bind fun t430 => (some (wrap64 (a0_0 + t429), wrap64 (a0_1 + t430))))
def isobathref03_moved.T1 : Bool × List (List Nat × List Nat) := (true, [([], []), ([0], [0]), ([], []), ([], []), ([3], [3]), ([4], [4]), ([2, 5], [2, 5]), ([], []), ([6, 7], [6, 7]), ([8], [8]), ([1, 9], [1, 9]), ([], []), ([11], [11]), ([], []), ([], []), ([14], [14]), ([15], [15]), ([13, 16], [13, 16]), ([], []), ([17, 18], [17, 18]), ([19, 9], [19]), ([12, 20], [12, 20]), ([10, 21], [10, 21]), ([22, 20, 0, 1, 2, 3, 4, 5, 6, 7, 8, 9, 10, 11, 12, 13, 14, 15, 16, 17, 18, 19, 20, 21, 22], [22])])
def isobathref03_moved.B1 : List Nat := [0, 1, 0, 0, 8, 24, 60, 0, 252, 508, 1023, 0, 2048, 0, 0, 16384, 49152, 122880, 0, 516096, 1041404, 2096124, 4194303, 8388607]
theorem isobathref03_moved.tab1 : rtab .any (opsOf Try.f134 1) = isobathref03_moved.T1 := by kernel_rfl
theorem isobathref03_moved.bits1 : waitsOk isobathref03_moved.T1.2 isobathref03_moved.B1 = true := by kernel_rfl
set_option maxHeartbeats 8000000 in
set_option maxRecDepth 100000 in
theorem isobathref03_moved.calls (k : Nat) (a0_0 : Int) (a0_1 : Int) (a1 : Int) (a2_0 : Int) (a2_1 : Int) (a3 : Int) (r1 : Int) (r2 : Int) (w : World) (h : isobathref03_moved.f k a0_0 a0_1 a1 a2_0 a2_1 a3 = some (r1, r2)) :
  Calls Try.prog 134 #[.agg #[.int .i64 a0_0, .int .i64 a0_1], .int .i64 a1, .agg #[.int .i64 a2_0, .int .i64 a2_1], .int .i64 a3] w fun e w' => e = .returned (.agg #[.int .i64 r1, .int .i64 r2]) ∧ Below w.heap.size w w' := by
 have hu27 := Try.underlying27
 have HB := Aside0.mk (Below.refl w.heap.size w)
 have H : ((isobathref01_Down.f k (wrap64 ((wrap64 (a1 + (wrap64 (1000 * a2_0)))) * a3)) 1000000).bind fun t429 => ((isobathref01_Up.f k (wrap64 ((wrap64 (a1 + (wrap64 (1000 * a2_1)))) * a3)) 1000000).bind fun t430 => (some (wrap64 (a0_0 + t429), wrap64 (a0_1 + t430))))) = some (r1, r2) := h
 clear h
 replace H := Option.bind_eq_some_iff.mp H
 obtain ⟨t429, A50, H⟩ := H
 replace H : ((isobathref01_Up.f k (wrap64 ((wrap64 (a1 + (wrap64 (1000 * a2_1)))) * a3)) 1000000).bind fun t430 => (some (wrap64 (a0_0 + t429), wrap64 (a0_1 + t430)))) = some (r1, r2) := H
 have A5 := Aside0.mk A50
 clear A50
 replace H := Option.bind_eq_some_iff.mp H
 obtain ⟨t430, A60, H⟩ := H
 replace H : (some (wrap64 (a0_0 + t429), wrap64 (a0_1 + t430))) = some (r1, r2) := H
 have A6 := Aside0.mk A60
 clear A60
 simp only [Option.some.injEq, Prod.mk.injEq] at H
 obtain ⟨rfl, rfl⟩ := H
 go_enter Try.func134, Try.ntmps134
 try go_wp2_with (first | ((with_reducible refine gate_dst (N := 4) rfl ?_); refine box_event (by rfl) (N := 4) (by rfl) (cs := #[.int .i64 a0_0, .int .i64 a0_1]) (t := 27) zq5 ?_; intro gb426 hg w7 hbox hb; have BK426 := Aside0.mk (hbox); have GW426 := zgs HB hg; have GE426 := zgs HB hg; replace HB := zbs HB hb; clear hb hbox hg) | ((with_reducible refine gate_dst (N := 6) rfl ?_); refine box_event (by rfl) (N := 6) (by rfl) (cs := #[.int .i64 a2_0, .int .i64 a2_1]) (t := 27) zq5 ?_; intro gb427 hg w8 hbox hb; have BK427 := Aside0.mk (hbox); have GW427 := zgs HB hg; have GE427 := zgs HB hg; have NB426_427 := znp BK426 hg; have NB427_426 := znq BK426 hg; replace BK426 := zbb BK426 hb; replace HB := zbs HB hb; clear hb hbox hg) | ((with_reducible refine gate_dst (N := 8) rfl ?_); refine box_event (by rfl) (N := 8) (by rfl) (cs := #[.int .i64 0, .int .i64 0]) (t := 27) zq5 ?_; intro gb428 hg w9 hbox hb; have BK428 := Aside0.mk (hbox); have GW428 := zgs HB hg; have GE428 := zgs HB hg; have NB426_428 := znp BK426 hg; have NB428_426 := znq BK426 hg; have NB427_428 := znp BK427 hg; have NB428_427 := znq BK427 hg; replace BK426 := zbb BK426 hb; replace BK427 := zbb BK427 hb; replace HB := zbs HB hb; clear hb hbox hg))
 replace BK426 := Aside0.mk (blk_drew BK426.out)
 replace BK427 := Aside0.mk (blk_drew BK427.out)
 replace BK428 := Aside0.mk (blk_drew BK428.out)
 replace HB := Aside0.mk (below_drew1 HB.out)
 refine start_ (n := 24) (S := fun w' => w'.cell? ⟨gb426, 0, none⟩ = some (.int .i64 a0_0) ∧ w'.cell? ⟨gb426, 1, none⟩ = some (.int .i64 a0_1) ∧ w'.cell? ⟨gb427, 0, none⟩ = some (.int .i64 a2_0) ∧ w'.cell? ⟨gb427, 1, none⟩ = some (.int .i64 a2_1)) (ds := []) #[false, false, false, false, false, false, false, false, false, false, false, false, false, false, false, false, false, false, false, false, false, false, false, false] zq1 rfl rfl ⟨(blk_cell BK426.out 0).trans rfl, (blk_cell BK426.out 1).trans rfl, (blk_cell BK427.out 0).trans rfl, (blk_cell BK427.out 1).trans rfl⟩ (fun hHeld => ?_); refine with_tabW isobathref03_moved.tab1 isobathref03_moved.bits1 (fun HT_ HW_ => ?_)
 generalize w9.drew = w10 at BK426 BK427 BK428 HB hHeld ⊢
 refine zpz (i := 0) (N := some 9) (any_of HT_.out zq1) ?_
 refine zpz (i := 2) (N := some 11) (any_of HT_.out zq1) ?_
 refine zpz (i := 3) (N := some 12) (any_of HT_.out zq1) ?_
 refine zpz (i := 7) (N := some 16) (any_of HT_.out zq1) ?_
 refine zpz (i := 11) (N := some 20) (any_of HT_.out zq1) ?_
 refine zpz (i := 13) (N := some 22) (any_of HT_.out zq1) ?_
 refine zpz (i := 14) (N := some 23) (any_of HT_.out zq1) ?_
 refine zpz (i := 18) (N := some 27) (any_of HT_.out zq1) ?_
 refine ztz (i := 1) (N := some 10) (take_ofW HT_.out HW_.out zq1) hHeld ?_
 refine ztz (i := 4) (N := some 13) (take_ofW HT_.out HW_.out zq1) hHeld ?_
 refine zpz (i := 5) (N := some 14) (any_of HT_.out zq1) ?_
 refine zpz (i := 6) (N := some 15) (any_of HT_.out zq1) ?_
 refine zpz (i := 8) (N := some 17) (any_of HT_.out zq1) ?_
 refine ztz (i := 12) (N := some 21) (take_ofW HT_.out HW_.out zq1) hHeld ?_
 refine ztz (i := 15) (N := some 24) (take_ofW HT_.out HW_.out zq1) hHeld ?_
 refine zpz (i := 16) (N := some 25) (any_of HT_.out zq1) ?_
 refine zpz (i := 17) (N := some 26) (any_of HT_.out zq1) ?_
 refine zpz (i := 19) (N := some 28) (any_of HT_.out zq1) ?_
 refine one_ (i := 9) (N := some 18) #[true, true, true, true, true, true, true, true, true, true, false, true, true, true, true, true, true, true, true, true, false, false, false, false] rfl rfl (one_of HT_.out zq1) (by decide) (fun K hK => ?_)
 refine goes_ Try.func140 zq1 rfl #[.int .i64 (wrap64 ((wrap64 (a1 + (wrap64 (1000 * a2_0)))) * a3)), .int .i64 1000000] (by rfl) rfl rfl zq8 ?_
 with_reducible refine (isobathref01_Down.calls k (wrap64 ((wrap64 (a1 + (wrap64 (1000 * a2_0)))) * a3)) 1000000 t429 _ A5.out).mono ?_
 rintro e w' ⟨rfl, ⟨nd, rfl⟩⟩
 refine ⟨_, rfl, ?_⟩
 refine hK.out _ _ ⟨(blk_cell BK426.out 0).trans rfl, (blk_cell BK426.out 1).trans rfl, (blk_cell BK427.out 0).trans rfl, (blk_cell BK427.out 1).trans rfl⟩ (fun hHeld => ?_)
 clear hK K
 refine norm_ (by show Act.put _ (some 18) _ = _; simp only [Act.put, List.setIfInBounds_toArray, List.set_cons_zero, List.set_cons_succ, i64_w, i32_w]; rfl) ?_
 refine zpz (i := 10) (N := some 19) (any_of HT_.out zq1) ?_
 refine one_ (i := 20) (N := some 29) #[true, true, true, true, true, true, true, true, true, true, true, true, true, true, true, true, true, true, true, true, true, false, false, false] rfl rfl (one_of HT_.out zq1) (by decide) (fun K hK => ?_)
 refine goes_ Try.func139 zq1 rfl #[.int .i64 (wrap64 ((wrap64 (a1 + (wrap64 (1000 * a2_1)))) * a3)), .int .i64 1000000] (by rfl) rfl rfl zq8 ?_
 with_reducible refine (isobathref01_Up.calls k (wrap64 ((wrap64 (a1 + (wrap64 (1000 * a2_1)))) * a3)) 1000000 t430 _ A6.out).mono ?_
 rintro e w' ⟨rfl, ⟨nd, rfl⟩⟩
 refine ⟨_, rfl, ?_⟩
 refine hK.out _ _ ⟨(blk_cell BK426.out 0).trans rfl, (blk_cell BK426.out 1).trans rfl, (blk_cell BK427.out 0).trans rfl, (blk_cell BK427.out 1).trans rfl⟩ (fun hHeld => ?_)
 clear hK K
 refine norm_ zq25 ?_
 refine zpz (i := 21) (N := some 30) (any_of HT_.out zq1) ?_
 refine zpz (i := 22) (N := some 31) (any_of HT_.out zq1) ?_
 refine one_ (i := 23) (N := none) #[true, true, true, true, true, true, true, true, true, true, true, true, true, true, true, true, true, true, true, true, true, true, true, true] rfl rfl (one_of HT_.out zq1) (by decide) (fun K hK => ?_)
 have hs11 : w10.cell? ⟨gb428, 0, none⟩ = some (.int .i64 0) := (blk_cell BK428.out 0).trans rfl
 have hfs11 := blk_frozen BK428.out 0
 have hns11_0 := NB426_428.out
 have hns11_1 := NB427_428.out
 have hms11_0 := NB428_426.out
 have hms11_1 := NB428_427.out
 have hs12 : w10.cell? ⟨gb428, 1, none⟩ = some (.int .i64 0) := (blk_cell BK428.out 1).trans rfl
 have hfs12 := blk_frozen BK428.out 1
 have hns12_0 := NB426_428.out
 have hns12_1 := NB427_428.out
 have hms12_0 := NB428_426.out
 have hms12_1 := NB428_427.out
 refine skip_ (w1 := ?_) (by rfl) rfl ?_ ?_
 rotate_left
 ·go_simp
  rfl
 refine hK.out _ _ ⟨((cell_far (p := ⟨gb428, _, none⟩) NB426_428.out _).trans (((cell_far (p := ⟨gb428, _, none⟩) NB426_428.out _).trans (hHeld.1)))), ((cell_far (p := ⟨gb428, _, none⟩) NB426_428.out _).trans (((cell_far (p := ⟨gb428, _, none⟩) NB426_428.out _).trans (hHeld.2.1)))), ((cell_far (p := ⟨gb428, _, none⟩) NB427_428.out _).trans (((cell_far (p := ⟨gb428, _, none⟩) NB427_428.out _).trans (hHeld.2.2.1)))), ((cell_far (p := ⟨gb428, _, none⟩) NB427_428.out _).trans (((cell_far (p := ⟨gb428, _, none⟩) NB427_428.out _).trans (hHeld.2.2.2))))⟩ (fun hHeld => ?_)
 clear hK K
 refine done_ (done_of HT_.out zq1) ?_
 try go_wp2
 refine bodyPost_ret (results_cell_row rfl _ _ gb428 27 #[.int .i64 (wrap64 (a0_0 + t429)), .int .i64 (wrap64 (a0_1 + t430))] (0, 0) _ rfl (by (with_reducible repeat (first | refine blk_drewN ?_ _ | refine blk_drew ?_ | refine blk_alloc ?_ _)); refine blk_put (cs := #[.int .i64 (wrap64 (a0_0 + t429)), .int .i64 0]) ?_ 1 _ rfl; (with_reducible repeat (first | refine blk_drewN ?_ _ | refine blk_drew ?_ | refine blk_alloc ?_ _)); refine blk_put (cs := #[.int .i64 0, .int .i64 0]) ?_ 0 _ rfl; (with_reducible repeat (first | refine blk_drewN ?_ _ | refine blk_drew ?_ | refine blk_alloc ?_ _)); exact BK428.out) Try.underlying27 rfl zq1) rfl ?_
 exact ⟨zq6, zbz⟩

end Go.Proofs.Ytmhaiihjfgfaoaa.Pr
end
section
namespace Go.Proofs.Ytmhaiihjfgfaoaa.Pr
open Go.RowKit Go.Proofs.YtmhaiihjfgfaoaaW.PrintWords Go.Proofs.YtmhaiihjfgfaoaaW.PrintLast Go.Proofs.YtmhaiihjfgfaoaaW.PrintMore
attribute [local go_sem] max2_int min2_int max_two min_two max_four
set_option linter.unusedVariables false
set_option linter.unusedSimpArgs false

/-! ### isobathref03_Direction: function 34 -/
def isobathref03_Direction.f (a0 : Int) : Option (Int × Int) := (some (([0, 707, 1000, 707, 0, (-707), (-1000), (-707), 0] : List Int) : List Int)).bind fun y418 => ((some (([1000, 707, 0, (-707), (-1000), (-707), 0, 707, 0] : List Int) : List Int)).bind fun y421 => (if 0 ≤ a0 then (if a0 < (y418.length : Int) then (if a0 < (y421.length : Int) then (some (rd y418 a0, rd y421 a0)) else (none)) else (none)) else (none)))
set_option maxHeartbeats 8000000 in
set_option maxRecDepth 100000 in
theorem isobathref03_Direction.calls (a0 : Int) (r1 : Int) (r2 : Int) (w : World) (h : isobathref03_Direction.f a0 = some (r1, r2)) :
  Calls Try.prog 34 #[.int .i64 a0] w fun e w' => e = .returned (.tuple #[.int .i64 r1, .int .i64 r2]) ∧ Below w.heap.size w w' := by
 have HB := Aside0.mk (Below.refl w.heap.size w)
 have H : ((some (([0, 707, 1000, 707, 0, (-707), (-1000), (-707), 0] : List Int) : List Int)).bind fun y418 => ((some (([1000, 707, 0, (-707), (-1000), (-707), 0, 707, 0] : List Int) : List Int)).bind fun y421 => (if 0 ≤ a0 then (if a0 < (y418.length : Int) then (if a0 < (y421.length : Int) then (some (rd y418 a0, rd y421 a0)) else (none)) else (none)) else (none)))) = some (r1, r2) := h
 clear h
 obtain ⟨y418, hy418⟩ : ∃ y_ : List Int, y_ = (([0, 707, 1000, 707, 0, (-707), (-1000), (-707), 0] : List Int)) := ⟨_, rfl⟩
 replace H : ((some (([1000, 707, 0, (-707), (-1000), (-707), 0, 707, 0] : List Int) : List Int)).bind fun y421 => (if 0 ≤ a0 then (if a0 < (y418.length : Int) then (if a0 < (y421.length : Int) then (some (rd y418 a0, rd y421 a0)) else (none)) else (none)) else (none))) = some (r1, r2) := by first | (rw [hy418]; with_reducible exact H) | (have H2_ := (Option.bind_some _ _).symm.trans H; rw [hy418]; with_reducible exact H2_) | (have H2_ := (Option.bind_some _ _).symm.trans H; with_reducible exact H2_) | with_reducible exact H | (rw [hy418]; exact H) | exact H
 have Ny418 := Aside0.mk hy418
 clear hy418
 obtain ⟨y421, hy421⟩ : ∃ y_ : List Int, y_ = (([1000, 707, 0, (-707), (-1000), (-707), 0, 707, 0] : List Int)) := ⟨_, rfl⟩
 replace H : (if 0 ≤ a0 then (if a0 < (y418.length : Int) then (if a0 < (y421.length : Int) then (some (rd y418 a0, rd y421 a0)) else (none)) else (none)) else (none)) = some (r1, r2) := by first | (rw [hy421]; with_reducible exact H) | (have H2_ := (Option.bind_some _ _).symm.trans H; rw [hy421]; with_reducible exact H2_) | (have H2_ := (Option.bind_some _ _).symm.trans H; with_reducible exact H2_) | with_reducible exact H | (rw [hy421]; exact H) | exact H
 have Ny421 := Aside0.mk hy421
 clear hy421
 by_cases c2 : 0 ≤ a0
 ·rw [if_pos c2] at H
  have c2b0 : decide (0 ≤ a0) = true := decide_eq_true c2
  clear c2
  by_cases c3 : a0 < (y418.length : Int)
  ·rw [if_pos c3] at H
   have c3b0 : decide (a0 < (y418.length : Int)) = true := decide_eq_true c3
   clear c3
   by_cases c4 : a0 < (y421.length : Int)
   ·rw [if_pos c4] at H
    have c4b0 : decide (a0 < (y421.length : Int)) = true := decide_eq_true c4
    clear c4
    simp only [Option.some.injEq, Prod.mk.injEq] at H
    obtain ⟨rfl, rfl⟩ := H
    go_enter Try.func34, Try.ntmps34
    go_wp2_with (first | ((with_reducible refine gate_dst (N := 6) rfl ?_); refine Kd.R_lit (Kd.int .i64) _ 2 (by rfl) (N := 6) (by rfl) (xs := ([0, 707, 1000, 707, 0, (-707), (-1000), (-707), 0] : List Int)) (inner := [.int .i64 0, .int .i64 707, .int .i64 1000, .int .i64 707, .int .i64 0, .int .i64 (-707), .int .i64 (-1000), .int .i64 (-707), .int .i64 0]) (ok := fun _ => True) (okp := fun _ => True) zq5 zq44 (fun _ hk => hk) trivial (Below.refl _ _) (Nat.le_refl _) (by simp) ?_; intro v419 w5 ho6 hb hg_ hnew_; clear hg_ hnew_; (first | rw [← Ny418.out] at ho6 | (simp only [Int.reduceToNat] at ho6; rw [← Ny418.out] at ho6)); have HO420 := Aside0.mk (Kd.R_lower ho6 (below_size zbz)); replace HB := zbs HB hb; clear hb ho6) | ((with_reducible refine gate_dst (N := 7) rfl ?_); refine Kd.R_lit (Kd.int .i64) _ 2 (by rfl) (N := 7) (by rfl) (xs := ([1000, 707, 0, (-707), (-1000), (-707), 0, 707, 0] : List Int)) (inner := [.int .i64 1000, .int .i64 707, .int .i64 0, .int .i64 (-707), .int .i64 (-1000), .int .i64 (-707), .int .i64 0, .int .i64 707, .int .i64 0]) (ok := fun _ => True) (okp := fun _ => True) zq5 zq45 (fun _ hk => hk) trivial (Below.refl _ _) (Nat.le_refl _) (by simp) ?_; intro v422 w7 ho8 hb hg_ hnew_; clear hg_ hnew_; (first | rw [← Ny421.out] at ho8 | (simp only [Int.reduceToNat] at ho8; rw [← Ny421.out] at ho8)); have HO423 := Aside0.mk (Kd.R_lower (Kd.R_new' ho8 (Kd.R_lt zq46)) (below_size zbz)); replace HO420 := Aside0.mk (Kd.R_elder' zq46 (Kd.R_base ho8) hb); replace HB := zbs HB hb; clear hb ho8; obtain ⟨Ao9, co9, eo9⟩ := Kd.R_slice HO420.out; subst eo9; have p424 : 0 ≤ (a0 : Int) := of_decide_eq_true zq4; have q424 : a0 < (y418.length : Int) := of_decide_eq_true zq4; obtain ⟨ad424, e424, hx424_0⟩ := Kd.at_int (Kd.R_reads' HO420.out).2.2 a0 p424 q424; cases e424; replace p424 := eq_true p424; replace q424 := eq_true q424; obtain ⟨Ao10, co10, eo10⟩ := Kd.R_slice HO423.out; subst eo10; have p425 : 0 ≤ (a0 : Int) := of_decide_eq_true zq4; have q425 : a0 < (y421.length : Int) := of_decide_eq_true zq4; obtain ⟨ad425, e425, hx425_0⟩ := Kd.at_int (Kd.R_reads' HO423.out).2.2 a0 p425 q425; cases e425; replace p425 := eq_true p425; replace q425 := eq_true q425))
    repeat (go_quiet (first | ((with_reducible refine gate_dst (N := 6) rfl ?_); refine Kd.R_lit (Kd.int .i64) _ 2 (by rfl) (N := 6) (by rfl) (xs := ([0, 707, 1000, 707, 0, (-707), (-1000), (-707), 0] : List Int)) (inner := [.int .i64 0, .int .i64 707, .int .i64 1000, .int .i64 707, .int .i64 0, .int .i64 (-707), .int .i64 (-1000), .int .i64 (-707), .int .i64 0]) (ok := fun _ => True) (okp := fun _ => True) zq5 zq44 (fun _ hk => hk) trivial (Below.refl _ _) (Nat.le_refl _) (by simp) ?_; intro v419 w5 ho6 hb hg_ hnew_; clear hg_ hnew_; (first | rw [← Ny418.out] at ho6 | (simp only [Int.reduceToNat] at ho6; rw [← Ny418.out] at ho6)); have HO420 := Aside0.mk (Kd.R_lower ho6 (below_size zbz)); replace HB := zbs HB hb; clear hb ho6) | ((with_reducible refine gate_dst (N := 7) rfl ?_); refine Kd.R_lit (Kd.int .i64) _ 2 (by rfl) (N := 7) (by rfl) (xs := ([1000, 707, 0, (-707), (-1000), (-707), 0, 707, 0] : List Int)) (inner := [.int .i64 1000, .int .i64 707, .int .i64 0, .int .i64 (-707), .int .i64 (-1000), .int .i64 (-707), .int .i64 0, .int .i64 707, .int .i64 0]) (ok := fun _ => True) (okp := fun _ => True) zq5 zq45 (fun _ hk => hk) trivial (Below.refl _ _) (Nat.le_refl _) (by simp) ?_; intro v422 w7 ho8 hb hg_ hnew_; clear hg_ hnew_; (first | rw [← Ny421.out] at ho8 | (simp only [Int.reduceToNat] at ho8; rw [← Ny421.out] at ho8)); have HO423 := Aside0.mk (Kd.R_lower (Kd.R_new' ho8 (Kd.R_lt zq46)) (below_size zbz)); replace HO420 := Aside0.mk (Kd.R_elder' zq46 (Kd.R_base ho8) hb); replace HB := zbs HB hb; clear hb ho8; obtain ⟨Ao9, co9, eo9⟩ := Kd.R_slice HO420.out; subst eo9; have p424 : 0 ≤ (a0 : Int) := of_decide_eq_true zq4; have q424 : a0 < (y418.length : Int) := of_decide_eq_true zq4; obtain ⟨ad424, e424, hx424_0⟩ := Kd.at_int (Kd.R_reads' HO420.out).2.2 a0 p424 q424; cases e424; replace p424 := eq_true p424; replace q424 := eq_true q424; obtain ⟨Ao10, co10, eo10⟩ := Kd.R_slice HO423.out; subst eo10; have p425 : 0 ≤ (a0 : Int) := of_decide_eq_true zq4; have q425 : a0 < (y421.length : Int) := of_decide_eq_true zq4; obtain ⟨ad425, e425, hx425_0⟩ := Kd.at_int (Kd.R_reads' HO423.out).2.2 a0 p425 q425; cases e425; replace p425 := eq_true p425; replace q425 := eq_true q425)); try go_wp2_with (first | ((with_reducible refine gate_dst (N := 6) rfl ?_); refine Kd.R_lit (Kd.int .i64) _ 2 (by rfl) (N := 6) (by rfl) (xs := ([0, 707, 1000, 707, 0, (-707), (-1000), (-707), 0] : List Int)) (inner := [.int .i64 0, .int .i64 707, .int .i64 1000, .int .i64 707, .int .i64 0, .int .i64 (-707), .int .i64 (-1000), .int .i64 (-707), .int .i64 0]) (ok := fun _ => True) (okp := fun _ => True) zq5 zq44 (fun _ hk => hk) trivial (Below.refl _ _) (Nat.le_refl _) (by simp) ?_; intro v419 w5 ho6 hb hg_ hnew_; clear hg_ hnew_; (first | rw [← Ny418.out] at ho6 | (simp only [Int.reduceToNat] at ho6; rw [← Ny418.out] at ho6)); have HO420 := Aside0.mk (Kd.R_lower ho6 (below_size zbz)); replace HB := zbs HB hb; clear hb ho6) | ((with_reducible refine gate_dst (N := 7) rfl ?_); refine Kd.R_lit (Kd.int .i64) _ 2 (by rfl) (N := 7) (by rfl) (xs := ([1000, 707, 0, (-707), (-1000), (-707), 0, 707, 0] : List Int)) (inner := [.int .i64 1000, .int .i64 707, .int .i64 0, .int .i64 (-707), .int .i64 (-1000), .int .i64 (-707), .int .i64 0, .int .i64 707, .int .i64 0]) (ok := fun _ => True) (okp := fun _ => True) zq5 zq45 (fun _ hk => hk) trivial (Below.refl _ _) (Nat.le_refl _) (by simp) ?_; intro v422 w7 ho8 hb hg_ hnew_; clear hg_ hnew_; (first | rw [← Ny421.out] at ho8 | (simp only [Int.reduceToNat] at ho8; rw [← Ny421.out] at ho8)); have HO423 := Aside0.mk (Kd.R_lower (Kd.R_new' ho8 (Kd.R_lt zq46)) (below_size zbz)); replace HO420 := Aside0.mk (Kd.R_elder' zq46 (Kd.R_base ho8) hb); replace HB := zbs HB hb; clear hb ho8; obtain ⟨Ao9, co9, eo9⟩ := Kd.R_slice HO420.out; subst eo9; have p424 : 0 ≤ (a0 : Int) := of_decide_eq_true zq4; have q424 : a0 < (y418.length : Int) := of_decide_eq_true zq4; obtain ⟨ad424, e424, hx424_0⟩ := Kd.at_int (Kd.R_reads' HO420.out).2.2 a0 p424 q424; cases e424; replace p424 := eq_true p424; replace q424 := eq_true q424; obtain ⟨Ao10, co10, eo10⟩ := Kd.R_slice HO423.out; subst eo10; have p425 : 0 ≤ (a0 : Int) := of_decide_eq_true zq4; have q425 : a0 < (y421.length : Int) := of_decide_eq_true zq4; obtain ⟨ad425, e425, hx425_0⟩ := Kd.at_int (Kd.R_reads' HO423.out).2.2 a0 p425 q425; cases e425; replace p425 := eq_true p425; replace q425 := eq_true q425)))
    go_ret2
    exact ⟨zq6, zbz⟩
   ·rw [if_neg c4] at H
    exact absurd H (by simp)
  ·rw [if_neg c3] at H
   exact absurd H (by simp)
 ·rw [if_neg c2] at H
  exact absurd H (by simp)

end Go.Proofs.Ytmhaiihjfgfaoaa.Pr
end
section
namespace Go.Proofs.Ytmhaiihjfgfaoaa.Pr
open Go.RowKit Go.Proofs.YtmhaiihjfgfaoaaW.PrintWords Go.Proofs.YtmhaiihjfgfaoaaW.PrintLast Go.Proofs.YtmhaiihjfgfaoaaW.PrintMore
attribute [local go_sem] max2_int min2_int max_two min_two max_four
set_option linter.unusedVariables false
set_option linter.unusedSimpArgs false

/-! ### isobathref03_common: function 132 -/
def isobathref03_common.f (a0_0 : Int) (a0_1 : Int) (a1_0 : Int) (a1_1 : Int) : Option (Bool) := if a0_0 ≤ a1_1 then (some (decide (a1_0 ≤ a0_1))) else (some false)
set_option maxHeartbeats 8000000 in
set_option maxRecDepth 100000 in
theorem isobathref03_common.calls (a0_0 : Int) (a0_1 : Int) (a1_0 : Int) (a1_1 : Int) (r : Bool) (w : World) (h : isobathref03_common.f a0_0 a0_1 a1_0 a1_1 = some r) :
  Calls Try.prog 132 #[.agg #[.int .i64 a0_0, .int .i64 a0_1], .agg #[.int .i64 a1_0, .int .i64 a1_1]] w fun e w' => e = .returned (.bool r) ∧ Below w.heap.size w w' := by
 have hu27 := Try.underlying27
 have HB := Aside0.mk (Below.refl w.heap.size w)
 have H : (if a0_0 ≤ a1_1 then (some (decide (a1_0 ≤ a0_1))) else (some false)) = some r := h
 clear h
 by_cases c3 : a0_0 ≤ a1_1
 ·rw [if_pos c3] at H
  have c3b0 : decide (a0_0 ≤ a1_1) = true := decide_eq_true c3
  clear c3
  obtain rfl := Option.some.inj H
  go_enter Try.func132, Try.ntmps132
  go_wp2_with (first | ((with_reducible refine gate_dst (N := 2) rfl ?_); refine box_event (by rfl) (N := 2) (by rfl) (cs := #[.int .i64 a0_0, .int .i64 a0_1]) (t := 27) zq5 ?_; intro gb333 hg w4 hbox hb; have BK333 := Aside0.mk (hbox); have GW333 := zgs HB hg; have GE333 := zgs HB hg; replace HB := zbs HB hb; clear hb hbox hg) | ((with_reducible refine gate_dst (N := 3) rfl ?_); refine box_event (by rfl) (N := 3) (by rfl) (cs := #[.int .i64 a1_0, .int .i64 a1_1]) (t := 27) zq5 ?_; intro gb334 hg w5 hbox hb; have BK334 := Aside0.mk (hbox); have GW334 := zgs HB hg; have GE334 := zgs HB hg; have NB333_334 := znp BK333 hg; have NB334_333 := znq BK333 hg; replace BK333 := zbb BK333 hb; replace HB := zbs HB hb; clear hb hbox hg; have hnb6 := NB333_334.out; have hnc6 := NB334_333.out; obtain ⟨hcz7_0, hcz7_1, hfz7_0, hfz7_1⟩ := zce2 BK333.out; obtain ⟨hcz8_0, hcz8_1, hfz8_0, hfz8_1⟩ := zce2 BK334.out))
  go_ret
  exact ⟨zq6, zbz⟩
 ·rw [if_neg c3] at H
  have c3b0 : decide (a0_0 ≤ a1_1) = false := decide_eq_false c3
  clear c3
  obtain rfl := Option.some.inj H
  go_enter Try.func132, Try.ntmps132
  go_wp2_with (first | ((with_reducible refine gate_dst (N := 2) rfl ?_); refine box_event (by rfl) (N := 2) (by rfl) (cs := #[.int .i64 a0_0, .int .i64 a0_1]) (t := 27) zq5 ?_; intro gb333 hg w9 hbox hb; have BK333 := Aside0.mk (hbox); have GW333 := zgs HB hg; have GE333 := zgs HB hg; replace HB := zbs HB hb; clear hb hbox hg) | ((with_reducible refine gate_dst (N := 3) rfl ?_); refine box_event (by rfl) (N := 3) (by rfl) (cs := #[.int .i64 a1_0, .int .i64 a1_1]) (t := 27) zq5 ?_; intro gb334 hg w10 hbox hb; have BK334 := Aside0.mk (hbox); have GW334 := zgs HB hg; have GE334 := zgs HB hg; have NB333_334 := znp BK333 hg; have NB334_333 := znq BK333 hg; replace BK333 := zbb BK333 hb; replace HB := zbs HB hb; clear hb hbox hg; have hnb11 := NB333_334.out; have hnc11 := NB334_333.out; obtain ⟨hcz12_0, hcz12_1, hfz12_0, hfz12_1⟩ := zce2 BK333.out; obtain ⟨hcz13_0, hcz13_1, hfz13_0, hfz13_1⟩ := zce2 BK334.out))
  go_ret
  exact ⟨zq6, zbz⟩

end Go.Proofs.Ytmhaiihjfgfaoaa.Pr
end
section
namespace Go.Proofs.Ytmhaiihjfgfaoaa.Pr
open Go.RowKit Go.Proofs.YtmhaiihjfgfaoaaW.PrintWords Go.Proofs.YtmhaiihjfgfaoaaW.PrintLast Go.Proofs.YtmhaiihjfgfaoaaW.PrintMore
attribute [local go_sem] max2_int min2_int max_two min_two max_four
set_option linter.unusedVariables false
set_option linter.unusedSimpArgs false

/-! ### isobathref03_touches: function 104 -/
def isobathref03_touches.f (a0_0 : Int) (a0_1 : Int) (a0_2 : Int) (a0_3 : Int) (a1_0 : Int) (a1_1 : Int) (a1_2 : Int) (a1_3 : Int) : Option (Bool) := (isobathref03_common.f a0_0 a0_1 a1_0 a1_1).bind fun t337 => (if t337 = true then ((isobathref03_common.f a0_2 a0_3 a1_2 a1_3).bind fun t338 => (some t338)) else (some false))
set_option maxHeartbeats 8000000 in
set_option maxRecDepth 100000 in
theorem isobathref03_touches.calls (a0_0 : Int) (a0_1 : Int) (a0_2 : Int) (a0_3 : Int) (a1_0 : Int) (a1_1 : Int) (a1_2 : Int) (a1_3 : Int) (r : Bool) (w : World) (h : isobathref03_touches.f a0_0 a0_1 a0_2 a0_3 a1_0 a1_1 a1_2 a1_3 = some r) :
  Calls Try.prog 104 #[.agg #[.int .i64 a0_0, .int .i64 a0_1, .int .i64 a0_2, .int .i64 a0_3], .agg #[.int .i64 a1_0, .int .i64 a1_1, .int .i64 a1_2, .int .i64 a1_3]] w fun e w' => e = .returned (.bool r) ∧ Below w.heap.size w w' := by
 have hu31 := Try.underlying31
 have hu27 := Try.underlying27
 have HB := Aside0.mk (Below.refl w.heap.size w)
 have H : ((isobathref03_common.f a0_0 a0_1 a1_0 a1_1).bind fun t337 => (if t337 = true then ((isobathref03_common.f a0_2 a0_3 a1_2 a1_3).bind fun t338 => (some t338)) else (some false))) = some r := h
 clear h
 replace H := Option.bind_eq_some_iff.mp H
 obtain ⟨t337, A30, H⟩ := H
 replace H : (if t337 = true then ((isobathref03_common.f a0_2 a0_3 a1_2 a1_3).bind fun t338 => (some t338)) else (some false)) = some r := H
 have A3 := Aside0.mk A30
 clear A30
 by_cases c4 : t337 = true
 ·subst c4
  have H1 : ((isobathref03_common.f a0_2 a0_3 a1_2 a1_3).bind fun t338 => (some t338)) = some r := by rw [if_pos rfl] at H; exact H
  clear H
  have H := H1
  clear H1
  replace H := Option.bind_eq_some_iff.mp H
  obtain ⟨t338, A50, H⟩ := H
  replace H : (some t338) = some r := H
  have A5 := Aside0.mk A50
  clear A50
  obtain rfl := Option.some.inj H
  go_enter Try.func104, Try.ntmps104
  go_wp2_with (first | ((with_reducible refine gate_dst (N := 2) rfl ?_); refine box_event (by rfl) (N := 2) (by rfl) (cs := #[.int .i64 a0_0, .int .i64 a0_1, .int .i64 a0_2, .int .i64 a0_3]) (t := 31) zq5 ?_; intro gb335 hg w6 hbox hb; have BK335 := Aside0.mk (hbox); have GW335 := zgs HB hg; have GE335 := zgs HB hg; replace HB := zbs HB hb; clear hb hbox hg) | ((with_reducible refine gate_dst (N := 3) rfl ?_); refine box_event (by rfl) (N := 3) (by rfl) (cs := #[.int .i64 a1_0, .int .i64 a1_1, .int .i64 a1_2, .int .i64 a1_3]) (t := 31) zq5 ?_; intro gb336 hg w7 hbox hb; have BK336 := Aside0.mk (hbox); have GW336 := zgs HB hg; have GE336 := zgs HB hg; have NB335_336 := znp BK335 hg; have NB336_335 := znq BK335 hg; replace BK335 := zbb BK335 hb; replace HB := zbs HB hb; clear hb hbox hg; have hnb8 := NB335_336.out; have hnc8 := NB336_335.out; obtain ⟨hcz9_0, hcz9_1, hcz9_2, hcz9_3, hfz9_0, hfz9_1, hfz9_2, hfz9_3⟩ := zce4 BK335.out; obtain ⟨hcz10_0, hcz10_1, hcz10_2, hcz10_3, hfz10_0, hfz10_1, hfz10_2, hfz10_3⟩ := zce4 BK336.out) | ((with_reducible refine gate_callee (f := 132) rfl ?_); refine goesL_ (some 9) rfl rfl Try.func132 zq1 rfl #[.agg #[.int .i64 a0_0, .int .i64 a0_1], .agg #[.int .i64 a1_0, .int .i64 a1_1]] rfl zq8 ?_; (with_reducible refine (isobathref03_common.calls a0_0 a0_1 a1_0 a1_1 true _ A3.out).mono ?_); rintro e w11 ⟨rfl, hb⟩; refine ⟨_, rfl, ?_⟩; replace BK335 := zbb BK335 hb; replace BK336 := zbb BK336 hb; replace HB := zbs HB hb; (try clear hb); (try clear hb2); (try clear hk); (try clear hi); obtain ⟨hcz12_0, hcz12_1, hcz12_2, hcz12_3, hfz12_0, hfz12_1, hfz12_2, hfz12_3⟩ := zce4 BK335.out; obtain ⟨hcz13_0, hcz13_1, hcz13_2, hcz13_3, hfz13_0, hfz13_1, hfz13_2, hfz13_3⟩ := zce4 BK336.out) | (go_at_call 132; (with_reducible refine (isobathref03_common.calls a0_2 a0_3 a1_2 a1_3 t338 _ A5.out).mono ?_); rintro e w14 ⟨rfl, hb⟩; replace BK335 := zbb BK335 hb; replace BK336 := zbb BK336 hb; replace HB := zbs HB hb; (try clear hb); (try clear hb2); (try clear hk); (try clear hi)))
  go_ret
  exact ⟨zq6, zbz⟩
 ·replace c4 := Bool.eq_false_iff.mpr c4
  subst c4
  have H1 : (some false) = some r := by rw [if_neg (show ¬ (false = true) by decide)] at H; exact H
  clear H
  have H := H1
  clear H1
  obtain rfl := Option.some.inj H
  go_enter Try.func104, Try.ntmps104
  go_wp2_with (first | ((with_reducible refine gate_dst (N := 2) rfl ?_); refine box_event (by rfl) (N := 2) (by rfl) (cs := #[.int .i64 a0_0, .int .i64 a0_1, .int .i64 a0_2, .int .i64 a0_3]) (t := 31) zq5 ?_; intro gb335 hg w15 hbox hb; have BK335 := Aside0.mk (hbox); have GW335 := zgs HB hg; have GE335 := zgs HB hg; replace HB := zbs HB hb; clear hb hbox hg) | ((with_reducible refine gate_dst (N := 3) rfl ?_); refine box_event (by rfl) (N := 3) (by rfl) (cs := #[.int .i64 a1_0, .int .i64 a1_1, .int .i64 a1_2, .int .i64 a1_3]) (t := 31) zq5 ?_; intro gb336 hg w16 hbox hb; have BK336 := Aside0.mk (hbox); have GW336 := zgs HB hg; have GE336 := zgs HB hg; have NB335_336 := znp BK335 hg; have NB336_335 := znq BK335 hg; replace BK335 := zbb BK335 hb; replace HB := zbs HB hb; clear hb hbox hg; have hnb17 := NB335_336.out; have hnc17 := NB336_335.out; obtain ⟨hcz18_0, hcz18_1, hcz18_2, hcz18_3, hfz18_0, hfz18_1, hfz18_2, hfz18_3⟩ := zce4 BK335.out; obtain ⟨hcz19_0, hcz19_1, hcz19_2, hcz19_3, hfz19_0, hfz19_1, hfz19_2, hfz19_3⟩ := zce4 BK336.out) | ((with_reducible refine gate_callee (f := 132) rfl ?_); refine goesL_ (some 9) rfl rfl Try.func132 zq1 rfl #[.agg #[.int .i64 a0_0, .int .i64 a0_1], .agg #[.int .i64 a1_0, .int .i64 a1_1]] rfl zq8 ?_; (with_reducible refine (isobathref03_common.calls a0_0 a0_1 a1_0 a1_1 false _ A3.out).mono ?_); rintro e w20 ⟨rfl, hb⟩; refine ⟨_, rfl, ?_⟩; replace BK335 := zbb BK335 hb; replace BK336 := zbb BK336 hb; replace HB := zbs HB hb; (try clear hb); (try clear hb2); (try clear hk); (try clear hi)))
  go_ret
  exact ⟨zq6, zbz⟩

end Go.Proofs.Ytmhaiihjfgfaoaa.Pr
end
