/- Part 21 of the proof of GliderDives: what the functions compute. No condition. -/
import Derived.Test.YtmhaiihjfgfaoaaGtGliderDives3
import Derived.Test.YtmhaiihjfgfaoaaGtGliderDives17
import Derived.Test.YtmhaiihjfgfaoaaGtGliderDives18
import Derived.Test.YtmhaiihjfgfaoaaGtGliderDives20
section
namespace Go.Proofs.Ytmhaiihjfgfaoaa.Pr
open Go.RowKit Go.Proofs.YtmhaiihjfgfaoaaW.PrintWords Go.Proofs.YtmhaiihjfgfaoaaW.PrintLast Go.Proofs.YtmhaiihjfgfaoaaW.PrintMore
attribute [local go_sem] max2_int min2_int max_two min_two max_four
set_option linter.unusedVariables false
set_option linter.unusedSimpArgs false

/-! ### isobathref03_Ends: function 106 -/
def isobathref03_Ends.f (k : Nat) (a0_0 : Int) (a0_1 : Int) (a0_2 : Int) (a0_3 : Int) (a0_4 : Int) (a0_5 : Int) (a0_6 : Int) (l0_7 : List Bool) (l0_8 : List (S40)) (a1_0 : Int) (a1_1 : Int) (a1_2 : Int) (a1_3 : Int) (a1_4 : Int) (a1_5 : Int) (a1_6 : Int) (a2_0 : Int) (a2_1 : Int) (a2_2 : Int) (a2_3 : Int) (a3 : Int) (a4_0 : Int) (a4_1 : Int) : Option (Int × Int × Int × Int) := (isobathref03_Direction.f a4_0).bind fun bt436 => ((isobathref03_Grown.f k a0_0 a0_1 a0_2 a0_3 a0_4 a0_5 a0_6 l0_7 l0_8 a1_0 a1_1 a1_2 a1_3 a1_4 a1_5 a1_6 a2_0 a2_1 a2_2 a2_3).bind fun bt438 => ((isobathref03_at.f k a0_0 a0_1 a0_2 a0_3 a0_4 a0_5 a0_6 l0_7 l0_8 bt438.1 bt438.2.1 bt438.2.2.1 bt438.2.2.2 a4_1 a3 (wrap64 (a3 + a1_1))).bind fun bt442 => ((isobathref03_moved.f k a2_0 a2_1 (wrap64 (bt436.1 * a1_0)) bt442.1 bt442.2.1 a1_1).bind fun bt447 => ((isobathref03_moved.f k a2_2 a2_3 (wrap64 (bt436.2 * a1_0)) bt442.2.2.1 bt442.2.2.2 a1_1).bind fun bt449 => (some (bt447.1, bt447.2, bt449.1, bt449.2))))))
def isobathref03_Ends.T2 : Bool × List (List Nat × List Nat) := (true, [([], []), ([], []), ([], []), ([], []), ([1, 2, 3], [1, 2, 3]), ([], []), ([5], [5]), ([], []), ([], []), ([], []), ([9], [9]), ([8, 10], [8, 10]), ([0, 4, 6, 7, 11, 4], [0, 4, 6, 7, 11]), ([], []), ([13, 12, 12, 0, 1, 2, 3, 4, 5, 6, 7, 8, 9, 10, 11, 12, 13], [12, 13])])
def isobathref03_Ends.B2 : List Nat := [0, 0, 0, 0, 14, 0, 32, 0, 0, 0, 512, 1792, 4095, 0, 16383]
theorem isobathref03_Ends.tab2 : rtab .any (opsOf Try.f106 2) = isobathref03_Ends.T2 := by kernel_rfl
theorem isobathref03_Ends.bits2 : waitsOk isobathref03_Ends.T2.2 isobathref03_Ends.B2 = true := by kernel_rfl
def isobathref03_Ends.T3 : Bool × List (List Nat × List Nat) := (true, [([], []), ([0], [0]), ([], []), ([], []), ([3], [3]), ([2, 4], [2, 4]), ([], []), ([6], [6]), ([], []), ([8], [8]), ([1, 5, 7, 9], [1, 5, 7, 9]), ([], []), ([11], [11]), ([], []), ([], []), ([14], [14]), ([13, 15], [13, 15]), ([], []), ([17], [17]), ([], []), ([19], [19]), ([12, 16, 18, 20, 10], [12, 16, 18, 20]), ([10, 21], [10, 21]), ([22, 21, 0, 1, 2, 3, 4, 5, 6, 7, 8, 9, 10, 11, 12, 13, 14, 15, 16, 17, 18, 19, 20, 21, 22], [22])])
def isobathref03_Ends.B3 : List Nat := [0, 1, 0, 0, 8, 28, 0, 64, 0, 256, 1023, 0, 2048, 0, 0, 16384, 57344, 0, 131072, 0, 524288, 2097151, 4194303, 8388607]
theorem isobathref03_Ends.tab3 : rtab .any (opsOf Try.f106 3) = isobathref03_Ends.T3 := by kernel_rfl
theorem isobathref03_Ends.bits3 : waitsOk isobathref03_Ends.T3.2 isobathref03_Ends.B3 = true := by kernel_rfl
set_option maxHeartbeats 8000000 in
set_option maxRecDepth 100000 in
theorem isobathref03_Ends.calls (k : Nat) (a0_0 : Int) (a0_1 : Int) (a0_2 : Int) (a0_3 : Int) (a0_4 : Int) (a0_5 : Int) (a0_6 : Int) (A0_7 : Option Addr) (c0_7 : Nat) (l0_7 : List Bool) (A0_8 : Option Addr) (c0_8 : Nat) (l0_8 : List (S40)) (a1_0 : Int) (a1_1 : Int) (a1_2 : Int) (a1_3 : Int) (a1_4 : Int) (a1_5 : Int) (a1_6 : Int) (a2_0 : Int) (a2_1 : Int) (a2_2 : Int) (a2_3 : Int) (a3 : Int) (a4_0 : Int) (a4_1 : Int) (r1 : Int) (r2 : Int) (r3 : Int) (r4 : Int) (w : World) (hr0_7 : Kd.C Kd.bool w A0_7 l0_7.length l0_7) (hc0_7 : l0_7.length ≤ c0_7) (hr0_8 : Kd.C k40 w A0_8 l0_8.length l0_8) (hc0_8 : l0_8.length ≤ c0_8) (h : isobathref03_Ends.f k a0_0 a0_1 a0_2 a0_3 a0_4 a0_5 a0_6 l0_7 l0_8 a1_0 a1_1 a1_2 a1_3 a1_4 a1_5 a1_6 a2_0 a2_1 a2_2 a2_3 a3 a4_0 a4_1 = some (r1, r2, r3, r4)) :
  Calls Try.prog 106 #[.agg #[.int .i64 a0_0, .int .i64 a0_1, .int .i64 a0_2, .int .i64 a0_3, .int .i64 a0_4, .int .i64 a0_5, .int .i64 a0_6, .slice A0_7 l0_7.length c0_7, .slice A0_8 l0_8.length c0_8], .agg #[.int .i64 a1_0, .int .i64 a1_1, .int .i64 a1_2, .int .i64 a1_3, .int .i64 a1_4, .int .i64 a1_5, .int .i64 a1_6], .agg #[.int .i64 a2_0, .int .i64 a2_1, .int .i64 a2_2, .int .i64 a2_3], .int .i64 a3, .agg #[.int .i64 a4_0, .int .i64 a4_1]] w fun e w' => e = .returned (.agg #[.int .i64 r1, .int .i64 r2, .int .i64 r3, .int .i64 r4]) ∧ Below w.heap.size w w' := by
 have hu25 := Try.underlying25
 have hu29 := Try.underlying29
 have hu31 := Try.underlying31
 have hu33 := Try.underlying33
 have hu40 := Try.underlying40
 have hu27 := Try.underlying27
 have HR0_7 := Aside0.mk hr0_7
 have HC0_7 := Aside0.mk hc0_7
 clear hr0_7 hc0_7
 have HR0_8 := Aside0.mk hr0_8
 have HC0_8 := Aside0.mk hc0_8
 clear hr0_8 hc0_8
 have HB := Aside0.mk (Below.refl w.heap.size w)
 have H : ((isobathref03_Direction.f a4_0).bind fun bt436 => ((isobathref03_Grown.f k a0_0 a0_1 a0_2 a0_3 a0_4 a0_5 a0_6 l0_7 l0_8 a1_0 a1_1 a1_2 a1_3 a1_4 a1_5 a1_6 a2_0 a2_1 a2_2 a2_3).bind fun bt438 => ((isobathref03_at.f k a0_0 a0_1 a0_2 a0_3 a0_4 a0_5 a0_6 l0_7 l0_8 bt438.1 bt438.2.1 bt438.2.2.1 bt438.2.2.2 a4_1 a3 (wrap64 (a3 + a1_1))).bind fun bt442 => ((isobathref03_moved.f k a2_0 a2_1 (wrap64 (bt436.1 * a1_0)) bt442.1 bt442.2.1 a1_1).bind fun bt447 => ((isobathref03_moved.f k a2_2 a2_3 (wrap64 (bt436.2 * a1_0)) bt442.2.2.1 bt442.2.2.2 a1_1).bind fun bt449 => (some (bt447.1, bt447.2, bt449.1, bt449.2))))))) = some (r1, r2, r3, r4) := h
 clear h
 replace H := Option.bind_eq_some_iff.mp H
 obtain ⟨⟨t436, t437⟩, A60, H⟩ := H
 replace H : ((isobathref03_Grown.f k a0_0 a0_1 a0_2 a0_3 a0_4 a0_5 a0_6 l0_7 l0_8 a1_0 a1_1 a1_2 a1_3 a1_4 a1_5 a1_6 a2_0 a2_1 a2_2 a2_3).bind fun bt438 => ((isobathref03_at.f k a0_0 a0_1 a0_2 a0_3 a0_4 a0_5 a0_6 l0_7 l0_8 bt438.1 bt438.2.1 bt438.2.2.1 bt438.2.2.2 a4_1 a3 (wrap64 (a3 + a1_1))).bind fun bt442 => ((isobathref03_moved.f k a2_0 a2_1 (wrap64 (t436 * a1_0)) bt442.1 bt442.2.1 a1_1).bind fun bt447 => ((isobathref03_moved.f k a2_2 a2_3 (wrap64 (t437 * a1_0)) bt442.2.2.1 bt442.2.2.2 a1_1).bind fun bt449 => (some (bt447.1, bt447.2, bt449.1, bt449.2)))))) = some (r1, r2, r3, r4) := H
 have A6 := Aside0.mk A60
 clear A60
 replace H := Option.bind_eq_some_iff.mp H
 obtain ⟨⟨t438, t439, t440, t441⟩, A70, H⟩ := H
 replace H : ((isobathref03_at.f k a0_0 a0_1 a0_2 a0_3 a0_4 a0_5 a0_6 l0_7 l0_8 t438 t439 t440 t441 a4_1 a3 (wrap64 (a3 + a1_1))).bind fun bt442 => ((isobathref03_moved.f k a2_0 a2_1 (wrap64 (t436 * a1_0)) bt442.1 bt442.2.1 a1_1).bind fun bt447 => ((isobathref03_moved.f k a2_2 a2_3 (wrap64 (t437 * a1_0)) bt442.2.2.1 bt442.2.2.2 a1_1).bind fun bt449 => (some (bt447.1, bt447.2, bt449.1, bt449.2))))) = some (r1, r2, r3, r4) := H
 have A7 := Aside0.mk A70
 clear A70
 replace H := Option.bind_eq_some_iff.mp H
 obtain ⟨⟨t442, t443, t444, t445⟩, A80, H⟩ := H
 replace H : ((isobathref03_moved.f k a2_0 a2_1 (wrap64 (t436 * a1_0)) t442 t443 a1_1).bind fun bt447 => ((isobathref03_moved.f k a2_2 a2_3 (wrap64 (t437 * a1_0)) t444 t445 a1_1).bind fun bt449 => (some (bt447.1, bt447.2, bt449.1, bt449.2)))) = some (r1, r2, r3, r4) := H
 have A8 := Aside0.mk A80
 clear A80
 replace H := Option.bind_eq_some_iff.mp H
 obtain ⟨⟨t447, t448⟩, A90, H⟩ := H
 replace H : ((isobathref03_moved.f k a2_2 a2_3 (wrap64 (t437 * a1_0)) t444 t445 a1_1).bind fun bt449 => (some (t447, t448, bt449.1, bt449.2))) = some (r1, r2, r3, r4) := H
 have A9 := Aside0.mk A90
 clear A90
 replace H := Option.bind_eq_some_iff.mp H
 obtain ⟨⟨t449, t450⟩, A100, H⟩ := H
 replace H : (some (t447, t448, t449, t450)) = some (r1, r2, r3, r4) := H
 have A10 := Aside0.mk A100
 clear A100
 simp only [Option.some.injEq, Prod.mk.injEq] at H
 obtain ⟨rfl, rfl, rfl, rfl⟩ := H
 go_enter Try.func106, Try.ntmps106
 try go_wp2_with (first | ((with_reducible refine gate_dst (N := 5) rfl ?_); refine box_event (by rfl) (N := 5) (by rfl) (cs := #[.int .i64 a0_0, .int .i64 a0_1, .int .i64 a0_2, .int .i64 a0_3, .int .i64 a0_4, .int .i64 a0_5, .int .i64 a0_6, .slice A0_7 l0_7.length c0_7, .slice A0_8 l0_8.length c0_8]) (t := 25) zq5 ?_; intro gb431 hg w11 hbox hb; have BK431 := Aside0.mk (hbox); have GW431 := zgs HB hg; have GE431 := zgs HB hg; replace HB := zbs HB hb; clear hb hbox hg) | ((with_reducible refine gate_dst (N := 6) rfl ?_); refine box_event (by rfl) (N := 6) (by rfl) (cs := #[.int .i64 a1_0, .int .i64 a1_1, .int .i64 a1_2, .int .i64 a1_3, .int .i64 a1_4, .int .i64 a1_5, .int .i64 a1_6]) (t := 29) zq5 ?_; intro gb432 hg w12 hbox hb; have BK432 := Aside0.mk (hbox); have GW432 := zgs HB hg; have GE432 := zgs HB hg; have NB431_432 := znp BK431 hg; have NB432_431 := znq BK431 hg; replace BK431 := zbb BK431 hb; replace HB := zbs HB hb; clear hb hbox hg) | ((with_reducible refine gate_dst (N := 7) rfl ?_); refine box_event (by rfl) (N := 7) (by rfl) (cs := #[.int .i64 a2_0, .int .i64 a2_1, .int .i64 a2_2, .int .i64 a2_3]) (t := 31) zq5 ?_; intro gb433 hg w13 hbox hb; have BK433 := Aside0.mk (hbox); have GW433 := zgs HB hg; have GE433 := zgs HB hg; have NB431_433 := znp BK431 hg; have NB433_431 := znq BK431 hg; have NB432_433 := znp BK432 hg; have NB433_432 := znq BK432 hg; replace BK431 := zbb BK431 hb; replace BK432 := zbb BK432 hb; replace HB := zbs HB hb; clear hb hbox hg) | ((with_reducible refine gate_dst (N := 9) rfl ?_); refine box_event (by rfl) (N := 9) (by rfl) (cs := #[.int .i64 a4_0, .int .i64 a4_1]) (t := 33) zq5 ?_; intro gb434 hg w14 hbox hb; have BK434 := Aside0.mk (hbox); have GW434 := zgs HB hg; have GE434 := zgs HB hg; have NB431_434 := znp BK431 hg; have NB434_431 := znq BK431 hg; have NB432_434 := znp BK432 hg; have NB434_432 := znq BK432 hg; have NB433_434 := znp BK433 hg; have NB434_433 := znq BK433 hg; replace BK431 := zbb BK431 hb; replace BK432 := zbb BK432 hb; replace BK433 := zbb BK433 hb; replace HB := zbs HB hb; clear hb hbox hg) | ((with_reducible refine gate_dst (N := 10) rfl ?_); refine box_event (by rfl) (N := 10) (by rfl) (cs := #[.int .i64 0, .int .i64 0, .int .i64 0, .int .i64 0]) (t := 31) zq5 ?_; intro gb435 hg w15 hbox hb; have BK435 := Aside0.mk (hbox); have GW435 := zgs HB hg; have GE435 := zgs HB hg; have NB431_435 := znp BK431 hg; have NB435_431 := znq BK431 hg; have NB432_435 := znp BK432 hg; have NB435_432 := znq BK432 hg; have NB433_435 := znp BK433 hg; have NB435_433 := znq BK433 hg; have NB434_435 := znp BK434 hg; have NB435_434 := znq BK434 hg; replace BK431 := zbb BK431 hb; replace BK432 := zbb BK432 hb; replace BK433 := zbb BK433 hb; replace BK434 := zbb BK434 hb; replace HB := zbs HB hb; clear hb hbox hg; have hnb16 := NB434_431.out; have hnc16 := NB431_434.out; have hnb17 := NB434_432.out; have hnc17 := NB432_434.out; have hnb18 := NB434_433.out; have hnc18 := NB433_434.out; have hnb19 := NB434_435.out; have hnc19 := NB435_434.out; obtain ⟨hcz20_0, hcz20_1, hfz20_0, hfz20_1⟩ := zce2 BK434.out) | ((with_reducible refine gate_callee (f := 34) rfl ?_); refine goesL_ (some 17) rfl rfl Try.func34 zq1 rfl #[.int .i64 a4_0] rfl zq8 ?_; (with_reducible refine (isobathref03_Direction.calls a4_0 t436 t437 _ A6.out).mono ?_); rintro e w21 ⟨rfl, hb⟩; refine ⟨_, rfl, ?_⟩; replace BK431 := zbb BK431 hb; replace BK432 := zbb BK432 hb; replace BK433 := zbb BK433 hb; replace BK434 := zbb BK434 hb; replace BK435 := zbb BK435 hb; replace HB := zbs HB hb; (try clear hb); (try clear hb2); (try clear hk); (try clear hi)))
 replace BK431 := Aside0.mk (blk_drew BK431.out)
 replace BK432 := Aside0.mk (blk_drew BK432.out)
 replace BK433 := Aside0.mk (blk_drew BK433.out)
 replace BK434 := Aside0.mk (blk_drew BK434.out)
 replace BK435 := Aside0.mk (blk_drew BK435.out)
 replace HB := Aside0.mk (below_drew1 HB.out)
 refine start_ (n := 15) (S := fun w' => w'.cell? ⟨gb431, 0, none⟩ = some (.int .i64 a0_0) ∧ w'.cell? ⟨gb431, 1, none⟩ = some (.int .i64 a0_1) ∧ w'.cell? ⟨gb431, 2, none⟩ = some (.int .i64 a0_2) ∧ w'.cell? ⟨gb431, 3, none⟩ = some (.int .i64 a0_3) ∧ w'.cell? ⟨gb431, 4, none⟩ = some (.int .i64 a0_4) ∧ w'.cell? ⟨gb431, 5, none⟩ = some (.int .i64 a0_5) ∧ w'.cell? ⟨gb431, 6, none⟩ = some (.int .i64 a0_6) ∧ w'.cell? ⟨gb431, 7, none⟩ = some (.slice A0_7 l0_7.length c0_7) ∧ w'.cell? ⟨gb431, 8, none⟩ = some (.slice A0_8 l0_8.length c0_8) ∧ w'.cell? ⟨gb432, 0, none⟩ = some (.int .i64 a1_0) ∧ w'.cell? ⟨gb432, 1, none⟩ = some (.int .i64 a1_1) ∧ w'.cell? ⟨gb432, 2, none⟩ = some (.int .i64 a1_2) ∧ w'.cell? ⟨gb432, 3, none⟩ = some (.int .i64 a1_3) ∧ w'.cell? ⟨gb432, 4, none⟩ = some (.int .i64 a1_4) ∧ w'.cell? ⟨gb432, 5, none⟩ = some (.int .i64 a1_5) ∧ w'.cell? ⟨gb432, 6, none⟩ = some (.int .i64 a1_6) ∧ w'.cell? ⟨gb433, 0, none⟩ = some (.int .i64 a2_0) ∧ w'.cell? ⟨gb433, 1, none⟩ = some (.int .i64 a2_1) ∧ w'.cell? ⟨gb433, 2, none⟩ = some (.int .i64 a2_2) ∧ w'.cell? ⟨gb433, 3, none⟩ = some (.int .i64 a2_3) ∧ w'.cell? ⟨gb434, 0, none⟩ = some (.int .i64 a4_0) ∧ w'.cell? ⟨gb434, 1, none⟩ = some (.int .i64 a4_1)) (ds := []) #[false, false, false, false, false, false, false, false, false, false, false, false, false, false, false] zq1 rfl rfl ⟨(blk_cell BK431.out 0).trans rfl, (blk_cell BK431.out 1).trans rfl, (blk_cell BK431.out 2).trans rfl, (blk_cell BK431.out 3).trans rfl, (blk_cell BK431.out 4).trans rfl, (blk_cell BK431.out 5).trans rfl, (blk_cell BK431.out 6).trans rfl, (blk_cell BK431.out 7).trans rfl, (blk_cell BK431.out 8).trans rfl, (blk_cell BK432.out 0).trans rfl, (blk_cell BK432.out 1).trans rfl, (blk_cell BK432.out 2).trans rfl, (blk_cell BK432.out 3).trans rfl, (blk_cell BK432.out 4).trans rfl, (blk_cell BK432.out 5).trans rfl, (blk_cell BK432.out 6).trans rfl, (blk_cell BK433.out 0).trans rfl, (blk_cell BK433.out 1).trans rfl, (blk_cell BK433.out 2).trans rfl, (blk_cell BK433.out 3).trans rfl, zcs2 BK434.out⟩ (fun hHeld => ?_); refine with_tabW isobathref03_Ends.tab2 isobathref03_Ends.bits2 (fun HT_ HW_ => ?_)
 generalize w21.drew = w22 at BK431 BK432 BK433 BK434 BK435 HB hHeld ⊢
 refine zpz (i := 5) (N := some 25) (any_of HT_.out zq1) ?_
 refine zpz (i := 7) (N := some 27) (any_of HT_.out zq1) ?_
 refine zpz (i := 8) (N := some 28) (any_of HT_.out zq1) ?_
 refine zpz (i := 9) (N := some 29) (any_of HT_.out zq1) ?_
 refine ztz (i := 0) (N := some 20) (take_ofW HT_.out HW_.out zq1) hHeld ?_
 refine ztz (i := 1) (N := some 21) (take_ofW HT_.out HW_.out zq1) hHeld ?_
 refine ztz (i := 2) (N := some 22) (take_ofW HT_.out HW_.out zq1) hHeld ?_
 refine ztz (i := 3) (N := some 23) (take_ofW HT_.out HW_.out zq1) hHeld ?_
 refine ztz (i := 6) (N := some 26) (take_ofW HT_.out HW_.out zq1) hHeld ?_
 refine ztz (i := 10) (N := some 30) (take_ofW HT_.out HW_.out zq1) hHeld ?_
 refine zpz (i := 11) (N := some 31) (any_of HT_.out zq1) ?_
 refine join_ (σ := Nat) 1 #[true, true, true, true, true, true, true, true, true, true, true, true, true, true, false] (fun s_ => [(24, .agg #[.int .i64 t438, .int .i64 t439, .int .i64 t440, .int .i64 t441]), (32, .agg #[.int .i64 t442, .int .i64 t443, .int .i64 t444, .int .i64 t445]), (13, .pointer (some ⟨s_, 0, none⟩))]) (fun s_ w' => (w'.cell? ⟨gb431, 0, none⟩ = some (.int .i64 a0_0) ∧ w'.cell? ⟨gb431, 1, none⟩ = some (.int .i64 a0_1) ∧ w'.cell? ⟨gb431, 2, none⟩ = some (.int .i64 a0_2) ∧ w'.cell? ⟨gb431, 3, none⟩ = some (.int .i64 a0_3) ∧ w'.cell? ⟨gb431, 4, none⟩ = some (.int .i64 a0_4) ∧ w'.cell? ⟨gb431, 5, none⟩ = some (.int .i64 a0_5) ∧ w'.cell? ⟨gb431, 6, none⟩ = some (.int .i64 a0_6) ∧ w'.cell? ⟨gb431, 7, none⟩ = some (.slice A0_7 l0_7.length c0_7) ∧ w'.cell? ⟨gb431, 8, none⟩ = some (.slice A0_8 l0_8.length c0_8) ∧ w'.cell? ⟨gb432, 0, none⟩ = some (.int .i64 a1_0) ∧ w'.cell? ⟨gb432, 1, none⟩ = some (.int .i64 a1_1) ∧ w'.cell? ⟨gb432, 2, none⟩ = some (.int .i64 a1_2) ∧ w'.cell? ⟨gb432, 3, none⟩ = some (.int .i64 a1_3) ∧ w'.cell? ⟨gb432, 4, none⟩ = some (.int .i64 a1_4) ∧ w'.cell? ⟨gb432, 5, none⟩ = some (.int .i64 a1_5) ∧ w'.cell? ⟨gb432, 6, none⟩ = some (.int .i64 a1_6) ∧ w'.cell? ⟨gb433, 0, none⟩ = some (.int .i64 a2_0) ∧ w'.cell? ⟨gb433, 1, none⟩ = some (.int .i64 a2_1) ∧ w'.cell? ⟨gb433, 2, none⟩ = some (.int .i64 a2_2) ∧ w'.cell? ⟨gb433, 3, none⟩ = some (.int .i64 a2_3) ∧ w'.cell? ⟨gb434, 0, none⟩ = some (.int .i64 a4_0) ∧ w'.cell? ⟨gb434, 1, none⟩ = some (.int .i64 a4_1)) ∧ (w'.heap[gb431]? = some (.cells #[.int .i64 a0_0, .int .i64 a0_1, .int .i64 a0_2, .int .i64 a0_3, .int .i64 a0_4, .int .i64 a0_5, .int .i64 a0_6, .slice A0_7 l0_7.length c0_7, .slice A0_8 l0_8.length c0_8] 25 (0, 0))) ∧ (w'.heap[gb432]? = some (.cells #[.int .i64 a1_0, .int .i64 a1_1, .int .i64 a1_2, .int .i64 a1_3, .int .i64 a1_4, .int .i64 a1_5, .int .i64 a1_6] 29 (0, 0))) ∧ (w'.heap[gb433]? = some (.cells #[.int .i64 a2_0, .int .i64 a2_1, .int .i64 a2_2, .int .i64 a2_3] 31 (0, 0))) ∧ (w'.heap[gb434]? = some (.cells #[.int .i64 a4_0, .int .i64 a4_1] 33 (0, 0))) ∧ (w'.heap[gb435]? = some (.cells #[.int .i64 0, .int .i64 0, .int .i64 0, .int .i64 0] 31 (0, 0))) ∧ (w'.heap[s_]? = some (.cells #[.int .i64 0, .int .i64 0, .int .i64 0, .int .i64 0] 40 (0, 0))) ∧ (w.heap.size ≤ s_) ∧ (w.heap.size ≤ s_) ∧ (gb431 ≠ s_) ∧ (s_ ≠ gb431) ∧ (gb432 ≠ s_) ∧ (s_ ≠ gb432) ∧ (gb433 ≠ s_) ∧ (s_ ≠ gb433) ∧ (gb434 ≠ s_) ∧ (s_ ≠ gb434) ∧ (gb435 ≠ s_) ∧ (s_ ≠ gb435) ∧ (Below w.heap.size w w')) ?_ ?_
 rotate_left
 ·intro hCont
  refine two_ (i := 4) (j := 13) (Ni := some 24) (Nj := some 13) #[true, true, true, true, true, true, true, true, true, true, true, true, false, false, false] #[true, true, true, true, false, true, true, true, true, true, true, true, false, true, false] rfl rfl rfl rfl (two_of HT_.out zq1) (by decide) (by decide) (fun K hK => ?_) (fun K hK => ?_)
  ·skip
   refine goes_ Try.func133 zq1 rfl #[.agg #[.int .i64 a0_0, .int .i64 a0_1, .int .i64 a0_2, .int .i64 a0_3, .int .i64 a0_4, .int .i64 a0_5, .int .i64 a0_6, .slice A0_7 l0_7.length c0_7, .slice A0_8 l0_8.length c0_8], .agg #[.int .i64 a1_0, .int .i64 a1_1, .int .i64 a1_2, .int .i64 a1_3, .int .i64 a1_4, .int .i64 a1_5, .int .i64 a1_6], .agg #[.int .i64 a2_0, .int .i64 a2_1, .int .i64 a2_2, .int .i64 a2_3]] (by rfl) rfl rfl zq8 ?_
   with_reducible refine (isobathref03_Grown.calls k a0_0 a0_1 a0_2 a0_3 a0_4 a0_5 a0_6 _ _ l0_7 _ _ l0_8 a1_0 a1_1 a1_2 a1_3 a1_4 a1_5 a1_6 a2_0 a2_1 a2_2 a2_3 t438 t439 t440 t441 _ ?side1 ?side2 ?side3 ?side4 A7.out).mono ?_
   (case side1 => repeat (first | exact (Kd.C_below HR0_7.out HB.out) | (with_reducible refine Kd.C_alloc ?_ _) | (with_reducible refine Kd.C_drewN ?_ _) | (with_reducible refine Kd.C_drew ?_)))
   (case side2 => exact HC0_7.out)
   (case side3 => repeat (first | exact (Kd.C_below HR0_8.out HB.out) | (with_reducible refine Kd.C_alloc ?_ _) | (with_reducible refine Kd.C_drewN ?_ _) | (with_reducible refine Kd.C_drew ?_)))
   (case side4 => exact HC0_8.out)
   rintro e w23 ⟨rfl, hb⟩
   refine ⟨_, rfl, ?_⟩
   replace BK431 := zbb BK431 hb
   replace BK432 := zbb BK432 hb
   replace BK433 := zbb BK433 hb
   replace BK434 := zbb BK434 hb
   replace BK435 := zbb BK435 hb
   replace HB := zbs HB hb
   (try clear hb)
   (try clear hb2)
   (try clear hk)
   (try clear hi)
   refine hK.out _ _ ⟨(blk_cell BK431.out 0).trans rfl, (blk_cell BK431.out 1).trans rfl, (blk_cell BK431.out 2).trans rfl, (blk_cell BK431.out 3).trans rfl, (blk_cell BK431.out 4).trans rfl, (blk_cell BK431.out 5).trans rfl, (blk_cell BK431.out 6).trans rfl, (blk_cell BK431.out 7).trans rfl, (blk_cell BK431.out 8).trans rfl, (blk_cell BK432.out 0).trans rfl, (blk_cell BK432.out 1).trans rfl, (blk_cell BK432.out 2).trans rfl, (blk_cell BK432.out 3).trans rfl, (blk_cell BK432.out 4).trans rfl, (blk_cell BK432.out 5).trans rfl, (blk_cell BK432.out 6).trans rfl, (blk_cell BK433.out 0).trans rfl, (blk_cell BK433.out 1).trans rfl, (blk_cell BK433.out 2).trans rfl, (blk_cell BK433.out 3).trans rfl, zcs2 BK434.out⟩ (fun hHeld => ?_)
   clear hK K
   refine norm_ zq31 ?_
   refine two_ (i := 12) (j := 13) (Ni := some 32) (Nj := some 13) #[true, true, true, true, true, true, true, true, true, true, true, true, true, false, false] #[true, true, true, true, true, true, true, true, true, true, true, true, false, true, false] rfl rfl rfl rfl (two_of HT_.out zq1) (by decide) (by decide) (fun K hK => ?_) (fun K hK => ?_)
   ·skip
    refine goes_ Try.func73 zq1 rfl #[.agg #[.int .i64 a0_0, .int .i64 a0_1, .int .i64 a0_2, .int .i64 a0_3, .int .i64 a0_4, .int .i64 a0_5, .int .i64 a0_6, .slice A0_7 l0_7.length c0_7, .slice A0_8 l0_8.length c0_8], .agg #[.int .i64 t438, .int .i64 t439, .int .i64 t440, .int .i64 t441], .int .i64 a4_1, .int .i64 a3, .int .i64 (wrap64 (a3 + a1_1))] (by rfl) rfl rfl zq8 ?_
    with_reducible refine (isobathref03_at.calls k a0_0 a0_1 a0_2 a0_3 a0_4 a0_5 a0_6 _ _ l0_7 _ _ l0_8 t438 t439 t440 t441 a4_1 a3 (wrap64 (a3 + a1_1)) t442 t443 t444 t445 _ ?side1 ?side2 ?side3 ?side4 A8.out).mono ?_
    (case side1 => repeat (first | exact (Kd.C_below HR0_7.out HB.out) | (with_reducible refine Kd.C_alloc ?_ _) | (with_reducible refine Kd.C_drewN ?_ _) | (with_reducible refine Kd.C_drew ?_)))
    (case side2 => exact HC0_7.out)
    (case side3 => repeat (first | exact (Kd.C_below HR0_8.out HB.out) | (with_reducible refine Kd.C_alloc ?_ _) | (with_reducible refine Kd.C_drewN ?_ _) | (with_reducible refine Kd.C_drew ?_)))
    (case side4 => exact HC0_8.out)
    rintro e w24 ⟨rfl, hb⟩
    refine ⟨_, rfl, ?_⟩
    replace BK431 := zbb BK431 hb
    replace BK432 := zbb BK432 hb
    replace BK433 := zbb BK433 hb
    replace BK434 := zbb BK434 hb
    replace BK435 := zbb BK435 hb
    replace HB := zbs HB hb
    (try clear hb)
    (try clear hb2)
    (try clear hk)
    (try clear hi)
    refine hK.out _ _ ⟨(blk_cell BK431.out 0).trans rfl, (blk_cell BK431.out 1).trans rfl, (blk_cell BK431.out 2).trans rfl, (blk_cell BK431.out 3).trans rfl, (blk_cell BK431.out 4).trans rfl, (blk_cell BK431.out 5).trans rfl, (blk_cell BK431.out 6).trans rfl, (blk_cell BK431.out 7).trans rfl, (blk_cell BK431.out 8).trans rfl, (blk_cell BK432.out 0).trans rfl, (blk_cell BK432.out 1).trans rfl, (blk_cell BK432.out 2).trans rfl, (blk_cell BK432.out 3).trans rfl, (blk_cell BK432.out 4).trans rfl, (blk_cell BK432.out 5).trans rfl, (blk_cell BK432.out 6).trans rfl, (blk_cell BK433.out 0).trans rfl, (blk_cell BK433.out 1).trans rfl, (blk_cell BK433.out 2).trans rfl, (blk_cell BK433.out 3).trans rfl, zcs2 BK434.out⟩ (fun hHeld => ?_)
    clear hK K
    refine norm_ zq51 ?_
    refine one_ (i := 13) (N := some 13) #[true, true, true, true, true, true, true, true, true, true, true, true, true, true, false] rfl rfl (one_of HT_.out zq1) (by decide) (fun K hK => ?_)
    refine box_step ?hg (N := 13) ?hd (cs := #[.int .i64 0, .int .i64 0, .int .i64 0, .int .i64 0]) (t := 40) ?hr ?_; (case hd => rfl); (case hg => rfl); (case hr => first | (go_simp; done) | (go_simp; rfl))
    intro gb446 hg w25 hbox hb
    have BK446 := Aside0.mk (hbox)
    have GW446 := zgs HB hg
    have GE446 := zgs HB hg
    have NB431_446 := znp BK431 hg
    have NB446_431 := znq BK431 hg
    have NB432_446 := znp BK432 hg
    have NB446_432 := znq BK432 hg
    have NB433_446 := znp BK433 hg
    have NB446_433 := znq BK433 hg
    have NB434_446 := znp BK434 hg
    have NB446_434 := znq BK434 hg
    have NB435_446 := znp BK435 hg
    have NB446_435 := znq BK435 hg
    replace BK431 := zbb BK431 hb
    replace BK432 := zbb BK432 hb
    replace BK433 := zbb BK433 hb
    replace BK434 := zbb BK434 hb
    replace BK435 := zbb BK435 hb
    replace HB := zbs HB hb
    clear hb hbox hg
    refine hK.out _ _ ⟨(blk_cell BK431.out 0).trans rfl, (blk_cell BK431.out 1).trans rfl, (blk_cell BK431.out 2).trans rfl, (blk_cell BK431.out 3).trans rfl, (blk_cell BK431.out 4).trans rfl, (blk_cell BK431.out 5).trans rfl, (blk_cell BK431.out 6).trans rfl, (blk_cell BK431.out 7).trans rfl, (blk_cell BK431.out 8).trans rfl, (blk_cell BK432.out 0).trans rfl, (blk_cell BK432.out 1).trans rfl, (blk_cell BK432.out 2).trans rfl, (blk_cell BK432.out 3).trans rfl, (blk_cell BK432.out 4).trans rfl, (blk_cell BK432.out 5).trans rfl, (blk_cell BK432.out 6).trans rfl, (blk_cell BK433.out 0).trans rfl, (blk_cell BK433.out 1).trans rfl, (blk_cell BK433.out 2).trans rfl, (blk_cell BK433.out 3).trans rfl, zcs2 BK434.out⟩ (fun hHeld => ?_)
    clear hK K
    refine norm_ zq22 ?_
    exact norm_ zq40 (hCont (gb446) _ ⟨hHeld, (by (with_reducible repeat (first | refine blk_drewN ?_ _ | refine blk_drew ?_ | refine blk_alloc ?_ _)); exact BK431.out), (by (with_reducible repeat (first | refine blk_drewN ?_ _ | refine blk_drew ?_ | refine blk_alloc ?_ _)); exact BK432.out), (by (with_reducible repeat (first | refine blk_drewN ?_ _ | refine blk_drew ?_ | refine blk_alloc ?_ _)); exact BK433.out), (by (with_reducible repeat (first | refine blk_drewN ?_ _ | refine blk_drew ?_ | refine blk_alloc ?_ _)); exact BK434.out), (by (with_reducible repeat (first | refine blk_drewN ?_ _ | refine blk_drew ?_ | refine blk_alloc ?_ _)); exact BK435.out), (by (with_reducible repeat (first | refine blk_drewN ?_ _ | refine blk_drew ?_ | refine blk_alloc ?_ _)); exact BK446.out), GW446.out, GE446.out, NB431_446.out, NB446_431.out, NB432_446.out, NB446_432.out, NB433_446.out, NB446_433.out, NB434_446.out, NB446_434.out, NB435_446.out, NB446_435.out, zbz⟩)
   ·skip
    refine box_step ?hg (N := 13) ?hd (cs := #[.int .i64 0, .int .i64 0, .int .i64 0, .int .i64 0]) (t := 40) ?hr ?_; (case hd => rfl); (case hg => rfl); (case hr => first | (go_simp; done) | (go_simp; rfl))
    intro gb446 hg w24 hbox hb
    have BK446 := Aside0.mk (hbox)
    have GW446 := zgs HB hg
    have GE446 := zgs HB hg
    have NB431_446 := znp BK431 hg
    have NB446_431 := znq BK431 hg
    have NB432_446 := znp BK432 hg
    have NB446_432 := znq BK432 hg
    have NB433_446 := znp BK433 hg
    have NB446_433 := znq BK433 hg
    have NB434_446 := znp BK434 hg
    have NB446_434 := znq BK434 hg
    have NB435_446 := znp BK435 hg
    have NB446_435 := znq BK435 hg
    replace BK431 := zbb BK431 hb
    replace BK432 := zbb BK432 hb
    replace BK433 := zbb BK433 hb
    replace BK434 := zbb BK434 hb
    replace BK435 := zbb BK435 hb
    replace HB := zbs HB hb
    clear hb hbox hg
    refine hK.out _ _ ⟨(blk_cell BK431.out 0).trans rfl, (blk_cell BK431.out 1).trans rfl, (blk_cell BK431.out 2).trans rfl, (blk_cell BK431.out 3).trans rfl, (blk_cell BK431.out 4).trans rfl, (blk_cell BK431.out 5).trans rfl, (blk_cell BK431.out 6).trans rfl, (blk_cell BK431.out 7).trans rfl, (blk_cell BK431.out 8).trans rfl, (blk_cell BK432.out 0).trans rfl, (blk_cell BK432.out 1).trans rfl, (blk_cell BK432.out 2).trans rfl, (blk_cell BK432.out 3).trans rfl, (blk_cell BK432.out 4).trans rfl, (blk_cell BK432.out 5).trans rfl, (blk_cell BK432.out 6).trans rfl, (blk_cell BK433.out 0).trans rfl, (blk_cell BK433.out 1).trans rfl, (blk_cell BK433.out 2).trans rfl, (blk_cell BK433.out 3).trans rfl, zcs2 BK434.out⟩ (fun hHeld => ?_)
    clear hK K
    refine norm_ zq22 ?_
    refine one_ (i := 12) (N := some 32) #[true, true, true, true, true, true, true, true, true, true, true, true, true, true, false] rfl rfl (one_of HT_.out zq1) (by decide) (fun K hK => ?_)
    refine goes_ Try.func73 zq1 rfl #[.agg #[.int .i64 a0_0, .int .i64 a0_1, .int .i64 a0_2, .int .i64 a0_3, .int .i64 a0_4, .int .i64 a0_5, .int .i64 a0_6, .slice A0_7 l0_7.length c0_7, .slice A0_8 l0_8.length c0_8], .agg #[.int .i64 t438, .int .i64 t439, .int .i64 t440, .int .i64 t441], .int .i64 a4_1, .int .i64 a3, .int .i64 (wrap64 (a3 + a1_1))] (by rfl) rfl rfl zq8 ?_
    with_reducible refine (isobathref03_at.calls k a0_0 a0_1 a0_2 a0_3 a0_4 a0_5 a0_6 _ _ l0_7 _ _ l0_8 t438 t439 t440 t441 a4_1 a3 (wrap64 (a3 + a1_1)) t442 t443 t444 t445 _ ?side1 ?side2 ?side3 ?side4 A8.out).mono ?_
    (case side1 => repeat (first | exact (Kd.C_below HR0_7.out HB.out) | (with_reducible refine Kd.C_alloc ?_ _) | (with_reducible refine Kd.C_drewN ?_ _) | (with_reducible refine Kd.C_drew ?_)))
    (case side2 => exact HC0_7.out)
    (case side3 => repeat (first | exact (Kd.C_below HR0_8.out HB.out) | (with_reducible refine Kd.C_alloc ?_ _) | (with_reducible refine Kd.C_drewN ?_ _) | (with_reducible refine Kd.C_drew ?_)))
    (case side4 => exact HC0_8.out)
    rintro e w25 ⟨rfl, hb⟩
    refine ⟨_, rfl, ?_⟩
    replace BK431 := zbb BK431 hb
    replace BK432 := zbb BK432 hb
    replace BK433 := zbb BK433 hb
    replace BK434 := zbb BK434 hb
    replace BK435 := zbb BK435 hb
    replace BK446 := zbb BK446 hb
    replace HB := zbs HB hb
    (try clear hb)
    (try clear hb2)
    (try clear hk)
    (try clear hi)
    refine hK.out _ _ ⟨(blk_cell BK431.out 0).trans rfl, (blk_cell BK431.out 1).trans rfl, (blk_cell BK431.out 2).trans rfl, (blk_cell BK431.out 3).trans rfl, (blk_cell BK431.out 4).trans rfl, (blk_cell BK431.out 5).trans rfl, (blk_cell BK431.out 6).trans rfl, (blk_cell BK431.out 7).trans rfl, (blk_cell BK431.out 8).trans rfl, (blk_cell BK432.out 0).trans rfl, (blk_cell BK432.out 1).trans rfl, (blk_cell BK432.out 2).trans rfl, (blk_cell BK432.out 3).trans rfl, (blk_cell BK432.out 4).trans rfl, (blk_cell BK432.out 5).trans rfl, (blk_cell BK432.out 6).trans rfl, (blk_cell BK433.out 0).trans rfl, (blk_cell BK433.out 1).trans rfl, (blk_cell BK433.out 2).trans rfl, (blk_cell BK433.out 3).trans rfl, zcs2 BK434.out⟩ (fun hHeld => ?_)
    clear hK K
    refine norm_ zq51 ?_
    exact norm_ zq40 (hCont (gb446) _ ⟨hHeld, (by (with_reducible repeat (first | refine blk_drewN ?_ _ | refine blk_drew ?_ | refine blk_alloc ?_ _)); exact BK431.out), (by (with_reducible repeat (first | refine blk_drewN ?_ _ | refine blk_drew ?_ | refine blk_alloc ?_ _)); exact BK432.out), (by (with_reducible repeat (first | refine blk_drewN ?_ _ | refine blk_drew ?_ | refine blk_alloc ?_ _)); exact BK433.out), (by (with_reducible repeat (first | refine blk_drewN ?_ _ | refine blk_drew ?_ | refine blk_alloc ?_ _)); exact BK434.out), (by (with_reducible repeat (first | refine blk_drewN ?_ _ | refine blk_drew ?_ | refine blk_alloc ?_ _)); exact BK435.out), (by (with_reducible repeat (first | refine blk_drewN ?_ _ | refine blk_drew ?_ | refine blk_alloc ?_ _)); exact BK446.out), GW446.out, GE446.out, NB431_446.out, NB446_431.out, NB432_446.out, NB446_432.out, NB433_446.out, NB446_433.out, NB434_446.out, NB446_434.out, NB435_446.out, NB446_435.out, zbz⟩)
  ·skip
   refine box_step ?hg (N := 13) ?hd (cs := #[.int .i64 0, .int .i64 0, .int .i64 0, .int .i64 0]) (t := 40) ?hr ?_; (case hd => rfl); (case hg => rfl); (case hr => first | (go_simp; done) | (go_simp; rfl))
   intro gb446 hg w23 hbox hb
   have BK446 := Aside0.mk (hbox)
   have GW446 := zgs HB hg
   have GE446 := zgs HB hg
   have NB431_446 := znp BK431 hg
   have NB446_431 := znq BK431 hg
   have NB432_446 := znp BK432 hg
   have NB446_432 := znq BK432 hg
   have NB433_446 := znp BK433 hg
   have NB446_433 := znq BK433 hg
   have NB434_446 := znp BK434 hg
   have NB446_434 := znq BK434 hg
   have NB435_446 := znp BK435 hg
   have NB446_435 := znq BK435 hg
   replace BK431 := zbb BK431 hb
   replace BK432 := zbb BK432 hb
   replace BK433 := zbb BK433 hb
   replace BK434 := zbb BK434 hb
   replace BK435 := zbb BK435 hb
   replace HB := zbs HB hb
   clear hb hbox hg
   refine hK.out _ _ ⟨(blk_cell BK431.out 0).trans rfl, (blk_cell BK431.out 1).trans rfl, (blk_cell BK431.out 2).trans rfl, (blk_cell BK431.out 3).trans rfl, (blk_cell BK431.out 4).trans rfl, (blk_cell BK431.out 5).trans rfl, (blk_cell BK431.out 6).trans rfl, (blk_cell BK431.out 7).trans rfl, (blk_cell BK431.out 8).trans rfl, (blk_cell BK432.out 0).trans rfl, (blk_cell BK432.out 1).trans rfl, (blk_cell BK432.out 2).trans rfl, (blk_cell BK432.out 3).trans rfl, (blk_cell BK432.out 4).trans rfl, (blk_cell BK432.out 5).trans rfl, (blk_cell BK432.out 6).trans rfl, (blk_cell BK433.out 0).trans rfl, (blk_cell BK433.out 1).trans rfl, (blk_cell BK433.out 2).trans rfl, (blk_cell BK433.out 3).trans rfl, zcs2 BK434.out⟩ (fun hHeld => ?_)
   clear hK K
   refine norm_ zq22 ?_
   refine one_ (i := 4) (N := some 24) #[true, true, true, true, true, true, true, true, true, true, true, true, false, true, false] rfl rfl (one_of HT_.out zq1) (by decide) (fun K hK => ?_)
   refine goes_ Try.func133 zq1 rfl #[.agg #[.int .i64 a0_0, .int .i64 a0_1, .int .i64 a0_2, .int .i64 a0_3, .int .i64 a0_4, .int .i64 a0_5, .int .i64 a0_6, .slice A0_7 l0_7.length c0_7, .slice A0_8 l0_8.length c0_8], .agg #[.int .i64 a1_0, .int .i64 a1_1, .int .i64 a1_2, .int .i64 a1_3, .int .i64 a1_4, .int .i64 a1_5, .int .i64 a1_6], .agg #[.int .i64 a2_0, .int .i64 a2_1, .int .i64 a2_2, .int .i64 a2_3]] (by rfl) rfl rfl zq8 ?_
   with_reducible refine (isobathref03_Grown.calls k a0_0 a0_1 a0_2 a0_3 a0_4 a0_5 a0_6 _ _ l0_7 _ _ l0_8 a1_0 a1_1 a1_2 a1_3 a1_4 a1_5 a1_6 a2_0 a2_1 a2_2 a2_3 t438 t439 t440 t441 _ ?side1 ?side2 ?side3 ?side4 A7.out).mono ?_
   (case side1 => repeat (first | exact (Kd.C_below HR0_7.out HB.out) | (with_reducible refine Kd.C_alloc ?_ _) | (with_reducible refine Kd.C_drewN ?_ _) | (with_reducible refine Kd.C_drew ?_)))
   (case side2 => exact HC0_7.out)
   (case side3 => repeat (first | exact (Kd.C_below HR0_8.out HB.out) | (with_reducible refine Kd.C_alloc ?_ _) | (with_reducible refine Kd.C_drewN ?_ _) | (with_reducible refine Kd.C_drew ?_)))
   (case side4 => exact HC0_8.out)
   rintro e w24 ⟨rfl, hb⟩
   refine ⟨_, rfl, ?_⟩
   replace BK431 := zbb BK431 hb
   replace BK432 := zbb BK432 hb
   replace BK433 := zbb BK433 hb
   replace BK434 := zbb BK434 hb
   replace BK435 := zbb BK435 hb
   replace BK446 := zbb BK446 hb
   replace HB := zbs HB hb
   (try clear hb)
   (try clear hb2)
   (try clear hk)
   (try clear hi)
   refine hK.out _ _ ⟨(blk_cell BK431.out 0).trans rfl, (blk_cell BK431.out 1).trans rfl, (blk_cell BK431.out 2).trans rfl, (blk_cell BK431.out 3).trans rfl, (blk_cell BK431.out 4).trans rfl, (blk_cell BK431.out 5).trans rfl, (blk_cell BK431.out 6).trans rfl, (blk_cell BK431.out 7).trans rfl, (blk_cell BK431.out 8).trans rfl, (blk_cell BK432.out 0).trans rfl, (blk_cell BK432.out 1).trans rfl, (blk_cell BK432.out 2).trans rfl, (blk_cell BK432.out 3).trans rfl, (blk_cell BK432.out 4).trans rfl, (blk_cell BK432.out 5).trans rfl, (blk_cell BK432.out 6).trans rfl, (blk_cell BK433.out 0).trans rfl, (blk_cell BK433.out 1).trans rfl, (blk_cell BK433.out 2).trans rfl, (blk_cell BK433.out 3).trans rfl, zcs2 BK434.out⟩ (fun hHeld => ?_)
   clear hK K
   refine norm_ zq31 ?_
   refine one_ (i := 12) (N := some 32) #[true, true, true, true, true, true, true, true, true, true, true, true, true, true, false] rfl rfl (one_of HT_.out zq1) (by decide) (fun K hK => ?_)
   refine goes_ Try.func73 zq1 rfl #[.agg #[.int .i64 a0_0, .int .i64 a0_1, .int .i64 a0_2, .int .i64 a0_3, .int .i64 a0_4, .int .i64 a0_5, .int .i64 a0_6, .slice A0_7 l0_7.length c0_7, .slice A0_8 l0_8.length c0_8], .agg #[.int .i64 t438, .int .i64 t439, .int .i64 t440, .int .i64 t441], .int .i64 a4_1, .int .i64 a3, .int .i64 (wrap64 (a3 + a1_1))] (by rfl) rfl rfl zq8 ?_
   with_reducible refine (isobathref03_at.calls k a0_0 a0_1 a0_2 a0_3 a0_4 a0_5 a0_6 _ _ l0_7 _ _ l0_8 t438 t439 t440 t441 a4_1 a3 (wrap64 (a3 + a1_1)) t442 t443 t444 t445 _ ?side1 ?side2 ?side3 ?side4 A8.out).mono ?_
   (case side1 => repeat (first | exact (Kd.C_below HR0_7.out HB.out) | (with_reducible refine Kd.C_alloc ?_ _) | (with_reducible refine Kd.C_drewN ?_ _) | (with_reducible refine Kd.C_drew ?_)))
   (case side2 => exact HC0_7.out)
   (case side3 => repeat (first | exact (Kd.C_below HR0_8.out HB.out) | (with_reducible refine Kd.C_alloc ?_ _) | (with_reducible refine Kd.C_drewN ?_ _) | (with_reducible refine Kd.C_drew ?_)))
   (case side4 => exact HC0_8.out)
   rintro e w25 ⟨rfl, hb⟩
   refine ⟨_, rfl, ?_⟩
   replace BK431 := zbb BK431 hb
   replace BK432 := zbb BK432 hb
   replace BK433 := zbb BK433 hb
   replace BK434 := zbb BK434 hb
   replace BK435 := zbb BK435 hb
   replace BK446 := zbb BK446 hb
   replace HB := zbs HB hb
   (try clear hb)
   (try clear hb2)
   (try clear hk)
   (try clear hi)
   refine hK.out _ _ ⟨(blk_cell BK431.out 0).trans rfl, (blk_cell BK431.out 1).trans rfl, (blk_cell BK431.out 2).trans rfl, (blk_cell BK431.out 3).trans rfl, (blk_cell BK431.out 4).trans rfl, (blk_cell BK431.out 5).trans rfl, (blk_cell BK431.out 6).trans rfl, (blk_cell BK431.out 7).trans rfl, (blk_cell BK431.out 8).trans rfl, (blk_cell BK432.out 0).trans rfl, (blk_cell BK432.out 1).trans rfl, (blk_cell BK432.out 2).trans rfl, (blk_cell BK432.out 3).trans rfl, (blk_cell BK432.out 4).trans rfl, (blk_cell BK432.out 5).trans rfl, (blk_cell BK432.out 6).trans rfl, (blk_cell BK433.out 0).trans rfl, (blk_cell BK433.out 1).trans rfl, (blk_cell BK433.out 2).trans rfl, (blk_cell BK433.out 3).trans rfl, zcs2 BK434.out⟩ (fun hHeld => ?_)
   clear hK K
   refine norm_ zq51 ?_
   exact norm_ zq40 (hCont (gb446) _ ⟨hHeld, (by (with_reducible repeat (first | refine blk_drewN ?_ _ | refine blk_drew ?_ | refine blk_alloc ?_ _)); exact BK431.out), (by (with_reducible repeat (first | refine blk_drewN ?_ _ | refine blk_drew ?_ | refine blk_alloc ?_ _)); exact BK432.out), (by (with_reducible repeat (first | refine blk_drewN ?_ _ | refine blk_drew ?_ | refine blk_alloc ?_ _)); exact BK433.out), (by (with_reducible repeat (first | refine blk_drewN ?_ _ | refine blk_drew ?_ | refine blk_alloc ?_ _)); exact BK434.out), (by (with_reducible repeat (first | refine blk_drewN ?_ _ | refine blk_drew ?_ | refine blk_alloc ?_ _)); exact BK435.out), (by (with_reducible repeat (first | refine blk_drewN ?_ _ | refine blk_drew ?_ | refine blk_alloc ?_ _)); exact BK446.out), GW446.out, GE446.out, NB431_446.out, NB446_431.out, NB432_446.out, NB446_432.out, NB433_446.out, NB446_433.out, NB434_446.out, NB446_434.out, NB435_446.out, NB446_435.out, zbz⟩)
 rintro gb446 w26 ⟨hS_, h0_, h1_, h2_, h3_, h4_, h5_, h6_, h7_, h8_, h9_, h10_, h11_, h12_, h13_, h14_, h15_, h16_, h17_, h18_⟩
 have n0_ : Aside0 (w26.heap[gb431]? = some (.cells #[.int .i64 a0_0, .int .i64 a0_1, .int .i64 a0_2, .int .i64 a0_3, .int .i64 a0_4, .int .i64 a0_5, .int .i64 a0_6, .slice A0_7 l0_7.length c0_7, .slice A0_8 l0_8.length c0_8] 25 (0, 0))) := ⟨h0_⟩
 have n1_ : Aside0 (w26.heap[gb432]? = some (.cells #[.int .i64 a1_0, .int .i64 a1_1, .int .i64 a1_2, .int .i64 a1_3, .int .i64 a1_4, .int .i64 a1_5, .int .i64 a1_6] 29 (0, 0))) := ⟨h1_⟩
 have n2_ : Aside0 (w26.heap[gb433]? = some (.cells #[.int .i64 a2_0, .int .i64 a2_1, .int .i64 a2_2, .int .i64 a2_3] 31 (0, 0))) := ⟨h2_⟩
 have n3_ : Aside0 (w26.heap[gb434]? = some (.cells #[.int .i64 a4_0, .int .i64 a4_1] 33 (0, 0))) := ⟨h3_⟩
 have n4_ : Aside0 (w26.heap[gb435]? = some (.cells #[.int .i64 0, .int .i64 0, .int .i64 0, .int .i64 0] 31 (0, 0))) := ⟨h4_⟩
 have n5_ : Aside0 (w26.heap[gb446]? = some (.cells #[.int .i64 0, .int .i64 0, .int .i64 0, .int .i64 0] 40 (0, 0))) := ⟨h5_⟩
 have n6_ : Aside0 (w.heap.size ≤ gb446) := ⟨h6_⟩
 have n7_ : Aside0 (w.heap.size ≤ gb446) := ⟨h7_⟩
 have n8_ : Aside0 (gb431 ≠ gb446) := ⟨h8_⟩
 have n9_ : Aside0 (gb446 ≠ gb431) := ⟨h9_⟩
 have n10_ : Aside0 (gb432 ≠ gb446) := ⟨h10_⟩
 have n11_ : Aside0 (gb446 ≠ gb432) := ⟨h11_⟩
 have n12_ : Aside0 (gb433 ≠ gb446) := ⟨h12_⟩
 have n13_ : Aside0 (gb446 ≠ gb433) := ⟨h13_⟩
 have n14_ : Aside0 (gb434 ≠ gb446) := ⟨h14_⟩
 have n15_ : Aside0 (gb446 ≠ gb434) := ⟨h15_⟩
 have n16_ : Aside0 (gb435 ≠ gb446) := ⟨h16_⟩
 have n17_ : Aside0 (gb446 ≠ gb435) := ⟨h17_⟩
 have n18_ : Aside0 (Below w.heap.size w w26) := ⟨h18_⟩
 clear BK431 BK432 BK433 BK434 BK435 HB
 clear h0_ h1_ h2_ h3_ h4_ h5_ h6_ h7_ h8_ h9_ h10_ h11_ h12_ h13_ h14_ h15_ h16_ h17_ h18_
 have BK431 := n0_
 have BK432 := n1_
 have BK433 := n2_
 have BK434 := n3_
 have BK435 := n4_
 have BK446 := n5_
 have GW446 := n6_
 have GE446 := n7_
 have NB431_446 := n8_
 have NB446_431 := n9_
 have NB432_446 := n10_
 have NB446_432 := n11_
 have NB433_446 := n12_
 have NB446_433 := n13_
 have NB434_446 := n14_
 have NB446_434 := n15_
 have NB435_446 := n16_
 have NB446_435 := n17_
 have HB := n18_
 clear n0_ n1_ n2_ n3_ n4_ n5_ n6_ n7_ n8_ n9_ n10_ n11_ n12_ n13_ n14_ n15_ n16_ n17_ n18_
 have hHeld : w26.cell? ⟨gb431, 0, none⟩ = some (.int .i64 a0_0) ∧ w26.cell? ⟨gb431, 1, none⟩ = some (.int .i64 a0_1) ∧ w26.cell? ⟨gb431, 2, none⟩ = some (.int .i64 a0_2) ∧ w26.cell? ⟨gb431, 3, none⟩ = some (.int .i64 a0_3) ∧ w26.cell? ⟨gb431, 4, none⟩ = some (.int .i64 a0_4) ∧ w26.cell? ⟨gb431, 5, none⟩ = some (.int .i64 a0_5) ∧ w26.cell? ⟨gb431, 6, none⟩ = some (.int .i64 a0_6) ∧ w26.cell? ⟨gb431, 7, none⟩ = some (.slice A0_7 l0_7.length c0_7) ∧ w26.cell? ⟨gb431, 8, none⟩ = some (.slice A0_8 l0_8.length c0_8) ∧ w26.cell? ⟨gb432, 0, none⟩ = some (.int .i64 a1_0) ∧ w26.cell? ⟨gb432, 1, none⟩ = some (.int .i64 a1_1) ∧ w26.cell? ⟨gb432, 2, none⟩ = some (.int .i64 a1_2) ∧ w26.cell? ⟨gb432, 3, none⟩ = some (.int .i64 a1_3) ∧ w26.cell? ⟨gb432, 4, none⟩ = some (.int .i64 a1_4) ∧ w26.cell? ⟨gb432, 5, none⟩ = some (.int .i64 a1_5) ∧ w26.cell? ⟨gb432, 6, none⟩ = some (.int .i64 a1_6) ∧ w26.cell? ⟨gb433, 0, none⟩ = some (.int .i64 a2_0) ∧ w26.cell? ⟨gb433, 1, none⟩ = some (.int .i64 a2_1) ∧ w26.cell? ⟨gb433, 2, none⟩ = some (.int .i64 a2_2) ∧ w26.cell? ⟨gb433, 3, none⟩ = some (.int .i64 a2_3) ∧ w26.cell? ⟨gb434, 0, none⟩ = some (.int .i64 a4_0) ∧ w26.cell? ⟨gb434, 1, none⟩ = some (.int .i64 a4_1) := hS_
 refine norm_ (a' := ?_) ?_ ?_
 rotate_left
 ·simp only [putAll, Act.put, List.setIfInBounds_toArray, List.set_cons_zero, List.set_cons_succ]
  rfl
 refine one_ (i := 14) (N := none) #[true, true, true, true, true, true, true, true, true, true, true, true, true, true, true] rfl rfl (one_of HT_.out zq1) (by decide) (fun K hK => ?_)
 have hs27 : w26.cell? ⟨gb446, 0, none⟩ = some (.int .i64 0) := (blk_cell BK446.out 0).trans rfl
 have hfs27 := blk_frozen BK446.out 0
 have hns27_0 := NB431_446.out
 have hns27_1 := NB432_446.out
 have hns27_2 := NB433_446.out
 have hns27_3 := NB434_446.out
 have hns27_4 := NB435_446.out
 have hms27_0 := NB446_431.out
 have hms27_1 := NB446_432.out
 have hms27_2 := NB446_433.out
 have hms27_3 := NB446_434.out
 have hms27_4 := NB446_435.out
 have hs28 : w26.cell? ⟨gb446, 1, none⟩ = some (.int .i64 0) := (blk_cell BK446.out 1).trans rfl
 have hfs28 := blk_frozen BK446.out 1
 have hns28_0 := NB431_446.out
 have hns28_1 := NB432_446.out
 have hns28_2 := NB433_446.out
 have hns28_3 := NB434_446.out
 have hns28_4 := NB435_446.out
 have hms28_0 := NB446_431.out
 have hms28_1 := NB446_432.out
 have hms28_2 := NB446_433.out
 have hms28_3 := NB446_434.out
 have hms28_4 := NB446_435.out
 have hs29 : w26.cell? ⟨gb446, 2, none⟩ = some (.int .i64 0) := (blk_cell BK446.out 2).trans rfl
 have hfs29 := blk_frozen BK446.out 2
 have hns29_0 := NB431_446.out
 have hns29_1 := NB432_446.out
 have hns29_2 := NB433_446.out
 have hns29_3 := NB434_446.out
 have hns29_4 := NB435_446.out
 have hms29_0 := NB446_431.out
 have hms29_1 := NB446_432.out
 have hms29_2 := NB446_433.out
 have hms29_3 := NB446_434.out
 have hms29_4 := NB446_435.out
 have hs30 : w26.cell? ⟨gb446, 3, none⟩ = some (.int .i64 0) := (blk_cell BK446.out 3).trans rfl
 have hfs30 := blk_frozen BK446.out 3
 have hns30_0 := NB431_446.out
 have hns30_1 := NB432_446.out
 have hns30_2 := NB433_446.out
 have hns30_3 := NB434_446.out
 have hns30_4 := NB435_446.out
 have hms30_0 := NB446_431.out
 have hms30_1 := NB446_432.out
 have hms30_2 := NB446_433.out
 have hms30_3 := NB446_434.out
 have hms30_4 := NB446_435.out
 refine skip_ (w1 := ?_) (by rfl) rfl ?_ ?_
 rotate_left
 ·go_simp
  rfl
 refine hK.out _ _ ⟨((cell_far (p := ⟨gb446, _, none⟩) NB431_446.out _).trans (((cell_far (p := ⟨gb446, _, none⟩) NB431_446.out _).trans (((cell_far (p := ⟨gb446, _, none⟩) NB431_446.out _).trans (((cell_far (p := ⟨gb446, _, none⟩) NB431_446.out _).trans (hHeld.1)))))))), ((cell_far (p := ⟨gb446, _, none⟩) NB431_446.out _).trans (((cell_far (p := ⟨gb446, _, none⟩) NB431_446.out _).trans (((cell_far (p := ⟨gb446, _, none⟩) NB431_446.out _).trans (((cell_far (p := ⟨gb446, _, none⟩) NB431_446.out _).trans (hHeld.2.1)))))))), ((cell_far (p := ⟨gb446, _, none⟩) NB431_446.out _).trans (((cell_far (p := ⟨gb446, _, none⟩) NB431_446.out _).trans (((cell_far (p := ⟨gb446, _, none⟩) NB431_446.out _).trans (((cell_far (p := ⟨gb446, _, none⟩) NB431_446.out _).trans (hHeld.2.2.1)))))))), ((cell_far (p := ⟨gb446, _, none⟩) NB431_446.out _).trans (((cell_far (p := ⟨gb446, _, none⟩) NB431_446.out _).trans (((cell_far (p := ⟨gb446, _, none⟩) NB431_446.out _).trans (((cell_far (p := ⟨gb446, _, none⟩) NB431_446.out _).trans (hHeld.2.2.2.1)))))))), ((cell_far (p := ⟨gb446, _, none⟩) NB431_446.out _).trans (((cell_far (p := ⟨gb446, _, none⟩) NB431_446.out _).trans (((cell_far (p := ⟨gb446, _, none⟩) NB431_446.out _).trans (((cell_far (p := ⟨gb446, _, none⟩) NB431_446.out _).trans (hHeld.2.2.2.2.1)))))))), ((cell_far (p := ⟨gb446, _, none⟩) NB431_446.out _).trans (((cell_far (p := ⟨gb446, _, none⟩) NB431_446.out _).trans (((cell_far (p := ⟨gb446, _, none⟩) NB431_446.out _).trans (((cell_far (p := ⟨gb446, _, none⟩) NB431_446.out _).trans (hHeld.2.2.2.2.2.1)))))))), ((cell_far (p := ⟨gb446, _, none⟩) NB431_446.out _).trans (((cell_far (p := ⟨gb446, _, none⟩) NB431_446.out _).trans (((cell_far (p := ⟨gb446, _, none⟩) NB431_446.out _).trans (((cell_far (p := ⟨gb446, _, none⟩) NB431_446.out _).trans (hHeld.2.2.2.2.2.2.1)))))))), ((cell_far (p := ⟨gb446, _, none⟩) NB431_446.out _).trans (((cell_far (p := ⟨gb446, _, none⟩) NB431_446.out _).trans (((cell_far (p := ⟨gb446, _, none⟩) NB431_446.out _).trans (((cell_far (p := ⟨gb446, _, none⟩) NB431_446.out _).trans (hHeld.2.2.2.2.2.2.2.1)))))))), ((cell_far (p := ⟨gb446, _, none⟩) NB431_446.out _).trans (((cell_far (p := ⟨gb446, _, none⟩) NB431_446.out _).trans (((cell_far (p := ⟨gb446, _, none⟩) NB431_446.out _).trans (((cell_far (p := ⟨gb446, _, none⟩) NB431_446.out _).trans (hHeld.2.2.2.2.2.2.2.2.1)))))))), ((cell_far (p := ⟨gb446, _, none⟩) NB432_446.out _).trans (((cell_far (p := ⟨gb446, _, none⟩) NB432_446.out _).trans (((cell_far (p := ⟨gb446, _, none⟩) NB432_446.out _).trans (((cell_far (p := ⟨gb446, _, none⟩) NB432_446.out _).trans (hHeld.2.2.2.2.2.2.2.2.2.1)))))))), ((cell_far (p := ⟨gb446, _, none⟩) NB432_446.out _).trans (((cell_far (p := ⟨gb446, _, none⟩) NB432_446.out _).trans (((cell_far (p := ⟨gb446, _, none⟩) NB432_446.out _).trans (((cell_far (p := ⟨gb446, _, none⟩) NB432_446.out _).trans (hHeld.2.2.2.2.2.2.2.2.2.2.1)))))))), ((cell_far (p := ⟨gb446, _, none⟩) NB432_446.out _).trans (((cell_far (p := ⟨gb446, _, none⟩) NB432_446.out _).trans (((cell_far (p := ⟨gb446, _, none⟩) NB432_446.out _).trans (((cell_far (p := ⟨gb446, _, none⟩) NB432_446.out _).trans (hHeld.2.2.2.2.2.2.2.2.2.2.2.1)))))))), ((cell_far (p := ⟨gb446, _, none⟩) NB432_446.out _).trans (((cell_far (p := ⟨gb446, _, none⟩) NB432_446.out _).trans (((cell_far (p := ⟨gb446, _, none⟩) NB432_446.out _).trans (((cell_far (p := ⟨gb446, _, none⟩) NB432_446.out _).trans (hHeld.2.2.2.2.2.2.2.2.2.2.2.2.1)))))))), ((cell_far (p := ⟨gb446, _, none⟩) NB432_446.out _).trans (((cell_far (p := ⟨gb446, _, none⟩) NB432_446.out _).trans (((cell_far (p := ⟨gb446, _, none⟩) NB432_446.out _).trans (((cell_far (p := ⟨gb446, _, none⟩) NB432_446.out _).trans (hHeld.2.2.2.2.2.2.2.2.2.2.2.2.2.1)))))))), ((cell_far (p := ⟨gb446, _, none⟩) NB432_446.out _).trans (((cell_far (p := ⟨gb446, _, none⟩) NB432_446.out _).trans (((cell_far (p := ⟨gb446, _, none⟩) NB432_446.out _).trans (((cell_far (p := ⟨gb446, _, none⟩) NB432_446.out _).trans (hHeld.2.2.2.2.2.2.2.2.2.2.2.2.2.2.1)))))))), ((cell_far (p := ⟨gb446, _, none⟩) NB432_446.out _).trans (((cell_far (p := ⟨gb446, _, none⟩) NB432_446.out _).trans (((cell_far (p := ⟨gb446, _, none⟩) NB432_446.out _).trans (((cell_far (p := ⟨gb446, _, none⟩) NB432_446.out _).trans (hHeld.2.2.2.2.2.2.2.2.2.2.2.2.2.2.2.1)))))))), ((cell_far (p := ⟨gb446, _, none⟩) NB433_446.out _).trans (((cell_far (p := ⟨gb446, _, none⟩) NB433_446.out _).trans (((cell_far (p := ⟨gb446, _, none⟩) NB433_446.out _).trans (((cell_far (p := ⟨gb446, _, none⟩) NB433_446.out _).trans (hHeld.2.2.2.2.2.2.2.2.2.2.2.2.2.2.2.2.1)))))))), ((cell_far (p := ⟨gb446, _, none⟩) NB433_446.out _).trans (((cell_far (p := ⟨gb446, _, none⟩) NB433_446.out _).trans (((cell_far (p := ⟨gb446, _, none⟩) NB433_446.out _).trans (((cell_far (p := ⟨gb446, _, none⟩) NB433_446.out _).trans (hHeld.2.2.2.2.2.2.2.2.2.2.2.2.2.2.2.2.2.1)))))))), ((cell_far (p := ⟨gb446, _, none⟩) NB433_446.out _).trans (((cell_far (p := ⟨gb446, _, none⟩) NB433_446.out _).trans (((cell_far (p := ⟨gb446, _, none⟩) NB433_446.out _).trans (((cell_far (p := ⟨gb446, _, none⟩) NB433_446.out _).trans (hHeld.2.2.2.2.2.2.2.2.2.2.2.2.2.2.2.2.2.2.1)))))))), ((cell_far (p := ⟨gb446, _, none⟩) NB433_446.out _).trans (((cell_far (p := ⟨gb446, _, none⟩) NB433_446.out _).trans (((cell_far (p := ⟨gb446, _, none⟩) NB433_446.out _).trans (((cell_far (p := ⟨gb446, _, none⟩) NB433_446.out _).trans (hHeld.2.2.2.2.2.2.2.2.2.2.2.2.2.2.2.2.2.2.2.1)))))))), ((cell_far (p := ⟨gb446, _, none⟩) NB434_446.out _).trans (((cell_far (p := ⟨gb446, _, none⟩) NB434_446.out _).trans (((cell_far (p := ⟨gb446, _, none⟩) NB434_446.out _).trans (((cell_far (p := ⟨gb446, _, none⟩) NB434_446.out _).trans (hHeld.2.2.2.2.2.2.2.2.2.2.2.2.2.2.2.2.2.2.2.2.1)))))))), ((cell_far (p := ⟨gb446, _, none⟩) NB434_446.out _).trans (((cell_far (p := ⟨gb446, _, none⟩) NB434_446.out _).trans (((cell_far (p := ⟨gb446, _, none⟩) NB434_446.out _).trans (((cell_far (p := ⟨gb446, _, none⟩) NB434_446.out _).trans (hHeld.2.2.2.2.2.2.2.2.2.2.2.2.2.2.2.2.2.2.2.2.2))))))))⟩ (fun hHeld => ?_)
 clear hK K
 refine done_ (done_of HT_.out zq1) ?_
 try go_wp2
 have n0_ : Aside0 (((((w26.setCell ⟨gb446, 0, none⟩ (.int .i64 t442)).setCell ⟨gb446, 1, none⟩ (.int .i64 t443)).setCell ⟨gb446, 2, none⟩ (.int .i64 t444)).setCell ⟨gb446, 3, none⟩ (.int .i64 t445)).heap[gb431]? = some (.cells #[.int .i64 a0_0, .int .i64 a0_1, .int .i64 a0_2, .int .i64 a0_3, .int .i64 a0_4, .int .i64 a0_5, .int .i64 a0_6, .slice A0_7 l0_7.length c0_7, .slice A0_8 l0_8.length c0_8] 25 (0, 0))) := ⟨by (with_reducible repeat (first | refine blk_drewN ?_ _ | refine blk_drew ?_ | refine blk_alloc ?_ _)); refine blk_far ?_ NB431_446.out _; (with_reducible repeat (first | refine blk_drewN ?_ _ | refine blk_drew ?_ | refine blk_alloc ?_ _)); refine blk_far ?_ NB431_446.out _; (with_reducible repeat (first | refine blk_drewN ?_ _ | refine blk_drew ?_ | refine blk_alloc ?_ _)); refine blk_far ?_ NB431_446.out _; (with_reducible repeat (first | refine blk_drewN ?_ _ | refine blk_drew ?_ | refine blk_alloc ?_ _)); refine blk_far ?_ NB431_446.out _; (with_reducible repeat (first | refine blk_drewN ?_ _ | refine blk_drew ?_ | refine blk_alloc ?_ _)); exact BK431.out⟩
 have n1_ : Aside0 (((((w26.setCell ⟨gb446, 0, none⟩ (.int .i64 t442)).setCell ⟨gb446, 1, none⟩ (.int .i64 t443)).setCell ⟨gb446, 2, none⟩ (.int .i64 t444)).setCell ⟨gb446, 3, none⟩ (.int .i64 t445)).heap[gb432]? = some (.cells #[.int .i64 a1_0, .int .i64 a1_1, .int .i64 a1_2, .int .i64 a1_3, .int .i64 a1_4, .int .i64 a1_5, .int .i64 a1_6] 29 (0, 0))) := ⟨by (with_reducible repeat (first | refine blk_drewN ?_ _ | refine blk_drew ?_ | refine blk_alloc ?_ _)); refine blk_far ?_ NB432_446.out _; (with_reducible repeat (first | refine blk_drewN ?_ _ | refine blk_drew ?_ | refine blk_alloc ?_ _)); refine blk_far ?_ NB432_446.out _; (with_reducible repeat (first | refine blk_drewN ?_ _ | refine blk_drew ?_ | refine blk_alloc ?_ _)); refine blk_far ?_ NB432_446.out _; (with_reducible repeat (first | refine blk_drewN ?_ _ | refine blk_drew ?_ | refine blk_alloc ?_ _)); refine blk_far ?_ NB432_446.out _; (with_reducible repeat (first | refine blk_drewN ?_ _ | refine blk_drew ?_ | refine blk_alloc ?_ _)); exact BK432.out⟩
 have n2_ : Aside0 (((((w26.setCell ⟨gb446, 0, none⟩ (.int .i64 t442)).setCell ⟨gb446, 1, none⟩ (.int .i64 t443)).setCell ⟨gb446, 2, none⟩ (.int .i64 t444)).setCell ⟨gb446, 3, none⟩ (.int .i64 t445)).heap[gb433]? = some (.cells #[.int .i64 a2_0, .int .i64 a2_1, .int .i64 a2_2, .int .i64 a2_3] 31 (0, 0))) := ⟨by (with_reducible repeat (first | refine blk_drewN ?_ _ | refine blk_drew ?_ | refine blk_alloc ?_ _)); refine blk_far ?_ NB433_446.out _; (with_reducible repeat (first | refine blk_drewN ?_ _ | refine blk_drew ?_ | refine blk_alloc ?_ _)); refine blk_far ?_ NB433_446.out _; (with_reducible repeat (first | refine blk_drewN ?_ _ | refine blk_drew ?_ | refine blk_alloc ?_ _)); refine blk_far ?_ NB433_446.out _; (with_reducible repeat (first | refine blk_drewN ?_ _ | refine blk_drew ?_ | refine blk_alloc ?_ _)); refine blk_far ?_ NB433_446.out _; (with_reducible repeat (first | refine blk_drewN ?_ _ | refine blk_drew ?_ | refine blk_alloc ?_ _)); exact BK433.out⟩
 have n3_ : Aside0 (((((w26.setCell ⟨gb446, 0, none⟩ (.int .i64 t442)).setCell ⟨gb446, 1, none⟩ (.int .i64 t443)).setCell ⟨gb446, 2, none⟩ (.int .i64 t444)).setCell ⟨gb446, 3, none⟩ (.int .i64 t445)).heap[gb434]? = some (.cells #[.int .i64 a4_0, .int .i64 a4_1] 33 (0, 0))) := ⟨by (with_reducible repeat (first | refine blk_drewN ?_ _ | refine blk_drew ?_ | refine blk_alloc ?_ _)); refine blk_far ?_ NB434_446.out _; (with_reducible repeat (first | refine blk_drewN ?_ _ | refine blk_drew ?_ | refine blk_alloc ?_ _)); refine blk_far ?_ NB434_446.out _; (with_reducible repeat (first | refine blk_drewN ?_ _ | refine blk_drew ?_ | refine blk_alloc ?_ _)); refine blk_far ?_ NB434_446.out _; (with_reducible repeat (first | refine blk_drewN ?_ _ | refine blk_drew ?_ | refine blk_alloc ?_ _)); refine blk_far ?_ NB434_446.out _; (with_reducible repeat (first | refine blk_drewN ?_ _ | refine blk_drew ?_ | refine blk_alloc ?_ _)); exact BK434.out⟩
 have n4_ : Aside0 (((((w26.setCell ⟨gb446, 0, none⟩ (.int .i64 t442)).setCell ⟨gb446, 1, none⟩ (.int .i64 t443)).setCell ⟨gb446, 2, none⟩ (.int .i64 t444)).setCell ⟨gb446, 3, none⟩ (.int .i64 t445)).heap[gb435]? = some (.cells #[.int .i64 0, .int .i64 0, .int .i64 0, .int .i64 0] 31 (0, 0))) := ⟨by (with_reducible repeat (first | refine blk_drewN ?_ _ | refine blk_drew ?_ | refine blk_alloc ?_ _)); refine blk_far ?_ NB435_446.out _; (with_reducible repeat (first | refine blk_drewN ?_ _ | refine blk_drew ?_ | refine blk_alloc ?_ _)); refine blk_far ?_ NB435_446.out _; (with_reducible repeat (first | refine blk_drewN ?_ _ | refine blk_drew ?_ | refine blk_alloc ?_ _)); refine blk_far ?_ NB435_446.out _; (with_reducible repeat (first | refine blk_drewN ?_ _ | refine blk_drew ?_ | refine blk_alloc ?_ _)); refine blk_far ?_ NB435_446.out _; (with_reducible repeat (first | refine blk_drewN ?_ _ | refine blk_drew ?_ | refine blk_alloc ?_ _)); exact BK435.out⟩
 have n5_ : Aside0 (((((w26.setCell ⟨gb446, 0, none⟩ (.int .i64 t442)).setCell ⟨gb446, 1, none⟩ (.int .i64 t443)).setCell ⟨gb446, 2, none⟩ (.int .i64 t444)).setCell ⟨gb446, 3, none⟩ (.int .i64 t445)).heap[gb446]? = some (.cells #[.int .i64 t442, .int .i64 t443, .int .i64 t444, .int .i64 t445] 40 (0, 0))) := ⟨by (with_reducible repeat (first | refine blk_drewN ?_ _ | refine blk_drew ?_ | refine blk_alloc ?_ _)); refine blk_put (cs := #[.int .i64 t442, .int .i64 t443, .int .i64 t444, .int .i64 0]) ?_ 3 _ rfl; (with_reducible repeat (first | refine blk_drewN ?_ _ | refine blk_drew ?_ | refine blk_alloc ?_ _)); refine blk_put (cs := #[.int .i64 t442, .int .i64 t443, .int .i64 0, .int .i64 0]) ?_ 2 _ rfl; (with_reducible repeat (first | refine blk_drewN ?_ _ | refine blk_drew ?_ | refine blk_alloc ?_ _)); refine blk_put (cs := #[.int .i64 t442, .int .i64 0, .int .i64 0, .int .i64 0]) ?_ 1 _ rfl; (with_reducible repeat (first | refine blk_drewN ?_ _ | refine blk_drew ?_ | refine blk_alloc ?_ _)); refine blk_put (cs := #[.int .i64 0, .int .i64 0, .int .i64 0, .int .i64 0]) ?_ 0 _ rfl; (with_reducible repeat (first | refine blk_drewN ?_ _ | refine blk_drew ?_ | refine blk_alloc ?_ _)); exact BK446.out⟩
 have n6_ : Aside0 (Below w.heap.size w ((((w26.setCell ⟨gb446, 0, none⟩ (.int .i64 t442)).setCell ⟨gb446, 1, none⟩ (.int .i64 t443)).setCell ⟨gb446, 2, none⟩ (.int .i64 t444)).setCell ⟨gb446, 3, none⟩ (.int .i64 t445))) := ⟨zbz⟩
 (try clear BK431)
 (try clear BK432)
 (try clear BK433)
 (try clear BK434)
 (try clear BK435)
 (try clear BK446)
 (try clear HB)
 generalize ((((w26.setCell ⟨gb446, 0, none⟩ (.int .i64 t442)).setCell ⟨gb446, 1, none⟩ (.int .i64 t443)).setCell ⟨gb446, 2, none⟩ (.int .i64 t444)).setCell ⟨gb446, 3, none⟩ (.int .i64 t445)) = w31 at n0_ n1_ n2_ n3_ n4_ n5_ n6_ ⊢
 have BK431 := n0_
 have BK432 := n1_
 have BK433 := n2_
 have BK434 := n3_
 have BK435 := n4_
 have BK446 := n5_
 have HB := n6_
 clear n0_ n1_ n2_ n3_ n4_ n5_ n6_
 replace BK431 := Aside0.mk (blk_drew BK431.out)
 replace BK432 := Aside0.mk (blk_drew BK432.out)
 replace BK433 := Aside0.mk (blk_drew BK433.out)
 replace BK434 := Aside0.mk (blk_drew BK434.out)
 replace BK435 := Aside0.mk (blk_drew BK435.out)
 replace BK446 := Aside0.mk (blk_drew BK446.out)
 replace HB := Aside0.mk (below_drew1 HB.out)
 refine start_ (n := 24) (S := fun w' => w'.cell? ⟨gb433, 0, none⟩ = some (.int .i64 a2_0) ∧ w'.cell? ⟨gb433, 1, none⟩ = some (.int .i64 a2_1) ∧ w'.cell? ⟨gb433, 2, none⟩ = some (.int .i64 a2_2) ∧ w'.cell? ⟨gb433, 3, none⟩ = some (.int .i64 a2_3) ∧ w'.cell? ⟨gb432, 0, none⟩ = some (.int .i64 a1_0) ∧ w'.cell? ⟨gb432, 1, none⟩ = some (.int .i64 a1_1) ∧ w'.cell? ⟨gb432, 2, none⟩ = some (.int .i64 a1_2) ∧ w'.cell? ⟨gb432, 3, none⟩ = some (.int .i64 a1_3) ∧ w'.cell? ⟨gb432, 4, none⟩ = some (.int .i64 a1_4) ∧ w'.cell? ⟨gb432, 5, none⟩ = some (.int .i64 a1_5) ∧ w'.cell? ⟨gb432, 6, none⟩ = some (.int .i64 a1_6) ∧ w'.cell? ⟨gb446, 0, none⟩ = some (.int .i64 t442) ∧ w'.cell? ⟨gb446, 1, none⟩ = some (.int .i64 t443) ∧ w'.cell? ⟨gb446, 2, none⟩ = some (.int .i64 t444) ∧ w'.cell? ⟨gb446, 3, none⟩ = some (.int .i64 t445)) (ds := []) #[false, false, false, false, false, false, false, false, false, false, false, false, false, false, false, false, false, false, false, false, false, false, false, false] zq1 rfl rfl ⟨(blk_cell BK433.out 0).trans rfl, (blk_cell BK433.out 1).trans rfl, (blk_cell BK433.out 2).trans rfl, (blk_cell BK433.out 3).trans rfl, (blk_cell BK432.out 0).trans rfl, (blk_cell BK432.out 1).trans rfl, (blk_cell BK432.out 2).trans rfl, (blk_cell BK432.out 3).trans rfl, (blk_cell BK432.out 4).trans rfl, (blk_cell BK432.out 5).trans rfl, (blk_cell BK432.out 6).trans rfl, (blk_cell BK446.out 0).trans rfl, (blk_cell BK446.out 1).trans rfl, (blk_cell BK446.out 2).trans rfl, (blk_cell BK446.out 3).trans rfl⟩ (fun hHeld => ?_); refine with_tabW isobathref03_Ends.tab3 isobathref03_Ends.bits3 (fun HT_ HW_ => ?_)
 generalize w31.drew = w32 at BK431 BK432 BK433 BK434 BK435 BK446 HB hHeld ⊢
 refine zpz (i := 0) (N := some 33) (any_of HT_.out zq1) ?_
 refine zpz (i := 2) (N := some 35) (any_of HT_.out zq1) ?_
 refine zpz (i := 3) (N := some 36) (any_of HT_.out zq1) ?_
 refine zpz (i := 6) (N := some 39) (any_of HT_.out zq1) ?_
 refine zpz (i := 8) (N := some 41) (any_of HT_.out zq1) ?_
 refine zpz (i := 11) (N := some 44) (any_of HT_.out zq1) ?_
 refine zpz (i := 13) (N := some 46) (any_of HT_.out zq1) ?_
 refine zpz (i := 14) (N := some 47) (any_of HT_.out zq1) ?_
 refine zpz (i := 17) (N := some 50) (any_of HT_.out zq1) ?_
 refine zpz (i := 19) (N := some 52) (any_of HT_.out zq1) ?_
 refine ztz (i := 1) (N := some 34) (take_ofW HT_.out HW_.out zq1) hHeld ?_
 refine ztz (i := 4) (N := some 37) (take_ofW HT_.out HW_.out zq1) hHeld ?_
 refine zpz (i := 5) (N := some 38) (any_of HT_.out zq1) ?_
 refine ztz (i := 7) (N := some 40) (take_ofW HT_.out HW_.out zq1) hHeld ?_
 refine ztz (i := 9) (N := some 42) (take_ofW HT_.out HW_.out zq1) hHeld ?_
 refine ztz (i := 12) (N := some 45) (take_ofW HT_.out HW_.out zq1) hHeld ?_
 refine ztz (i := 15) (N := some 48) (take_ofW HT_.out HW_.out zq1) hHeld ?_
 refine zpz (i := 16) (N := some 49) (any_of HT_.out zq1) ?_
 refine ztz (i := 18) (N := some 51) (take_ofW HT_.out HW_.out zq1) hHeld ?_
 refine ztz (i := 20) (N := some 53) (take_ofW HT_.out HW_.out zq1) hHeld ?_
 refine one_ (i := 10) (N := some 43) #[true, true, true, true, true, true, true, true, true, true, true, true, true, true, true, true, true, true, true, true, true, false, false, false] rfl rfl (one_of HT_.out zq1) (by decide) (fun K hK => ?_)
 refine goes_ Try.func134 zq1 rfl #[.agg #[.int .i64 a2_0, .int .i64 a2_1], .int .i64 (wrap64 (t436 * a1_0)), .agg #[.int .i64 t442, .int .i64 t443], .int .i64 a1_1] (by rfl) rfl rfl zq8 ?_
 with_reducible refine (isobathref03_moved.calls k a2_0 a2_1 (wrap64 (t436 * a1_0)) t442 t443 a1_1 t447 t448 _ A9.out).mono ?_
 rintro e w33 ⟨rfl, hb⟩
 refine ⟨_, rfl, ?_⟩
 replace BK431 := zbb BK431 hb
 replace BK432 := zbb BK432 hb
 replace BK433 := zbb BK433 hb
 replace BK434 := zbb BK434 hb
 replace BK435 := zbb BK435 hb
 replace BK446 := zbb BK446 hb
 replace HB := zbs HB hb
 (try clear hb)
 (try clear hb2)
 (try clear hk)
 (try clear hi)
 refine hK.out _ _ ⟨(blk_cell BK433.out 0).trans rfl, (blk_cell BK433.out 1).trans rfl, (blk_cell BK433.out 2).trans rfl, (blk_cell BK433.out 3).trans rfl, (blk_cell BK432.out 0).trans rfl, (blk_cell BK432.out 1).trans rfl, (blk_cell BK432.out 2).trans rfl, (blk_cell BK432.out 3).trans rfl, (blk_cell BK432.out 4).trans rfl, (blk_cell BK432.out 5).trans rfl, (blk_cell BK432.out 6).trans rfl, (blk_cell BK446.out 0).trans rfl, (blk_cell BK446.out 1).trans rfl, (blk_cell BK446.out 2).trans rfl, (blk_cell BK446.out 3).trans rfl⟩ (fun hHeld => ?_)
 clear hK K
 refine norm_ zq27 ?_
 refine one_ (i := 21) (N := some 54) #[true, true, true, true, true, true, true, true, true, true, true, true, true, true, true, true, true, true, true, true, true, true, false, false] rfl rfl (one_of HT_.out zq1) (by decide) (fun K hK => ?_)
 refine goes_ Try.func134 zq1 rfl #[.agg #[.int .i64 a2_2, .int .i64 a2_3], .int .i64 (wrap64 (t437 * a1_0)), .agg #[.int .i64 t444, .int .i64 t445], .int .i64 a1_1] (by rfl) rfl rfl zq8 ?_
 with_reducible refine (isobathref03_moved.calls k a2_2 a2_3 (wrap64 (t437 * a1_0)) t444 t445 a1_1 t449 t450 _ A10.out).mono ?_
 rintro e w34 ⟨rfl, hb⟩
 refine ⟨_, rfl, ?_⟩
 replace BK431 := zbb BK431 hb
 replace BK432 := zbb BK432 hb
 replace BK433 := zbb BK433 hb
 replace BK434 := zbb BK434 hb
 replace BK435 := zbb BK435 hb
 replace BK446 := zbb BK446 hb
 replace HB := zbs HB hb
 (try clear hb)
 (try clear hb2)
 (try clear hk)
 (try clear hi)
 refine hK.out _ _ ⟨(blk_cell BK433.out 0).trans rfl, (blk_cell BK433.out 1).trans rfl, (blk_cell BK433.out 2).trans rfl, (blk_cell BK433.out 3).trans rfl, (blk_cell BK432.out 0).trans rfl, (blk_cell BK432.out 1).trans rfl, (blk_cell BK432.out 2).trans rfl, (blk_cell BK432.out 3).trans rfl, (blk_cell BK432.out 4).trans rfl, (blk_cell BK432.out 5).trans rfl, (blk_cell BK432.out 6).trans rfl, (blk_cell BK446.out 0).trans rfl, (blk_cell BK446.out 1).trans rfl, (blk_cell BK446.out 2).trans rfl, (blk_cell BK446.out 3).trans rfl⟩ (fun hHeld => ?_)
 clear hK K
 refine norm_ (by show Act.put _ (some 54) _ = _; simp only [Act.put, List.setIfInBounds_toArray, List.set_cons_zero, List.set_cons_succ, i64_w, i32_w]; rfl) ?_
 refine zpz (i := 22) (N := some 55) (any_of HT_.out zq1) ?_
 refine one_ (i := 23) (N := none) #[true, true, true, true, true, true, true, true, true, true, true, true, true, true, true, true, true, true, true, true, true, true, true, true] rfl rfl (one_of HT_.out zq1) (by decide) (fun K hK => ?_)
 have hs35 : w34.cell? ⟨gb435, 0, none⟩ = some (.int .i64 0) := (blk_cell BK435.out 0).trans rfl
 have hfs35 := blk_frozen BK435.out 0
 have hns35_0 := NB431_435.out
 have hns35_1 := NB432_435.out
 have hns35_2 := NB433_435.out
 have hns35_3 := NB434_435.out
 have hns35_5 := NB446_435.out
 have hms35_0 := NB435_431.out
 have hms35_1 := NB435_432.out
 have hms35_2 := NB435_433.out
 have hms35_3 := NB435_434.out
 have hms35_5 := NB435_446.out
 have hs36 : w34.cell? ⟨gb435, 1, none⟩ = some (.int .i64 0) := (blk_cell BK435.out 1).trans rfl
 have hfs36 := blk_frozen BK435.out 1
 have hns36_0 := NB431_435.out
 have hns36_1 := NB432_435.out
 have hns36_2 := NB433_435.out
 have hns36_3 := NB434_435.out
 have hns36_5 := NB446_435.out
 have hms36_0 := NB435_431.out
 have hms36_1 := NB435_432.out
 have hms36_2 := NB435_433.out
 have hms36_3 := NB435_434.out
 have hms36_5 := NB435_446.out
 have hs37 : w34.cell? ⟨gb435, 2, none⟩ = some (.int .i64 0) := (blk_cell BK435.out 2).trans rfl
 have hfs37 := blk_frozen BK435.out 2
 have hns37_0 := NB431_435.out
 have hns37_1 := NB432_435.out
 have hns37_2 := NB433_435.out
 have hns37_3 := NB434_435.out
 have hns37_5 := NB446_435.out
 have hms37_0 := NB435_431.out
 have hms37_1 := NB435_432.out
 have hms37_2 := NB435_433.out
 have hms37_3 := NB435_434.out
 have hms37_5 := NB435_446.out
 have hs38 : w34.cell? ⟨gb435, 3, none⟩ = some (.int .i64 0) := (blk_cell BK435.out 3).trans rfl
 have hfs38 := blk_frozen BK435.out 3
 have hns38_0 := NB431_435.out
 have hns38_1 := NB432_435.out
 have hns38_2 := NB433_435.out
 have hns38_3 := NB434_435.out
 have hns38_5 := NB446_435.out
 have hms38_0 := NB435_431.out
 have hms38_1 := NB435_432.out
 have hms38_2 := NB435_433.out
 have hms38_3 := NB435_434.out
 have hms38_5 := NB435_446.out
 refine skip_ (w1 := ?_) (by rfl) rfl ?_ ?_
 rotate_left
 ·go_simp
  rfl
 refine hK.out _ _ ⟨((cell_far (p := ⟨gb435, _, none⟩) NB433_435.out _).trans (((cell_far (p := ⟨gb435, _, none⟩) NB433_435.out _).trans (((cell_far (p := ⟨gb435, _, none⟩) NB433_435.out _).trans (((cell_far (p := ⟨gb435, _, none⟩) NB433_435.out _).trans (hHeld.1)))))))), ((cell_far (p := ⟨gb435, _, none⟩) NB433_435.out _).trans (((cell_far (p := ⟨gb435, _, none⟩) NB433_435.out _).trans (((cell_far (p := ⟨gb435, _, none⟩) NB433_435.out _).trans (((cell_far (p := ⟨gb435, _, none⟩) NB433_435.out _).trans (hHeld.2.1)))))))), ((cell_far (p := ⟨gb435, _, none⟩) NB433_435.out _).trans (((cell_far (p := ⟨gb435, _, none⟩) NB433_435.out _).trans (((cell_far (p := ⟨gb435, _, none⟩) NB433_435.out _).trans (((cell_far (p := ⟨gb435, _, none⟩) NB433_435.out _).trans (hHeld.2.2.1)))))))), ((cell_far (p := ⟨gb435, _, none⟩) NB433_435.out _).trans (((cell_far (p := ⟨gb435, _, none⟩) NB433_435.out _).trans (((cell_far (p := ⟨gb435, _, none⟩) NB433_435.out _).trans (((cell_far (p := ⟨gb435, _, none⟩) NB433_435.out _).trans (hHeld.2.2.2.1)))))))), ((cell_far (p := ⟨gb435, _, none⟩) NB432_435.out _).trans (((cell_far (p := ⟨gb435, _, none⟩) NB432_435.out _).trans (((cell_far (p := ⟨gb435, _, none⟩) NB432_435.out _).trans (((cell_far (p := ⟨gb435, _, none⟩) NB432_435.out _).trans (hHeld.2.2.2.2.1)))))))), ((cell_far (p := ⟨gb435, _, none⟩) NB432_435.out _).trans (((cell_far (p := ⟨gb435, _, none⟩) NB432_435.out _).trans (((cell_far (p := ⟨gb435, _, none⟩) NB432_435.out _).trans (((cell_far (p := ⟨gb435, _, none⟩) NB432_435.out _).trans (hHeld.2.2.2.2.2.1)))))))), ((cell_far (p := ⟨gb435, _, none⟩) NB432_435.out _).trans (((cell_far (p := ⟨gb435, _, none⟩) NB432_435.out _).trans (((cell_far (p := ⟨gb435, _, none⟩) NB432_435.out _).trans (((cell_far (p := ⟨gb435, _, none⟩) NB432_435.out _).trans (hHeld.2.2.2.2.2.2.1)))))))), ((cell_far (p := ⟨gb435, _, none⟩) NB432_435.out _).trans (((cell_far (p := ⟨gb435, _, none⟩) NB432_435.out _).trans (((cell_far (p := ⟨gb435, _, none⟩) NB432_435.out _).trans (((cell_far (p := ⟨gb435, _, none⟩) NB432_435.out _).trans (hHeld.2.2.2.2.2.2.2.1)))))))), ((cell_far (p := ⟨gb435, _, none⟩) NB432_435.out _).trans (((cell_far (p := ⟨gb435, _, none⟩) NB432_435.out _).trans (((cell_far (p := ⟨gb435, _, none⟩) NB432_435.out _).trans (((cell_far (p := ⟨gb435, _, none⟩) NB432_435.out _).trans (hHeld.2.2.2.2.2.2.2.2.1)))))))), ((cell_far (p := ⟨gb435, _, none⟩) NB432_435.out _).trans (((cell_far (p := ⟨gb435, _, none⟩) NB432_435.out _).trans (((cell_far (p := ⟨gb435, _, none⟩) NB432_435.out _).trans (((cell_far (p := ⟨gb435, _, none⟩) NB432_435.out _).trans (hHeld.2.2.2.2.2.2.2.2.2.1)))))))), ((cell_far (p := ⟨gb435, _, none⟩) NB432_435.out _).trans (((cell_far (p := ⟨gb435, _, none⟩) NB432_435.out _).trans (((cell_far (p := ⟨gb435, _, none⟩) NB432_435.out _).trans (((cell_far (p := ⟨gb435, _, none⟩) NB432_435.out _).trans (hHeld.2.2.2.2.2.2.2.2.2.2.1)))))))), ((cell_far (p := ⟨gb435, _, none⟩) NB446_435.out _).trans (((cell_far (p := ⟨gb435, _, none⟩) NB446_435.out _).trans (((cell_far (p := ⟨gb435, _, none⟩) NB446_435.out _).trans (((cell_far (p := ⟨gb435, _, none⟩) NB446_435.out _).trans (hHeld.2.2.2.2.2.2.2.2.2.2.2.1)))))))), ((cell_far (p := ⟨gb435, _, none⟩) NB446_435.out _).trans (((cell_far (p := ⟨gb435, _, none⟩) NB446_435.out _).trans (((cell_far (p := ⟨gb435, _, none⟩) NB446_435.out _).trans (((cell_far (p := ⟨gb435, _, none⟩) NB446_435.out _).trans (hHeld.2.2.2.2.2.2.2.2.2.2.2.2.1)))))))), ((cell_far (p := ⟨gb435, _, none⟩) NB446_435.out _).trans (((cell_far (p := ⟨gb435, _, none⟩) NB446_435.out _).trans (((cell_far (p := ⟨gb435, _, none⟩) NB446_435.out _).trans (((cell_far (p := ⟨gb435, _, none⟩) NB446_435.out _).trans (hHeld.2.2.2.2.2.2.2.2.2.2.2.2.2.1)))))))), ((cell_far (p := ⟨gb435, _, none⟩) NB446_435.out _).trans (((cell_far (p := ⟨gb435, _, none⟩) NB446_435.out _).trans (((cell_far (p := ⟨gb435, _, none⟩) NB446_435.out _).trans (((cell_far (p := ⟨gb435, _, none⟩) NB446_435.out _).trans (hHeld.2.2.2.2.2.2.2.2.2.2.2.2.2.2))))))))⟩ (fun hHeld => ?_)
 clear hK K
 refine done_ (done_of HT_.out zq1) ?_
 try go_wp2
 refine bodyPost_ret (results_cell_row rfl _ _ gb435 31 #[.int .i64 t447, .int .i64 t448, .int .i64 t449, .int .i64 t450] (0, 0) _ rfl (by (with_reducible repeat (first | refine blk_drewN ?_ _ | refine blk_drew ?_ | refine blk_alloc ?_ _)); refine blk_put (cs := #[.int .i64 t447, .int .i64 t448, .int .i64 t449, .int .i64 0]) ?_ 3 _ rfl; (with_reducible repeat (first | refine blk_drewN ?_ _ | refine blk_drew ?_ | refine blk_alloc ?_ _)); refine blk_put (cs := #[.int .i64 t447, .int .i64 t448, .int .i64 0, .int .i64 0]) ?_ 2 _ rfl; (with_reducible repeat (first | refine blk_drewN ?_ _ | refine blk_drew ?_ | refine blk_alloc ?_ _)); refine blk_put (cs := #[.int .i64 t447, .int .i64 0, .int .i64 0, .int .i64 0]) ?_ 1 _ rfl; (with_reducible repeat (first | refine blk_drewN ?_ _ | refine blk_drew ?_ | refine blk_alloc ?_ _)); refine blk_put (cs := #[.int .i64 0, .int .i64 0, .int .i64 0, .int .i64 0]) ?_ 0 _ rfl; (with_reducible repeat (first | refine blk_drewN ?_ _ | refine blk_drew ?_ | refine blk_alloc ?_ _)); exact BK435.out) Try.underlying31 rfl zq1) rfl ?_
 exact ⟨zq6, zbz⟩

end Go.Proofs.Ytmhaiihjfgfaoaa.Pr
end
