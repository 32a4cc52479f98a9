/- Part 13 of the proof of GliderKnown: what the functions compute. No condition. -/
import Derived.Test.YtmhaiihjfgfaoaaGkGliderKnown3
import Derived.Test.YtmhaiihjfgfaoaaGkGliderKnown4
import Derived.Test.YtmhaiihjfgfaoaaGkGliderKnown5
import Derived.Test.YtmhaiihjfgfaoaaGkGliderKnown12
set_option linter.unusedVariables false
set_option linter.unusedSimpArgs false
section
namespace Go.Proofs.Ytmhaiihjfgfaoaa.Pr
open Go.RowKit Go.Proofs.YtmhaiihjfgfaoaaW.PrintWords Go.Proofs.YtmhaiihjfgfaoaaW.PrintLast Go.Proofs.YtmhaiihjfgfaoaaW.PrintMore
attribute [local go_sem] max2_int min2_int max_two min_two max_four
set_option linter.unusedVariables false
set_option linter.unusedSimpArgs false

attribute [local go_sem high] eqA31
/-! ### isobathlaw03_Works: function 19 -/
def isobathlaw03_Works.f (k : Nat)  : Option (Bool) := (isobathlaw03_Example.f k).bind fun bt259 => ((isobathlaw03_point.f 2000 2000).bind fun bt281 => ((glider_Dive.f bt259.1 bt259.2.1 bt259.2.2.1 bt259.2.2.2.1 bt259.2.2.2.2.1 bt259.2.2.2.2.2.1 bt259.2.2.2.2.2.2.1 bt259.2.2.2.2.2.2.2.1 bt259.2.2.2.2.2.2.2.2.1 bt259.2.2.2.2.2.2.2.2.2.1 bt259.2.2.2.2.2.2.2.2.2.2.1 bt259.2.2.2.2.2.2.2.2.2.2.2.1 bt259.2.2.2.2.2.2.2.2.2.2.2.2.1 bt259.2.2.2.2.2.2.2.2.2.2.2.2.2.1 bt259.2.2.2.2.2.2.2.2.2.2.2.2.2.2.1 bt259.2.2.2.2.2.2.2.2.2.2.2.2.2.2.2 bt281.1 bt281.2.1 bt281.2.2.1 bt281.2.2.2 0 2 0).bind fun bt285 => ((glider_Lasts.f k bt259.2.2.2.2.2.2.2.2.2.1 bt259.2.2.2.2.2.2.2.2.2.2.1 bt259.2.2.2.2.2.2.2.2.2.2.2.1 bt259.2.2.2.2.2.2.2.2.2.2.2.2.1 bt259.2.2.2.2.2.2.2.2.2.2.2.2.2.1 bt259.2.2.2.2.2.2.2.2.2.2.2.2.2.2.1 bt259.2.2.2.2.2.2.2.2.2.2.2.2.2.2.2 300 310).bind fun bt291 => (if (wrap64 (bt285.2.2.2.2 + bt291.2)) = 0 then (if bt291.1 = 3 then (some ((bt285.1 == 2200 && (bt285.2.1 == 2400)) && ((bt285.2.2.1 == 2000 && (bt285.2.2.2.1 == 2000))))) else (some false)) else (some false)))))
theorem isobathlaw03_Works.mono : ∀ k, LeO (isobathlaw03_Works.f k ) (isobathlaw03_Works.f (k + 1) ) := by
 intro  k
 unfold isobathlaw03_Works.f
 repeat' first
   | (with_reducible exact glider_Lasts.mono _ _ _ _ _ _ _ _ _ _)
   | (with_reducible exact isobathlaw03_Example.mono _)
   | (with_reducible exact LeO.refl _)
   | (with_reducible exact LeO.none _)
   | (with_reducible refine LeO.ite ?_ ?_)
   | (with_reducible refine LeO.bind ?_ (fun _ => ?_))
   | exact glider_Lasts.mono _ _ _ _ _ _ _ _ _ _
   | exact isobathlaw03_Example.mono _
   | exact LeO.none _
   | refine LeO.ite ?_ ?_
   | refine LeO.bind ?_ (fun _ => ?_)
def isobathlaw03_Works.T2 : Bool × List (List Nat × List Nat) := (true, [([], []), ([], []), ([], []), ([], []), ([0, 1, 2, 3, 2], [0, 1, 2, 3]), ([4], [4]), ([5], [5]), ([5], [5]), ([], []), ([8, 6, 4, 0, 1, 2, 3, 4, 5, 6, 8], [6, 8]), ([7, 9, 0, 1, 2, 3, 4, 5, 6, 7, 8, 9], [7])])
def isobathlaw03_Works.B2 : List Nat := [0, 0, 0, 0, 15, 31, 63, 63, 0, 383, 1023]
theorem isobathlaw03_Works.tab2 : rtab .any (opsOf Try.f19 2) = isobathlaw03_Works.T2 := by kernel_rfl
theorem isobathlaw03_Works.bits2 : waitsOk isobathlaw03_Works.T2.2 isobathlaw03_Works.B2 = true := by kernel_rfl
set_option maxRecDepth 100000 in
theorem isobathlaw03_Works.true_ : isobathlaw03_Works.f 60 = some true := by kernel_rfl
set_option maxHeartbeats 8000000 in
set_option maxRecDepth 100000 in
theorem isobathlaw03_Works.calls (k : Nat)  (r : Bool) (w : World) (h : isobathlaw03_Works.f k  = some r) :
  Calls Try.prog 19 #[] w fun e w' => e = .returned (.bool r) ∧ Below w.heap.size w w' := by
 have hr_ : Aside0 (r = true) := ⟨Option.some.inj ((at_rounds isobathlaw03_Works.mono (Nat.le_max_left k 60) h).symm.trans (at_rounds isobathlaw03_Works.mono (Nat.le_max_right k 60) isobathlaw03_Works.true_))⟩
 have hu25 := Try.underlying25
 have hu29 := Try.underlying29
 have hu33 := Try.underlying33
 have hu31 := Try.underlying31
 have hu27 := Try.underlying27
 have HB := Aside0.mk (Below.refl w.heap.size w)
 have H : ((isobathlaw03_Example.f k).bind fun bt259 => ((isobathlaw03_point.f 2000 2000).bind fun bt281 => ((glider_Dive.f bt259.1 bt259.2.1 bt259.2.2.1 bt259.2.2.2.1 bt259.2.2.2.2.1 bt259.2.2.2.2.2.1 bt259.2.2.2.2.2.2.1 bt259.2.2.2.2.2.2.2.1 bt259.2.2.2.2.2.2.2.2.1 bt259.2.2.2.2.2.2.2.2.2.1 bt259.2.2.2.2.2.2.2.2.2.2.1 bt259.2.2.2.2.2.2.2.2.2.2.2.1 bt259.2.2.2.2.2.2.2.2.2.2.2.2.1 bt259.2.2.2.2.2.2.2.2.2.2.2.2.2.1 bt259.2.2.2.2.2.2.2.2.2.2.2.2.2.2.1 bt259.2.2.2.2.2.2.2.2.2.2.2.2.2.2.2 bt281.1 bt281.2.1 bt281.2.2.1 bt281.2.2.2 0 2 0).bind fun bt285 => ((glider_Lasts.f k bt259.2.2.2.2.2.2.2.2.2.1 bt259.2.2.2.2.2.2.2.2.2.2.1 bt259.2.2.2.2.2.2.2.2.2.2.2.1 bt259.2.2.2.2.2.2.2.2.2.2.2.2.1 bt259.2.2.2.2.2.2.2.2.2.2.2.2.2.1 bt259.2.2.2.2.2.2.2.2.2.2.2.2.2.2.1 bt259.2.2.2.2.2.2.2.2.2.2.2.2.2.2.2 300 310).bind fun bt291 => (if (wrap64 (bt285.2.2.2.2 + bt291.2)) = 0 then (if bt291.1 = 3 then (some ((bt285.1 == 2200 && (bt285.2.1 == 2400)) && ((bt285.2.2.1 == 2000 && (bt285.2.2.2.1 == 2000))))) else (some false)) else (some false)))))) = some r := h
 clear h
 replace H := Option.bind_eq_some_iff.mp H
 obtain ⟨⟨t259, t260, t261, t262, t263, t264, t265, t266, t269, t272, t273, t274, t275, t276, t277, t278⟩, A10, H⟩ := H
 replace H : ((isobathlaw03_point.f 2000 2000).bind fun bt281 => ((glider_Dive.f t259 t260 t261 t262 t263 t264 t265 t266 t269 t272 t273 t274 t275 t276 t277 t278 bt281.1 bt281.2.1 bt281.2.2.1 bt281.2.2.2 0 2 0).bind fun bt285 => ((glider_Lasts.f k t272 t273 t274 t275 t276 t277 t278 300 310).bind fun bt291 => (if (wrap64 (bt285.2.2.2.2 + bt291.2)) = 0 then (if bt291.1 = 3 then (some ((bt285.1 == 2200 && (bt285.2.1 == 2400)) && ((bt285.2.2.1 == 2000 && (bt285.2.2.2.1 == 2000))))) else (some false)) else (some false))))) = some r := H
 have A1 := Aside0.mk A10
 clear A10
 replace H := Option.bind_eq_some_iff.mp H
 obtain ⟨⟨t281, t282, t283, t284⟩, A20, H⟩ := H
 replace H : ((glider_Dive.f t259 t260 t261 t262 t263 t264 t265 t266 t269 t272 t273 t274 t275 t276 t277 t278 t281 t282 t283 t284 0 2 0).bind fun bt285 => ((glider_Lasts.f k t272 t273 t274 t275 t276 t277 t278 300 310).bind fun bt291 => (if (wrap64 (bt285.2.2.2.2 + bt291.2)) = 0 then (if bt291.1 = 3 then (some ((bt285.1 == 2200 && (bt285.2.1 == 2400)) && ((bt285.2.2.1 == 2000 && (bt285.2.2.2.1 == 2000))))) else (some false)) else (some false)))) = some r := H
 have A2 := Aside0.mk A20
 clear A20
 replace H := Option.bind_eq_some_iff.mp H
 obtain ⟨⟨t285, t286, t287, t288, t289⟩, A30, H⟩ := H
 replace H : ((glider_Lasts.f k t272 t273 t274 t275 t276 t277 t278 300 310).bind fun bt291 => (if (wrap64 (t289 + bt291.2)) = 0 then (if bt291.1 = 3 then (some ((t285 == 2200 && (t286 == 2400)) && ((t287 == 2000 && (t288 == 2000))))) else (some false)) else (some false))) = some r := H
 have A3 := Aside0.mk A30
 clear A30
 replace H := Option.bind_eq_some_iff.mp H
 obtain ⟨⟨t291, t292⟩, A40, H⟩ := H
 replace H : (if (wrap64 (t289 + t292)) = 0 then (if t291 = 3 then (some ((t285 == 2200 && (t286 == 2400)) && ((t287 == 2000 && (t288 == 2000))))) else (some false)) else (some false)) = some r := H
 have A4 := Aside0.mk A40
 clear A40
 by_cases c5 : (wrap64 (t289 + t292)) = 0
 ·rw [if_pos c5] at H
  have c5b0 : ((wrap64 (t289 + t292)) == 0) = true := beq_iff_eq.mpr c5
  have c5b1 : ((wrap64 (t289 + t292)) != 0) = false := bne_eq_false_iff_eq.mpr c5
  clear c5
  by_cases c6 : t291 = 3
  ·rw [if_pos c6] at H
   have c6b0 : (t291 == 3) = true := beq_iff_eq.mpr c6
   have c6b1 : (t291 != 3) = false := bne_eq_false_iff_eq.mpr c6
   clear c6
   obtain rfl := Option.some.inj H
   go_enter Try.func19, Try.ntmps19
   try go_wp2_with (first | ((with_reducible refine gate_callee (f := 61) rfl ?_); refine goesL_ (some 8) rfl rfl Try.func61 zq1 rfl #[] rfl zq6 ?_; (with_reducible refine (isobathlaw03_Example.calls k  t259 t260 t261 t262 t263 t264 t265 t266 t269 t272 t273 t274 t275 t276 t277 t278 _ A1.out).mono ?_); rintro e w7 ⟨v267, v270, rfl, ho0, ho1, hb⟩; refine ⟨_, rfl, ?_⟩; have HO268 := Aside0.mk (Kd.R_lower ho0 (below_size zbz)); have HO271 := Aside0.mk (Kd.R_lower ho1 (below_size zbz)); replace HB := zbs HB hb; (try clear hb); (try clear hb2); (try clear hk); (try clear hi); (try clear ho0); (try clear ho1)) | ((with_reducible refine gate_dst (N := 1) rfl ?_); refine box_event (by rfl) (N := 1) (by rfl) (cs := #[.int .i64 0, .int .i64 0, .int .i64 0, .int .i64 0, .int .i64 0, .int .i64 0, .int .i64 0, .slice none 0 0, .slice none 0 0]) (t := 25) zq4 ?_; intro gb279 hg w8 hbox hb; have BK279 := Aside0.mk (hbox); have GW279 := zgs HB hg; have GE279 := zgs HB hg; replace HO268 := zrb HO268 hb; replace HO271 := zrb HO271 hb; replace HB := zbs HB hb; clear hb hbox hg) | ((with_reducible refine gate_dst (N := 2) rfl ?_); refine box_event (by rfl) (N := 2) (by rfl) (cs := #[.int .i64 0, .int .i64 0, .int .i64 0, .int .i64 0, .int .i64 0, .int .i64 0, .int .i64 0]) (t := 29) zq4 ?_; intro gb280 hg w9 hbox hb; have BK280 := Aside0.mk (hbox); have GW280 := zgs HB hg; have GE280 := zgs HB hg; have NB279_280 := znp BK279 hg; have NB280_279 := znq BK279 hg; replace HO268 := zrb HO268 hb; replace HO271 := zrb HO271 hb; replace BK279 := zbb BK279 hb; replace HB := zbs HB hb; clear hb hbox hg; have hnb10 := NB279_280.out; have hnc10 := NB280_279.out; obtain ⟨hcz11_0, hcz11_1, hcz11_2, hcz11_3, hcz11_4, hcz11_5, hcz11_6, hcz11_7, hcz11_8, hfz11_0, hfz11_1, hfz11_2, hfz11_3, hfz11_4, hfz11_5, hfz11_6, hfz11_7, hfz11_8⟩ := zce9 BK279.out; obtain ⟨Ao12, co12, eo12⟩ := Kd.R_slice HO268.out; subst eo12; obtain ⟨Ao13, co13, eo13⟩ := Kd.R_slice HO271.out; subst eo13; obtain ⟨hcz14_0, hcz14_1, hcz14_2, hcz14_3, hcz14_4, hcz14_5, hcz14_6, hfz14_0, hfz14_1, hfz14_2, hfz14_3, hfz14_4, hfz14_5, hfz14_6⟩ := zce7 BK280.out))
   have n0_ : Aside0 (Kd.R Kd.bool 4 ((((((((((((((((w9.setCell ⟨gb279, 0, none⟩ (.int .i64 t259)).setCell ⟨gb279, 1, none⟩ (.int .i64 t260)).setCell ⟨gb279, 2, none⟩ (.int .i64 t261)).setCell ⟨gb279, 3, none⟩ (.int .i64 t262)).setCell ⟨gb279, 4, none⟩ (.int .i64 t263)).setCell ⟨gb279, 5, none⟩ (.int .i64 t264)).setCell ⟨gb279, 6, none⟩ (.int .i64 t265)).setCell ⟨gb279, 7, none⟩ (.slice Ao12 t266.length co12)).setCell ⟨gb279, 8, none⟩ (.slice Ao13 t269.length co13)).setCell ⟨gb280, 0, none⟩ (.int .i64 t272)).setCell ⟨gb280, 1, none⟩ (.int .i64 t273)).setCell ⟨gb280, 2, none⟩ (.int .i64 t274)).setCell ⟨gb280, 3, none⟩ (.int .i64 t275)).setCell ⟨gb280, 4, none⟩ (.int .i64 t276)).setCell ⟨gb280, 5, none⟩ (.int .i64 t277)).setCell ⟨gb280, 6, none⟩ (.int .i64 t278)) w.heap.size (fun _ => True) (.slice Ao12 t266.length co12) t266) := ⟨by (with_reducible repeat (first | apply Kd.R_alloc | apply Kd.R_drewN | apply Kd.R_drew)); exact Kd.R_mono (Kd.R_far (p := ⟨gb280, 6, none⟩) (Kd.R_far (p := ⟨gb280, 5, none⟩) (Kd.R_far (p := ⟨gb280, 4, none⟩) (Kd.R_far (p := ⟨gb280, 3, none⟩) (Kd.R_far (p := ⟨gb280, 2, none⟩) (Kd.R_far (p := ⟨gb280, 1, none⟩) (Kd.R_far (p := ⟨gb280, 0, none⟩) (Kd.R_far (p := ⟨gb279, 8, none⟩) (Kd.R_far (p := ⟨gb279, 7, none⟩) (Kd.R_far (p := ⟨gb279, 6, none⟩) (Kd.R_far (p := ⟨gb279, 5, none⟩) (Kd.R_far (p := ⟨gb279, 4, none⟩) (Kd.R_far (p := ⟨gb279, 3, none⟩) (Kd.R_far (p := ⟨gb279, 2, none⟩) (Kd.R_far (p := ⟨gb279, 1, none⟩) (Kd.R_far (p := ⟨gb279, 0, none⟩) (Kd.R_types (Kd.R_types HO268.out BK279.out (by decide)) BK280.out (by decide)) (fun _ hk => hk.1.2) (.int .i64 t259)) (fun _ hk => hk.1.2) (.int .i64 t260)) (fun _ hk => hk.1.2) (.int .i64 t261)) (fun _ hk => hk.1.2) (.int .i64 t262)) (fun _ hk => hk.1.2) (.int .i64 t263)) (fun _ hk => hk.1.2) (.int .i64 t264)) (fun _ hk => hk.1.2) (.int .i64 t265)) (fun _ hk => hk.1.2) (.slice Ao12 t266.length co12)) (fun _ hk => hk.1.2) (.slice Ao13 t269.length co13)) (fun _ hk => hk.2) (.int .i64 t272)) (fun _ hk => hk.2) (.int .i64 t273)) (fun _ hk => hk.2) (.int .i64 t274)) (fun _ hk => hk.2) (.int .i64 t275)) (fun _ hk => hk.2) (.int .i64 t276)) (fun _ hk => hk.2) (.int .i64 t277)) (fun _ hk => hk.2) (.int .i64 t278)) (fun _ hk => trivial)⟩
   have n1_ : Aside0 (Kd.R k40 40 ((((((((((((((((w9.setCell ⟨gb279, 0, none⟩ (.int .i64 t259)).setCell ⟨gb279, 1, none⟩ (.int .i64 t260)).setCell ⟨gb279, 2, none⟩ (.int .i64 t261)).setCell ⟨gb279, 3, none⟩ (.int .i64 t262)).setCell ⟨gb279, 4, none⟩ (.int .i64 t263)).setCell ⟨gb279, 5, none⟩ (.int .i64 t264)).setCell ⟨gb279, 6, none⟩ (.int .i64 t265)).setCell ⟨gb279, 7, none⟩ (.slice Ao12 t266.length co12)).setCell ⟨gb279, 8, none⟩ (.slice Ao13 t269.length co13)).setCell ⟨gb280, 0, none⟩ (.int .i64 t272)).setCell ⟨gb280, 1, none⟩ (.int .i64 t273)).setCell ⟨gb280, 2, none⟩ (.int .i64 t274)).setCell ⟨gb280, 3, none⟩ (.int .i64 t275)).setCell ⟨gb280, 4, none⟩ (.int .i64 t276)).setCell ⟨gb280, 5, none⟩ (.int .i64 t277)).setCell ⟨gb280, 6, none⟩ (.int .i64 t278)) w.heap.size (fun _ => True) (.slice Ao13 t269.length co13) t269) := ⟨by (with_reducible repeat (first | apply Kd.R_alloc | apply Kd.R_drewN | apply Kd.R_drew)); exact Kd.R_mono (Kd.R_far (p := ⟨gb280, 6, none⟩) (Kd.R_far (p := ⟨gb280, 5, none⟩) (Kd.R_far (p := ⟨gb280, 4, none⟩) (Kd.R_far (p := ⟨gb280, 3, none⟩) (Kd.R_far (p := ⟨gb280, 2, none⟩) (Kd.R_far (p := ⟨gb280, 1, none⟩) (Kd.R_far (p := ⟨gb280, 0, none⟩) (Kd.R_far (p := ⟨gb279, 8, none⟩) (Kd.R_far (p := ⟨gb279, 7, none⟩) (Kd.R_far (p := ⟨gb279, 6, none⟩) (Kd.R_far (p := ⟨gb279, 5, none⟩) (Kd.R_far (p := ⟨gb279, 4, none⟩) (Kd.R_far (p := ⟨gb279, 3, none⟩) (Kd.R_far (p := ⟨gb279, 2, none⟩) (Kd.R_far (p := ⟨gb279, 1, none⟩) (Kd.R_far (p := ⟨gb279, 0, none⟩) (Kd.R_types (Kd.R_types HO271.out BK279.out (by decide)) BK280.out (by decide)) (fun _ hk => hk.1.2) (.int .i64 t259)) (fun _ hk => hk.1.2) (.int .i64 t260)) (fun _ hk => hk.1.2) (.int .i64 t261)) (fun _ hk => hk.1.2) (.int .i64 t262)) (fun _ hk => hk.1.2) (.int .i64 t263)) (fun _ hk => hk.1.2) (.int .i64 t264)) (fun _ hk => hk.1.2) (.int .i64 t265)) (fun _ hk => hk.1.2) (.slice Ao12 t266.length co12)) (fun _ hk => hk.1.2) (.slice Ao13 t269.length co13)) (fun _ hk => hk.2) (.int .i64 t272)) (fun _ hk => hk.2) (.int .i64 t273)) (fun _ hk => hk.2) (.int .i64 t274)) (fun _ hk => hk.2) (.int .i64 t275)) (fun _ hk => hk.2) (.int .i64 t276)) (fun _ hk => hk.2) (.int .i64 t277)) (fun _ hk => hk.2) (.int .i64 t278)) (fun _ hk => trivial)⟩
   have n2_ : Aside0 (((((((((((((((((w9.setCell ⟨gb279, 0, none⟩ (.int .i64 t259)).setCell ⟨gb279, 1, none⟩ (.int .i64 t260)).setCell ⟨gb279, 2, none⟩ (.int .i64 t261)).setCell ⟨gb279, 3, none⟩ (.int .i64 t262)).setCell ⟨gb279, 4, none⟩ (.int .i64 t263)).setCell ⟨gb279, 5, none⟩ (.int .i64 t264)).setCell ⟨gb279, 6, none⟩ (.int .i64 t265)).setCell ⟨gb279, 7, none⟩ (.slice Ao12 t266.length co12)).setCell ⟨gb279, 8, none⟩ (.slice Ao13 t269.length co13)).setCell ⟨gb280, 0, none⟩ (.int .i64 t272)).setCell ⟨gb280, 1, none⟩ (.int .i64 t273)).setCell ⟨gb280, 2, none⟩ (.int .i64 t274)).setCell ⟨gb280, 3, none⟩ (.int .i64 t275)).setCell ⟨gb280, 4, none⟩ (.int .i64 t276)).setCell ⟨gb280, 5, none⟩ (.int .i64 t277)).setCell ⟨gb280, 6, none⟩ (.int .i64 t278)).heap[gb279]? = some (.cells #[.int .i64 t259, .int .i64 t260, .int .i64 t261, .int .i64 t262, .int .i64 t263, .int .i64 t264, .int .i64 t265, .slice Ao12 t266.length co12, .slice Ao13 t269.length co13] 25 (0, 0))) := ⟨by (with_reducible repeat (first | refine blk_drewN ?_ _ | refine blk_drew ?_ | refine blk_alloc ?_ _)); refine blk_far ?_ NB279_280.out _; (with_reducible repeat (first | refine blk_drewN ?_ _ | refine blk_drew ?_ | refine blk_alloc ?_ _)); refine blk_far ?_ NB279_280.out _; (with_reducible repeat (first | refine blk_drewN ?_ _ | refine blk_drew ?_ | refine blk_alloc ?_ _)); refine blk_far ?_ NB279_280.out _; (with_reducible repeat (first | refine blk_drewN ?_ _ | refine blk_drew ?_ | refine blk_alloc ?_ _)); refine blk_far ?_ NB279_280.out _; (with_reducible repeat (first | refine blk_drewN ?_ _ | refine blk_drew ?_ | refine blk_alloc ?_ _)); refine blk_far ?_ NB279_280.out _; (with_reducible repeat (first | refine blk_drewN ?_ _ | refine blk_drew ?_ | refine blk_alloc ?_ _)); refine blk_far ?_ NB279_280.out _; (with_reducible repeat (first | refine blk_drewN ?_ _ | refine blk_drew ?_ | refine blk_alloc ?_ _)); refine blk_far ?_ NB279_280.out _; (with_reducible repeat (first | refine blk_drewN ?_ _ | refine blk_drew ?_ | refine blk_alloc ?_ _)); refine blk_put (cs := #[.int .i64 t259, .int .i64 t260, .int .i64 t261, .int .i64 t262, .int .i64 t263, .int .i64 t264, .int .i64 t265, .slice Ao12 t266.length co12, .slice none 0 0]) ?_ 8 _ rfl; (with_reducible repeat (first | refine blk_drewN ?_ _ | refine blk_drew ?_ | refine blk_alloc ?_ _)); refine blk_put (cs := #[.int .i64 t259, .int .i64 t260, .int .i64 t261, .int .i64 t262, .int .i64 t263, .int .i64 t264, .int .i64 t265, .slice none 0 0, .slice none 0 0]) ?_ 7 _ rfl; (with_reducible repeat (first | refine blk_drewN ?_ _ | refine blk_drew ?_ | refine blk_alloc ?_ _)); refine blk_put (cs := #[.int .i64 t259, .int .i64 t260, .int .i64 t261, .int .i64 t262, .int .i64 t263, .int .i64 t264, .int .i64 0, .slice none 0 0, .slice none 0 0]) ?_ 6 _ rfl; (with_reducible repeat (first | refine blk_drewN ?_ _ | refine blk_drew ?_ | refine blk_alloc ?_ _)); refine blk_put (cs := #[.int .i64 t259, .int .i64 t260, .int .i64 t261, .int .i64 t262, .int .i64 t263, .int .i64 0, .int .i64 0, .slice none 0 0, .slice none 0 0]) ?_ 5 _ rfl; (with_reducible repeat (first | refine blk_drewN ?_ _ | refine blk_drew ?_ | refine blk_alloc ?_ _)); refine blk_put (cs := #[.int .i64 t259, .int .i64 t260, .int .i64 t261, .int .i64 t262, .int .i64 0, .int .i64 0, .int .i64 0, .slice none 0 0, .slice none 0 0]) ?_ 4 _ rfl; (with_reducible repeat (first | refine blk_drewN ?_ _ | refine blk_drew ?_ | refine blk_alloc ?_ _)); refine blk_put (cs := #[.int .i64 t259, .int .i64 t260, .int .i64 t261, .int .i64 0, .int .i64 0, .int .i64 0, .int .i64 0, .slice none 0 0, .slice none 0 0]) ?_ 3 _ rfl; (with_reducible repeat (first | refine blk_drewN ?_ _ | refine blk_drew ?_ | refine blk_alloc ?_ _)); refine blk_put (cs := #[.int .i64 t259, .int .i64 t260, .int .i64 0, .int .i64 0, .int .i64 0, .int .i64 0, .int .i64 0, .slice none 0 0, .slice none 0 0]) ?_ 2 _ rfl; (with_reducible repeat (first | refine blk_drewN ?_ _ | refine blk_drew ?_ | refine blk_alloc ?_ _)); refine blk_put (cs := #[.int .i64 t259, .int .i64 0, .int .i64 0, .int .i64 0, .int .i64 0, .int .i64 0, .int .i64 0, .slice none 0 0, .slice none 0 0]) ?_ 1 _ rfl; (with_reducible repeat (first | refine blk_drewN ?_ _ | refine blk_drew ?_ | refine blk_alloc ?_ _)); refine blk_put (cs := #[.int .i64 0, .int .i64 0, .int .i64 0, .int .i64 0, .int .i64 0, .int .i64 0, .int .i64 0, .slice none 0 0, .slice none 0 0]) ?_ 0 _ rfl; (with_reducible repeat (first | refine blk_drewN ?_ _ | refine blk_drew ?_ | refine blk_alloc ?_ _)); exact BK279.out⟩
   have n3_ : Aside0 (((((((((((((((((w9.setCell ⟨gb279, 0, none⟩ (.int .i64 t259)).setCell ⟨gb279, 1, none⟩ (.int .i64 t260)).setCell ⟨gb279, 2, none⟩ (.int .i64 t261)).setCell ⟨gb279, 3, none⟩ (.int .i64 t262)).setCell ⟨gb279, 4, none⟩ (.int .i64 t263)).setCell ⟨gb279, 5, none⟩ (.int .i64 t264)).setCell ⟨gb279, 6, none⟩ (.int .i64 t265)).setCell ⟨gb279, 7, none⟩ (.slice Ao12 t266.length co12)).setCell ⟨gb279, 8, none⟩ (.slice Ao13 t269.length co13)).setCell ⟨gb280, 0, none⟩ (.int .i64 t272)).setCell ⟨gb280, 1, none⟩ (.int .i64 t273)).setCell ⟨gb280, 2, none⟩ (.int .i64 t274)).setCell ⟨gb280, 3, none⟩ (.int .i64 t275)).setCell ⟨gb280, 4, none⟩ (.int .i64 t276)).setCell ⟨gb280, 5, none⟩ (.int .i64 t277)).setCell ⟨gb280, 6, none⟩ (.int .i64 t278)).heap[gb280]? = some (.cells #[.int .i64 t272, .int .i64 t273, .int .i64 t274, .int .i64 t275, .int .i64 t276, .int .i64 t277, .int .i64 t278] 29 (0, 0))) := ⟨by (with_reducible repeat (first | refine blk_drewN ?_ _ | refine blk_drew ?_ | refine blk_alloc ?_ _)); refine blk_put (cs := #[.int .i64 t272, .int .i64 t273, .int .i64 t274, .int .i64 t275, .int .i64 t276, .int .i64 t277, .int .i64 0]) ?_ 6 _ rfl; (with_reducible repeat (first | refine blk_drewN ?_ _ | refine blk_drew ?_ | refine blk_alloc ?_ _)); refine blk_put (cs := #[.int .i64 t272, .int .i64 t273, .int .i64 t274, .int .i64 t275, .int .i64 t276, .int .i64 0, .int .i64 0]) ?_ 5 _ rfl; (with_reducible repeat (first | refine blk_drewN ?_ _ | refine blk_drew ?_ | refine blk_alloc ?_ _)); refine blk_put (cs := #[.int .i64 t272, .int .i64 t273, .int .i64 t274, .int .i64 t275, .int .i64 0, .int .i64 0, .int .i64 0]) ?_ 4 _ rfl; (with_reducible repeat (first | refine blk_drewN ?_ _ | refine blk_drew ?_ | refine blk_alloc ?_ _)); refine blk_put (cs := #[.int .i64 t272, .int .i64 t273, .int .i64 t274, .int .i64 0, .int .i64 0, .int .i64 0, .int .i64 0]) ?_ 3 _ rfl; (with_reducible repeat (first | refine blk_drewN ?_ _ | refine blk_drew ?_ | refine blk_alloc ?_ _)); refine blk_put (cs := #[.int .i64 t272, .int .i64 t273, .int .i64 0, .int .i64 0, .int .i64 0, .int .i64 0, .int .i64 0]) ?_ 2 _ rfl; (with_reducible repeat (first | refine blk_drewN ?_ _ | refine blk_drew ?_ | refine blk_alloc ?_ _)); refine blk_put (cs := #[.int .i64 t272, .int .i64 0, .int .i64 0, .int .i64 0, .int .i64 0, .int .i64 0, .int .i64 0]) ?_ 1 _ rfl; (with_reducible repeat (first | refine blk_drewN ?_ _ | refine blk_drew ?_ | refine blk_alloc ?_ _)); refine blk_put (cs := #[.int .i64 0, .int .i64 0, .int .i64 0, .int .i64 0, .int .i64 0, .int .i64 0, .int .i64 0]) ?_ 0 _ rfl; (with_reducible repeat (first | refine blk_drewN ?_ _ | refine blk_drew ?_ | refine blk_alloc ?_ _)); refine blk_far ?_ NB280_279.out _; (with_reducible repeat (first | refine blk_drewN ?_ _ | refine blk_drew ?_ | refine blk_alloc ?_ _)); refine blk_far ?_ NB280_279.out _; (with_reducible repeat (first | refine blk_drewN ?_ _ | refine blk_drew ?_ | refine blk_alloc ?_ _)); refine blk_far ?_ NB280_279.out _; (with_reducible repeat (first | refine blk_drewN ?_ _ | refine blk_drew ?_ | refine blk_alloc ?_ _)); refine blk_far ?_ NB280_279.out _; (with_reducible repeat (first | refine blk_drewN ?_ _ | refine blk_drew ?_ | refine blk_alloc ?_ _)); refine blk_far ?_ NB280_279.out _; (with_reducible repeat (first | refine blk_drewN ?_ _ | refine blk_drew ?_ | refine blk_alloc ?_ _)); refine blk_far ?_ NB280_279.out _; (with_reducible repeat (first | refine blk_drewN ?_ _ | refine blk_drew ?_ | refine blk_alloc ?_ _)); refine blk_far ?_ NB280_279.out _; (with_reducible repeat (first | refine blk_drewN ?_ _ | refine blk_drew ?_ | refine blk_alloc ?_ _)); refine blk_far ?_ NB280_279.out _; (with_reducible repeat (first | refine blk_drewN ?_ _ | refine blk_drew ?_ | refine blk_alloc ?_ _)); refine blk_far ?_ NB280_279.out _; (with_reducible repeat (first | refine blk_drewN ?_ _ | refine blk_drew ?_ | refine blk_alloc ?_ _)); exact BK280.out⟩
   have n4_ : Aside0 (Below w.heap.size w ((((((((((((((((w9.setCell ⟨gb279, 0, none⟩ (.int .i64 t259)).setCell ⟨gb279, 1, none⟩ (.int .i64 t260)).setCell ⟨gb279, 2, none⟩ (.int .i64 t261)).setCell ⟨gb279, 3, none⟩ (.int .i64 t262)).setCell ⟨gb279, 4, none⟩ (.int .i64 t263)).setCell ⟨gb279, 5, none⟩ (.int .i64 t264)).setCell ⟨gb279, 6, none⟩ (.int .i64 t265)).setCell ⟨gb279, 7, none⟩ (.slice Ao12 t266.length co12)).setCell ⟨gb279, 8, none⟩ (.slice Ao13 t269.length co13)).setCell ⟨gb280, 0, none⟩ (.int .i64 t272)).setCell ⟨gb280, 1, none⟩ (.int .i64 t273)).setCell ⟨gb280, 2, none⟩ (.int .i64 t274)).setCell ⟨gb280, 3, none⟩ (.int .i64 t275)).setCell ⟨gb280, 4, none⟩ (.int .i64 t276)).setCell ⟨gb280, 5, none⟩ (.int .i64 t277)).setCell ⟨gb280, 6, none⟩ (.int .i64 t278))) := ⟨zbz⟩
   (try clear HO268)
   (try clear HO271)
   (try clear BK279)
   (try clear BK280)
   (try clear HB)
   generalize ((((((((((((((((w9.setCell ⟨gb279, 0, none⟩ (.int .i64 t259)).setCell ⟨gb279, 1, none⟩ (.int .i64 t260)).setCell ⟨gb279, 2, none⟩ (.int .i64 t261)).setCell ⟨gb279, 3, none⟩ (.int .i64 t262)).setCell ⟨gb279, 4, none⟩ (.int .i64 t263)).setCell ⟨gb279, 5, none⟩ (.int .i64 t264)).setCell ⟨gb279, 6, none⟩ (.int .i64 t265)).setCell ⟨gb279, 7, none⟩ (.slice Ao12 t266.length co12)).setCell ⟨gb279, 8, none⟩ (.slice Ao13 t269.length co13)).setCell ⟨gb280, 0, none⟩ (.int .i64 t272)).setCell ⟨gb280, 1, none⟩ (.int .i64 t273)).setCell ⟨gb280, 2, none⟩ (.int .i64 t274)).setCell ⟨gb280, 3, none⟩ (.int .i64 t275)).setCell ⟨gb280, 4, none⟩ (.int .i64 t276)).setCell ⟨gb280, 5, none⟩ (.int .i64 t277)).setCell ⟨gb280, 6, none⟩ (.int .i64 t278)) = w15 at n0_ n1_ n2_ n3_ n4_ ⊢
   have HO268 := n0_
   have HO271 := n1_
   have BK279 := n2_
   have BK280 := n3_
   have HB := n4_
   clear n0_ n1_ n2_ n3_ n4_
   replace HO268 := Aside0.mk (Kd.R_drew HO268.out)
   replace HO271 := Aside0.mk (Kd.R_drew HO271.out)
   replace BK279 := Aside0.mk (blk_drew BK279.out)
   replace BK280 := Aside0.mk (blk_drew BK280.out)
   replace HB := Aside0.mk (below_drew1 HB.out)
   refine start_ (n := 11) (S := fun w' => w'.cell? ⟨gb279, 0, none⟩ = some (.int .i64 t259) ∧ w'.cell? ⟨gb279, 1, none⟩ = some (.int .i64 t260) ∧ w'.cell? ⟨gb279, 2, none⟩ = some (.int .i64 t261) ∧ w'.cell? ⟨gb279, 3, none⟩ = some (.int .i64 t262) ∧ w'.cell? ⟨gb279, 4, none⟩ = some (.int .i64 t263) ∧ w'.cell? ⟨gb279, 5, none⟩ = some (.int .i64 t264) ∧ w'.cell? ⟨gb279, 6, none⟩ = some (.int .i64 t265) ∧ w'.cell? ⟨gb279, 7, none⟩ = some (.slice Ao12 t266.length co12) ∧ w'.cell? ⟨gb279, 8, none⟩ = some (.slice Ao13 t269.length co13) ∧ w'.cell? ⟨gb280, 0, none⟩ = some (.int .i64 t272) ∧ w'.cell? ⟨gb280, 1, none⟩ = some (.int .i64 t273) ∧ w'.cell? ⟨gb280, 2, none⟩ = some (.int .i64 t274) ∧ w'.cell? ⟨gb280, 3, none⟩ = some (.int .i64 t275) ∧ w'.cell? ⟨gb280, 4, none⟩ = some (.int .i64 t276) ∧ w'.cell? ⟨gb280, 5, none⟩ = some (.int .i64 t277) ∧ w'.cell? ⟨gb280, 6, none⟩ = some (.int .i64 t278)) (ds := []) #[false, false, false, false, false, false, false, false, false, false, false] zq1 rfl rfl (zca9 BK279.out (zcs7 BK280.out)) (fun hHeld => ?_); refine with_tabW isobathlaw03_Works.tab2 isobathlaw03_Works.bits2 (fun HT_ HW_ => ?_)
   generalize w15.drew = w16 at HO268 HO271 BK279 BK280 HB hHeld ⊢
   refine zpz (i := 3) (N := some 15) (any_of HT_.out zq1) ?_
   refine ztz (i := 0) (N := some 12) (take_ofW HT_.out HW_.out zq1) hHeld ?_
   refine ztz (i := 1) (N := some 13) (take_ofW HT_.out HW_.out zq1) hHeld ?_
   refine join_ (σ := Nat) 2 #[true, true, true, true, true, true, true, true, true, false, false] (fun s_ => [(14, .agg #[.int .i64 t281, .int .i64 t282, .int .i64 t283, .int .i64 t284]), (16, .tuple #[.agg #[.int .i64 t285, .int .i64 t286, .int .i64 t287, .int .i64 t288], .int .i64 t289]), (3, .pointer (some ⟨s_, 0, none⟩)), (11, .tuple #[.agg #[.int .i64 t285, .int .i64 t286, .int .i64 t287, .int .i64 t288], .int .i64 t289]), (17, .agg #[.int .i64 t285, .int .i64 t286, .int .i64 t287, .int .i64 t288]), (18, .int .i64 t289)]) (fun s_ w' => (w'.cell? ⟨gb279, 0, none⟩ = some (.int .i64 t259) ∧ w'.cell? ⟨gb279, 1, none⟩ = some (.int .i64 t260) ∧ w'.cell? ⟨gb279, 2, none⟩ = some (.int .i64 t261) ∧ w'.cell? ⟨gb279, 3, none⟩ = some (.int .i64 t262) ∧ w'.cell? ⟨gb279, 4, none⟩ = some (.int .i64 t263) ∧ w'.cell? ⟨gb279, 5, none⟩ = some (.int .i64 t264) ∧ w'.cell? ⟨gb279, 6, none⟩ = some (.int .i64 t265) ∧ w'.cell? ⟨gb279, 7, none⟩ = some (.slice Ao12 t266.length co12) ∧ w'.cell? ⟨gb279, 8, none⟩ = some (.slice Ao13 t269.length co13) ∧ w'.cell? ⟨gb280, 0, none⟩ = some (.int .i64 t272) ∧ w'.cell? ⟨gb280, 1, none⟩ = some (.int .i64 t273) ∧ w'.cell? ⟨gb280, 2, none⟩ = some (.int .i64 t274) ∧ w'.cell? ⟨gb280, 3, none⟩ = some (.int .i64 t275) ∧ w'.cell? ⟨gb280, 4, none⟩ = some (.int .i64 t276) ∧ w'.cell? ⟨gb280, 5, none⟩ = some (.int .i64 t277) ∧ w'.cell? ⟨gb280, 6, none⟩ = some (.int .i64 t278)) ∧ (Kd.R Kd.bool 4 w' w.heap.size (fun _ => True) (.slice Ao12 t266.length co12) t266) ∧ (Kd.R k40 40 w' w.heap.size (fun _ => True) (.slice Ao13 t269.length co13) t269) ∧ (w'.heap[gb279]? = some (.cells #[.int .i64 t259, .int .i64 t260, .int .i64 t261, .int .i64 t262, .int .i64 t263, .int .i64 t264, .int .i64 t265, .slice Ao12 t266.length co12, .slice Ao13 t269.length co13] 25 (0, 0))) ∧ (w'.heap[gb280]? = some (.cells #[.int .i64 t272, .int .i64 t273, .int .i64 t274, .int .i64 t275, .int .i64 t276, .int .i64 t277, .int .i64 t278] 29 (0, 0))) ∧ (w'.heap[s_]? = some (.cells #[.int .i64 0, .int .i64 0, .int .i64 0, .int .i64 0] 31 (0, 0))) ∧ (w.heap.size ≤ s_) ∧ (w.heap.size ≤ s_) ∧ (gb279 ≠ s_) ∧ (s_ ≠ gb279) ∧ (gb280 ≠ s_) ∧ (s_ ≠ gb280) ∧ (Below w.heap.size w w')) ?_ ?_
   rotate_left
   ·intro hCont
    refine two_ (i := 2) (j := 8) (Ni := some 14) (Nj := some 3) #[true, true, true, true, false, false, false, false, false, false, false] #[true, true, false, true, false, false, false, false, true, false, false] rfl rfl rfl rfl (two_of HT_.out zq1) (by decide) (by decide) (fun K hK => ?_) (fun K hK => ?_)
    ·skip
     refine goes_ Try.func62 zq1 rfl #[.int .i64 2000, .int .i64 2000] (by rfl) rfl rfl zq6 ?_
     with_reducible refine (isobathlaw03_point.calls 2000 2000 t281 t282 t283 t284 _ A2.out).mono ?_
     rintro e w17 ⟨rfl, hb⟩
     refine ⟨_, rfl, ?_⟩
     replace HO268 := zrb HO268 hb
     replace HO271 := zrb HO271 hb
     replace BK279 := zbb BK279 hb
     replace BK280 := zbb BK280 hb
     replace HB := zbs HB hb
     (try clear hb)
     (try clear hb2)
     (try clear hk)
     (try clear hi)
     refine hK.out _ _ (zca9 BK279.out (zcs7 BK280.out)) (fun hHeld => ?_)
     clear hK K
     refine norm_ zq37 ?_
     refine two_ (i := 4) (j := 8) (Ni := some 16) (Nj := some 3) #[true, true, true, true, true, false, false, false, false, false, false] #[true, true, true, true, false, false, false, false, true, false, false] rfl rfl rfl rfl (two_of HT_.out zq1) (by decide) (by decide) (fun K hK => ?_) (fun K hK => ?_)
     ·skip
      refine goes_ Try.func20 zq1 rfl #[.agg #[.int .i64 t259, .int .i64 t260, .int .i64 t261, .int .i64 t262, .int .i64 t263, .int .i64 t264, .int .i64 t265, .slice Ao12 t266.length co12, .slice Ao13 t269.length co13], .agg #[.int .i64 t272, .int .i64 t273, .int .i64 t274, .int .i64 t275, .int .i64 t276, .int .i64 t277, .int .i64 t278], .agg #[.int .i64 t281, .int .i64 t282, .int .i64 t283, .int .i64 t284], .int .i64 0, .agg #[.int .i64 2, .int .i64 0]] (by rfl) rfl rfl zq6 ?_
      with_reducible refine (glider_Dive.calls t259 t260 t261 t262 t263 t264 t265 _ _ t266 _ _ t269 t272 t273 t274 t275 t276 t277 t278 t281 t282 t283 t284 0 2 0 t285 t286 t287 t288 t289 _ ?side1 ?side2 ?side3 ?side4 A3.out).mono ?_
      (case side1 => repeat (first | exact (Kd.R_reads' HO268.out).2.2 | (with_reducible refine Kd.C_alloc ?_ _) | (with_reducible refine Kd.C_drewN ?_ _) | (with_reducible refine Kd.C_drew ?_)))
      (case side2 => exact (Kd.R_reads' HO268.out).2.1)
      (case side3 => repeat (first | exact (Kd.R_reads' HO271.out).2.2 | (with_reducible refine Kd.C_alloc ?_ _) | (with_reducible refine Kd.C_drewN ?_ _) | (with_reducible refine Kd.C_drew ?_)))
      (case side4 => exact (Kd.R_reads' HO271.out).2.1)
      rintro e w18 ⟨rfl, hb⟩
      refine ⟨_, rfl, ?_⟩
      replace HO268 := zrb HO268 hb
      replace HO271 := zrb HO271 hb
      replace BK279 := zbb BK279 hb
      replace BK280 := zbb BK280 hb
      replace HB := zbs HB hb
      (try clear hb)
      (try clear hb2)
      (try clear hk)
      (try clear hi)
      refine hK.out _ _ (zca9 BK279.out (zcs7 BK280.out)) (fun hHeld => ?_)
      clear hK K
      refine norm_ zq20 ?_
      refine zpz (i := 5) (N := some 11) (any_of HT_.out zq1) ?_
      refine zpz (i := 6) (N := some 17) (any_of HT_.out zq1) ?_
      refine zpz (i := 7) (N := some 18) (any_of HT_.out zq1) ?_
      refine one_ (i := 8) (N := some 3) #[true, true, true, true, true, true, true, true, true, false, false] rfl rfl (one_of HT_.out zq1) (by decide) (fun K hK => ?_)
      refine box_step ?hg (N := 3) ?hd (cs := #[.int .i64 0, .int .i64 0, .int .i64 0, .int .i64 0]) (t := 31) ?hr ?_; (case hd => rfl); (case hg => rfl); (case hr => first | (go_simp; done) | (go_simp; rfl))
      intro gb290 hg w19 hbox hb
      have BK290 := Aside0.mk (hbox)
      have GW290 := zgs HB hg
      have GE290 := zgs HB hg
      have NB279_290 := znp BK279 hg
      have NB290_279 := znq BK279 hg
      have NB280_290 := znp BK280 hg
      have NB290_280 := znq BK280 hg
      replace HO268 := zrb HO268 hb
      replace HO271 := zrb HO271 hb
      replace BK279 := zbb BK279 hb
      replace BK280 := zbb BK280 hb
      replace HB := zbs HB hb
      clear hb hbox hg
      refine hK.out _ _ (zca9 BK279.out (zcs7 BK280.out)) (fun hHeld => ?_)
      clear hK K
      refine norm_ zq38 ?_
      exact norm_ zq39 (hCont (gb290) _ ⟨hHeld, zq40, zq41, zbf, zbf, zbf, GW290.out, GE290.out, NB279_290.out, NB290_279.out, NB280_290.out, NB290_280.out, zbz⟩)
     ·skip
      refine box_step ?hg (N := 3) ?hd (cs := #[.int .i64 0, .int .i64 0, .int .i64 0, .int .i64 0]) (t := 31) ?hr ?_; (case hd => rfl); (case hg => rfl); (case hr => first | (go_simp; done) | (go_simp; rfl))
      intro gb290 hg w18 hbox hb
      have BK290 := Aside0.mk (hbox)
      have GW290 := zgs HB hg
      have GE290 := zgs HB hg
      have NB279_290 := znp BK279 hg
      have NB290_279 := znq BK279 hg
      have NB280_290 := znp BK280 hg
      have NB290_280 := znq BK280 hg
      replace HO268 := zrb HO268 hb
      replace HO271 := zrb HO271 hb
      replace BK279 := zbb BK279 hb
      replace BK280 := zbb BK280 hb
      replace HB := zbs HB hb
      clear hb hbox hg
      refine hK.out _ _ (zca9 BK279.out (zcs7 BK280.out)) (fun hHeld => ?_)
      clear hK K
      refine norm_ zq38 ?_
      refine one_ (i := 4) (N := some 16) #[true, true, true, true, true, false, false, false, true, false, false] rfl rfl (one_of HT_.out zq1) (by decide) (fun K hK => ?_)
      refine goes_ Try.func20 zq1 rfl #[.agg #[.int .i64 t259, .int .i64 t260, .int .i64 t261, .int .i64 t262, .int .i64 t263, .int .i64 t264, .int .i64 t265, .slice Ao12 t266.length co12, .slice Ao13 t269.length co13], .agg #[.int .i64 t272, .int .i64 t273, .int .i64 t274, .int .i64 t275, .int .i64 t276, .int .i64 t277, .int .i64 t278], .agg #[.int .i64 t281, .int .i64 t282, .int .i64 t283, .int .i64 t284], .int .i64 0, .agg #[.int .i64 2, .int .i64 0]] (by rfl) rfl rfl zq6 ?_
      with_reducible refine (glider_Dive.calls t259 t260 t261 t262 t263 t264 t265 _ _ t266 _ _ t269 t272 t273 t274 t275 t276 t277 t278 t281 t282 t283 t284 0 2 0 t285 t286 t287 t288 t289 _ ?side1 ?side2 ?side3 ?side4 A3.out).mono ?_
      (case side1 => repeat (first | exact (Kd.R_reads' HO268.out).2.2 | (with_reducible refine Kd.C_alloc ?_ _) | (with_reducible refine Kd.C_drewN ?_ _) | (with_reducible refine Kd.C_drew ?_)))
      (case side2 => exact (Kd.R_reads' HO268.out).2.1)
      (case side3 => repeat (first | exact (Kd.R_reads' HO271.out).2.2 | (with_reducible refine Kd.C_alloc ?_ _) | (with_reducible refine Kd.C_drewN ?_ _) | (with_reducible refine Kd.C_drew ?_)))
      (case side4 => exact (Kd.R_reads' HO271.out).2.1)
      rintro e w19 ⟨rfl, hb⟩
      refine ⟨_, rfl, ?_⟩
      replace HO268 := zrb HO268 hb
      replace HO271 := zrb HO271 hb
      replace BK279 := zbb BK279 hb
      replace BK280 := zbb BK280 hb
      replace BK290 := zbb BK290 hb
      replace HB := zbs HB hb
      (try clear hb)
      (try clear hb2)
      (try clear hk)
      (try clear hi)
      refine hK.out _ _ (zca9 BK279.out (zcs7 BK280.out)) (fun hHeld => ?_)
      clear hK K
      refine norm_ zq20 ?_
      refine zpz (i := 5) (N := some 11) (any_of HT_.out zq1) ?_
      refine zpz (i := 6) (N := some 17) (any_of HT_.out zq1) ?_
      refine zpz (i := 7) (N := some 18) (any_of HT_.out zq1) ?_
      exact norm_ zq39 (hCont (gb290) _ ⟨hHeld, zq40, zq41, zbf, zbf, zbf, GW290.out, GE290.out, NB279_290.out, NB290_279.out, NB280_290.out, NB290_280.out, zbz⟩)
    ·skip
     refine box_step ?hg (N := 3) ?hd (cs := #[.int .i64 0, .int .i64 0, .int .i64 0, .int .i64 0]) (t := 31) ?hr ?_; (case hd => rfl); (case hg => rfl); (case hr => first | (go_simp; done) | (go_simp; rfl))
     intro gb290 hg w17 hbox hb
     have BK290 := Aside0.mk (hbox)
     have GW290 := zgs HB hg
     have GE290 := zgs HB hg
     have NB279_290 := znp BK279 hg
     have NB290_279 := znq BK279 hg
     have NB280_290 := znp BK280 hg
     have NB290_280 := znq BK280 hg
     replace HO268 := zrb HO268 hb
     replace HO271 := zrb HO271 hb
     replace BK279 := zbb BK279 hb
     replace BK280 := zbb BK280 hb
     replace HB := zbs HB hb
     clear hb hbox hg
     refine hK.out _ _ (zca9 BK279.out (zcs7 BK280.out)) (fun hHeld => ?_)
     clear hK K
     refine norm_ zq38 ?_
     refine one_ (i := 2) (N := some 14) #[true, true, true, true, false, false, false, false, true, false, false] rfl rfl (one_of HT_.out zq1) (by decide) (fun K hK => ?_)
     refine goes_ Try.func62 zq1 rfl #[.int .i64 2000, .int .i64 2000] (by rfl) rfl rfl zq6 ?_
     with_reducible refine (isobathlaw03_point.calls 2000 2000 t281 t282 t283 t284 _ A2.out).mono ?_
     rintro e w18 ⟨rfl, hb⟩
     refine ⟨_, rfl, ?_⟩
     replace HO268 := zrb HO268 hb
     replace HO271 := zrb HO271 hb
     replace BK279 := zbb BK279 hb
     replace BK280 := zbb BK280 hb
     replace BK290 := zbb BK290 hb
     replace HB := zbs HB hb
     (try clear hb)
     (try clear hb2)
     (try clear hk)
     (try clear hi)
     refine hK.out _ _ (zca9 BK279.out (zcs7 BK280.out)) (fun hHeld => ?_)
     clear hK K
     refine norm_ zq37 ?_
     refine one_ (i := 4) (N := some 16) #[true, true, true, true, true, false, false, false, true, false, false] rfl rfl (one_of HT_.out zq1) (by decide) (fun K hK => ?_)
     refine goes_ Try.func20 zq1 rfl #[.agg #[.int .i64 t259, .int .i64 t260, .int .i64 t261, .int .i64 t262, .int .i64 t263, .int .i64 t264, .int .i64 t265, .slice Ao12 t266.length co12, .slice Ao13 t269.length co13], .agg #[.int .i64 t272, .int .i64 t273, .int .i64 t274, .int .i64 t275, .int .i64 t276, .int .i64 t277, .int .i64 t278], .agg #[.int .i64 t281, .int .i64 t282, .int .i64 t283, .int .i64 t284], .int .i64 0, .agg #[.int .i64 2, .int .i64 0]] (by rfl) rfl rfl zq6 ?_
     with_reducible refine (glider_Dive.calls t259 t260 t261 t262 t263 t264 t265 _ _ t266 _ _ t269 t272 t273 t274 t275 t276 t277 t278 t281 t282 t283 t284 0 2 0 t285 t286 t287 t288 t289 _ ?side1 ?side2 ?side3 ?side4 A3.out).mono ?_
     (case side1 => repeat (first | exact (Kd.R_reads' HO268.out).2.2 | (with_reducible refine Kd.C_alloc ?_ _) | (with_reducible refine Kd.C_drewN ?_ _) | (with_reducible refine Kd.C_drew ?_)))
     (case side2 => exact (Kd.R_reads' HO268.out).2.1)
     (case side3 => repeat (first | exact (Kd.R_reads' HO271.out).2.2 | (with_reducible refine Kd.C_alloc ?_ _) | (with_reducible refine Kd.C_drewN ?_ _) | (with_reducible refine Kd.C_drew ?_)))
     (case side4 => exact (Kd.R_reads' HO271.out).2.1)
     rintro e w19 ⟨rfl, hb⟩
     refine ⟨_, rfl, ?_⟩
     replace HO268 := zrb HO268 hb
     replace HO271 := zrb HO271 hb
     replace BK279 := zbb BK279 hb
     replace BK280 := zbb BK280 hb
     replace BK290 := zbb BK290 hb
     replace HB := zbs HB hb
     (try clear hb)
     (try clear hb2)
     (try clear hk)
     (try clear hi)
     refine hK.out _ _ (zca9 BK279.out (zcs7 BK280.out)) (fun hHeld => ?_)
     clear hK K
     refine norm_ zq20 ?_
     refine zpz (i := 5) (N := some 11) (any_of HT_.out zq1) ?_
     refine zpz (i := 6) (N := some 17) (any_of HT_.out zq1) ?_
     refine zpz (i := 7) (N := some 18) (any_of HT_.out zq1) ?_
     exact norm_ zq39 (hCont (gb290) _ ⟨hHeld, zq40, zq41, zbf, zbf, zbf, GW290.out, GE290.out, NB279_290.out, NB290_279.out, NB280_290.out, NB290_280.out, zbz⟩)
   rintro gb290 w20 ⟨hS_, h0_, h1_, h2_, h3_, h4_, h5_, h6_, h7_, h8_, h9_, h10_, h11_⟩
   have n0_ : Aside0 (Kd.R Kd.bool 4 w20 w.heap.size (fun _ => True) (.slice Ao12 t266.length co12) t266) := ⟨h0_⟩
   have n1_ : Aside0 (Kd.R k40 40 w20 w.heap.size (fun _ => True) (.slice Ao13 t269.length co13) t269) := ⟨h1_⟩
   have n2_ : Aside0 (w20.heap[gb279]? = some (.cells #[.int .i64 t259, .int .i64 t260, .int .i64 t261, .int .i64 t262, .int .i64 t263, .int .i64 t264, .int .i64 t265, .slice Ao12 t266.length co12, .slice Ao13 t269.length co13] 25 (0, 0))) := ⟨h2_⟩
   have n3_ : Aside0 (w20.heap[gb280]? = some (.cells #[.int .i64 t272, .int .i64 t273, .int .i64 t274, .int .i64 t275, .int .i64 t276, .int .i64 t277, .int .i64 t278] 29 (0, 0))) := ⟨h3_⟩
   have n4_ : Aside0 (w20.heap[gb290]? = some (.cells #[.int .i64 0, .int .i64 0, .int .i64 0, .int .i64 0] 31 (0, 0))) := ⟨h4_⟩
   have n5_ : Aside0 (w.heap.size ≤ gb290) := ⟨h5_⟩
   have n6_ : Aside0 (w.heap.size ≤ gb290) := ⟨h6_⟩
   have n7_ : Aside0 (gb279 ≠ gb290) := ⟨h7_⟩
   have n8_ : Aside0 (gb290 ≠ gb279) := ⟨h8_⟩
   have n9_ : Aside0 (gb280 ≠ gb290) := ⟨h9_⟩
   have n10_ : Aside0 (gb290 ≠ gb280) := ⟨h10_⟩
   have n11_ : Aside0 (Below w.heap.size w w20) := ⟨h11_⟩
   clear HO268 HO271 BK279 BK280 HB
   clear h0_ h1_ h2_ h3_ h4_ h5_ h6_ h7_ h8_ h9_ h10_ h11_
   have HO268 := n0_
   have HO271 := n1_
   have BK279 := n2_
   have BK280 := n3_
   have BK290 := n4_
   have GW290 := n5_
   have GE290 := n6_
   have NB279_290 := n7_
   have NB290_279 := n8_
   have NB280_290 := n9_
   have NB290_280 := n10_
   have HB := n11_
   clear n0_ n1_ n2_ n3_ n4_ n5_ n6_ n7_ n8_ n9_ n10_ n11_
   have hHeld : w20.cell? ⟨gb279, 0, none⟩ = some (.int .i64 t259) ∧ w20.cell? ⟨gb279, 1, none⟩ = some (.int .i64 t260) ∧ w20.cell? ⟨gb279, 2, none⟩ = some (.int .i64 t261) ∧ w20.cell? ⟨gb279, 3, none⟩ = some (.int .i64 t262) ∧ w20.cell? ⟨gb279, 4, none⟩ = some (.int .i64 t263) ∧ w20.cell? ⟨gb279, 5, none⟩ = some (.int .i64 t264) ∧ w20.cell? ⟨gb279, 6, none⟩ = some (.int .i64 t265) ∧ w20.cell? ⟨gb279, 7, none⟩ = some (.slice Ao12 t266.length co12) ∧ w20.cell? ⟨gb279, 8, none⟩ = some (.slice Ao13 t269.length co13) ∧ w20.cell? ⟨gb280, 0, none⟩ = some (.int .i64 t272) ∧ w20.cell? ⟨gb280, 1, none⟩ = some (.int .i64 t273) ∧ w20.cell? ⟨gb280, 2, none⟩ = some (.int .i64 t274) ∧ w20.cell? ⟨gb280, 3, none⟩ = some (.int .i64 t275) ∧ w20.cell? ⟨gb280, 4, none⟩ = some (.int .i64 t276) ∧ w20.cell? ⟨gb280, 5, none⟩ = some (.int .i64 t277) ∧ w20.cell? ⟨gb280, 6, none⟩ = some (.int .i64 t278) := hS_
   refine norm_ (a' := ?_) ?_ ?_
   rotate_left
   ·simp only [putAll, Act.put, List.setIfInBounds_toArray, List.set_cons_zero, List.set_cons_succ]
    rfl
   refine one_ (i := 9) (N := none) #[true, true, true, true, true, true, true, true, true, true, false] rfl rfl (one_of HT_.out zq1) (by decide) (fun K hK => ?_)
   have hs21 : w20.cell? ⟨gb290, 0, none⟩ = some (.int .i64 0) := (blk_cell BK290.out 0).trans rfl
   have hfs21 := blk_frozen BK290.out 0
   have hns21_0 := NB279_290.out
   have hns21_1 := NB280_290.out
   have hms21_0 := NB290_279.out
   have hms21_1 := NB290_280.out
   have hs22 : w20.cell? ⟨gb290, 1, none⟩ = some (.int .i64 0) := (blk_cell BK290.out 1).trans rfl
   have hfs22 := blk_frozen BK290.out 1
   have hns22_0 := NB279_290.out
   have hns22_1 := NB280_290.out
   have hms22_0 := NB290_279.out
   have hms22_1 := NB290_280.out
   have hs23 : w20.cell? ⟨gb290, 2, none⟩ = some (.int .i64 0) := (blk_cell BK290.out 2).trans rfl
   have hfs23 := blk_frozen BK290.out 2
   have hns23_0 := NB279_290.out
   have hns23_1 := NB280_290.out
   have hms23_0 := NB290_279.out
   have hms23_1 := NB290_280.out
   have hs24 : w20.cell? ⟨gb290, 3, none⟩ = some (.int .i64 0) := (blk_cell BK290.out 3).trans rfl
   have hfs24 := blk_frozen BK290.out 3
   have hns24_0 := NB279_290.out
   have hns24_1 := NB280_290.out
   have hms24_0 := NB290_279.out
   have hms24_1 := NB290_280.out
   refine skip_ (w1 := ?_) (by rfl) rfl ?_ ?_
   rotate_left
   ·go_simp
    rfl
   refine hK.out _ _ ⟨((cell_far (p := ⟨gb290, _, none⟩) NB279_290.out _).trans (((cell_far (p := ⟨gb290, _, none⟩) NB279_290.out _).trans (((cell_far (p := ⟨gb290, _, none⟩) NB279_290.out _).trans (((cell_far (p := ⟨gb290, _, none⟩) NB279_290.out _).trans (hHeld.1)))))))), ((cell_far (p := ⟨gb290, _, none⟩) NB279_290.out _).trans (((cell_far (p := ⟨gb290, _, none⟩) NB279_290.out _).trans (((cell_far (p := ⟨gb290, _, none⟩) NB279_290.out _).trans (((cell_far (p := ⟨gb290, _, none⟩) NB279_290.out _).trans (hHeld.2.1)))))))), ((cell_far (p := ⟨gb290, _, none⟩) NB279_290.out _).trans (((cell_far (p := ⟨gb290, _, none⟩) NB279_290.out _).trans (((cell_far (p := ⟨gb290, _, none⟩) NB279_290.out _).trans (((cell_far (p := ⟨gb290, _, none⟩) NB279_290.out _).trans (hHeld.2.2.1)))))))), ((cell_far (p := ⟨gb290, _, none⟩) NB279_290.out _).trans (((cell_far (p := ⟨gb290, _, none⟩) NB279_290.out _).trans (((cell_far (p := ⟨gb290, _, none⟩) NB279_290.out _).trans (((cell_far (p := ⟨gb290, _, none⟩) NB279_290.out _).trans (hHeld.2.2.2.1)))))))), ((cell_far (p := ⟨gb290, _, none⟩) NB279_290.out _).trans (((cell_far (p := ⟨gb290, _, none⟩) NB279_290.out _).trans (((cell_far (p := ⟨gb290, _, none⟩) NB279_290.out _).trans (((cell_far (p := ⟨gb290, _, none⟩) NB279_290.out _).trans (hHeld.2.2.2.2.1)))))))), ((cell_far (p := ⟨gb290, _, none⟩) NB279_290.out _).trans (((cell_far (p := ⟨gb290, _, none⟩) NB279_290.out _).trans (((cell_far (p := ⟨gb290, _, none⟩) NB279_290.out _).trans (((cell_far (p := ⟨gb290, _, none⟩) NB279_290.out _).trans (hHeld.2.2.2.2.2.1)))))))), ((cell_far (p := ⟨gb290, _, none⟩) NB279_290.out _).trans (((cell_far (p := ⟨gb290, _, none⟩) NB279_290.out _).trans (((cell_far (p := ⟨gb290, _, none⟩) NB279_290.out _).trans (((cell_far (p := ⟨gb290, _, none⟩) NB279_290.out _).trans (hHeld.2.2.2.2.2.2.1)))))))), ((cell_far (p := ⟨gb290, _, none⟩) NB279_290.out _).trans (((cell_far (p := ⟨gb290, _, none⟩) NB279_290.out _).trans (((cell_far (p := ⟨gb290, _, none⟩) NB279_290.out _).trans (((cell_far (p := ⟨gb290, _, none⟩) NB279_290.out _).trans (hHeld.2.2.2.2.2.2.2.1)))))))), ((cell_far (p := ⟨gb290, _, none⟩) NB279_290.out _).trans (((cell_far (p := ⟨gb290, _, none⟩) NB279_290.out _).trans (((cell_far (p := ⟨gb290, _, none⟩) NB279_290.out _).trans (((cell_far (p := ⟨gb290, _, none⟩) NB279_290.out _).trans (hHeld.2.2.2.2.2.2.2.2.1)))))))), ((cell_far (p := ⟨gb290, _, none⟩) NB280_290.out _).trans (((cell_far (p := ⟨gb290, _, none⟩) NB280_290.out _).trans (((cell_far (p := ⟨gb290, _, none⟩) NB280_290.out _).trans (((cell_far (p := ⟨gb290, _, none⟩) NB280_290.out _).trans (hHeld.2.2.2.2.2.2.2.2.2.1)))))))), ((cell_far (p := ⟨gb290, _, none⟩) NB280_290.out _).trans (((cell_far (p := ⟨gb290, _, none⟩) NB280_290.out _).trans (((cell_far (p := ⟨gb290, _, none⟩) NB280_290.out _).trans (((cell_far (p := ⟨gb290, _, none⟩) NB280_290.out _).trans (hHeld.2.2.2.2.2.2.2.2.2.2.1)))))))), ((cell_far (p := ⟨gb290, _, none⟩) NB280_290.out _).trans (((cell_far (p := ⟨gb290, _, none⟩) NB280_290.out _).trans (((cell_far (p := ⟨gb290, _, none⟩) NB280_290.out _).trans (((cell_far (p := ⟨gb290, _, none⟩) NB280_290.out _).trans (hHeld.2.2.2.2.2.2.2.2.2.2.2.1)))))))), ((cell_far (p := ⟨gb290, _, none⟩) NB280_290.out _).trans (((cell_far (p := ⟨gb290, _, none⟩) NB280_290.out _).trans (((cell_far (p := ⟨gb290, _, none⟩) NB280_290.out _).trans (((cell_far (p := ⟨gb290, _, none⟩) NB280_290.out _).trans (hHeld.2.2.2.2.2.2.2.2.2.2.2.2.1)))))))), ((cell_far (p := ⟨gb290, _, none⟩) NB280_290.out _).trans (((cell_far (p := ⟨gb290, _, none⟩) NB280_290.out _).trans (((cell_far (p := ⟨gb290, _, none⟩) NB280_290.out _).trans (((cell_far (p := ⟨gb290, _, none⟩) NB280_290.out _).trans (hHeld.2.2.2.2.2.2.2.2.2.2.2.2.2.1)))))))), ((cell_far (p := ⟨gb290, _, none⟩) NB280_290.out _).trans (((cell_far (p := ⟨gb290, _, none⟩) NB280_290.out _).trans (((cell_far (p := ⟨gb290, _, none⟩) NB280_290.out _).trans (((cell_far (p := ⟨gb290, _, none⟩) NB280_290.out _).trans (hHeld.2.2.2.2.2.2.2.2.2.2.2.2.2.2.1)))))))), ((cell_far (p := ⟨gb290, _, none⟩) NB280_290.out _).trans (((cell_far (p := ⟨gb290, _, none⟩) NB280_290.out _).trans (((cell_far (p := ⟨gb290, _, none⟩) NB280_290.out _).trans (((cell_far (p := ⟨gb290, _, none⟩) NB280_290.out _).trans (hHeld.2.2.2.2.2.2.2.2.2.2.2.2.2.2.2))))))))⟩ (fun hHeld => ?_)
   clear hK K
   refine zpz (i := 10) (N := some 4) (any_of HT_.out zq1) ?_
   refine done_ (done_of HT_.out zq1) ?_
   have hnb25 := NB280_290.out
   have hnc25 := NB290_280.out
   obtain ⟨hcz26_0, hcz26_1, hcz26_2, hcz26_3, hcz26_4, hcz26_5, hcz26_6, hfz26_0, hfz26_1, hfz26_2, hfz26_3, hfz26_4, hfz26_5, hfz26_6⟩ := zce7 BK280.out
   try go_wp2_with (first | ((with_reducible refine gate_callee (f := 37) rfl ?_); refine goesL_ (some 22) rfl rfl Try.func37 zq1 rfl #[.agg #[.int .i64 t272, .int .i64 t273, .int .i64 t274, .int .i64 t275, .int .i64 t276, .int .i64 t277, .int .i64 t278], .agg #[.int .i64 300, .int .i64 310]] rfl zq6 ?_; (with_reducible refine (glider_Lasts.calls k t272 t273 t274 t275 t276 t277 t278 300 310 t291 t292 _ A4.out).mono ?_); rintro e w27 ⟨rfl, hb⟩; refine ⟨_, rfl, ?_⟩; have n0_ := Aside0.mk (Kd.R_below (by (with_reducible repeat (first | apply Kd.R_alloc | apply Kd.R_drewN | apply Kd.R_drew)); exact (Kd.R_mono (Kd.R_far (p := ⟨gb290, 3, none⟩) (Kd.R_far (p := ⟨gb290, 2, none⟩) (Kd.R_far (p := ⟨gb290, 1, none⟩) (Kd.R_far (p := ⟨gb290, 0, none⟩) (Kd.R_types HO268.out BK290.out (by decide)) (fun _ hk => hk.2) (.int .i64 t285)) (fun _ hk => hk.2) (.int .i64 t286)) (fun _ hk => hk.2) (.int .i64 t287)) (fun _ hk => hk.2) (.int .i64 t288)) (fun _ h_ => h_.1))) hb); have n1_ := Aside0.mk (Kd.R_below (by (with_reducible repeat (first | apply Kd.R_alloc | apply Kd.R_drewN | apply Kd.R_drew)); exact (Kd.R_mono (Kd.R_far (p := ⟨gb290, 3, none⟩) (Kd.R_far (p := ⟨gb290, 2, none⟩) (Kd.R_far (p := ⟨gb290, 1, none⟩) (Kd.R_far (p := ⟨gb290, 0, none⟩) (Kd.R_types HO271.out BK290.out (by decide)) (fun _ hk => hk.2) (.int .i64 t285)) (fun _ hk => hk.2) (.int .i64 t286)) (fun _ hk => hk.2) (.int .i64 t287)) (fun _ hk => hk.2) (.int .i64 t288)) (fun _ h_ => h_.1))) hb); have n2_ := zbb BK279 hb; have n3_ := zbb BK280 hb; have n4_ := Aside0.mk (blk_below (g := gb290) (o := .cells #[.int .i64 t285, .int .i64 t286, .int .i64 t287, .int .i64 t288] 31 (0, 0)) (by (with_reducible repeat (first | refine blk_drewN ?_ _ | refine blk_drew ?_ | refine blk_alloc ?_ _)); refine blk_put (cs := #[.int .i64 t285, .int .i64 t286, .int .i64 t287, .int .i64 0]) ?_ 3 _ rfl; (with_reducible repeat (first | refine blk_drewN ?_ _ | refine blk_drew ?_ | refine blk_alloc ?_ _)); refine blk_put (cs := #[.int .i64 t285, .int .i64 t286, .int .i64 0, .int .i64 0]) ?_ 2 _ rfl; (with_reducible repeat (first | refine blk_drewN ?_ _ | refine blk_drew ?_ | refine blk_alloc ?_ _)); refine blk_put (cs := #[.int .i64 t285, .int .i64 0, .int .i64 0, .int .i64 0]) ?_ 1 _ rfl; (with_reducible repeat (first | refine blk_drewN ?_ _ | refine blk_drew ?_ | refine blk_alloc ?_ _)); refine blk_put (cs := #[.int .i64 0, .int .i64 0, .int .i64 0, .int .i64 0]) ?_ 0 _ rfl; (with_reducible repeat (first | refine blk_drewN ?_ _ | refine blk_drew ?_ | refine blk_alloc ?_ _)); exact BK290.out) hb); have n5_ := zbs HB hb; clear HO268; clear HO271; clear BK279; clear BK280; clear BK290; clear HB; have HO268 := n0_; have HO271 := n1_; have BK279 := n2_; have BK280 := n3_; have BK290 := n4_; have HB := n5_; clear n0_ n1_ n2_ n3_ n4_ n5_; (try clear hb); (try clear hb2); (try clear hk); (try clear hi); have hnb28 := NB290_279.out; have hnc28 := NB279_290.out; obtain ⟨hcz29_0, hcz29_1, hcz29_2, hcz29_3, hfz29_0, hfz29_1, hfz29_2, hfz29_3⟩ := zce4 BK290.out))
   go_ret
   exact ⟨zq5, zbz⟩
  ·rw [if_neg c6] at H
   have c6b0 : (t291 == 3) = false := beq_eq_false_iff_ne.mpr c6
   have c6b1 : (t291 != 3) = true := bne_iff_ne.mpr c6
   have hh_ := Option.some.inj H
   rw [hr_.out] at hh_
   cases hh_
 ·rw [if_neg c5] at H
  have c5b0 : ((wrap64 (t289 + t292)) == 0) = false := beq_eq_false_iff_ne.mpr c5
  have c5b1 : ((wrap64 (t289 + t292)) != 0) = true := bne_iff_ne.mpr c5
  have hh_ := Option.some.inj H
  rw [hr_.out] at hh_
  cases hh_

end Go.Proofs.Ytmhaiihjfgfaoaa.Pr
end
