/- Part 23 of the proof of GliderStays: what the functions compute. No condition. -/
import Derived.Test.YtmhaiihjfgfaoaaGyGliderStays3
import Derived.Test.YtmhaiihjfgfaoaaGyGliderStays6
import Derived.Test.YtmhaiihjfgfaoaaGyGliderStays16
import Derived.Test.YtmhaiihjfgfaoaaGyGliderStays22
section
namespace Go.Proofs.Ytmhaiihjfgfaoaa.Pr
open Go.RowKit Go.Proofs.YtmhaiihjfgfaoaaW.PrintWords Go.Proofs.YtmhaiihjfgfaoaaW.PrintLast Go.Proofs.YtmhaiihjfgfaoaaW.PrintMore
attribute [local go_sem] max2_int min2_int max_two min_two max_four
set_option linter.unusedVariables false
set_option linter.unusedSimpArgs false

/-! ### isobathlaw03_GliderStays: function 12 -/
mutual
def isobathlaw03_GliderStays.j0 : Nat → Int → List (S31) → List (S33) → Bool → Int → Int → Int → Int → Int → Int → Int → List Bool → List (S40) → Int → Int → Int → Int → Int → Int → Int → Int → Int → Int → Int → Option (Bool)
 | 0, _, _, _, _, _, _, _, _, _, _, _, _, _, _, _, _, _, _, _, _, _, _, _, _ => none
 | k + 1, x3, x4, x5, x35, x847000, x847001, x847002, x847003, x847004, x847005, x847006, x847007, x847008, x848000, x848001, x848002, x848003, x848004, x848005, x848006, x849000, x849001, x849002, x849003 => if x35 = true then ((isobathlaw03_Works.f k).bind fun t850 => (some t850)) else ((glider_Reach.f x847000 x847001 x847002 x847003 x847004 x847005 x847006 x847007 x847008 x848000 x848001 x848002 x848003 x848004 x848005 x848006 x849000 x849001 x849002 x849003 x3 (x5.length : Int)).bind fun bt851 => (if bt851.2 = 0 then (if (bt851.1.length : Int) = (x5.length : Int) then ((glider_CheckReach.f x847000 x847001 x847002 x847003 x847004 x847005 x847006 x847007 x847008 x848000 x848001 x848002 x848003 x848004 x848005 x848006 x849000 x849001 x849002 x849003 x3 bt851.1).bind fun t855 => (isobathlaw03_GliderStays.j1 k x3 x4 x5 bt851.1 bt851.2 (t855 != 0) x847000 x847001 x847002 x847003 x847004 x847005 x847006 x847007 x847008 x848000 x848001 x848002 x848003 x848004 x848005 x848006 x849000 x849001 x849002 x849003)) else (isobathlaw03_GliderStays.j1 k x3 x4 x5 bt851.1 bt851.2 true x847000 x847001 x847002 x847003 x847004 x847005 x847006 x847007 x847008 x848000 x848001 x848002 x848003 x848004 x848005 x848006 x849000 x849001 x849002 x849003)) else (isobathlaw03_GliderStays.j1 k x3 x4 x5 bt851.1 bt851.2 false x847000 x847001 x847002 x847003 x847004 x847005 x847006 x847007 x847008 x848000 x848001 x848002 x848003 x848004 x848005 x848006 x849000 x849001 x849002 x849003)))
def isobathlaw03_GliderStays.j1 : Nat → Int → List (S31) → List (S33) → List (S31) → Int → Bool → Int → Int → Int → Int → Int → Int → Int → List Bool → List (S40) → Int → Int → Int → Int → Int → Int → Int → Int → Int → Int → Int → Option (Bool)
 | 0, _, _, _, _, _, _, _, _, _, _, _, _, _, _, _, _, _, _, _, _, _, _, _, _, _, _ => none
 | k + 1, x3, x4, x5, x13, x14, x64, x847000, x847001, x847002, x847003, x847004, x847005, x847006, x847007, x847008, x848000, x848001, x848002, x848003, x848004, x848005, x848006, x849000, x849001, x849002, x849003 => if x64 = true then (some false) else ((glider_Run.f x847000 x847001 x847002 x847003 x847004 x847005 x847006 x847007 x847008 x848000 x848001 x848002 x848003 x848004 x848005 x848006 x849000 x849001 x849002 x849003 x3 x5).bind fun bt856 => (if bt856.2.2 = 0 then (if (bt856.1.length : Int) = (x5.length : Int) then (isobathlaw03_GliderStays.l0 k x3 x4 x13 x14 bt856.1 0 x847000 x847001 x847002 x847003 x847004 x847005 x847006 x847007 x847008 x848000 x848001 x848002 x848003 x848004 x848005 x848006 x849000 x849001 x849002 x849003) else (some false)) else ((isobathlaw03_Works.f k).bind fun t861 => (some t861))))
def isobathlaw03_GliderStays.l0 : Nat → Int → List (S31) → List (S31) → Int → List (S31) → Int → Int → Int → Int → Int → Int → Int → Int → List Bool → List (S40) → Int → Int → Int → Int → Int → Int → Int → Int → Int → Int → Int → Option (Bool)
 | 0, _, _, _, _, _, _, _, _, _, _, _, _, _, _, _, _, _, _, _, _, _, _, _, _, _, _ => none
 | k + 1, x3, x4, x13, x14, x15, x18, x847000, x847001, x847002, x847003, x847004, x847005, x847006, x847007, x847008, x848000, x848001, x848002, x848003, x848004, x848005, x848006, x849000, x849001, x849002, x849003 => if x18 < (x15.length : Int) then (isobathlaw03_GliderStays.j3 k x3 x4 x13 x14 x15 x18 (x14 == 0) x847000 x847001 x847002 x847003 x847004 x847005 x847006 x847007 x847008 x848000 x848001 x848002 x848003 x848004 x848005 x848006 x849000 x849001 x849002 x849003) else (isobathlaw03_GliderStays.j3 k x3 x4 x13 x14 x15 x18 false x847000 x847001 x847002 x847003 x847004 x847005 x847006 x847007 x847008 x848000 x848001 x848002 x848003 x848004 x848005 x848006 x849000 x849001 x849002 x849003)
def isobathlaw03_GliderStays.j3 : Nat → Int → List (S31) → List (S31) → Int → List (S31) → Int → Bool → Int → Int → Int → Int → Int → Int → Int → List Bool → List (S40) → Int → Int → Int → Int → Int → Int → Int → Int → Int → Int → Int → Option (Bool)
 | 0, _, _, _, _, _, _, _, _, _, _, _, _, _, _, _, _, _, _, _, _, _, _, _, _, _, _, _ => none
 | k + 1, x3, x4, x13, x14, x15, x18, x90, x847000, x847001, x847002, x847003, x847004, x847005, x847006, x847007, x847008, x848000, x848001, x848002, x848003, x848004, x848005, x848006, x849000, x849001, x849002, x849003 => if x90 = true then (if 0 ≤ x18 then (if x18 < (x15.length : Int) then (if x18 < (x13.length : Int) then ((isobathlaw03_within.f ((rd_T31 x15 x18).f0.f0) ((rd_T31 x15 x18).f0.f1) ((rd_T31 x15 x18).f1.f0) ((rd_T31 x15 x18).f1.f1) ((rd_T31 x13 x18).f0.f0) ((rd_T31 x13 x18).f0.f1) ((rd_T31 x13 x18).f1.f0) ((rd_T31 x13 x18).f1.f1)).bind fun t864 => (if t864 = true then (isobathlaw03_GliderStays.l0 k x3 x4 x13 x14 x15 (wrap64 (x18 + 1)) x847000 x847001 x847002 x847003 x847004 x847005 x847006 x847007 x847008 x848000 x848001 x848002 x848003 x848004 x848005 x848006 x849000 x849001 x849002 x849003) else (some false))) else (none)) else (none)) else (none)) else ((glider_CheckReach.f x847000 x847001 x847002 x847003 x847004 x847005 x847006 x847007 x847008 x848000 x848001 x848002 x848003 x848004 x848005 x848006 x849000 x849001 x849002 x849003 x3 x4).bind fun t865 => (if t865 = 0 then (isobathlaw03_GliderStays.l1 k x4 x15 0) else ((isobathlaw03_Works.f k).bind fun t870 => (some t870))))
def isobathlaw03_GliderStays.l1 : Nat → List (S31) → List (S31) → Int → Option (Bool)
 | 0, _, _, _ => none
 | k + 1, x4, x15, x19 => if x19 < (x15.length : Int) then (isobathlaw03_GliderStays.j5 k x4 x15 x19 (decide (x19 < (x4.length : Int)))) else (isobathlaw03_GliderStays.j5 k x4 x15 x19 false)
def isobathlaw03_GliderStays.j5 : Nat → List (S31) → List (S31) → Int → Bool → Option (Bool)
 | 0, _, _, _, _ => none
 | k + 1, x4, x15, x19, x119 => if x119 = true then (if 0 ≤ x19 then (if x19 < (x15.length : Int) then (if x19 < (x4.length : Int) then ((isobathlaw03_within.f ((rd_T31 x15 x19).f0.f0) ((rd_T31 x15 x19).f0.f1) ((rd_T31 x15 x19).f1.f0) ((rd_T31 x15 x19).f1.f1) ((rd_T31 x4 x19).f0.f0) ((rd_T31 x4 x19).f0.f1) ((rd_T31 x4 x19).f1.f0) ((rd_T31 x4 x19).f1.f1)).bind fun t868 => (if t868 = true then (isobathlaw03_GliderStays.l1 k x4 x15 (wrap64 (x19 + 1))) else (some false))) else (none)) else (none)) else (none)) else ((isobathlaw03_Works.f k).bind fun t869 => (some t869))
end
def isobathlaw03_GliderStays.f (k : Nat) (a0_0 : Int) (a0_1 : Int) (a0_2 : Int) (a0_3 : Int) (a0_4 : Int) (a0_5 : Int) (a0_6 : Int) (l0_7 : List Bool) (l0_8 : List (S40)) (a1_0 : Int) (a1_1 : Int) (a1_2 : Int) (a1_3 : Int) (a1_4 : Int) (a1_5 : Int) (a1_6 : Int) (a2_0 : Int) (a2_1 : Int) (a2_2 : Int) (a2_3 : Int) (a3 : Int) (l4 : List (S31)) (l5 : List (S33)) : Option (Bool) := (isobathlaw03_valid.f k a0_0 a0_1 a0_2 a0_3 a0_4 a0_5 a0_6 l0_7 l0_8 a1_0 a1_1 a1_2 a1_3 a1_4 a1_5 a1_6 a2_0 a2_1 a2_2 a2_3 a3).bind fun t849 => (if t849 = true then (if (l4.length : Int) > 6 then (isobathlaw03_GliderStays.j0 k a3 l4 l5 true a0_0 a0_1 a0_2 a0_3 a0_4 a0_5 a0_6 l0_7 l0_8 a1_0 a1_1 a1_2 a1_3 a1_4 a1_5 a1_6 a2_0 a2_1 a2_2 a2_3) else (isobathlaw03_GliderStays.j0 k a3 l4 l5 (decide ((l5.length : Int) > 6)) a0_0 a0_1 a0_2 a0_3 a0_4 a0_5 a0_6 l0_7 l0_8 a1_0 a1_1 a1_2 a1_3 a1_4 a1_5 a1_6 a2_0 a2_1 a2_2 a2_3)) else (isobathlaw03_GliderStays.j0 k a3 l4 l5 true a0_0 a0_1 a0_2 a0_3 a0_4 a0_5 a0_6 l0_7 l0_8 a1_0 a1_1 a1_2 a1_3 a1_4 a1_5 a1_6 a2_0 a2_1 a2_2 a2_3))
def isobathlaw03_GliderStays.T14 : Bool × List (List Nat × List Nat) := (true, [([], []), ([], []), ([0, 1], [0, 1]), ([2], [2]), ([], []), ([], []), ([4, 5], [4, 5]), ([6], [6]), ([3, 7], [3, 7]), ([8], [8])])
def isobathlaw03_GliderStays.B14 : List Nat := [0, 0, 3, 7, 0, 0, 48, 112, 255, 511]
theorem isobathlaw03_GliderStays.tab14 : rtab .any (opsOf Try.f12 14) = isobathlaw03_GliderStays.T14 := by kernel_rfl
theorem isobathlaw03_GliderStays.bits14 : waitsOk isobathlaw03_GliderStays.T14.2 isobathlaw03_GliderStays.B14 = true := by kernel_rfl
def isobathlaw03_GliderStays.T20 : Bool × List (List Nat × List Nat) := (true, [([], []), ([], []), ([0, 1], [0, 1]), ([2], [2]), ([], []), ([], []), ([4, 5], [4, 5]), ([6], [6]), ([3, 7], [3, 7]), ([8], [8])])
def isobathlaw03_GliderStays.B20 : List Nat := [0, 0, 3, 7, 0, 0, 48, 112, 255, 511]
theorem isobathlaw03_GliderStays.tab20 : rtab .any (opsOf Try.f12 20) = isobathlaw03_GliderStays.T20 := by kernel_rfl
theorem isobathlaw03_GliderStays.bits20 : waitsOk isobathlaw03_GliderStays.T20.2 isobathlaw03_GliderStays.B20 = true := by kernel_rfl
set_option maxHeartbeats 8000000 in
set_option maxRecDepth 100000 in
theorem isobathlaw03_GliderStays.calls (k : Nat) (a0_0 : Int) (a0_1 : Int) (a0_2 : Int) (a0_3 : Int) (a0_4 : Int) (a0_5 : Int) (a0_6 : Int) (A0_7 : Option Addr) (c0_7 : Nat) (l0_7 : List Bool) (A0_8 : Option Addr) (c0_8 : Nat) (l0_8 : List (S40)) (a1_0 : Int) (a1_1 : Int) (a1_2 : Int) (a1_3 : Int) (a1_4 : Int) (a1_5 : Int) (a1_6 : Int) (a2_0 : Int) (a2_1 : Int) (a2_2 : Int) (a2_3 : Int) (a3 : Int) (A4 : Option Addr) (c4 : Nat) (l4 : List (S31)) (A5 : Option Addr) (c5 : Nat) (l5 : List (S33)) (r : Bool) (w : World) (hr0_7 : Kd.C Kd.bool w A0_7 l0_7.length l0_7) (hc0_7 : l0_7.length ≤ c0_7) (hr0_8 : Kd.C k40 w A0_8 l0_8.length l0_8) (hc0_8 : l0_8.length ≤ c0_8) (hr4 : Kd.C k31 w A4 l4.length l4) (hc4 : l4.length ≤ c4) (hr5 : Kd.C k33 w A5 l5.length l5) (hc5 : l5.length ≤ c5) (h : isobathlaw03_GliderStays.f k a0_0 a0_1 a0_2 a0_3 a0_4 a0_5 a0_6 l0_7 l0_8 a1_0 a1_1 a1_2 a1_3 a1_4 a1_5 a1_6 a2_0 a2_1 a2_2 a2_3 a3 l4 l5 = some r) (hr_ : Aside0 (r = true)) :
  Calls Try.prog 12 #[.agg #[.int .i64 a0_0, .int .i64 a0_1, .int .i64 a0_2, .int .i64 a0_3, .int .i64 a0_4, .int .i64 a0_5, .int .i64 a0_6, .slice A0_7 l0_7.length c0_7, .slice A0_8 l0_8.length c0_8], .agg #[.int .i64 a1_0, .int .i64 a1_1, .int .i64 a1_2, .int .i64 a1_3, .int .i64 a1_4, .int .i64 a1_5, .int .i64 a1_6], .agg #[.int .i64 a2_0, .int .i64 a2_1, .int .i64 a2_2, .int .i64 a2_3], .int .i64 a3, .slice A4 l4.length c4, .slice A5 l5.length c5] w fun e w' => e = .returned (.bool r) ∧ Below w.heap.size w w' := by
 have hu25 := Try.underlying25
 have hu29 := Try.underlying29
 have hu31 := Try.underlying31
 have HR0_7 := Aside0.mk hr0_7
 have HC0_7 := Aside0.mk hc0_7
 clear hr0_7 hc0_7
 have HR0_8 := Aside0.mk hr0_8
 have HC0_8 := Aside0.mk hc0_8
 clear hr0_8 hc0_8
 have HR4 := Aside0.mk hr4
 have HC4 := Aside0.mk hc4
 clear hr4 hc4
 have HR5 := Aside0.mk hr5
 have HC5 := Aside0.mk hc5
 clear hr5 hc5
 have HB := Aside0.mk (Below.refl w.heap.size w)
 have H : ((isobathlaw03_valid.f k a0_0 a0_1 a0_2 a0_3 a0_4 a0_5 a0_6 l0_7 l0_8 a1_0 a1_1 a1_2 a1_3 a1_4 a1_5 a1_6 a2_0 a2_1 a2_2 a2_3 a3).bind fun t849 => (if t849 = true then (if (l4.length : Int) > 6 then (isobathlaw03_GliderStays.j0 k a3 l4 l5 true a0_0 a0_1 a0_2 a0_3 a0_4 a0_5 a0_6 l0_7 l0_8 a1_0 a1_1 a1_2 a1_3 a1_4 a1_5 a1_6 a2_0 a2_1 a2_2 a2_3) else (isobathlaw03_GliderStays.j0 k a3 l4 l5 (decide ((l5.length : Int) > 6)) a0_0 a0_1 a0_2 a0_3 a0_4 a0_5 a0_6 l0_7 l0_8 a1_0 a1_1 a1_2 a1_3 a1_4 a1_5 a1_6 a2_0 a2_1 a2_2 a2_3)) else (isobathlaw03_GliderStays.j0 k a3 l4 l5 true a0_0 a0_1 a0_2 a0_3 a0_4 a0_5 a0_6 l0_7 l0_8 a1_0 a1_1 a1_2 a1_3 a1_4 a1_5 a1_6 a2_0 a2_1 a2_2 a2_3))) = some r := h
 clear h
 have HC7 := Aside0.mk H
 clear H
 go_enter Try.func12, Try.ntmps12
 go_upto_region 1 with (first | ((with_reducible refine gate_dst (N := 6) rfl ?_); (try (refine gate_guard (by rfl) ?_; dsimp only)); refine box_event (by rfl) (N := 6) (by rfl) (cs := #[.int .i64 a0_0, .int .i64 a0_1, .int .i64 a0_2, .int .i64 a0_3, .int .i64 a0_4, .int .i64 a0_5, .int .i64 a0_6, .slice A0_7 l0_7.length c0_7, .slice A0_8 l0_8.length c0_8]) (t := 25) zq1 ?_; intro gb846 hg w8 hbox hb; have BK846 := Aside0.mk (hbox); have GW846 := zgs HB hg; have GE846 := zgs HB hg; replace HB := zbs HB hb; clear hb hbox hg) | ((with_reducible refine gate_dst (N := 7) rfl ?_); (try (refine gate_guard (by rfl) ?_; dsimp only)); refine box_event (by rfl) (N := 7) (by rfl) (cs := #[.int .i64 a1_0, .int .i64 a1_1, .int .i64 a1_2, .int .i64 a1_3, .int .i64 a1_4, .int .i64 a1_5, .int .i64 a1_6]) (t := 29) zq1 ?_; intro gb847 hg w9 hbox hb; have BK847 := Aside0.mk (hbox); have GW847 := zgs HB hg; have GE847 := zgs HB hg; have NB846_847 := znp BK846 hg; have NB847_846 := znq BK846 hg; replace BK846 := zbb BK846 hb; replace HB := zbs HB hb; clear hb hbox hg) | ((with_reducible refine gate_dst (N := 8) rfl ?_); (try (refine gate_guard (by rfl) ?_; dsimp only)); refine box_event (by rfl) (N := 8) (by rfl) (cs := #[.int .i64 a2_0, .int .i64 a2_1, .int .i64 a2_2, .int .i64 a2_3]) (t := 31) zq1 ?_; intro gb848 hg w10 hbox hb; have BK848 := Aside0.mk (hbox); have GW848 := zgs HB hg; have GE848 := zgs HB hg; have NB846_848 := znp BK846 hg; have NB848_846 := znq BK846 hg; have NB847_848 := znp BK847 hg; have NB848_847 := znq BK847 hg; replace BK846 := zbb BK846 hb; replace BK847 := zbb BK847 hb; replace HB := zbs HB hb; clear hb hbox hg))
 (try simp only [Act.put, List.setIfInBounds_toArray, List.set_cons_zero, List.set_cons_succ])
 go_cut [35] (fun v35 wc => ∃ (kq : Nat) (x35_6 : Bool), v35 = .bool x35_6 ∧ Aside0 (isobathlaw03_GliderStays.j0 kq a3 l4 l5 x35_6 a0_0 a0_1 a0_2 a0_3 a0_4 a0_5 a0_6 l0_7 l0_8 a1_0 a1_1 a1_2 a1_3 a1_4 a1_5 a1_6 a2_0 a2_1 a2_2 a2_3 = some r) ∧ Aside0 (kq ≤ k) ∧ Aside0 (wc.heap[gb846]? = some (.cells #[.int .i64 a0_0, .int .i64 a0_1, .int .i64 a0_2, .int .i64 a0_3, .int .i64 a0_4, .int .i64 a0_5, .int .i64 a0_6, (.slice A0_7 l0_7.length c0_7), (.slice A0_8 l0_8.length c0_8)] 25 (0, 0))) ∧ Aside0 (wc.heap[gb847]? = some (.cells #[.int .i64 a1_0, .int .i64 a1_1, .int .i64 a1_2, .int .i64 a1_3, .int .i64 a1_4, .int .i64 a1_5, .int .i64 a1_6] 29 (0, 0))) ∧ Aside0 (wc.heap[gb848]? = some (.cells #[.int .i64 a2_0, .int .i64 a2_1, .int .i64 a2_2, .int .i64 a2_3] 31 (0, 0))) ∧ Aside0 (Below w.heap.size w wc))
 case first =>
  have H := HC7.out
  clear HC7
  replace H := Option.bind_eq_some_iff.mp H
  obtain ⟨t849, A110, H⟩ := H
  replace H : (if t849 = true then (if (l4.length : Int) > 6 then (isobathlaw03_GliderStays.j0 k a3 l4 l5 true a0_0 a0_1 a0_2 a0_3 a0_4 a0_5 a0_6 l0_7 l0_8 a1_0 a1_1 a1_2 a1_3 a1_4 a1_5 a1_6 a2_0 a2_1 a2_2 a2_3) else (isobathlaw03_GliderStays.j0 k a3 l4 l5 (decide ((l5.length : Int) > 6)) a0_0 a0_1 a0_2 a0_3 a0_4 a0_5 a0_6 l0_7 l0_8 a1_0 a1_1 a1_2 a1_3 a1_4 a1_5 a1_6 a2_0 a2_1 a2_2 a2_3)) else (isobathlaw03_GliderStays.j0 k a3 l4 l5 true a0_0 a0_1 a0_2 a0_3 a0_4 a0_5 a0_6 l0_7 l0_8 a1_0 a1_1 a1_2 a1_3 a1_4 a1_5 a1_6 a2_0 a2_1 a2_2 a2_3)) = some r := H
  have A11 := Aside0.mk A110
  clear A110
  by_cases c12 : t849 = true
  ·subst c12
   have H1 : (if (l4.length : Int) > 6 then (isobathlaw03_GliderStays.j0 k a3 l4 l5 true a0_0 a0_1 a0_2 a0_3 a0_4 a0_5 a0_6 l0_7 l0_8 a1_0 a1_1 a1_2 a1_3 a1_4 a1_5 a1_6 a2_0 a2_1 a2_2 a2_3) else (isobathlaw03_GliderStays.j0 k a3 l4 l5 (decide ((l5.length : Int) > 6)) a0_0 a0_1 a0_2 a0_3 a0_4 a0_5 a0_6 l0_7 l0_8 a1_0 a1_1 a1_2 a1_3 a1_4 a1_5 a1_6 a2_0 a2_1 a2_2 a2_3)) = some r := by rw [if_pos rfl] at H; exact H
   clear H
   have H := H1
   clear H1
   by_cases c13 : (l4.length : Int) > 6
   ·rw [if_pos c13] at H
    have c13b0 : decide (6 < (l4.length : Int)) = true := decide_eq_true c13
    have c13b1 : decide (6 < l4.length) = true := decide_eq_true (by omega)
    clear c13
    (first | rw [c13b0] | (simp only [i64_w, i32_w]; rw [c13b0]) | skip)
    have H' := Aside0.mk H
    clear H
    have hnb14 := NB846_847.out
    have hnc14 := NB847_846.out
    have hnb15 := NB846_848.out
    have hnc15 := NB848_846.out
    obtain ⟨hcz16_0, hcz16_1, hcz16_2, hcz16_3, hcz16_4, hcz16_5, hcz16_6, hcz16_7, hcz16_8, hfz16_0, hfz16_1, hfz16_2, hfz16_3, hfz16_4, hfz16_5, hfz16_6, hfz16_7, hfz16_8⟩ := zce9 BK846.out
    have hnb17 := NB847_848.out
    have hnc17 := NB848_847.out
    obtain ⟨hcz18_0, hcz18_1, hcz18_2, hcz18_3, hcz18_4, hcz18_5, hcz18_6, hfz18_0, hfz18_1, hfz18_2, hfz18_3, hfz18_4, hfz18_5, hfz18_6⟩ := zce7 BK847.out
    obtain ⟨hcz19_0, hcz19_1, hcz19_2, hcz19_3, hfz19_0, hfz19_1, hfz19_2, hfz19_3⟩ := zce4 BK848.out
    go_wp2_with (first | ((with_reducible refine gate_callee (f := 18) rfl ?_); refine goesL_ (some 24) rfl rfl Try.func18 zq5 rfl #[.agg #[.int .i64 a0_0, .int .i64 a0_1, .int .i64 a0_2, .int .i64 a0_3, .int .i64 a0_4, .int .i64 a0_5, .int .i64 a0_6, .slice A0_7 l0_7.length c0_7, .slice A0_8 l0_8.length c0_8], .agg #[.int .i64 a1_0, .int .i64 a1_1, .int .i64 a1_2, .int .i64 a1_3, .int .i64 a1_4, .int .i64 a1_5, .int .i64 a1_6], .agg #[.int .i64 a2_0, .int .i64 a2_1, .int .i64 a2_2, .int .i64 a2_3], .int .i64 a3] rfl zq6 ?_; (with_reducible refine (isobathlaw03_valid.calls k a0_0 a0_1 a0_2 a0_3 a0_4 a0_5 a0_6 _ _ l0_7 _ _ l0_8 a1_0 a1_1 a1_2 a1_3 a1_4 a1_5 a1_6 a2_0 a2_1 a2_2 a2_3 a3 true _ ?side1 ?side2 ?side3 ?side4 A11.out).mono ?_); (case side1 => repeat (first | exact (Kd.C_below HR0_7.out HB.out) | (with_reducible refine Kd.C_alloc ?_ _) | (with_reducible refine Kd.C_drewN ?_ _) | (with_reducible refine Kd.C_drew ?_))); (case side2 => exact HC0_7.out); (case side3 => repeat (first | exact (Kd.C_below HR0_8.out HB.out) | (with_reducible refine Kd.C_alloc ?_ _) | (with_reducible refine Kd.C_drewN ?_ _) | (with_reducible refine Kd.C_drew ?_))); (case side4 => exact HC0_8.out); rintro e w20 ⟨rfl, hb⟩; refine ⟨_, rfl, ?_⟩; replace BK846 := zbb BK846 hb; replace BK847 := zbb BK847 hb; replace BK848 := zbb BK848 hb; replace HB := zbs HB hb; (try clear hb); (try clear hb2); (try clear hk); (try clear hi)))
    go_meet
    case rel => exact ⟨_, (true), zq3, H', ⟨zq7⟩, ⟨zbf⟩, ⟨zbf⟩, ⟨zbf⟩, ⟨zbz⟩⟩
   ·rw [if_neg c13] at H
    have c13b0 : decide (6 < (l4.length : Int)) = false := decide_eq_false c13
    have c13b1 : decide (6 < l4.length) = false := decide_eq_false (by omega)
    clear c13
    (first | rw [c13b0] | (simp only [i64_w, i32_w]; rw [c13b0]) | skip)
    have H' := Aside0.mk H
    clear H
    have hnb21 := NB846_847.out
    have hnc21 := NB847_846.out
    have hnb22 := NB846_848.out
    have hnc22 := NB848_846.out
    obtain ⟨hcz23_0, hcz23_1, hcz23_2, hcz23_3, hcz23_4, hcz23_5, hcz23_6, hcz23_7, hcz23_8, hfz23_0, hfz23_1, hfz23_2, hfz23_3, hfz23_4, hfz23_5, hfz23_6, hfz23_7, hfz23_8⟩ := zce9 BK846.out
    have hnb24 := NB847_848.out
    have hnc24 := NB848_847.out
    obtain ⟨hcz25_0, hcz25_1, hcz25_2, hcz25_3, hcz25_4, hcz25_5, hcz25_6, hfz25_0, hfz25_1, hfz25_2, hfz25_3, hfz25_4, hfz25_5, hfz25_6⟩ := zce7 BK847.out
    obtain ⟨hcz26_0, hcz26_1, hcz26_2, hcz26_3, hfz26_0, hfz26_1, hfz26_2, hfz26_3⟩ := zce4 BK848.out
    go_wp2_with (first | ((with_reducible refine gate_callee (f := 18) rfl ?_); refine goesL_ (some 24) rfl rfl Try.func18 zq5 rfl #[.agg #[.int .i64 a0_0, .int .i64 a0_1, .int .i64 a0_2, .int .i64 a0_3, .int .i64 a0_4, .int .i64 a0_5, .int .i64 a0_6, .slice A0_7 l0_7.length c0_7, .slice A0_8 l0_8.length c0_8], .agg #[.int .i64 a1_0, .int .i64 a1_1, .int .i64 a1_2, .int .i64 a1_3, .int .i64 a1_4, .int .i64 a1_5, .int .i64 a1_6], .agg #[.int .i64 a2_0, .int .i64 a2_1, .int .i64 a2_2, .int .i64 a2_3], .int .i64 a3] rfl zq6 ?_; (with_reducible refine (isobathlaw03_valid.calls k a0_0 a0_1 a0_2 a0_3 a0_4 a0_5 a0_6 _ _ l0_7 _ _ l0_8 a1_0 a1_1 a1_2 a1_3 a1_4 a1_5 a1_6 a2_0 a2_1 a2_2 a2_3 a3 true _ ?side1 ?side2 ?side3 ?side4 A11.out).mono ?_); (case side1 => repeat (first | exact (Kd.C_below HR0_7.out HB.out) | (with_reducible refine Kd.C_alloc ?_ _) | (with_reducible refine Kd.C_drewN ?_ _) | (with_reducible refine Kd.C_drew ?_))); (case side2 => exact HC0_7.out); (case side3 => repeat (first | exact (Kd.C_below HR0_8.out HB.out) | (with_reducible refine Kd.C_alloc ?_ _) | (with_reducible refine Kd.C_drewN ?_ _) | (with_reducible refine Kd.C_drew ?_))); (case side4 => exact HC0_8.out); rintro e w27 ⟨rfl, hb⟩; refine ⟨_, rfl, ?_⟩; replace BK846 := zbb BK846 hb; replace BK847 := zbb BK847 hb; replace BK848 := zbb BK848 hb; replace HB := zbs HB hb; (try clear hb); (try clear hb2); (try clear hk); (try clear hi)))
    go_meet
    case rel => exact ⟨_, (decide ((l5.length : Int) > 6)), zq3, H', ⟨zq7⟩, ⟨zbf⟩, ⟨zbf⟩, ⟨zbf⟩, ⟨zbz⟩⟩
  ·replace c12 := Bool.eq_false_iff.mpr c12
   subst c12
   have H1 : (isobathlaw03_GliderStays.j0 k a3 l4 l5 true a0_0 a0_1 a0_2 a0_3 a0_4 a0_5 a0_6 l0_7 l0_8 a1_0 a1_1 a1_2 a1_3 a1_4 a1_5 a1_6 a2_0 a2_1 a2_2 a2_3) = some r := by rw [if_neg (show ¬ (false = true) by decide)] at H; exact H
   clear H
   have H := H1
   clear H1
   have H' := Aside0.mk H
   clear H
   have hnb28 := NB846_847.out
   have hnc28 := NB847_846.out
   have hnb29 := NB846_848.out
   have hnc29 := NB848_846.out
   obtain ⟨hcz30_0, hcz30_1, hcz30_2, hcz30_3, hcz30_4, hcz30_5, hcz30_6, hcz30_7, hcz30_8, hfz30_0, hfz30_1, hfz30_2, hfz30_3, hfz30_4, hfz30_5, hfz30_6, hfz30_7, hfz30_8⟩ := zce9 BK846.out
   have hnb31 := NB847_848.out
   have hnc31 := NB848_847.out
   obtain ⟨hcz32_0, hcz32_1, hcz32_2, hcz32_3, hcz32_4, hcz32_5, hcz32_6, hfz32_0, hfz32_1, hfz32_2, hfz32_3, hfz32_4, hfz32_5, hfz32_6⟩ := zce7 BK847.out
   obtain ⟨hcz33_0, hcz33_1, hcz33_2, hcz33_3, hfz33_0, hfz33_1, hfz33_2, hfz33_3⟩ := zce4 BK848.out
   go_wp2_with (first | ((with_reducible refine gate_callee (f := 18) rfl ?_); refine goesL_ (some 24) rfl rfl Try.func18 zq5 rfl #[.agg #[.int .i64 a0_0, .int .i64 a0_1, .int .i64 a0_2, .int .i64 a0_3, .int .i64 a0_4, .int .i64 a0_5, .int .i64 a0_6, .slice A0_7 l0_7.length c0_7, .slice A0_8 l0_8.length c0_8], .agg #[.int .i64 a1_0, .int .i64 a1_1, .int .i64 a1_2, .int .i64 a1_3, .int .i64 a1_4, .int .i64 a1_5, .int .i64 a1_6], .agg #[.int .i64 a2_0, .int .i64 a2_1, .int .i64 a2_2, .int .i64 a2_3], .int .i64 a3] rfl zq6 ?_; (with_reducible refine (isobathlaw03_valid.calls k a0_0 a0_1 a0_2 a0_3 a0_4 a0_5 a0_6 _ _ l0_7 _ _ l0_8 a1_0 a1_1 a1_2 a1_3 a1_4 a1_5 a1_6 a2_0 a2_1 a2_2 a2_3 a3 false _ ?side1 ?side2 ?side3 ?side4 A11.out).mono ?_); (case side1 => repeat (first | exact (Kd.C_below HR0_7.out HB.out) | (with_reducible refine Kd.C_alloc ?_ _) | (with_reducible refine Kd.C_drewN ?_ _) | (with_reducible refine Kd.C_drew ?_))); (case side2 => exact HC0_7.out); (case side3 => repeat (first | exact (Kd.C_below HR0_8.out HB.out) | (with_reducible refine Kd.C_alloc ?_ _) | (with_reducible refine Kd.C_drewN ?_ _) | (with_reducible refine Kd.C_drew ?_))); (case side4 => exact HC0_8.out); rintro e w34 ⟨rfl, hb⟩; refine ⟨_, rfl, ?_⟩; replace BK846 := zbb BK846 hb; replace BK847 := zbb BK847 hb; replace BK848 := zbb BK848 hb; replace HB := zbs HB hb; (try clear hb); (try clear hb2); (try clear hk); (try clear hi)))
   go_meet
   case rel => exact ⟨_, (true), zq3, H', ⟨zq7⟩, ⟨zbf⟩, ⟨zbf⟩, ⟨zbf⟩, ⟨zbz⟩⟩
 case rest =>
  clear HC7
  try clear c1
  try clear c2
  try clear p2
  try clear c3
  try clear c4
  try clear c5
  try clear c12
  try clear c13
  try clear c13b0
  try clear c13b1
  try clear c14
  try clear c15
  try clear c17
  try clear c18
  try clear c21
  try clear c22
  try clear c24
  try clear c28
  try clear c29
  try clear c31
  try clear hcz16_0 hcz16_1 hcz16_2 hcz16_3 hcz16_4 hcz16_5 hcz16_6 hcz16_7 hcz16_8
  try clear hcz18_0 hcz18_1 hcz18_2 hcz18_3 hcz18_4 hcz18_5 hcz18_6
  try clear hcz19_0 hcz19_1 hcz19_2 hcz19_3
  try clear hcz23_0 hcz23_1 hcz23_2 hcz23_3 hcz23_4 hcz23_5 hcz23_6 hcz23_7 hcz23_8
  try clear hcz25_0 hcz25_1 hcz25_2 hcz25_3 hcz25_4 hcz25_5 hcz25_6
  try clear hcz26_0 hcz26_1 hcz26_2 hcz26_3
  try clear hcz30_0 hcz30_1 hcz30_2 hcz30_3 hcz30_4 hcz30_5 hcz30_6 hcz30_7 hcz30_8
  try clear hcz32_0 hcz32_1 hcz32_2 hcz32_3 hcz32_4 hcz32_5 hcz32_6
  try clear hcz33_0 hcz33_1 hcz33_2 hcz33_3
  try clear hfz16_0 hfz16_1 hfz16_2 hfz16_3 hfz16_4 hfz16_5 hfz16_6 hfz16_7 hfz16_8
  try clear hfz18_0 hfz18_1 hfz18_2 hfz18_3 hfz18_4 hfz18_5 hfz18_6
  try clear hfz19_0 hfz19_1 hfz19_2 hfz19_3
  try clear hfz23_0 hfz23_1 hfz23_2 hfz23_3 hfz23_4 hfz23_5 hfz23_6 hfz23_7 hfz23_8
  try clear hfz25_0 hfz25_1 hfz25_2 hfz25_3 hfz25_4 hfz25_5 hfz25_6
  try clear hfz26_0 hfz26_1 hfz26_2 hfz26_3
  try clear hfz30_0 hfz30_1 hfz30_2 hfz30_3 hfz30_4 hfz30_5 hfz30_6 hfz30_7 hfz30_8
  try clear hfz32_0 hfz32_1 hfz32_2 hfz32_3 hfz32_4 hfz32_5 hfz32_6
  try clear hfz33_0 hfz33_1 hfz33_2 hfz33_3
  obtain ⟨kq, x35_6, rfl, HA, HJ6, BK846, BK847, BK848, HB⟩ := hcut
  cases kq with
  | zero => exact absurd HA.out (by simp [isobathlaw03_GliderStays.j0])
  | succ kj6 =>
   have H := HA.out
   clear HA
   simp only [isobathlaw03_GliderStays.j0] at H
   by_cases c35 : x35_6 = true
   ·subst c35
    have H1 : ((isobathlaw03_Works.f kj6).bind fun t850 => (some t850)) = some r := by rw [if_pos rfl] at H; exact H
    clear H
    have H := H1
    clear H1
    replace H := Option.bind_eq_some_iff.mp H
    obtain ⟨t850, A360, H⟩ := H
    replace H : (some t850) = some r := H
    have A36 := Aside0.mk A360
    clear A360
    obtain rfl := Option.some.inj H
    go_wp2_with (first | ((with_reducible refine gate_callee (f := 19) rfl ?_); refine goesL_ (some 36) rfl rfl Try.func19 zq5 rfl #[] rfl zq6 ?_; (with_reducible refine (isobathlaw03_Works.calls kj6  t850 _ A36.out).mono ?_); rintro e w37 ⟨rfl, hb⟩; refine ⟨_, rfl, ?_⟩; replace BK846 := zbb BK846 hb; replace BK847 := zbb BK847 hb; replace BK848 := zbb BK848 hb; replace HB := zbs HB hb; (try clear hb); (try clear hb2); (try clear hk); (try clear hi)))
    go_ret
    exact ⟨zq2, zbz⟩
   ·replace c35 := Bool.eq_false_iff.mpr c35
    subst c35
    have H1 : ((glider_Reach.f a0_0 a0_1 a0_2 a0_3 a0_4 a0_5 a0_6 l0_7 l0_8 a1_0 a1_1 a1_2 a1_3 a1_4 a1_5 a1_6 a2_0 a2_1 a2_2 a2_3 a3 (l5.length : Int)).bind fun bt851 => (if bt851.2 = 0 then (if (bt851.1.length : Int) = (l5.length : Int) then ((glider_CheckReach.f a0_0 a0_1 a0_2 a0_3 a0_4 a0_5 a0_6 l0_7 l0_8 a1_0 a1_1 a1_2 a1_3 a1_4 a1_5 a1_6 a2_0 a2_1 a2_2 a2_3 a3 bt851.1).bind fun t855 => (isobathlaw03_GliderStays.j1 kj6 a3 l4 l5 bt851.1 bt851.2 (t855 != 0) a0_0 a0_1 a0_2 a0_3 a0_4 a0_5 a0_6 l0_7 l0_8 a1_0 a1_1 a1_2 a1_3 a1_4 a1_5 a1_6 a2_0 a2_1 a2_2 a2_3)) else (isobathlaw03_GliderStays.j1 kj6 a3 l4 l5 bt851.1 bt851.2 true a0_0 a0_1 a0_2 a0_3 a0_4 a0_5 a0_6 l0_7 l0_8 a1_0 a1_1 a1_2 a1_3 a1_4 a1_5 a1_6 a2_0 a2_1 a2_2 a2_3)) else (isobathlaw03_GliderStays.j1 kj6 a3 l4 l5 bt851.1 bt851.2 false a0_0 a0_1 a0_2 a0_3 a0_4 a0_5 a0_6 l0_7 l0_8 a1_0 a1_1 a1_2 a1_3 a1_4 a1_5 a1_6 a2_0 a2_1 a2_2 a2_3))) = some r := by rw [if_neg (show ¬ (false = true) by decide)] at H; exact H
    clear H
    have H := H1
    clear H1
    replace H := Option.bind_eq_some_iff.mp H
    obtain ⟨⟨t851, t854⟩, A380, H⟩ := H
    replace H : (if t854 = 0 then (if (t851.length : Int) = (l5.length : Int) then ((glider_CheckReach.f a0_0 a0_1 a0_2 a0_3 a0_4 a0_5 a0_6 l0_7 l0_8 a1_0 a1_1 a1_2 a1_3 a1_4 a1_5 a1_6 a2_0 a2_1 a2_2 a2_3 a3 t851).bind fun t855 => (isobathlaw03_GliderStays.j1 kj6 a3 l4 l5 t851 t854 (t855 != 0) a0_0 a0_1 a0_2 a0_3 a0_4 a0_5 a0_6 l0_7 l0_8 a1_0 a1_1 a1_2 a1_3 a1_4 a1_5 a1_6 a2_0 a2_1 a2_2 a2_3)) else (isobathlaw03_GliderStays.j1 kj6 a3 l4 l5 t851 t854 true a0_0 a0_1 a0_2 a0_3 a0_4 a0_5 a0_6 l0_7 l0_8 a1_0 a1_1 a1_2 a1_3 a1_4 a1_5 a1_6 a2_0 a2_1 a2_2 a2_3)) else (isobathlaw03_GliderStays.j1 kj6 a3 l4 l5 t851 t854 false a0_0 a0_1 a0_2 a0_3 a0_4 a0_5 a0_6 l0_7 l0_8 a1_0 a1_1 a1_2 a1_3 a1_4 a1_5 a1_6 a2_0 a2_1 a2_2 a2_3)) = some r := H
    have A38 := Aside0.mk A380
    clear A380
    have HC39 := Aside0.mk H
    clear H
    have hnb40 := NB846_847.out
    have hnc40 := NB847_846.out
    have hnb41 := NB846_848.out
    have hnc41 := NB848_846.out
    obtain ⟨hcz42_0, hcz42_1, hcz42_2, hcz42_3, hcz42_4, hcz42_5, hcz42_6, hcz42_7, hcz42_8, hfz42_0, hfz42_1, hfz42_2, hfz42_3, hfz42_4, hfz42_5, hfz42_6, hfz42_7, hfz42_8⟩ := zce9 BK846.out
    have hnb43 := NB847_848.out
    have hnc43 := NB848_847.out
    obtain ⟨hcz44_0, hcz44_1, hcz44_2, hcz44_3, hcz44_4, hcz44_5, hcz44_6, hfz44_0, hfz44_1, hfz44_2, hfz44_3, hfz44_4, hfz44_5, hfz44_6⟩ := zce7 BK847.out
    obtain ⟨hcz45_0, hcz45_1, hcz45_2, hcz45_3, hfz45_0, hfz45_1, hfz45_2, hfz45_3⟩ := zce4 BK848.out
    go_upto_region 4 with (first | ((with_reducible refine gate_callee (f := 50) rfl ?_); refine goesL_ (some 44) rfl rfl Try.func50 zq5 rfl #[.agg #[.int .i64 a0_0, .int .i64 a0_1, .int .i64 a0_2, .int .i64 a0_3, .int .i64 a0_4, .int .i64 a0_5, .int .i64 a0_6, .slice A0_7 l0_7.length c0_7, .slice A0_8 l0_8.length c0_8], .agg #[.int .i64 a1_0, .int .i64 a1_1, .int .i64 a1_2, .int .i64 a1_3, .int .i64 a1_4, .int .i64 a1_5, .int .i64 a1_6], .agg #[.int .i64 a2_0, .int .i64 a2_1, .int .i64 a2_2, .int .i64 a2_3], .int .i64 a3, .int .i64 (l5.length : Int)] rfl zq6 ?_; (with_reducible refine (glider_Reach.calls a0_0 a0_1 a0_2 a0_3 a0_4 a0_5 a0_6 _ _ l0_7 _ _ l0_8 a1_0 a1_1 a1_2 a1_3 a1_4 a1_5 a1_6 a2_0 a2_1 a2_2 a2_3 a3 (l5.length : Int) t851 t854 _ ?side1 ?side2 ?side3 ?side4 A38.out).mono ?_); (case side1 => repeat (first | exact (Kd.C_below HR0_7.out HB.out) | (with_reducible refine Kd.C_alloc ?_ _) | (with_reducible refine Kd.C_drewN ?_ _) | (with_reducible refine Kd.C_drew ?_))); (case side2 => exact HC0_7.out); (case side3 => repeat (first | exact (Kd.C_below HR0_8.out HB.out) | (with_reducible refine Kd.C_alloc ?_ _) | (with_reducible refine Kd.C_drewN ?_ _) | (with_reducible refine Kd.C_drew ?_))); (case side4 => exact HC0_8.out); rintro e w46 ⟨v852, rfl, ho0, hb⟩; refine ⟨_, rfl, ?_⟩; have HO853 := Aside0.mk (Kd.R_lower (Kd.R_newB ho0 (g := gb848) (o := .cells #[.int .i64 a2_0, .int .i64 a2_1, .int .i64 a2_2, .int .i64 a2_3] 31 (0, 0)) zbf) (below_size zbz)); replace BK846 := zbb BK846 hb; replace BK847 := zbb BK847 hb; replace BK848 := zbb BK848 hb; replace HB := zbs HB hb; (try clear hb); (try clear hb2); (try clear hk); (try clear hi); (try clear ho0)))
    (try simp only [Act.put, List.setIfInBounds_toArray, List.set_cons_zero, List.set_cons_succ])
    go_cut [64] (fun v64 wc => ∃ (kq : Nat) (x64_38 : Bool), v64 = .bool x64_38 ∧ Aside0 (isobathlaw03_GliderStays.j1 kq a3 l4 l5 t851 t854 x64_38 a0_0 a0_1 a0_2 a0_3 a0_4 a0_5 a0_6 l0_7 l0_8 a1_0 a1_1 a1_2 a1_3 a1_4 a1_5 a1_6 a2_0 a2_1 a2_2 a2_3 = some r) ∧ Aside0 (kq ≤ kj6) ∧ Aside0 (Kd.R k31 31 wc w.heap.size (fun k_ => k_ ≠ gb848) v852 t851) ∧ Aside0 (wc.heap[gb846]? = some (.cells #[.int .i64 a0_0, .int .i64 a0_1, .int .i64 a0_2, .int .i64 a0_3, .int .i64 a0_4, .int .i64 a0_5, .int .i64 a0_6, (.slice A0_7 l0_7.length c0_7), (.slice A0_8 l0_8.length c0_8)] 25 (0, 0))) ∧ Aside0 (wc.heap[gb847]? = some (.cells #[.int .i64 a1_0, .int .i64 a1_1, .int .i64 a1_2, .int .i64 a1_3, .int .i64 a1_4, .int .i64 a1_5, .int .i64 a1_6] 29 (0, 0))) ∧ Aside0 (wc.heap[gb848]? = some (.cells #[.int .i64 a2_0, .int .i64 a2_1, .int .i64 a2_2, .int .i64 a2_3] 31 (0, 0))) ∧ Aside0 (Below w.heap.size w wc))
    case first =>
     have H := HC39.out
     clear HC39
     by_cases c47 : t854 = 0
     ·rw [if_pos c47] at H
      have c47b0 : (t854 == 0) = true := beq_iff_eq.mpr c47
      have c47b1 : (t854 != 0) = false := bne_eq_false_iff_eq.mpr c47
      clear c47
      (first | rw [c47b0] | (simp only [i64_w, i32_w]; rw [c47b0]) | skip)
      by_cases c48 : (t851.length : Int) = (l5.length : Int)
      ·rw [if_pos c48] at H
       have c48b0 : ((t851.length : Int) == (l5.length : Int)) = true := beq_iff_eq.mpr c48
       have c48b1 : ((t851.length : Int) != (l5.length : Int)) = false := bne_eq_false_iff_eq.mpr c48
       have c48b2 : (t851.length == l5.length) = true := by first | simpa using c48 | (simp at c48 ⊢; omega)
       clear c48
       replace H := Option.bind_eq_some_iff.mp H
       obtain ⟨t855, A490, H⟩ := H
       replace H : (isobathlaw03_GliderStays.j1 kj6 a3 l4 l5 t851 t854 (t855 != 0) a0_0 a0_1 a0_2 a0_3 a0_4 a0_5 a0_6 l0_7 l0_8 a1_0 a1_1 a1_2 a1_3 a1_4 a1_5 a1_6 a2_0 a2_1 a2_2 a2_3) = some r := H
       have A49 := Aside0.mk A490
       clear A490
       have H' := Aside0.mk H
       clear H
       obtain ⟨Ao50, co50, eo50⟩ := Kd.R_slice HO853.out
       subst eo50
       have hnb51 := NB846_847.out
       have hnc51 := NB847_846.out
       have hnb52 := NB846_848.out
       have hnc52 := NB848_846.out
       obtain ⟨hcz53_0, hcz53_1, hcz53_2, hcz53_3, hcz53_4, hcz53_5, hcz53_6, hcz53_7, hcz53_8, hfz53_0, hfz53_1, hfz53_2, hfz53_3, hfz53_4, hfz53_5, hfz53_6, hfz53_7, hfz53_8⟩ := zce9 BK846.out
       have hnb54 := NB847_848.out
       have hnc54 := NB848_847.out
       obtain ⟨hcz55_0, hcz55_1, hcz55_2, hcz55_3, hcz55_4, hcz55_5, hcz55_6, hfz55_0, hfz55_1, hfz55_2, hfz55_3, hfz55_4, hfz55_5, hfz55_6⟩ := zce7 BK847.out
       obtain ⟨hcz56_0, hcz56_1, hcz56_2, hcz56_3, hfz56_0, hfz56_1, hfz56_2, hfz56_3⟩ := zce4 BK848.out
       go_wp2_with (first | (go_at_call 51; (with_reducible refine (glider_CheckReach.calls a0_0 a0_1 a0_2 a0_3 a0_4 a0_5 a0_6 _ _ l0_7 _ _ l0_8 a1_0 a1_1 a1_2 a1_3 a1_4 a1_5 a1_6 a2_0 a2_1 a2_2 a2_3 a3 _ _ t851 t855 _ ?side1 ?side2 ?side3 ?side4 ?side5 ?side6 A49.out).mono ?_); (case side1 => repeat (first | exact (Kd.C_below HR0_7.out HB.out) | (with_reducible refine Kd.C_alloc ?_ _) | (with_reducible refine Kd.C_drewN ?_ _) | (with_reducible refine Kd.C_drew ?_))); (case side2 => exact HC0_7.out); (case side3 => repeat (first | exact (Kd.C_below HR0_8.out HB.out) | (with_reducible refine Kd.C_alloc ?_ _) | (with_reducible refine Kd.C_drewN ?_ _) | (with_reducible refine Kd.C_drew ?_))); (case side4 => exact HC0_8.out); (case side5 => repeat (first | exact (Kd.R_reads' HO853.out).2.2 | (with_reducible refine Kd.C_alloc ?_ _) | (with_reducible refine Kd.C_drewN ?_ _) | (with_reducible refine Kd.C_drew ?_))); (case side6 => exact (Kd.R_reads' HO853.out).2.1); rintro e w57 ⟨rfl, hb⟩; replace HO853 := zrb HO853 hb; replace BK846 := zbb BK846 hb; replace BK847 := zbb BK847 hb; replace BK848 := zbb BK848 hb; replace HB := zbs HB hb; (try clear hb); (try clear hb2); (try clear hk); (try clear hi)))
       go_meet
       case rel => exact ⟨_, ((t855 != 0)), zq3, H', ⟨by have := HJ6.out; first | omega | exact Nat.le_refl _⟩, ⟨zq47⟩, ⟨zbf⟩, ⟨zbf⟩, ⟨zbf⟩, ⟨zbz⟩⟩
      ·rw [if_neg c48] at H
       have c48b0 : ((t851.length : Int) == (l5.length : Int)) = false := beq_eq_false_iff_ne.mpr c48
       have c48b1 : ((t851.length : Int) != (l5.length : Int)) = true := bne_iff_ne.mpr c48
       have c48b2 : (t851.length == l5.length) = false := by first | simpa using c48 | (simp at c48 ⊢; omega)
       have H' := Aside0.mk H
       clear H
       obtain ⟨Ao58, co58, eo58⟩ := Kd.R_slice HO853.out
       subst eo58
       go_wp2
       go_meet
       case rel => exact ⟨_, (true), zq3, H', ⟨by have := HJ6.out; first | omega | exact Nat.le_refl _⟩, ⟨zq47⟩, ⟨zbf⟩, ⟨zbf⟩, ⟨zbf⟩, ⟨zbz⟩⟩
     ·rw [if_neg c47] at H
      have c47b0 : (t854 == 0) = false := beq_eq_false_iff_ne.mpr c47
      have c47b1 : (t854 != 0) = true := bne_iff_ne.mpr c47
      (first | rw [c47b0] | (simp only [i64_w, i32_w]; rw [c47b0]) | skip)
      have H' := Aside0.mk H
      clear H
      go_wp2
      go_meet
      case rel => exact ⟨_, (false), zq3, H', ⟨by have := HJ6.out; first | omega | exact Nat.le_refl _⟩, ⟨zq47⟩, ⟨zbf⟩, ⟨zbf⟩, ⟨zbf⟩, ⟨zbz⟩⟩
    case rest =>
     clear HC39
     try clear c1
     try clear c2
     try clear p2
     try clear c3
     try clear c4
     try clear c5
     try clear c12
     try clear c13
     try clear c13b0
     try clear c13b1
     try clear c14
     try clear c15
     try clear c17
     try clear c18
     try clear c19
     try clear c21
     try clear c22
     try clear c24
     try clear c28
     try clear c29
     try clear c31
     try clear c35
     try clear c40
     try clear c41
     try clear c43
     try clear c47
     try clear c47b0
     try clear c47b1
     try clear c48
     try clear c48b0
     try clear c48b1
     try clear c48b2
     try clear c50
     try clear c51
     try clear c52
     try clear c54
     try clear hcz16_0 hcz16_1 hcz16_2 hcz16_3 hcz16_4 hcz16_5 hcz16_6 hcz16_7 hcz16_8
     try clear hcz18_0 hcz18_1 hcz18_2 hcz18_3 hcz18_4 hcz18_5 hcz18_6
     try clear hcz19_0 hcz19_1 hcz19_2 hcz19_3
     try clear hcz23_0 hcz23_1 hcz23_2 hcz23_3 hcz23_4 hcz23_5 hcz23_6 hcz23_7 hcz23_8
     try clear hcz25_0 hcz25_1 hcz25_2 hcz25_3 hcz25_4 hcz25_5 hcz25_6
     try clear hcz26_0 hcz26_1 hcz26_2 hcz26_3
     try clear hcz30_0 hcz30_1 hcz30_2 hcz30_3 hcz30_4 hcz30_5 hcz30_6 hcz30_7 hcz30_8
     try clear hcz32_0 hcz32_1 hcz32_2 hcz32_3 hcz32_4 hcz32_5 hcz32_6
     try clear hcz33_0 hcz33_1 hcz33_2 hcz33_3
     try clear hcz42_0 hcz42_1 hcz42_2 hcz42_3 hcz42_4 hcz42_5 hcz42_6 hcz42_7 hcz42_8
     try clear hcz44_0 hcz44_1 hcz44_2 hcz44_3 hcz44_4 hcz44_5 hcz44_6
     try clear hcz45_0 hcz45_1 hcz45_2 hcz45_3
     try clear hcz53_0 hcz53_1 hcz53_2 hcz53_3 hcz53_4 hcz53_5 hcz53_6 hcz53_7 hcz53_8
     try clear hcz55_0 hcz55_1 hcz55_2 hcz55_3 hcz55_4 hcz55_5 hcz55_6
     try clear hcz56_0 hcz56_1 hcz56_2 hcz56_3
     try clear hfz16_0 hfz16_1 hfz16_2 hfz16_3 hfz16_4 hfz16_5 hfz16_6 hfz16_7 hfz16_8
     try clear hfz18_0 hfz18_1 hfz18_2 hfz18_3 hfz18_4 hfz18_5 hfz18_6
     try clear hfz19_0 hfz19_1 hfz19_2 hfz19_3
     try clear hfz23_0 hfz23_1 hfz23_2 hfz23_3 hfz23_4 hfz23_5 hfz23_6 hfz23_7 hfz23_8
     try clear hfz25_0 hfz25_1 hfz25_2 hfz25_3 hfz25_4 hfz25_5 hfz25_6
     try clear hfz26_0 hfz26_1 hfz26_2 hfz26_3
     try clear hfz30_0 hfz30_1 hfz30_2 hfz30_3 hfz30_4 hfz30_5 hfz30_6 hfz30_7 hfz30_8
     try clear hfz32_0 hfz32_1 hfz32_2 hfz32_3 hfz32_4 hfz32_5 hfz32_6
     try clear hfz33_0 hfz33_1 hfz33_2 hfz33_3
     try clear hfz42_0 hfz42_1 hfz42_2 hfz42_3 hfz42_4 hfz42_5 hfz42_6 hfz42_7 hfz42_8
     try clear hfz44_0 hfz44_1 hfz44_2 hfz44_3 hfz44_4 hfz44_5 hfz44_6
     try clear hfz45_0 hfz45_1 hfz45_2 hfz45_3
     try clear hfz53_0 hfz53_1 hfz53_2 hfz53_3 hfz53_4 hfz53_5 hfz53_6 hfz53_7 hfz53_8
     try clear hfz55_0 hfz55_1 hfz55_2 hfz55_3 hfz55_4 hfz55_5 hfz55_6
     try clear hfz56_0 hfz56_1 hfz56_2 hfz56_3
     try clear p2
     obtain ⟨kq, x64_38, rfl, HA, HJ38, HO_13, BK846, BK847, BK848, HB⟩ := hcut
     cases kq with
     | zero => exact absurd HA.out (by simp [isobathlaw03_GliderStays.j1])
     | succ kj38 =>
      have H := HA.out
      clear HA
      simp only [isobathlaw03_GliderStays.j1] at H
      by_cases c59 : x64_38 = true
      ·subst c59
       have H1 : (some false) = some r := by rw [if_pos rfl] at H; exact H
       clear H
       have H := H1
       clear H1
       have hh_ := Option.some.inj H
       rw [hr_.out] at hh_
       cases hh_
      ·replace c59 := Bool.eq_false_iff.mpr c59
       subst c59
       have H1 : ((glider_Run.f a0_0 a0_1 a0_2 a0_3 a0_4 a0_5 a0_6 l0_7 l0_8 a1_0 a1_1 a1_2 a1_3 a1_4 a1_5 a1_6 a2_0 a2_1 a2_2 a2_3 a3 l5).bind fun bt856 => (if bt856.2.2 = 0 then (if (bt856.1.length : Int) = (l5.length : Int) then (isobathlaw03_GliderStays.l0 kj38 a3 l4 t851 t854 bt856.1 0 a0_0 a0_1 a0_2 a0_3 a0_4 a0_5 a0_6 l0_7 l0_8 a1_0 a1_1 a1_2 a1_3 a1_4 a1_5 a1_6 a2_0 a2_1 a2_2 a2_3) else (some false)) else ((isobathlaw03_Works.f kj38).bind fun t861 => (some t861)))) = some r := by rw [if_neg (show ¬ (false = true) by decide)] at H; exact H
       clear H
       have H := H1
       clear H1
       replace H := Option.bind_eq_some_iff.mp H
       obtain ⟨⟨t856, t859, t860⟩, A600, H⟩ := H
       replace H : (if t860 = 0 then (if (t856.length : Int) = (l5.length : Int) then (isobathlaw03_GliderStays.l0 kj38 a3 l4 t851 t854 t856 0 a0_0 a0_1 a0_2 a0_3 a0_4 a0_5 a0_6 l0_7 l0_8 a1_0 a1_1 a1_2 a1_3 a1_4 a1_5 a1_6 a2_0 a2_1 a2_2 a2_3) else (some false)) else ((isobathlaw03_Works.f kj38).bind fun t861 => (some t861))) = some r := H
       have A60 := Aside0.mk A600
       clear A600
       by_cases c61 : t860 = 0
       ·rw [if_pos c61] at H
        have c61b0 : (t860 == 0) = true := beq_iff_eq.mpr c61
        have c61b1 : (t860 != 0) = false := bne_eq_false_iff_eq.mpr c61
        clear c61
        by_cases c62 : (t856.length : Int) = (l5.length : Int)
        ·rw [if_pos c62] at H
         have c62b0 : ((t856.length : Int) == (l5.length : Int)) = true := beq_iff_eq.mpr c62
         have c62b1 : ((t856.length : Int) != (l5.length : Int)) = false := bne_eq_false_iff_eq.mpr c62
         have c62b2 : (t856.length == l5.length) = true := by first | simpa using c62 | (simp at c62 ⊢; omega)
         clear c62
         have H' := Aside0.mk H
         clear H
         have hnb63 := NB846_847.out
         have hnc63 := NB847_846.out
         have hnb64 := NB846_848.out
         have hnc64 := NB848_846.out
         obtain ⟨hcz65_0, hcz65_1, hcz65_2, hcz65_3, hcz65_4, hcz65_5, hcz65_6, hcz65_7, hcz65_8, hfz65_0, hfz65_1, hfz65_2, hfz65_3, hfz65_4, hfz65_5, hfz65_6, hfz65_7, hfz65_8⟩ := zce9 BK846.out
         have hnb66 := NB847_848.out
         have hnc66 := NB848_847.out
         obtain ⟨hcz67_0, hcz67_1, hcz67_2, hcz67_3, hcz67_4, hcz67_5, hcz67_6, hfz67_0, hfz67_1, hfz67_2, hfz67_3, hfz67_4, hfz67_5, hfz67_6⟩ := zce7 BK847.out
         obtain ⟨hcz68_0, hcz68_1, hcz68_2, hcz68_3, hfz68_0, hfz68_1, hfz68_2, hfz68_3⟩ := zce4 BK848.out
         go_wp2_with (first | ((with_reducible refine gate_callee (f := 30) rfl ?_); refine goesL_ (some 71) rfl rfl Try.func30 zq5 rfl #[.agg #[.int .i64 a0_0, .int .i64 a0_1, .int .i64 a0_2, .int .i64 a0_3, .int .i64 a0_4, .int .i64 a0_5, .int .i64 a0_6, .slice A0_7 l0_7.length c0_7, .slice A0_8 l0_8.length c0_8], .agg #[.int .i64 a1_0, .int .i64 a1_1, .int .i64 a1_2, .int .i64 a1_3, .int .i64 a1_4, .int .i64 a1_5, .int .i64 a1_6], .agg #[.int .i64 a2_0, .int .i64 a2_1, .int .i64 a2_2, .int .i64 a2_3], .int .i64 a3, .slice A5 l5.length c5] rfl zq6 ?_; (with_reducible refine (glider_Run.calls a0_0 a0_1 a0_2 a0_3 a0_4 a0_5 a0_6 _ _ l0_7 _ _ l0_8 a1_0 a1_1 a1_2 a1_3 a1_4 a1_5 a1_6 a2_0 a2_1 a2_2 a2_3 a3 _ _ l5 t856 t859 t860 _ ?side1 ?side2 ?side3 ?side4 ?side5 ?side6 A60.out).mono ?_); (case side1 => repeat (first | exact (Kd.C_below HR0_7.out HB.out) | (with_reducible refine Kd.C_alloc ?_ _) | (with_reducible refine Kd.C_drewN ?_ _) | (with_reducible refine Kd.C_drew ?_))); (case side2 => exact HC0_7.out); (case side3 => repeat (first | exact (Kd.C_below HR0_8.out HB.out) | (with_reducible refine Kd.C_alloc ?_ _) | (with_reducible refine Kd.C_drewN ?_ _) | (with_reducible refine Kd.C_drew ?_))); (case side4 => exact HC0_8.out); (case side5 => repeat (first | exact (Kd.C_below HR5.out HB.out) | (with_reducible refine Kd.C_alloc ?_ _) | (with_reducible refine Kd.C_drewN ?_ _) | (with_reducible refine Kd.C_drew ?_))); (case side6 => exact HC5.out); rintro e w69 ⟨v857, rfl, ho0, hb⟩; refine ⟨_, rfl, ?_⟩; have HO858 := Aside0.mk (Kd.R_lower (Kd.R_newB (Kd.R_new' ho0 (Kd.R_lt zq48)) (g := gb848) (o := .cells #[.int .i64 a2_0, .int .i64 a2_1, .int .i64 a2_2, .int .i64 a2_3] 31 (0, 0)) zbf) (below_size zbz)); replace HO_13 := Aside0.mk (Kd.R_elder' zq48 (Kd.R_base ho0) hb); replace BK846 := zbb BK846 hb; replace BK847 := zbb BK847 hb; replace BK848 := zbb BK848 hb; replace HB := zbs HB hb; (try clear hb); (try clear hb2); (try clear hk); (try clear hi); (try clear ho0); obtain ⟨Ao70, co70, eo70⟩ := Kd.R_slice HO858.out; subst eo70))
         go_loopg [18] kj38 (fun kq v18 w' => ∃ (x18_3 : Int), v18 = .int .i64 x18_3 ∧ Aside0 (isobathlaw03_GliderStays.l0 kq a3 l4 t851 t854 t856 x18_3 a0_0 a0_1 a0_2 a0_3 a0_4 a0_5 a0_6 l0_7 l0_8 a1_0 a1_1 a1_2 a1_3 a1_4 a1_5 a1_6 a2_0 a2_1 a2_2 a2_3 = some r) ∧ Aside0 (kq ≤ kj38) ∧ Aside0 (Kd.R k31 31 w' w.heap.size (fun k_ => some k_ ≠ ((.slice Ao70 t856.length co70) : Value).ownBlock ∧ k_ ≠ gb848) v852 t851) ∧ Aside0 (Kd.R k31 31 w' w.heap.size (fun k_ => some k_ ≠ (v852 : Value).ownBlock ∧ k_ ≠ gb848) (.slice Ao70 t856.length co70) t856) ∧ Aside0 (w'.heap[gb846]? = some (.cells #[.int .i64 a0_0, .int .i64 a0_1, .int .i64 a0_2, .int .i64 a0_3, .int .i64 a0_4, .int .i64 a0_5, .int .i64 a0_6, (.slice A0_7 l0_7.length c0_7), (.slice A0_8 l0_8.length c0_8)] 25 (0, 0))) ∧ Aside0 (w'.heap[gb847]? = some (.cells #[.int .i64 a1_0, .int .i64 a1_1, .int .i64 a1_2, .int .i64 a1_3, .int .i64 a1_4, .int .i64 a1_5, .int .i64 a1_6] 29 (0, 0))) ∧ Aside0 (w'.heap[gb848]? = some (.cells #[.int .i64 a2_0, .int .i64 a2_1, .int .i64 a2_2, .int .i64 a2_3] 31 (0, 0))) ∧ Aside0 (Below w.heap.size w w'))
         case atStart => exact ⟨(0), zq3, H', ⟨Nat.le_refl _⟩, ⟨by (with_reducible repeat (first | apply Kd.R_alloc | apply Kd.R_drewN | apply Kd.R_drew)); exact Kd.R_mono HO_13.out (fun _ hk => ⟨hk.2, hk.1⟩)⟩, ⟨by (with_reducible repeat (first | apply Kd.R_alloc | apply Kd.R_drewN | apply Kd.R_drew)); exact Kd.R_mono HO858.out (fun _ hk => ⟨hk.1.2, hk.2⟩)⟩, ⟨zbf⟩, ⟨zbf⟩, ⟨zbf⟩, ⟨zbz⟩⟩
         case round =>
          clear H'
          try clear c1
          try clear c2
          try clear p2
          try clear c3
          try clear c4
          try clear c5
          try clear c6
          try clear c12
          try clear c13
          try clear c13b0
          try clear c13b1
          try clear c14
          try clear c15
          try clear c17
          try clear c18
          try clear c19
          try clear c21
          try clear c22
          try clear c24
          try clear c28
          try clear c29
          try clear c30
          try clear c31
          try clear c35
          try clear c40
          try clear c41
          try clear c43
          try clear c47
          try clear c47b0
          try clear c47b1
          try clear c48
          try clear c48b0
          try clear c48b1
          try clear c48b2
          try clear c50
          try clear c51
          try clear c52
          try clear c54
          try clear c59
          try clear c61
          try clear c61b0
          try clear c61b1
          try clear c62
          try clear c62b0
          try clear c62b1
          try clear c62b2
          try clear c63
          try clear c64
          try clear c66
          try clear hcz16_0 hcz16_1 hcz16_2 hcz16_3 hcz16_4 hcz16_5 hcz16_6 hcz16_7 hcz16_8
          try clear hcz18_0 hcz18_1 hcz18_2 hcz18_3 hcz18_4 hcz18_5 hcz18_6
          try clear hcz19_0 hcz19_1 hcz19_2 hcz19_3
          try clear hcz23_0 hcz23_1 hcz23_2 hcz23_3 hcz23_4 hcz23_5 hcz23_6 hcz23_7 hcz23_8
          try clear hcz25_0 hcz25_1 hcz25_2 hcz25_3 hcz25_4 hcz25_5 hcz25_6
          try clear hcz26_0 hcz26_1 hcz26_2 hcz26_3
          try clear hcz30_0 hcz30_1 hcz30_2 hcz30_3 hcz30_4 hcz30_5 hcz30_6 hcz30_7 hcz30_8
          try clear hcz32_0 hcz32_1 hcz32_2 hcz32_3 hcz32_4 hcz32_5 hcz32_6
          try clear hcz33_0 hcz33_1 hcz33_2 hcz33_3
          try clear hcz42_0 hcz42_1 hcz42_2 hcz42_3 hcz42_4 hcz42_5 hcz42_6 hcz42_7 hcz42_8
          try clear hcz44_0 hcz44_1 hcz44_2 hcz44_3 hcz44_4 hcz44_5 hcz44_6
          try clear hcz45_0 hcz45_1 hcz45_2 hcz45_3
          try clear hcz53_0 hcz53_1 hcz53_2 hcz53_3 hcz53_4 hcz53_5 hcz53_6 hcz53_7 hcz53_8
          try clear hcz55_0 hcz55_1 hcz55_2 hcz55_3 hcz55_4 hcz55_5 hcz55_6
          try clear hcz56_0 hcz56_1 hcz56_2 hcz56_3
          try clear hcz65_0 hcz65_1 hcz65_2 hcz65_3 hcz65_4 hcz65_5 hcz65_6 hcz65_7 hcz65_8
          try clear hcz67_0 hcz67_1 hcz67_2 hcz67_3 hcz67_4 hcz67_5 hcz67_6
          try clear hcz68_0 hcz68_1 hcz68_2 hcz68_3
          try clear hfz16_0 hfz16_1 hfz16_2 hfz16_3 hfz16_4 hfz16_5 hfz16_6 hfz16_7 hfz16_8
          try clear hfz18_0 hfz18_1 hfz18_2 hfz18_3 hfz18_4 hfz18_5 hfz18_6
          try clear hfz19_0 hfz19_1 hfz19_2 hfz19_3
          try clear hfz23_0 hfz23_1 hfz23_2 hfz23_3 hfz23_4 hfz23_5 hfz23_6 hfz23_7 hfz23_8
          try clear hfz25_0 hfz25_1 hfz25_2 hfz25_3 hfz25_4 hfz25_5 hfz25_6
          try clear hfz26_0 hfz26_1 hfz26_2 hfz26_3
          try clear hfz30_0 hfz30_1 hfz30_2 hfz30_3 hfz30_4 hfz30_5 hfz30_6 hfz30_7 hfz30_8
          try clear hfz32_0 hfz32_1 hfz32_2 hfz32_3 hfz32_4 hfz32_5 hfz32_6
          try clear hfz33_0 hfz33_1 hfz33_2 hfz33_3
          try clear hfz42_0 hfz42_1 hfz42_2 hfz42_3 hfz42_4 hfz42_5 hfz42_6 hfz42_7 hfz42_8
          try clear hfz44_0 hfz44_1 hfz44_2 hfz44_3 hfz44_4 hfz44_5 hfz44_6
          try clear hfz45_0 hfz45_1 hfz45_2 hfz45_3
          try clear hfz53_0 hfz53_1 hfz53_2 hfz53_3 hfz53_4 hfz53_5 hfz53_6 hfz53_7 hfz53_8
          try clear hfz55_0 hfz55_1 hfz55_2 hfz55_3 hfz55_4 hfz55_5 hfz55_6
          try clear hfz56_0 hfz56_1 hfz56_2 hfz56_3
          try clear hfz65_0 hfz65_1 hfz65_2 hfz65_3 hfz65_4 hfz65_5 hfz65_6 hfz65_7 hfz65_8
          try clear hfz67_0 hfz67_1 hfz67_2 hfz67_3 hfz67_4 hfz67_5 hfz67_6
          try clear hfz68_0 hfz68_1 hfz68_2 hfz68_3
          try clear p2
          obtain ⟨x18_3, rfl, HA, HK3, HO_13, HO_15, BK846, BK847, BK848, HB⟩ := hrel
          cases gk with
          | zero => exact absurd HA.out (by simp [isobathlaw03_GliderStays.l0])
          | succ k3 =>
           have H := HA.out
           clear HA
           simp only [isobathlaw03_GliderStays.l0] at H
           have HC71 := Aside0.mk H
           clear H
           go_upto_region 12 with (fail)
           go_cut [90] (fun v90 wc => ∃ (kq : Nat) (x90_70 : Bool), v90 = .bool x90_70 ∧ Aside0 (isobathlaw03_GliderStays.j3 kq a3 l4 t851 t854 t856 x18_3 x90_70 a0_0 a0_1 a0_2 a0_3 a0_4 a0_5 a0_6 l0_7 l0_8 a1_0 a1_1 a1_2 a1_3 a1_4 a1_5 a1_6 a2_0 a2_1 a2_2 a2_3 = some r) ∧ Aside0 (kq ≤ k3) ∧ Aside0 (Kd.R k31 31 wc w.heap.size (fun k_ => some k_ ≠ ((.slice Ao70 t856.length co70) : Value).ownBlock ∧ k_ ≠ gb848) v852 t851) ∧ Aside0 (Kd.R k31 31 wc w.heap.size (fun k_ => some k_ ≠ (v852 : Value).ownBlock ∧ k_ ≠ gb848) (.slice Ao70 t856.length co70) t856) ∧ Aside0 (wc.heap[gb846]? = some (.cells #[.int .i64 a0_0, .int .i64 a0_1, .int .i64 a0_2, .int .i64 a0_3, .int .i64 a0_4, .int .i64 a0_5, .int .i64 a0_6, (.slice A0_7 l0_7.length c0_7), (.slice A0_8 l0_8.length c0_8)] 25 (0, 0))) ∧ Aside0 (wc.heap[gb847]? = some (.cells #[.int .i64 a1_0, .int .i64 a1_1, .int .i64 a1_2, .int .i64 a1_3, .int .i64 a1_4, .int .i64 a1_5, .int .i64 a1_6] 29 (0, 0))) ∧ Aside0 (wc.heap[gb848]? = some (.cells #[.int .i64 a2_0, .int .i64 a2_1, .int .i64 a2_2, .int .i64 a2_3] 31 (0, 0))) ∧ Aside0 (Below w.heap.size w wc))
           case first =>
            have H := HC71.out
            clear HC71
            by_cases c72 : x18_3 < (t856.length : Int)
            ·rw [if_pos c72] at H
             have c72b0 : decide (x18_3 < (t856.length : Int)) = true := decide_eq_true c72
             clear c72
             (first | rw [c72b0] | (simp only [i64_w, i32_w]; rw [c72b0]) | skip)
             have H' := Aside0.mk H
             clear H
             go_wp2
             go_meet
             case rel => exact ⟨_, ((t854 == 0)), zq3, H', ⟨by have := HJ6.out; have := HJ38.out; have := HK3.out; first | omega | exact Nat.le_refl _⟩, ⟨zq48⟩, ⟨zq49⟩, ⟨zbf⟩, ⟨zbf⟩, ⟨zbf⟩, ⟨zbz⟩⟩
            ·rw [if_neg c72] at H
             have c72b0 : decide (x18_3 < (t856.length : Int)) = false := decide_eq_false c72
             clear c72
             (first | rw [c72b0] | (simp only [i64_w, i32_w]; rw [c72b0]) | skip)
             have H' := Aside0.mk H
             clear H
             go_wp2
             go_meet
             case rel => exact ⟨_, (false), zq3, H', ⟨by have := HJ6.out; have := HJ38.out; have := HK3.out; first | omega | exact Nat.le_refl _⟩, ⟨zq48⟩, ⟨zq49⟩, ⟨zbf⟩, ⟨zbf⟩, ⟨zbf⟩, ⟨zbz⟩⟩
           case rest =>
            clear HC71
            try clear c1
            try clear c2
            try clear p2
            try clear c3
            try clear c4
            try clear c5
            try clear c6
            try clear c7
            try clear c12
            try clear c13
            try clear c13b0
            try clear c13b1
            try clear c14
            try clear c15
            try clear c17
            try clear c18
            try clear c19
            try clear c21
            try clear c22
            try clear c24
            try clear c28
            try clear c29
            try clear c30
            try clear c31
            try clear c35
            try clear c40
            try clear c41
            try clear c43
            try clear c47
            try clear c47b0
            try clear c47b1
            try clear c48
            try clear c48b0
            try clear c48b1
            try clear c48b2
            try clear c50
            try clear c51
            try clear c52
            try clear c54
            try clear c59
            try clear c61
            try clear c61b0
            try clear c61b1
            try clear c62
            try clear c62b0
            try clear c62b1
            try clear c62b2
            try clear c63
            try clear c64
            try clear c66
            try clear c72
            try clear c72b0
            try clear hcz16_0 hcz16_1 hcz16_2 hcz16_3 hcz16_4 hcz16_5 hcz16_6 hcz16_7 hcz16_8
            try clear hcz18_0 hcz18_1 hcz18_2 hcz18_3 hcz18_4 hcz18_5 hcz18_6
            try clear hcz19_0 hcz19_1 hcz19_2 hcz19_3
            try clear hcz23_0 hcz23_1 hcz23_2 hcz23_3 hcz23_4 hcz23_5 hcz23_6 hcz23_7 hcz23_8
            try clear hcz25_0 hcz25_1 hcz25_2 hcz25_3 hcz25_4 hcz25_5 hcz25_6
            try clear hcz26_0 hcz26_1 hcz26_2 hcz26_3
            try clear hcz30_0 hcz30_1 hcz30_2 hcz30_3 hcz30_4 hcz30_5 hcz30_6 hcz30_7 hcz30_8
            try clear hcz32_0 hcz32_1 hcz32_2 hcz32_3 hcz32_4 hcz32_5 hcz32_6
            try clear hcz33_0 hcz33_1 hcz33_2 hcz33_3
            try clear hcz42_0 hcz42_1 hcz42_2 hcz42_3 hcz42_4 hcz42_5 hcz42_6 hcz42_7 hcz42_8
            try clear hcz44_0 hcz44_1 hcz44_2 hcz44_3 hcz44_4 hcz44_5 hcz44_6
            try clear hcz45_0 hcz45_1 hcz45_2 hcz45_3
            try clear hcz53_0 hcz53_1 hcz53_2 hcz53_3 hcz53_4 hcz53_5 hcz53_6 hcz53_7 hcz53_8
            try clear hcz55_0 hcz55_1 hcz55_2 hcz55_3 hcz55_4 hcz55_5 hcz55_6
            try clear hcz56_0 hcz56_1 hcz56_2 hcz56_3
            try clear hcz65_0 hcz65_1 hcz65_2 hcz65_3 hcz65_4 hcz65_5 hcz65_6 hcz65_7 hcz65_8
            try clear hcz67_0 hcz67_1 hcz67_2 hcz67_3 hcz67_4 hcz67_5 hcz67_6
            try clear hcz68_0 hcz68_1 hcz68_2 hcz68_3
            try clear hfz16_0 hfz16_1 hfz16_2 hfz16_3 hfz16_4 hfz16_5 hfz16_6 hfz16_7 hfz16_8
            try clear hfz18_0 hfz18_1 hfz18_2 hfz18_3 hfz18_4 hfz18_5 hfz18_6
            try clear hfz19_0 hfz19_1 hfz19_2 hfz19_3
            try clear hfz23_0 hfz23_1 hfz23_2 hfz23_3 hfz23_4 hfz23_5 hfz23_6 hfz23_7 hfz23_8
            try clear hfz25_0 hfz25_1 hfz25_2 hfz25_3 hfz25_4 hfz25_5 hfz25_6
            try clear hfz26_0 hfz26_1 hfz26_2 hfz26_3
            try clear hfz30_0 hfz30_1 hfz30_2 hfz30_3 hfz30_4 hfz30_5 hfz30_6 hfz30_7 hfz30_8
            try clear hfz32_0 hfz32_1 hfz32_2 hfz32_3 hfz32_4 hfz32_5 hfz32_6
            try clear hfz33_0 hfz33_1 hfz33_2 hfz33_3
            try clear hfz42_0 hfz42_1 hfz42_2 hfz42_3 hfz42_4 hfz42_5 hfz42_6 hfz42_7 hfz42_8
            try clear hfz44_0 hfz44_1 hfz44_2 hfz44_3 hfz44_4 hfz44_5 hfz44_6
            try clear hfz45_0 hfz45_1 hfz45_2 hfz45_3
            try clear hfz53_0 hfz53_1 hfz53_2 hfz53_3 hfz53_4 hfz53_5 hfz53_6 hfz53_7 hfz53_8
            try clear hfz55_0 hfz55_1 hfz55_2 hfz55_3 hfz55_4 hfz55_5 hfz55_6
            try clear hfz56_0 hfz56_1 hfz56_2 hfz56_3
            try clear hfz65_0 hfz65_1 hfz65_2 hfz65_3 hfz65_4 hfz65_5 hfz65_6 hfz65_7 hfz65_8
            try clear hfz67_0 hfz67_1 hfz67_2 hfz67_3 hfz67_4 hfz67_5 hfz67_6
            try clear hfz68_0 hfz68_1 hfz68_2 hfz68_3
            try clear p2
            obtain ⟨kq, x90_70, rfl, HA, HJ70, HO_13, HO_15, BK846, BK847, BK848, HB⟩ := hcut
            cases kq with
            | zero => exact absurd HA.out (by simp [isobathlaw03_GliderStays.j3])
            | succ kj70 =>
             have H := HA.out
             clear HA
             simp only [isobathlaw03_GliderStays.j3] at H
             by_cases c73 : x90_70 = true
             ·subst c73
              have H1 : (if 0 ≤ x18_3 then (if x18_3 < (t856.length : Int) then (if x18_3 < (t851.length : Int) then ((isobathlaw03_within.f ((rd_T31 t856 x18_3).f0.f0) ((rd_T31 t856 x18_3).f0.f1) ((rd_T31 t856 x18_3).f1.f0) ((rd_T31 t856 x18_3).f1.f1) ((rd_T31 t851 x18_3).f0.f0) ((rd_T31 t851 x18_3).f0.f1) ((rd_T31 t851 x18_3).f1.f0) ((rd_T31 t851 x18_3).f1.f1)).bind fun t864 => (if t864 = true then (isobathlaw03_GliderStays.l0 kj70 a3 l4 t851 t854 t856 (wrap64 (x18_3 + 1)) a0_0 a0_1 a0_2 a0_3 a0_4 a0_5 a0_6 l0_7 l0_8 a1_0 a1_1 a1_2 a1_3 a1_4 a1_5 a1_6 a2_0 a2_1 a2_2 a2_3) else (some false))) else (none)) else (none)) else (none)) = some r := by rw [if_pos rfl] at H; exact H
              clear H
              have H := H1
              clear H1
              by_cases c74 : 0 ≤ x18_3
              ·rw [if_pos c74] at H
               have c74b0 : decide (0 ≤ x18_3) = true := decide_eq_true c74
               clear c74
               by_cases c75 : x18_3 < (t856.length : Int)
               ·rw [if_pos c75] at H
                have c75b0 : decide (x18_3 < (t856.length : Int)) = true := decide_eq_true c75
                clear c75
                by_cases c76 : x18_3 < (t851.length : Int)
                ·rw [if_pos c76] at H
                 have c76b0 : decide (x18_3 < (t851.length : Int)) = true := decide_eq_true c76
                 clear c76
                 replace H := Option.bind_eq_some_iff.mp H
                 obtain ⟨t864, A770, H⟩ := H
                 replace H : (if t864 = true then (isobathlaw03_GliderStays.l0 kj70 a3 l4 t851 t854 t856 (wrap64 (x18_3 + 1)) a0_0 a0_1 a0_2 a0_3 a0_4 a0_5 a0_6 l0_7 l0_8 a1_0 a1_1 a1_2 a1_3 a1_4 a1_5 a1_6 a2_0 a2_1 a2_2 a2_3) else (some false)) = some r := H
                 have A77 := Aside0.mk A770
                 clear A770
                 by_cases c78 : t864 = true
                 ·subst c78
                  have H1 : (isobathlaw03_GliderStays.l0 kj70 a3 l4 t851 t854 t856 (wrap64 (x18_3 + 1)) a0_0 a0_1 a0_2 a0_3 a0_4 a0_5 a0_6 l0_7 l0_8 a1_0 a1_1 a1_2 a1_3 a1_4 a1_5 a1_6 a2_0 a2_1 a2_2 a2_3) = some r := by rw [if_pos rfl] at H; exact H
                  clear H
                  have H := H1
                  clear H1
                  have H' := Aside0.mk H
                  clear H
                  try go_wp2
                  replace HO_13 := Aside0.mk (Kd.R_drew HO_13.out)
                  replace HO_15 := Aside0.mk (Kd.R_drew HO_15.out)
                  replace BK846 := Aside0.mk (blk_drew BK846.out)
                  replace BK847 := Aside0.mk (blk_drew BK847.out)
                  replace BK848 := Aside0.mk (blk_drew BK848.out)
                  replace HB := Aside0.mk (below_drew1 HB.out)
                  have p862 : 0 ≤ (x18_3 : Int) := of_decide_eq_true zq8
                  have q862 : x18_3 < (t856.length : Int) := of_decide_eq_true zq8
                  obtain ⟨ad862, e862, hx862_0, hx862_1, hx862_2, hx862_3⟩ := at_T31 (Kd.R_reads' HO_15.out).2.2 x18_3 p862 q862
                  cases e862
                  replace p862 := eq_true p862
                  replace q862 := eq_true q862
                  obtain ⟨Ao80, co80, eo80⟩ := Kd.R_slice HO_13.out
                  (first | subst eo80 | (injection eo80 with f1_ f2_ f3_; have f4_ := f1_.symm; have f5_ := f3_.symm; clear f1_ f2_ f3_; subst f4_; subst f5_))
                  have p863 : 0 ≤ (x18_3 : Int) := of_decide_eq_true zq8
                  have q863 : x18_3 < (t851.length : Int) := of_decide_eq_true zq8
                  obtain ⟨ad863, e863, hx863_0, hx863_1, hx863_2, hx863_3⟩ := at_T31 (Kd.R_reads' HO_13.out).2.2 x18_3 p863 q863
                  cases e863
                  replace p863 := eq_true p863
                  replace q863 := eq_true q863
                  refine start_ (n := 10) (S := fun w' => w'.cell? (ad862.add ((x18_3).toNat * 4)) = some (.int .i64 ((rd_T31 t856 x18_3).f0.f0)) ∧ w'.cell? ⟨(ad862.add ((x18_3).toNat * 4)).block, (ad862.add ((x18_3).toNat * 4)).off + 1, none⟩ = some (.int .i64 ((rd_T31 t856 x18_3).f0.f1)) ∧ w'.cell? ⟨(ad862.add ((x18_3).toNat * 4)).block, (ad862.add ((x18_3).toNat * 4)).off + 2, none⟩ = some (.int .i64 ((rd_T31 t856 x18_3).f1.f0)) ∧ w'.cell? ⟨(ad862.add ((x18_3).toNat * 4)).block, (ad862.add ((x18_3).toNat * 4)).off + 3, none⟩ = some (.int .i64 ((rd_T31 t856 x18_3).f1.f1)) ∧ w'.cell? (ad863.add ((x18_3).toNat * 4)) = some (.int .i64 ((rd_T31 t851 x18_3).f0.f0)) ∧ w'.cell? ⟨(ad863.add ((x18_3).toNat * 4)).block, (ad863.add ((x18_3).toNat * 4)).off + 1, none⟩ = some (.int .i64 ((rd_T31 t851 x18_3).f0.f1)) ∧ w'.cell? ⟨(ad863.add ((x18_3).toNat * 4)).block, (ad863.add ((x18_3).toNat * 4)).off + 2, none⟩ = some (.int .i64 ((rd_T31 t851 x18_3).f1.f0)) ∧ w'.cell? ⟨(ad863.add ((x18_3).toNat * 4)).block, (ad863.add ((x18_3).toNat * 4)).off + 3, none⟩ = some (.int .i64 ((rd_T31 t851 x18_3).f1.f1))) (ds := []) #[false, false, false, false, false, false, false, false, false, false] zq5 rfl rfl ⟨hx862_0, hx862_1, hx862_2, hx862_3, hx863_0, hx863_1, hx863_2, hx863_3⟩ (fun hHeld => ?_); refine with_tabW isobathlaw03_GliderStays.tab14 isobathlaw03_GliderStays.bits14 (fun HT_ HW_ => ?_)
                  generalize wc.drew = w79 at HO_13 HO_15 BK846 BK847 BK848 HB hx862_0 hx862_1 hx862_2 hx862_3 hx863_0 hx863_1 hx863_2 hx863_3 hHeld ⊢
                  refine zpz (i := 0) (N := some 93) (any_of HT_.out zq5) ?_
                  refine zpz (i := 1) (N := some 94) (any_of HT_.out zq5) ?_
                  refine zpz (i := 2) (N := some 95) (any_of HT_.out zq5) ?_
                  refine zpz (i := 4) (N := some 97) (any_of HT_.out zq5) ?_
                  refine zpz (i := 5) (N := some 98) (any_of HT_.out zq5) ?_
                  refine zpz (i := 6) (N := some 99) (any_of HT_.out zq5) ?_
                  refine ztz (i := 3) (N := some 96) (take_ofW HT_.out HW_.out zq5) hHeld ?_
                  refine ztz (i := 7) (N := some 100) (take_ofW HT_.out HW_.out zq5) hHeld ?_
                  refine one_ (i := 8) (N := some 101) #[true, true, true, true, true, true, true, true, true, false] rfl rfl (one_of HT_.out zq5) (by decide) (fun K hK => ?_)
                  refine goes_ Try.func21 zq5 rfl #[.agg #[.int .i64 ((rd_T31 t856 x18_3).f0.f0), .int .i64 ((rd_T31 t856 x18_3).f0.f1), .int .i64 ((rd_T31 t856 x18_3).f1.f0), .int .i64 ((rd_T31 t856 x18_3).f1.f1)], .agg #[.int .i64 ((rd_T31 t851 x18_3).f0.f0), .int .i64 ((rd_T31 t851 x18_3).f0.f1), .int .i64 ((rd_T31 t851 x18_3).f1.f0), .int .i64 ((rd_T31 t851 x18_3).f1.f1)]] (by rfl) rfl rfl zq6 ?_
                  with_reducible refine (isobathlaw03_within.calls ((rd_T31 t856 x18_3).f0.f0) ((rd_T31 t856 x18_3).f0.f1) ((rd_T31 t856 x18_3).f1.f0) ((rd_T31 t856 x18_3).f1.f1) ((rd_T31 t851 x18_3).f0.f0) ((rd_T31 t851 x18_3).f0.f1) ((rd_T31 t851 x18_3).f1.f0) ((rd_T31 t851 x18_3).f1.f1) true _ A77.out).mono ?_
                  rintro e w81 ⟨rfl, hb⟩
                  have HS0_ := (hb.cell (World.block_lt_of_cell? _ _ (hHeld.1))).trans (hHeld.1)
                  have HS1_ := (hb.cell (World.block_lt_of_cell? _ _ (hHeld.2.1))).trans (hHeld.2.1)
                  have HS2_ := (hb.cell (World.block_lt_of_cell? _ _ (hHeld.2.2.1))).trans (hHeld.2.2.1)
                  have HS3_ := (hb.cell (World.block_lt_of_cell? _ _ (hHeld.2.2.2.1))).trans (hHeld.2.2.2.1)
                  have HS4_ := (hb.cell (World.block_lt_of_cell? _ _ (hHeld.2.2.2.2.1))).trans (hHeld.2.2.2.2.1)
                  have HS5_ := (hb.cell (World.block_lt_of_cell? _ _ (hHeld.2.2.2.2.2.1))).trans (hHeld.2.2.2.2.2.1)
                  have HS6_ := (hb.cell (World.block_lt_of_cell? _ _ (hHeld.2.2.2.2.2.2.1))).trans (hHeld.2.2.2.2.2.2.1)
                  have HS7_ := (hb.cell (World.block_lt_of_cell? _ _ (hHeld.2.2.2.2.2.2.2))).trans (hHeld.2.2.2.2.2.2.2)
                  refine ⟨_, rfl, ?_⟩
                  replace HO_13 := zrb HO_13 hb
                  replace HO_15 := zrb HO_15 hb
                  replace BK846 := zbb BK846 hb
                  replace BK847 := zbb BK847 hb
                  replace BK848 := zbb BK848 hb
                  replace HB := zbs HB hb
                  (try clear hb)
                  (try clear hb2)
                  (try clear hk)
                  (try clear hi)
                  refine hK.out _ _ ⟨HS0_, HS1_, HS2_, HS3_, HS4_, HS5_, HS6_, HS7_⟩ (fun hHeld => ?_)
                  clear hK K
                  refine norm_ (by show Act.put _ (some 101) _ = _; simp only [Act.put, List.setIfInBounds_toArray, List.set_cons_zero, List.set_cons_succ, i64_w, i32_w]; rfl) ?_
                  refine zpz (i := 9) (N := some 102) (any_of HT_.out zq5) ?_
                  refine done_ (done_of HT_.out zq5) ?_
                  try go_wp2
                  go_roundg kj70
                  case measure => have := HJ6.out; have := HJ38.out; have := HK3.out; have := HJ70.out; omega
                  case rel => exact ⟨(wrap64 (x18_3 + 1)), zq3, H', ⟨by have := HJ6.out; have := HJ38.out; have := HK3.out; have := HJ70.out; omega⟩, ⟨zq48⟩, ⟨zq49⟩, ⟨zbf⟩, ⟨zbf⟩, ⟨zbf⟩, ⟨zbz⟩⟩
                 ·replace c78 := Bool.eq_false_iff.mpr c78
                  subst c78
                  have H1 : (some false) = some r := by rw [if_neg (show ¬ (false = true) by decide)] at H; exact H
                  clear H
                  have H := H1
                  clear H1
                  have hh_ := Option.some.inj H
                  rw [hr_.out] at hh_
                  cases hh_
                ·rw [if_neg c76] at H
                 exact absurd H (by simp)
               ·rw [if_neg c75] at H
                exact absurd H (by simp)
              ·rw [if_neg c74] at H
               exact absurd H (by simp)
             ·replace c73 := Bool.eq_false_iff.mpr c73
              subst c73
              have H1 : ((glider_CheckReach.f a0_0 a0_1 a0_2 a0_3 a0_4 a0_5 a0_6 l0_7 l0_8 a1_0 a1_1 a1_2 a1_3 a1_4 a1_5 a1_6 a2_0 a2_1 a2_2 a2_3 a3 l4).bind fun t865 => (if t865 = 0 then (isobathlaw03_GliderStays.l1 kj70 l4 t856 0) else ((isobathlaw03_Works.f kj70).bind fun t870 => (some t870)))) = some r := by rw [if_neg (show ¬ (false = true) by decide)] at H; exact H
              clear H
              have H := H1
              clear H1
              replace H := Option.bind_eq_some_iff.mp H
              obtain ⟨t865, A850, H⟩ := H
              replace H : (if t865 = 0 then (isobathlaw03_GliderStays.l1 kj70 l4 t856 0) else ((isobathlaw03_Works.f kj70).bind fun t870 => (some t870))) = some r := H
              have A85 := Aside0.mk A850
              clear A850
              by_cases c86 : t865 = 0
              ·rw [if_pos c86] at H
               have c86b0 : (t865 == 0) = true := beq_iff_eq.mpr c86
               have c86b1 : (t865 != 0) = false := bne_eq_false_iff_eq.mpr c86
               clear c86
               have H' := Aside0.mk H
               clear H
               have hnb87 := NB846_847.out
               have hnc87 := NB847_846.out
               have hnb88 := NB846_848.out
               have hnc88 := NB848_846.out
               obtain ⟨hcz89_0, hcz89_1, hcz89_2, hcz89_3, hcz89_4, hcz89_5, hcz89_6, hcz89_7, hcz89_8, hfz89_0, hfz89_1, hfz89_2, hfz89_3, hfz89_4, hfz89_5, hfz89_6, hfz89_7, hfz89_8⟩ := zce9 BK846.out
               have hnb90 := NB847_848.out
               have hnc90 := NB848_847.out
               obtain ⟨hcz91_0, hcz91_1, hcz91_2, hcz91_3, hcz91_4, hcz91_5, hcz91_6, hfz91_0, hfz91_1, hfz91_2, hfz91_3, hfz91_4, hfz91_5, hfz91_6⟩ := zce7 BK847.out
               obtain ⟨hcz92_0, hcz92_1, hcz92_2, hcz92_3, hfz92_0, hfz92_1, hfz92_2, hfz92_3⟩ := zce4 BK848.out
               go_wp2_with (first | ((with_reducible refine gate_callee (f := 51) rfl ?_); refine goesL_ (some 108) rfl rfl Try.func51 zq5 rfl #[.agg #[.int .i64 a0_0, .int .i64 a0_1, .int .i64 a0_2, .int .i64 a0_3, .int .i64 a0_4, .int .i64 a0_5, .int .i64 a0_6, .slice A0_7 l0_7.length c0_7, .slice A0_8 l0_8.length c0_8], .agg #[.int .i64 a1_0, .int .i64 a1_1, .int .i64 a1_2, .int .i64 a1_3, .int .i64 a1_4, .int .i64 a1_5, .int .i64 a1_6], .agg #[.int .i64 a2_0, .int .i64 a2_1, .int .i64 a2_2, .int .i64 a2_3], .int .i64 a3, .slice A4 l4.length c4] rfl zq6 ?_; (with_reducible refine (glider_CheckReach.calls a0_0 a0_1 a0_2 a0_3 a0_4 a0_5 a0_6 _ _ l0_7 _ _ l0_8 a1_0 a1_1 a1_2 a1_3 a1_4 a1_5 a1_6 a2_0 a2_1 a2_2 a2_3 a3 _ _ l4 t865 _ ?side1 ?side2 ?side3 ?side4 ?side5 ?side6 A85.out).mono ?_); (case side1 => repeat (first | exact (Kd.C_below HR0_7.out HB.out) | (with_reducible refine Kd.C_alloc ?_ _) | (with_reducible refine Kd.C_drewN ?_ _) | (with_reducible refine Kd.C_drew ?_))); (case side2 => exact HC0_7.out); (case side3 => repeat (first | exact (Kd.C_below HR0_8.out HB.out) | (with_reducible refine Kd.C_alloc ?_ _) | (with_reducible refine Kd.C_drewN ?_ _) | (with_reducible refine Kd.C_drew ?_))); (case side4 => exact HC0_8.out); (case side5 => repeat (first | exact (Kd.C_below HR4.out HB.out) | (with_reducible refine Kd.C_alloc ?_ _) | (with_reducible refine Kd.C_drewN ?_ _) | (with_reducible refine Kd.C_drew ?_))); (case side6 => exact HC4.out); rintro e w93 ⟨rfl, hb⟩; refine ⟨_, rfl, ?_⟩; replace HO_13 := zrb HO_13 hb; replace HO_15 := zrb HO_15 hb; replace BK846 := zbb BK846 hb; replace BK847 := zbb BK847 hb; replace BK848 := zbb BK848 hb; replace HB := zbs HB hb; (try clear hb); (try clear hb2); (try clear hk); (try clear hi)))
               go_loopg [19] kj70 (fun kq v19 w' => ∃ (x19_5 : Int), v19 = .int .i64 x19_5 ∧ Aside0 (isobathlaw03_GliderStays.l1 kq l4 t856 x19_5 = some r) ∧ Aside0 (kq ≤ kj70) ∧ Aside0 (Kd.R k31 31 w' w.heap.size (fun k_ => k_ ≠ gb848) (.slice Ao70 t856.length co70) t856) ∧ Aside0 (w'.heap[gb846]? = some (.cells #[.int .i64 a0_0, .int .i64 a0_1, .int .i64 a0_2, .int .i64 a0_3, .int .i64 a0_4, .int .i64 a0_5, .int .i64 a0_6, (.slice A0_7 l0_7.length c0_7), (.slice A0_8 l0_8.length c0_8)] 25 (0, 0))) ∧ Aside0 (w'.heap[gb847]? = some (.cells #[.int .i64 a1_0, .int .i64 a1_1, .int .i64 a1_2, .int .i64 a1_3, .int .i64 a1_4, .int .i64 a1_5, .int .i64 a1_6] 29 (0, 0))) ∧ Aside0 (w'.heap[gb848]? = some (.cells #[.int .i64 a2_0, .int .i64 a2_1, .int .i64 a2_2, .int .i64 a2_3] 31 (0, 0))) ∧ Aside0 (Below w.heap.size w w'))
               case atStart => exact ⟨(0), zq3, H', ⟨Nat.le_refl _⟩, ⟨by (with_reducible repeat (first | apply Kd.R_alloc | apply Kd.R_drewN | apply Kd.R_drew)); exact Kd.R_mono HO_15.out (fun _ hk => hk.2)⟩, ⟨zbf⟩, ⟨zbf⟩, ⟨zbf⟩, ⟨zbz⟩⟩
               case round =>
                clear H'
                try clear c2
                try clear p2
                try clear c4
                try clear c5
                try clear p6
                try clear c7
                try clear c8
                try clear p8
                try clear q8
                try clear hx8
                try clear c9
                try clear c21
                try clear c51
                try clear p64
                try clear c73
                try clear c74
                try clear c74b0
                try clear c75
                try clear c75b0
                try clear c76
                try clear c76b0
                try clear c78
                try clear c86
                try clear c86b0
                try clear c86b1
                try clear p86
                try clear q86
                try clear hx86
                try clear c87
                try clear c88
                try clear c90
                try clear hcz44_3 hcz44_4 hcz44_5 hcz44_6
                try clear hcz45_0 hcz45_1 hcz45_2 hcz45_3
                try clear hcz53_0 hcz53_1 hcz53_2 hcz53_3 hcz53_4 hcz53_5 hcz53_6 hcz53_7 hcz53_8
                try clear hcz55_0 hcz55_1 hcz55_2 hcz55_3 hcz55_4 hcz55_5 hcz55_6
                try clear hcz56_0 hcz56_1 hcz56_2 hcz56_3
                try clear hcz65_0 hcz65_1 hcz65_2 hcz65_3 hcz65_4 hcz65_5 hcz65_6 hcz65_7 hcz65_8
                try clear hcz67_0 hcz67_1 hcz67_2 hcz67_3 hcz67_4 hcz67_5 hcz67_6
                try clear hcz68_0 hcz68_1 hcz68_2 hcz68_3
                try clear hcz89_0 hcz89_1 hcz89_2 hcz89_3 hcz89_4 hcz89_5 hcz89_6 hcz89_7 hcz89_8
                try clear hcz91_0 hcz91_1 hcz91_2 hcz91_3 hcz91_4 hcz91_5 hcz91_6
                try clear hcz92_0 hcz92_1 hcz92_2 hcz92_3
                try clear hfz16_0 hfz16_1 hfz16_2 hfz16_3 hfz16_4 hfz16_5 hfz16_6 hfz16_7 hfz16_8
                try clear hfz18_0 hfz18_1 hfz18_2 hfz18_3 hfz18_4 hfz18_5 hfz18_6
                try clear hfz19_0 hfz19_1 hfz19_2 hfz19_3
                try clear hfz23_0 hfz23_1 hfz23_2 hfz23_3 hfz23_4 hfz23_5 hfz23_6 hfz23_7 hfz23_8
                try clear hfz25_0 hfz25_1 hfz25_2 hfz25_3 hfz25_4 hfz25_5 hfz25_6
                try clear hfz26_0 hfz26_1 hfz26_2 hfz26_3
                try clear hfz30_0 hfz30_1 hfz30_2 hfz30_3 hfz30_4 hfz30_5 hfz30_6 hfz30_7 hfz30_8
                try clear hfz32_0 hfz32_1 hfz32_2 hfz32_3 hfz32_4 hfz32_5 hfz32_6
                try clear hfz33_0 hfz33_1 hfz33_2 hfz33_3
                try clear hfz42_0 hfz42_1 hfz42_2 hfz42_3 hfz42_4 hfz42_5 hfz42_6 hfz42_7 hfz42_8
                try clear hfz44_0 hfz44_1 hfz44_2 hfz44_3 hfz44_4 hfz44_5 hfz44_6
                try clear hfz45_0 hfz45_1 hfz45_2 hfz45_3
                try clear hfz53_0 hfz53_1 hfz53_2 hfz53_3 hfz53_4 hfz53_5 hfz53_6 hfz53_7 hfz53_8
                try clear hfz55_0 hfz55_1 hfz55_2 hfz55_3 hfz55_4 hfz55_5 hfz55_6
                try clear hfz56_0 hfz56_1 hfz56_2 hfz56_3
                try clear hfz65_0 hfz65_1 hfz65_2 hfz65_3 hfz65_4 hfz65_5 hfz65_6 hfz65_7 hfz65_8
                try clear hfz67_0 hfz67_1 hfz67_2 hfz67_3 hfz67_4 hfz67_5 hfz67_6
                try clear hfz68_0 hfz68_1 hfz68_2 hfz68_3
                try clear hfz89_0 hfz89_1 hfz89_2 hfz89_3 hfz89_4 hfz89_5 hfz89_6 hfz89_7 hfz89_8
                try clear hfz91_0 hfz91_1 hfz91_2 hfz91_3 hfz91_4 hfz91_5 hfz91_6
                try clear hfz92_0 hfz92_1 hfz92_2 hfz92_3
                try clear hx862_0 hx862_1 hx862_2 hx862_3
                try clear hx863_0 hx863_1 hx863_2 hx863_3
                try clear p2
                try clear p862
                try clear p863
                try clear q862
                try clear q863
                obtain ⟨x19_5, rfl, HA, HK5, HO_15, BK846, BK847, BK848, HB⟩ := hrel
                cases gk with
                | zero => exact absurd HA.out (by simp [isobathlaw03_GliderStays.l1])
                | succ k5 =>
                 have H := HA.out
                 clear HA
                 simp only [isobathlaw03_GliderStays.l1] at H
                 have HC94 := Aside0.mk H
                 clear H
                 go_upto_region 18 with (fail)
                 go_cut [119] (fun v119 wc => ∃ (kq : Nat) (x119_93 : Bool), v119 = .bool x119_93 ∧ Aside0 (isobathlaw03_GliderStays.j5 kq l4 t856 x19_5 x119_93 = some r) ∧ Aside0 (kq ≤ k5) ∧ Aside0 (Kd.R k31 31 wc w.heap.size (fun k_ => k_ ≠ gb848) (.slice Ao70 t856.length co70) t856) ∧ Aside0 (wc.heap[gb846]? = some (.cells #[.int .i64 a0_0, .int .i64 a0_1, .int .i64 a0_2, .int .i64 a0_3, .int .i64 a0_4, .int .i64 a0_5, .int .i64 a0_6, (.slice A0_7 l0_7.length c0_7), (.slice A0_8 l0_8.length c0_8)] 25 (0, 0))) ∧ Aside0 (wc.heap[gb847]? = some (.cells #[.int .i64 a1_0, .int .i64 a1_1, .int .i64 a1_2, .int .i64 a1_3, .int .i64 a1_4, .int .i64 a1_5, .int .i64 a1_6] 29 (0, 0))) ∧ Aside0 (wc.heap[gb848]? = some (.cells #[.int .i64 a2_0, .int .i64 a2_1, .int .i64 a2_2, .int .i64 a2_3] 31 (0, 0))) ∧ Aside0 (Below w.heap.size w wc))
                 case first =>
                  have H := HC94.out
                  clear HC94
                  by_cases c95 : x19_5 < (t856.length : Int)
                  ·rw [if_pos c95] at H
                   have c95b0 : decide (x19_5 < (t856.length : Int)) = true := decide_eq_true c95
                   clear c95
                   (first | rw [c95b0] | (simp only [i64_w, i32_w]; rw [c95b0]) | skip)
                   have H' := Aside0.mk H
                   clear H
                   go_wp2
                   go_meet
                   case rel => exact ⟨_, (decide (x19_5 < (l4.length : Int))), zq3, H', ⟨zq50⟩, ⟨zq49⟩, ⟨zbf⟩, ⟨zbf⟩, ⟨zbf⟩, ⟨zbz⟩⟩
                  ·rw [if_neg c95] at H
                   have c95b0 : decide (x19_5 < (t856.length : Int)) = false := decide_eq_false c95
                   clear c95
                   (first | rw [c95b0] | (simp only [i64_w, i32_w]; rw [c95b0]) | skip)
                   have H' := Aside0.mk H
                   clear H
                   go_wp2
                   go_meet
                   case rel => exact ⟨_, (false), zq3, H', ⟨zq50⟩, ⟨zq49⟩, ⟨zbf⟩, ⟨zbf⟩, ⟨zbf⟩, ⟨zbz⟩⟩
                 case rest =>
                  clear HC94
                  try clear c2
                  try clear p2
                  try clear c4
                  try clear c5
                  try clear p6
                  try clear c7
                  try clear c8
                  try clear p8
                  try clear q8
                  try clear hx8
                  try clear c9
                  try clear c21
                  try clear c51
                  try clear p64
                  try clear c73
                  try clear c74
                  try clear c74b0
                  try clear c75
                  try clear c75b0
                  try clear c76
                  try clear c76b0
                  try clear c78
                  try clear c86
                  try clear c86b0
                  try clear c86b1
                  try clear p86
                  try clear q86
                  try clear hx86
                  try clear c87
                  try clear c88
                  try clear c90
                  try clear c95
                  try clear c95b0
                  try clear hcz44_3 hcz44_4 hcz44_5 hcz44_6
                  try clear hcz45_0 hcz45_1 hcz45_2 hcz45_3
                  try clear hcz53_0 hcz53_1 hcz53_2 hcz53_3 hcz53_4 hcz53_5 hcz53_6 hcz53_7 hcz53_8
                  try clear hcz55_0 hcz55_1 hcz55_2 hcz55_3 hcz55_4 hcz55_5 hcz55_6
                  try clear hcz56_0 hcz56_1 hcz56_2 hcz56_3
                  try clear hcz65_0 hcz65_1 hcz65_2 hcz65_3 hcz65_4 hcz65_5 hcz65_6 hcz65_7 hcz65_8
                  try clear hcz67_0 hcz67_1 hcz67_2 hcz67_3 hcz67_4 hcz67_5 hcz67_6
                  try clear hcz68_0 hcz68_1 hcz68_2 hcz68_3
                  try clear hcz89_0 hcz89_1 hcz89_2 hcz89_3 hcz89_4 hcz89_5 hcz89_6 hcz89_7 hcz89_8
                  try clear hcz91_0 hcz91_1 hcz91_2 hcz91_3 hcz91_4 hcz91_5 hcz91_6
                  try clear hcz92_0 hcz92_1 hcz92_2 hcz92_3
                  try clear hfz16_0 hfz16_1 hfz16_2 hfz16_3 hfz16_4 hfz16_5 hfz16_6 hfz16_7 hfz16_8
                  try clear hfz18_0 hfz18_1 hfz18_2 hfz18_3 hfz18_4 hfz18_5 hfz18_6
                  try clear hfz19_0 hfz19_1 hfz19_2 hfz19_3
                  try clear hfz23_0 hfz23_1 hfz23_2 hfz23_3 hfz23_4 hfz23_5 hfz23_6 hfz23_7 hfz23_8
                  try clear hfz25_0 hfz25_1 hfz25_2 hfz25_3 hfz25_4 hfz25_5 hfz25_6
                  try clear hfz26_0 hfz26_1 hfz26_2 hfz26_3
                  try clear hfz30_0 hfz30_1 hfz30_2 hfz30_3 hfz30_4 hfz30_5 hfz30_6 hfz30_7 hfz30_8
                  try clear hfz32_0 hfz32_1 hfz32_2 hfz32_3 hfz32_4 hfz32_5 hfz32_6
                  try clear hfz33_0 hfz33_1 hfz33_2 hfz33_3
                  try clear hfz42_0 hfz42_1 hfz42_2 hfz42_3 hfz42_4 hfz42_5 hfz42_6 hfz42_7 hfz42_8
                  try clear hfz44_0 hfz44_1 hfz44_2 hfz44_3 hfz44_4 hfz44_5 hfz44_6
                  try clear hfz45_0 hfz45_1 hfz45_2 hfz45_3
                  try clear hfz53_0 hfz53_1 hfz53_2 hfz53_3 hfz53_4 hfz53_5 hfz53_6 hfz53_7 hfz53_8
                  try clear hfz55_0 hfz55_1 hfz55_2 hfz55_3 hfz55_4 hfz55_5 hfz55_6
                  try clear hfz56_0 hfz56_1 hfz56_2 hfz56_3
                  try clear hfz65_0 hfz65_1 hfz65_2 hfz65_3 hfz65_4 hfz65_5 hfz65_6 hfz65_7 hfz65_8
                  try clear hfz67_0 hfz67_1 hfz67_2 hfz67_3 hfz67_4 hfz67_5 hfz67_6
                  try clear hfz68_0 hfz68_1 hfz68_2 hfz68_3
                  try clear hfz89_0 hfz89_1 hfz89_2 hfz89_3 hfz89_4 hfz89_5 hfz89_6 hfz89_7 hfz89_8
                  try clear hfz91_0 hfz91_1 hfz91_2 hfz91_3 hfz91_4 hfz91_5 hfz91_6
                  try clear hfz92_0 hfz92_1 hfz92_2 hfz92_3
                  try clear hx862_0 hx862_1 hx862_2 hx862_3
                  try clear hx863_0 hx863_1 hx863_2 hx863_3
                  try clear p2
                  try clear p6
                  try clear p64
                  try clear p8
                  try clear p86
                  try clear p862
                  try clear p863
                  try clear q8
                  try clear q86
                  try clear q862
                  try clear q863
                  obtain ⟨kq, x119_93, rfl, HA, HJ93, HO_15, BK846, BK847, BK848, HB⟩ := hcut
                  cases kq with
                  | zero => exact absurd HA.out (by simp [isobathlaw03_GliderStays.j5])
                  | succ kj93 =>
                   have H := HA.out
                   clear HA
                   simp only [isobathlaw03_GliderStays.j5] at H
                   by_cases c96 : x119_93 = true
                   ·subst c96
                    have H1 : (if 0 ≤ x19_5 then (if x19_5 < (t856.length : Int) then (if x19_5 < (l4.length : Int) then ((isobathlaw03_within.f ((rd_T31 t856 x19_5).f0.f0) ((rd_T31 t856 x19_5).f0.f1) ((rd_T31 t856 x19_5).f1.f0) ((rd_T31 t856 x19_5).f1.f1) ((rd_T31 l4 x19_5).f0.f0) ((rd_T31 l4 x19_5).f0.f1) ((rd_T31 l4 x19_5).f1.f0) ((rd_T31 l4 x19_5).f1.f1)).bind fun t868 => (if t868 = true then (isobathlaw03_GliderStays.l1 kj93 l4 t856 (wrap64 (x19_5 + 1))) else (some false))) else (none)) else (none)) else (none)) = some r := by rw [if_pos rfl] at H; exact H
                    clear H
                    have H := H1
                    clear H1
                    by_cases c97 : 0 ≤ x19_5
                    ·rw [if_pos c97] at H
                     have c97b0 : decide (0 ≤ x19_5) = true := decide_eq_true c97
                     clear c97
                     by_cases c98 : x19_5 < (t856.length : Int)
                     ·rw [if_pos c98] at H
                      have c98b0 : decide (x19_5 < (t856.length : Int)) = true := decide_eq_true c98
                      clear c98
                      by_cases c99 : x19_5 < (l4.length : Int)
                      ·rw [if_pos c99] at H
                       have c99b0 : decide (x19_5 < (l4.length : Int)) = true := decide_eq_true c99
                       clear c99
                       replace H := Option.bind_eq_some_iff.mp H
                       obtain ⟨t868, A1000, H⟩ := H
                       replace H : (if t868 = true then (isobathlaw03_GliderStays.l1 kj93 l4 t856 (wrap64 (x19_5 + 1))) else (some false)) = some r := H
                       have A100 := Aside0.mk A1000
                       clear A1000
                       by_cases c101 : t868 = true
                       ·subst c101
                        have H1 : (isobathlaw03_GliderStays.l1 kj93 l4 t856 (wrap64 (x19_5 + 1))) = some r := by rw [if_pos rfl] at H; exact H
                        clear H
                        have H := H1
                        clear H1
                        have H' := Aside0.mk H
                        clear H
                        try go_wp2
                        replace HO_15 := Aside0.mk (Kd.R_drew HO_15.out)
                        replace BK846 := Aside0.mk (blk_drew BK846.out)
                        replace BK847 := Aside0.mk (blk_drew BK847.out)
                        replace BK848 := Aside0.mk (blk_drew BK848.out)
                        replace HB := Aside0.mk (below_drew1 HB.out)
                        have p866 : 0 ≤ (x19_5 : Int) := of_decide_eq_true zq8
                        have q866 : x19_5 < (t856.length : Int) := of_decide_eq_true zq8
                        obtain ⟨ad866, e866, hx866_0, hx866_1, hx866_2, hx866_3⟩ := at_T31 (Kd.R_reads' HO_15.out).2.2 x19_5 p866 q866
                        cases e866
                        replace p866 := eq_true p866
                        replace q866 := eq_true q866
                        have p867 : 0 ≤ (x19_5 : Int) := of_decide_eq_true zq8
                        have q867 : x19_5 < (l4.length : Int) := of_decide_eq_true zq8
                        obtain ⟨ad867, e867, hx867_0, hx867_1, hx867_2, hx867_3⟩ := at_T31 HR4.out x19_5 p867 q867
                        have hw867_3 := hx867_3
                        have hw867_2 := hx867_2
                        have hw867_1 := hx867_1
                        have hw867_0 := hx867_0
                        cases e867
                        replace hx867_0 := (HB.out.cell (World.block_lt_of_cell? w _ hx867_0)).trans hx867_0
                        replace hx867_1 := (HB.out.cell (World.block_lt_of_cell? w _ hx867_1)).trans hx867_1
                        replace hx867_2 := (HB.out.cell (World.block_lt_of_cell? w _ hx867_2)).trans hx867_2
                        replace hx867_3 := (HB.out.cell (World.block_lt_of_cell? w _ hx867_3)).trans hx867_3
                        replace p867 := eq_true p867
                        replace q867 := eq_true q867
                        refine start_ (n := 10) (S := fun w' => w'.cell? (ad866.add ((x19_5).toNat * 4)) = some (.int .i64 ((rd_T31 t856 x19_5).f0.f0)) ∧ w'.cell? ⟨(ad866.add ((x19_5).toNat * 4)).block, (ad866.add ((x19_5).toNat * 4)).off + 1, none⟩ = some (.int .i64 ((rd_T31 t856 x19_5).f0.f1)) ∧ w'.cell? ⟨(ad866.add ((x19_5).toNat * 4)).block, (ad866.add ((x19_5).toNat * 4)).off + 2, none⟩ = some (.int .i64 ((rd_T31 t856 x19_5).f1.f0)) ∧ w'.cell? ⟨(ad866.add ((x19_5).toNat * 4)).block, (ad866.add ((x19_5).toNat * 4)).off + 3, none⟩ = some (.int .i64 ((rd_T31 t856 x19_5).f1.f1)) ∧ w'.cell? (ad867.add ((x19_5).toNat * 4)) = some (.int .i64 ((rd_T31 l4 x19_5).f0.f0)) ∧ w'.cell? ⟨(ad867.add ((x19_5).toNat * 4)).block, (ad867.add ((x19_5).toNat * 4)).off + 1, none⟩ = some (.int .i64 ((rd_T31 l4 x19_5).f0.f1)) ∧ w'.cell? ⟨(ad867.add ((x19_5).toNat * 4)).block, (ad867.add ((x19_5).toNat * 4)).off + 2, none⟩ = some (.int .i64 ((rd_T31 l4 x19_5).f1.f0)) ∧ w'.cell? ⟨(ad867.add ((x19_5).toNat * 4)).block, (ad867.add ((x19_5).toNat * 4)).off + 3, none⟩ = some (.int .i64 ((rd_T31 l4 x19_5).f1.f1))) (ds := []) #[false, false, false, false, false, false, false, false, false, false] zq5 rfl rfl ⟨hx866_0, hx866_1, hx866_2, hx866_3, ((HB.out.cell (World.block_lt_of_cell? w _ hw867_0)).trans hw867_0), ((HB.out.cell (World.block_lt_of_cell? w _ hw867_1)).trans hw867_1), ((HB.out.cell (World.block_lt_of_cell? w _ hw867_2)).trans hw867_2), ((HB.out.cell (World.block_lt_of_cell? w _ hw867_3)).trans hw867_3)⟩ (fun hHeld => ?_); refine with_tabW isobathlaw03_GliderStays.tab20 isobathlaw03_GliderStays.bits20 (fun HT_ HW_ => ?_)
                        generalize wc.drew = w102 at HO_15 BK846 BK847 BK848 HB hx866_0 hx866_1 hx866_2 hx866_3 hx867_0 hx867_1 hx867_2 hx867_3 hHeld ⊢
                        refine zpz (i := 0) (N := some 122) (any_of HT_.out zq5) ?_
                        refine zpz (i := 1) (N := some 123) (any_of HT_.out zq5) ?_
                        refine zpz (i := 2) (N := some 124) (any_of HT_.out zq5) ?_
                        refine zpz (i := 4) (N := some 126) (any_of HT_.out zq5) ?_
                        refine zpz (i := 5) (N := some 127) (any_of HT_.out zq5) ?_
                        refine zpz (i := 6) (N := some 128) (any_of HT_.out zq5) ?_
                        refine ztz (i := 3) (N := some 125) (take_ofW HT_.out HW_.out zq5) hHeld ?_
                        refine ztz (i := 7) (N := some 129) (take_ofW HT_.out HW_.out zq5) hHeld ?_
                        refine one_ (i := 8) (N := some 130) #[true, true, true, true, true, true, true, true, true, false] rfl rfl (one_of HT_.out zq5) (by decide) (fun K hK => ?_)
                        refine goes_ Try.func21 zq5 rfl #[.agg #[.int .i64 ((rd_T31 t856 x19_5).f0.f0), .int .i64 ((rd_T31 t856 x19_5).f0.f1), .int .i64 ((rd_T31 t856 x19_5).f1.f0), .int .i64 ((rd_T31 t856 x19_5).f1.f1)], .agg #[.int .i64 ((rd_T31 l4 x19_5).f0.f0), .int .i64 ((rd_T31 l4 x19_5).f0.f1), .int .i64 ((rd_T31 l4 x19_5).f1.f0), .int .i64 ((rd_T31 l4 x19_5).f1.f1)]] (by rfl) rfl rfl zq6 ?_
                        with_reducible refine (isobathlaw03_within.calls ((rd_T31 t856 x19_5).f0.f0) ((rd_T31 t856 x19_5).f0.f1) ((rd_T31 t856 x19_5).f1.f0) ((rd_T31 t856 x19_5).f1.f1) ((rd_T31 l4 x19_5).f0.f0) ((rd_T31 l4 x19_5).f0.f1) ((rd_T31 l4 x19_5).f1.f0) ((rd_T31 l4 x19_5).f1.f1) true _ A100.out).mono ?_
                        rintro e w103 ⟨rfl, hb⟩
                        have HS0_ := (hb.cell (World.block_lt_of_cell? _ _ (hHeld.1))).trans (hHeld.1)
                        have HS1_ := (hb.cell (World.block_lt_of_cell? _ _ (hHeld.2.1))).trans (hHeld.2.1)
                        have HS2_ := (hb.cell (World.block_lt_of_cell? _ _ (hHeld.2.2.1))).trans (hHeld.2.2.1)
                        have HS3_ := (hb.cell (World.block_lt_of_cell? _ _ (hHeld.2.2.2.1))).trans (hHeld.2.2.2.1)
                        refine ⟨_, rfl, ?_⟩
                        replace HO_15 := zrb HO_15 hb
                        replace BK846 := zbb BK846 hb
                        replace BK847 := zbb BK847 hb
                        replace BK848 := zbb BK848 hb
                        replace HB := zbs HB hb
                        (try clear hb)
                        (try clear hb2)
                        (try clear hk)
                        (try clear hi)
                        refine hK.out _ _ ⟨HS0_, HS1_, HS2_, HS3_, ((HB.out.cell (World.block_lt_of_cell? w _ hw867_0)).trans hw867_0), ((HB.out.cell (World.block_lt_of_cell? w _ hw867_1)).trans hw867_1), ((HB.out.cell (World.block_lt_of_cell? w _ hw867_2)).trans hw867_2), ((HB.out.cell (World.block_lt_of_cell? w _ hw867_3)).trans hw867_3)⟩ (fun hHeld => ?_)
                        clear hK K
                        refine norm_ zq10 ?_
                        refine zpz (i := 9) (N := some 131) (any_of HT_.out zq5) ?_
                        refine done_ (done_of HT_.out zq5) ?_
                        try go_wp2
                        go_roundg kj93
                        case measure => have := HJ6.out; have := HJ38.out; have := HK3.out; have := HJ70.out; have := HK5.out; have := HJ93.out; omega
                        case rel => exact ⟨(wrap64 (x19_5 + 1)), zq3, H', ⟨by have := HJ6.out; have := HJ38.out; have := HK3.out; have := HJ70.out; have := HK5.out; have := HJ93.out; omega⟩, ⟨zq49⟩, ⟨zbf⟩, ⟨zbf⟩, ⟨zbf⟩, ⟨zbz⟩⟩
                       ·replace c101 := Bool.eq_false_iff.mpr c101
                        subst c101
                        have H1 : (some false) = some r := by rw [if_neg (show ¬ (false = true) by decide)] at H; exact H
                        clear H
                        have H := H1
                        clear H1
                        have hh_ := Option.some.inj H
                        rw [hr_.out] at hh_
                        cases hh_
                      ·rw [if_neg c99] at H
                       exact absurd H (by simp)
                     ·rw [if_neg c98] at H
                      exact absurd H (by simp)
                    ·rw [if_neg c97] at H
                     exact absurd H (by simp)
                   ·replace c96 := Bool.eq_false_iff.mpr c96
                    subst c96
                    have H1 : ((isobathlaw03_Works.f kj93).bind fun t869 => (some t869)) = some r := by rw [if_neg (show ¬ (false = true) by decide)] at H; exact H
                    clear H
                    have H := H1
                    clear H1
                    replace H := Option.bind_eq_some_iff.mp H
                    obtain ⟨t869, A1060, H⟩ := H
                    replace H : (some t869) = some r := H
                    have A106 := Aside0.mk A1060
                    clear A1060
                    obtain rfl := Option.some.inj H
                    go_wp2_with (first | ((with_reducible refine gate_callee (f := 19) rfl ?_); refine goesL_ (some 132) rfl rfl Try.func19 zq5 rfl #[] rfl zq6 ?_; (with_reducible refine (isobathlaw03_Works.calls kj93  t869 _ A106.out).mono ?_); rintro e w107 ⟨rfl, hb⟩; refine ⟨_, rfl, ?_⟩; replace HO_15 := zrb HO_15 hb; replace BK846 := zbb BK846 hb; replace BK847 := zbb BK847 hb; replace BK848 := zbb BK848 hb; replace HB := zbs HB hb; (try clear hb); (try clear hb2); (try clear hk); (try clear hi)))
                    go_ret
                    exact ⟨zq2, zbz⟩
              ·rw [if_neg c86] at H
               have c86b0 : (t865 == 0) = false := beq_eq_false_iff_ne.mpr c86
               have c86b1 : (t865 != 0) = true := bne_iff_ne.mpr c86
               replace H := Option.bind_eq_some_iff.mp H
               obtain ⟨t870, A1080, H⟩ := H
               replace H : (some t870) = some r := H
               have A108 := Aside0.mk A1080
               clear A1080
               obtain rfl := Option.some.inj H
               have hnb109 := NB846_847.out
               have hnc109 := NB847_846.out
               have hnb110 := NB846_848.out
               have hnc110 := NB848_846.out
               obtain ⟨hcz111_0, hcz111_1, hcz111_2, hcz111_3, hcz111_4, hcz111_5, hcz111_6, hcz111_7, hcz111_8, hfz111_0, hfz111_1, hfz111_2, hfz111_3, hfz111_4, hfz111_5, hfz111_6, hfz111_7, hfz111_8⟩ := zce9 BK846.out
               have hnb112 := NB847_848.out
               have hnc112 := NB848_847.out
               obtain ⟨hcz113_0, hcz113_1, hcz113_2, hcz113_3, hcz113_4, hcz113_5, hcz113_6, hfz113_0, hfz113_1, hfz113_2, hfz113_3, hfz113_4, hfz113_5, hfz113_6⟩ := zce7 BK847.out
               obtain ⟨hcz114_0, hcz114_1, hcz114_2, hcz114_3, hfz114_0, hfz114_1, hfz114_2, hfz114_3⟩ := zce4 BK848.out
               go_wp2_with (first | ((with_reducible refine gate_callee (f := 51) rfl ?_); refine goesL_ (some 108) rfl rfl Try.func51 zq5 rfl #[.agg #[.int .i64 a0_0, .int .i64 a0_1, .int .i64 a0_2, .int .i64 a0_3, .int .i64 a0_4, .int .i64 a0_5, .int .i64 a0_6, .slice A0_7 l0_7.length c0_7, .slice A0_8 l0_8.length c0_8], .agg #[.int .i64 a1_0, .int .i64 a1_1, .int .i64 a1_2, .int .i64 a1_3, .int .i64 a1_4, .int .i64 a1_5, .int .i64 a1_6], .agg #[.int .i64 a2_0, .int .i64 a2_1, .int .i64 a2_2, .int .i64 a2_3], .int .i64 a3, .slice A4 l4.length c4] rfl zq6 ?_; (with_reducible refine (glider_CheckReach.calls a0_0 a0_1 a0_2 a0_3 a0_4 a0_5 a0_6 _ _ l0_7 _ _ l0_8 a1_0 a1_1 a1_2 a1_3 a1_4 a1_5 a1_6 a2_0 a2_1 a2_2 a2_3 a3 _ _ l4 t865 _ ?side1 ?side2 ?side3 ?side4 ?side5 ?side6 A85.out).mono ?_); (case side1 => repeat (first | exact (Kd.C_below HR0_7.out HB.out) | (with_reducible refine Kd.C_alloc ?_ _) | (with_reducible refine Kd.C_drewN ?_ _) | (with_reducible refine Kd.C_drew ?_))); (case side2 => exact HC0_7.out); (case side3 => repeat (first | exact (Kd.C_below HR0_8.out HB.out) | (with_reducible refine Kd.C_alloc ?_ _) | (with_reducible refine Kd.C_drewN ?_ _) | (with_reducible refine Kd.C_drew ?_))); (case side4 => exact HC0_8.out); (case side5 => repeat (first | exact (Kd.C_below HR4.out HB.out) | (with_reducible refine Kd.C_alloc ?_ _) | (with_reducible refine Kd.C_drewN ?_ _) | (with_reducible refine Kd.C_drew ?_))); (case side6 => exact HC4.out); rintro e w115 ⟨rfl, hb⟩; refine ⟨_, rfl, ?_⟩; replace HO_13 := zrb HO_13 hb; replace HO_15 := zrb HO_15 hb; replace BK846 := zbb BK846 hb; replace BK847 := zbb BK847 hb; replace BK848 := zbb BK848 hb; replace HB := zbs HB hb; (try clear hb); (try clear hb2); (try clear hk); (try clear hi)) | ((with_reducible refine gate_callee (f := 19) rfl ?_); refine goesL_ (some 132) rfl rfl Try.func19 zq5 rfl #[] rfl zq6 ?_; (with_reducible refine (isobathlaw03_Works.calls kj70  t870 _ A108.out).mono ?_); rintro e w116 ⟨rfl, hb⟩; refine ⟨_, rfl, ?_⟩; replace HO_13 := zrb HO_13 hb; replace HO_15 := zrb HO_15 hb; replace BK846 := zbb BK846 hb; replace BK847 := zbb BK847 hb; replace BK848 := zbb BK848 hb; replace HB := zbs HB hb; (try clear hb); (try clear hb2); (try clear hk); (try clear hi)))
               go_ret
               exact ⟨zq2, zbz⟩
        ·rw [if_neg c62] at H
         have c62b0 : ((t856.length : Int) == (l5.length : Int)) = false := beq_eq_false_iff_ne.mpr c62
         have c62b1 : ((t856.length : Int) != (l5.length : Int)) = true := bne_iff_ne.mpr c62
         have c62b2 : (t856.length == l5.length) = false := by first | simpa using c62 | (simp at c62 ⊢; omega)
         have hh_ := Option.some.inj H
         rw [hr_.out] at hh_
         cases hh_
       ·rw [if_neg c61] at H
        have c61b0 : (t860 == 0) = false := beq_eq_false_iff_ne.mpr c61
        have c61b1 : (t860 != 0) = true := bne_iff_ne.mpr c61
        replace H := Option.bind_eq_some_iff.mp H
        obtain ⟨t861, A1250, H⟩ := H
        replace H : (some t861) = some r := H
        have A125 := Aside0.mk A1250
        clear A1250
        obtain rfl := Option.some.inj H
        have hnb126 := NB846_847.out
        have hnc126 := NB847_846.out
        have hnb127 := NB846_848.out
        have hnc127 := NB848_846.out
        obtain ⟨hcz128_0, hcz128_1, hcz128_2, hcz128_3, hcz128_4, hcz128_5, hcz128_6, hcz128_7, hcz128_8, hfz128_0, hfz128_1, hfz128_2, hfz128_3, hfz128_4, hfz128_5, hfz128_6, hfz128_7, hfz128_8⟩ := zce9 BK846.out
        have hnb129 := NB847_848.out
        have hnc129 := NB848_847.out
        obtain ⟨hcz130_0, hcz130_1, hcz130_2, hcz130_3, hcz130_4, hcz130_5, hcz130_6, hfz130_0, hfz130_1, hfz130_2, hfz130_3, hfz130_4, hfz130_5, hfz130_6⟩ := zce7 BK847.out
        obtain ⟨hcz131_0, hcz131_1, hcz131_2, hcz131_3, hfz131_0, hfz131_1, hfz131_2, hfz131_3⟩ := zce4 BK848.out
        go_wp2_with (first | ((with_reducible refine gate_callee (f := 30) rfl ?_); refine goesL_ (some 71) rfl rfl Try.func30 zq5 rfl #[.agg #[.int .i64 a0_0, .int .i64 a0_1, .int .i64 a0_2, .int .i64 a0_3, .int .i64 a0_4, .int .i64 a0_5, .int .i64 a0_6, .slice A0_7 l0_7.length c0_7, .slice A0_8 l0_8.length c0_8], .agg #[.int .i64 a1_0, .int .i64 a1_1, .int .i64 a1_2, .int .i64 a1_3, .int .i64 a1_4, .int .i64 a1_5, .int .i64 a1_6], .agg #[.int .i64 a2_0, .int .i64 a2_1, .int .i64 a2_2, .int .i64 a2_3], .int .i64 a3, .slice A5 l5.length c5] rfl zq6 ?_; (with_reducible refine (glider_Run.calls a0_0 a0_1 a0_2 a0_3 a0_4 a0_5 a0_6 _ _ l0_7 _ _ l0_8 a1_0 a1_1 a1_2 a1_3 a1_4 a1_5 a1_6 a2_0 a2_1 a2_2 a2_3 a3 _ _ l5 t856 t859 t860 _ ?side1 ?side2 ?side3 ?side4 ?side5 ?side6 A60.out).mono ?_); (case side1 => repeat (first | exact (Kd.C_below HR0_7.out HB.out) | (with_reducible refine Kd.C_alloc ?_ _) | (with_reducible refine Kd.C_drewN ?_ _) | (with_reducible refine Kd.C_drew ?_))); (case side2 => exact HC0_7.out); (case side3 => repeat (first | exact (Kd.C_below HR0_8.out HB.out) | (with_reducible refine Kd.C_alloc ?_ _) | (with_reducible refine Kd.C_drewN ?_ _) | (with_reducible refine Kd.C_drew ?_))); (case side4 => exact HC0_8.out); (case side5 => repeat (first | exact (Kd.C_below HR5.out HB.out) | (with_reducible refine Kd.C_alloc ?_ _) | (with_reducible refine Kd.C_drewN ?_ _) | (with_reducible refine Kd.C_drew ?_))); (case side6 => exact HC5.out); rintro e w132 ⟨v857, rfl, ho0, hb⟩; refine ⟨_, rfl, ?_⟩; have HO858 := Aside0.mk (Kd.R_lower (Kd.R_newB (Kd.R_new' ho0 (Kd.R_lt zq48)) (g := gb848) (o := .cells #[.int .i64 a2_0, .int .i64 a2_1, .int .i64 a2_2, .int .i64 a2_3] 31 (0, 0)) zbf) (below_size zbz)); replace HO_13 := Aside0.mk (Kd.R_elder' zq48 (Kd.R_base ho0) hb); replace BK846 := zbb BK846 hb; replace BK847 := zbb BK847 hb; replace BK848 := zbb BK848 hb; replace HB := zbs HB hb; (try clear hb); (try clear hb2); (try clear hk); (try clear hi); (try clear ho0)) | ((with_reducible refine gate_callee (f := 19) rfl ?_); refine goesL_ (some 77) rfl rfl Try.func19 zq5 rfl #[] rfl zq6 ?_; (with_reducible refine (isobathlaw03_Works.calls kj38  t861 _ A125.out).mono ?_); rintro e w133 ⟨rfl, hb⟩; refine ⟨_, rfl, ?_⟩; replace HO_13 := zrb HO_13 hb; replace HO858 := zrb HO858 hb; replace BK846 := zbb BK846 hb; replace BK847 := zbb BK847 hb; replace BK848 := zbb BK848 hb; replace HB := zbs HB hb; (try clear hb); (try clear hb2); (try clear hk); (try clear hi)))
        go_ret
        exact ⟨zq2, zbz⟩

end Go.Proofs.Ytmhaiihjfgfaoaa.Pr
end
