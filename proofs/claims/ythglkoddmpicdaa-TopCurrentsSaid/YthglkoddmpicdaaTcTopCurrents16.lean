/- Part 16 of the proof of TopCurrents: what the functions compute. No condition. -/
import Derived.Test.YthglkoddmpicdaaTcTopCurrents3
import Derived.Test.YthglkoddmpicdaaTcTopCurrents5
import Derived.Test.YthglkoddmpicdaaTcTopCurrents9
import Derived.Test.YthglkoddmpicdaaTcTopCurrents10
import Derived.Test.YthglkoddmpicdaaTcTopCurrents11
import Derived.Test.YthglkoddmpicdaaTcTopCurrents15
set_option linter.unusedVariables false
set_option linter.unusedSimpArgs false
section
namespace Go.Proofs.Ythglkoddmpicdaa.Pr
open Go.RowKit Go.Proofs.YthglkoddmpicdaaW.PrintWords Go.Proofs.YthglkoddmpicdaaW.PrintLast Go.Proofs.YthglkoddmpicdaaW.PrintMore
attribute [local go_sem] max2_int min2_int max_two min_two max_four
set_option linter.unusedVariables false
set_option linter.unusedSimpArgs false

attribute [local go_sem high] eqA27 eqA33
/-! ### isobathtop_TopCurrents: function 3 -/
mutual
def isobathtop_TopCurrents.l0 : Nat → Int → Int → Int → Int → Bool → Int → Int → Int → Int → Int → Int → Int → Int → List Bool → List (S33) → Int → Int → Int → Int → Int → Int → Int → Int → Int → Int → Int → Int → Option (Bool)
 | 0, _, _, _, _, _, _, _, _, _, _, _, _, _, _, _, _, _, _, _, _, _, _, _, _, _, _, _ => none
 | k + 1, x2, x3, x4, x15, x18, x19, x245000, x245001, x245002, x245003, x245004, x245005, x245006, x245007, x245008, x246000, x246001, x246002, x246003, x254000, x254001, x254002, x254003, x262000, x262001, x263000, x263001 => if x19 < x245004 then (if (wrap64 (x19 * x245003)) ≥ x4 then (isobathtop_TopCurrents.j1 k x2 x3 x4 x15 x18 x19 true x245000 x245001 x245002 x245003 x245004 x245005 x245006 x245007 x245008 x246000 x246001 x246002 x246003 x254000 x254001 x254002 x254003 x262000 x262001 x263000 x263001) else (isobathtop_TopCurrents.j1 k x2 x3 x4 x15 x18 x19 (decide ((wrap64 ((wrap64 (x19 + 1)) * x245003)) ≤ x3)) x245000 x245001 x245002 x245003 x245004 x245005 x245006 x245007 x245008 x246000 x246001 x246002 x246003 x254000 x254001 x254002 x254003 x262000 x262001 x263000 x263001)) else (if x18 = true then (if (x254000 == x262000 && (x254001 == x262001)) = true then (if (x254002 == x263000 && (x254003 == x263001)) = true then ((isobathtop_works03.f k).bind fun t263 => (some t263)) else (some false)) else (some false)) else (some false))
def isobathtop_TopCurrents.j1 : Nat → Int → Int → Int → Int → Bool → Int → Bool → Int → Int → Int → Int → Int → Int → Int → List Bool → List (S33) → Int → Int → Int → Int → Int → Int → Int → Int → Int → Int → Int → Int → Option (Bool)
 | 0, _, _, _, _, _, _, _, _, _, _, _, _, _, _, _, _, _, _, _, _, _, _, _, _, _, _, _, _ => none
 | k + 1, x2, x3, x4, x15, x18, x19, x89, x245000, x245001, x245002, x245003, x245004, x245005, x245006, x245007, x245008, x246000, x246001, x246002, x246003, x254000, x254001, x254002, x254003, x262000, x262001, x263000, x263001 => if x89 = true then (isobathtop_TopCurrents.l0 k x2 x3 x4 x15 x18 (wrap64 (x19 + 1)) x245000 x245001 x245002 x245003 x245004 x245005 x245006 x245007 x245008 x246000 x246001 x246002 x246003 x254000 x254001 x254002 x254003 x262000 x262001 x263000 x263001) else (isobathtop_TopCurrents.l1 k x2 x3 x4 x15 x18 x19 0 x245000 x245001 x245002 x245003 x245004 x245005 x245006 x245007 x245008 x246000 x246001 x246002 x246003 x254000 x254001 x254002 x254003 x262000 x262001 x263000 x263001)
def isobathtop_TopCurrents.l1 : Nat → Int → Int → Int → Int → Bool → Int → Int → Int → Int → Int → Int → Int → Int → Int → List Bool → List (S33) → Int → Int → Int → Int → Int → Int → Int → Int → Int → Int → Int → Int → Option (Bool)
 | 0, _, _, _, _, _, _, _, _, _, _, _, _, _, _, _, _, _, _, _, _, _, _, _, _, _, _, _, _ => none
 | k + 1, x2, x3, x4, x15, x18, x19, x20, x245000, x245001, x245002, x245003, x245004, x245005, x245006, x245007, x245008, x246000, x246001, x246002, x246003, x254000, x254001, x254002, x254003, x262000, x262001, x263000, x263001 => if x20 < x15 then (if x245000 = 0 then (none) else ((bound_Meet.f k x246000 x246001 (wrap64 ((Int.tmod x20 x245000) * x245002)) (wrap64 ((wrap64 ((Int.tmod x20 x245000) * x245002)) + x245002))).bind fun bt264 => ((bound_Meet.f k x246002 x246003 (wrap64 ((wrap64 (Int.tdiv x20 x245000)) * x245002)) (wrap64 ((wrap64 ((wrap64 (Int.tdiv x20 x245000)) * x245002)) + x245002))).bind fun bt268 => (if bt264.2.2 = 0 then (if bt268.2.2 = 0 then (isobathtop_TopCurrents.j3 k x2 x3 x4 x15 x18 x19 x20 bt264.2.2 bt268.2.2 false x245000 x245001 x245002 x245003 x245004 x245005 x245006 x245007 x245008 x246000 x246001 x246002 x246003 x254000 x254001 x254002 x254003 x262000 x262001 x263000 x263001) else (isobathtop_TopCurrents.j3 k x2 x3 x4 x15 x18 x19 x20 bt264.2.2 bt268.2.2 (bt268.2.2 != 5) x245000 x245001 x245002 x245003 x245004 x245005 x245006 x245007 x245008 x246000 x246001 x246002 x246003 x254000 x254001 x254002 x254003 x262000 x262001 x263000 x263001)) else (if bt264.2.2 = 5 then (if bt268.2.2 = 0 then (isobathtop_TopCurrents.j3 k x2 x3 x4 x15 x18 x19 x20 bt264.2.2 bt268.2.2 false x245000 x245001 x245002 x245003 x245004 x245005 x245006 x245007 x245008 x246000 x246001 x246002 x246003 x254000 x254001 x254002 x254003 x262000 x262001 x263000 x263001) else (isobathtop_TopCurrents.j3 k x2 x3 x4 x15 x18 x19 x20 bt264.2.2 bt268.2.2 (bt268.2.2 != 5) x245000 x245001 x245002 x245003 x245004 x245005 x245006 x245007 x245008 x246000 x246001 x246002 x246003 x254000 x254001 x254002 x254003 x262000 x262001 x263000 x263001)) else (isobathtop_TopCurrents.j3 k x2 x3 x4 x15 x18 x19 x20 bt264.2.2 bt268.2.2 true x245000 x245001 x245002 x245003 x245004 x245005 x245006 x245007 x245008 x246000 x246001 x246002 x246003 x254000 x254001 x254002 x254003 x262000 x262001 x263000 x263001)))))) else (isobathtop_TopCurrents.l0 k x2 x3 x4 x15 x18 (wrap64 (x19 + 1)) x245000 x245001 x245002 x245003 x245004 x245005 x245006 x245007 x245008 x246000 x246001 x246002 x246003 x254000 x254001 x254002 x254003 x262000 x262001 x263000 x263001)
def isobathtop_TopCurrents.j3 : Nat → Int → Int → Int → Int → Bool → Int → Int → Int → Int → Bool → Int → Int → Int → Int → Int → Int → Int → List Bool → List (S33) → Int → Int → Int → Int → Int → Int → Int → Int → Int → Int → Int → Int → Option (Bool)
 | 0, _, _, _, _, _, _, _, _, _, _, _, _, _, _, _, _, _, _, _, _, _, _, _, _, _, _, _, _, _, _, _ => none
 | k + 1, x2, x3, x4, x15, x18, x19, x20, x24, x26, x146, x245000, x245001, x245002, x245003, x245004, x245005, x245006, x245007, x245008, x246000, x246001, x246002, x246003, x254000, x254001, x254002, x254003, x262000, x262001, x263000, x263001 => if x146 = true then (some false) else (if x24 = 0 then (isobathtop_TopCurrents.j4 k x2 x3 x4 x15 x18 x19 x20 (x26 != 0) x245000 x245001 x245002 x245003 x245004 x245005 x245006 x245007 x245008 x246000 x246001 x246002 x246003 x254000 x254001 x254002 x254003 x262000 x262001 x263000 x263001) else (isobathtop_TopCurrents.j4 k x2 x3 x4 x15 x18 x19 x20 true x245000 x245001 x245002 x245003 x245004 x245005 x245006 x245007 x245008 x246000 x246001 x246002 x246003 x254000 x254001 x254002 x254003 x262000 x262001 x263000 x263001))
def isobathtop_TopCurrents.j4 : Nat → Int → Int → Int → Int → Bool → Int → Int → Bool → Int → Int → Int → Int → Int → Int → Int → List Bool → List (S33) → Int → Int → Int → Int → Int → Int → Int → Int → Int → Int → Int → Int → Option (Bool)
 | 0, _, _, _, _, _, _, _, _, _, _, _, _, _, _, _, _, _, _, _, _, _, _, _, _, _, _, _, _, _ => none
 | k + 1, x2, x3, x4, x15, x18, x19, x20, x152, x245000, x245001, x245002, x245003, x245004, x245005, x245006, x245007, x245008, x246000, x246001, x246002, x246003, x254000, x254001, x254002, x254003, x262000, x262001, x263000, x263001 => if x152 = true then (isobathtop_TopCurrents.l1 k x2 x3 x4 x15 x18 x19 (wrap64 (x20 + 1)) x245000 x245001 x245002 x245003 x245004 x245005 x245006 x245007 x245008 x246000 x246001 x246002 x246003 x254000 x254001 x254002 x254003 x262000 x262001 x263000 x263001) else (if 0 ≤ (wrap64 ((wrap64 ((wrap64 ((wrap64 (x19 * x245005)) + x2)) * x15)) + x20)) then (if (wrap64 ((wrap64 ((wrap64 ((wrap64 (x19 * x245005)) + x2)) * x15)) + x20)) < (x245008.length : Int) then (if x18 = true then ((bound_Hull.f k x262000 x262001 ((rd_T33 x245008 (wrap64 ((wrap64 ((wrap64 ((wrap64 (x19 * x245005)) + x2)) * x15)) + x20))).f0.f0) ((rd_T33 x245008 (wrap64 ((wrap64 ((wrap64 ((wrap64 (x19 * x245005)) + x2)) * x15)) + x20))).f0.f1)).bind fun bt274 => ((bound_Hull.f k x263000 x263001 ((rd_T33 x245008 (wrap64 ((wrap64 ((wrap64 ((wrap64 (x19 * x245005)) + x2)) * x15)) + x20))).f1.f0) ((rd_T33 x245008 (wrap64 ((wrap64 ((wrap64 ((wrap64 (x19 * x245005)) + x2)) * x15)) + x20))).f1.f1)).bind fun bt278 => (if bt274.2.2 = 0 then (if bt278.2.2 = 0 then (isobathtop_TopCurrents.l1 k x2 x3 x4 x15 x18 x19 (wrap64 (x20 + 1)) x245000 x245001 x245002 x245003 x245004 x245005 x245006 x245007 x245008 x246000 x246001 x246002 x246003 x254000 x254001 x254002 x254003 bt274.1 bt274.2.1 bt278.1 bt278.2.1) else (some false)) else (some false)))) else (isobathtop_TopCurrents.l1 k x2 x3 x4 x15 true x19 (wrap64 (x20 + 1)) x245000 x245001 x245002 x245003 x245004 x245005 x245006 x245007 x245008 x246000 x246001 x246002 x246003 x254000 x254001 x254002 x254003 ((rd_T33 x245008 (wrap64 ((wrap64 ((wrap64 ((wrap64 (x19 * x245005)) + x2)) * x15)) + x20))).f0.f0) ((rd_T33 x245008 (wrap64 ((wrap64 ((wrap64 ((wrap64 (x19 * x245005)) + x2)) * x15)) + x20))).f0.f1) ((rd_T33 x245008 (wrap64 ((wrap64 ((wrap64 ((wrap64 (x19 * x245005)) + x2)) * x15)) + x20))).f1.f0) ((rd_T33 x245008 (wrap64 ((wrap64 ((wrap64 ((wrap64 (x19 * x245005)) + x2)) * x15)) + x20))).f1.f1))) else (none)) else (none))
end
def isobathtop_TopCurrents.f (k : Nat) (a0_0 : Int) (a0_1 : Int) (a0_2 : Int) (a0_3 : Int) (a0_4 : Int) (a0_5 : Int) (a0_6 : Int) (l0_7 : List Bool) (l0_8 : List (S33)) (a1_0 : Int) (a1_1 : Int) (a1_2 : Int) (a1_3 : Int) (a2 : Int) (a3 : Int) (a4 : Int) : Option (Bool) := (isobathtop_large.f a0_0 a0_1 a0_2 a0_3 a0_4 a0_5 a0_6 l0_7 l0_8).bind fun t246 => (if t246 = true then ((isobathtop_works03.f k).bind fun t247 => (some t247)) else ((glider_At.f a0_0 a0_1 a0_2 a0_3 a0_4 a0_5 a0_6 l0_7 l0_8 a1_0 a1_1 a1_2 a1_3 a2 a3 a4).bind fun bt248 => ((isobathref03_At.f k a0_0 a0_1 a0_2 a0_3 a0_4 a0_5 a0_6 l0_7 l0_8 a1_0 a1_1 a1_2 a1_3 a2 a3 a4).bind fun bt254 => (if bt248.2.2.2.2 = bt254.2.2.2.2 then (if bt248.2.2.2.2 = 0 then (isobathtop_TopCurrents.l0 k a2 a3 a4 (wrap64 (a0_0 * a0_1)) false 0 a0_0 a0_1 a0_2 a0_3 a0_4 a0_5 a0_6 l0_7 l0_8 a1_0 a1_1 a1_2 a1_3 bt248.1 bt248.2.1 bt248.2.2.1 bt248.2.2.2.1 0 0 0 0) else (if ((bt248.1 == 0 && (bt248.2.1 == 0)) && ((bt248.2.2.1 == 0 && (bt248.2.2.2.1 == 0)))) = true then ((isobathtop_works03.f k).bind fun t260 => (some t260)) else (some false))) else (some false)))))
def isobathtop_TopCurrents.T19 : Bool × List (List Nat × List Nat) := (true, [([], []), ([], []), ([1], [1]), ([0, 2], [0, 2]), ([], []), ([4], [4]), ([3, 5], [3, 5]), ([], []), ([], []), ([8], [8]), ([7, 9], [7, 9]), ([], []), ([11], [11]), ([10, 12], [10, 12]), ([6, 0, 1, 2, 3, 4, 5, 6], [6]), ([13, 14, 0, 1, 2, 3, 4, 5, 6, 7, 8, 9, 10, 11, 12, 13, 14], [13])])
def isobathtop_TopCurrents.B19 : List Nat := [0, 0, 2, 7, 0, 16, 63, 0, 0, 256, 896, 0, 2048, 8064, 127, 32767]
theorem isobathtop_TopCurrents.tab19 : rtab .any (opsOf Try.f3 19) = isobathtop_TopCurrents.T19 := by kernel_rfl
theorem isobathtop_TopCurrents.bits19 : waitsOk isobathtop_TopCurrents.T19.2 isobathtop_TopCurrents.B19 = true := by kernel_rfl
set_option maxHeartbeats 8000000 in
set_option maxRecDepth 100000 in
theorem isobathtop_TopCurrents.calls (k : Nat) (a0_0 : Int) (a0_1 : Int) (a0_2 : Int) (a0_3 : Int) (a0_4 : Int) (a0_5 : Int) (a0_6 : Int) (A0_7 : Option Addr) (c0_7 : Nat) (l0_7 : List Bool) (A0_8 : Option Addr) (c0_8 : Nat) (l0_8 : List (S33)) (a1_0 : Int) (a1_1 : Int) (a1_2 : Int) (a1_3 : Int) (a2 : Int) (a3 : Int) (a4 : Int) (r : Bool) (w : World) (hr0_7 : Kd.C Kd.bool w A0_7 l0_7.length l0_7) (hc0_7 : l0_7.length ≤ c0_7) (hr0_8 : Kd.C k33 w A0_8 l0_8.length l0_8) (hc0_8 : l0_8.length ≤ c0_8) (h : isobathtop_TopCurrents.f k a0_0 a0_1 a0_2 a0_3 a0_4 a0_5 a0_6 l0_7 l0_8 a1_0 a1_1 a1_2 a1_3 a2 a3 a4 = some r) (hr_ : Aside0 (r = true)) :
  Calls Try.prog 3 #[.agg #[.int .i64 a0_0, .int .i64 a0_1, .int .i64 a0_2, .int .i64 a0_3, .int .i64 a0_4, .int .i64 a0_5, .int .i64 a0_6, .slice A0_7 l0_7.length c0_7, .slice A0_8 l0_8.length c0_8], .agg #[.int .i64 a1_0, .int .i64 a1_1, .int .i64 a1_2, .int .i64 a1_3], .int .i64 a2, .int .i64 a3, .int .i64 a4] w fun e w' => e = .returned (.bool r) ∧ Below w.heap.size w w' := by
 have hu25 := Try.underlying25
 have hu29 := Try.underlying29
 have hu33 := Try.underlying33
 have hu27 := Try.underlying27
 have HR0_7 := Aside0.mk hr0_7
 have HC0_7 := Aside0.mk hc0_7
 clear hr0_7 hc0_7
 have HR0_8 := Aside0.mk hr0_8
 have HC0_8 := Aside0.mk hc0_8
 clear hr0_8 hc0_8
 have HB := Aside0.mk (Below.refl w.heap.size w)
 have H : ((isobathtop_large.f a0_0 a0_1 a0_2 a0_3 a0_4 a0_5 a0_6 l0_7 l0_8).bind fun t246 => (if t246 = true then ((isobathtop_works03.f k).bind fun t247 => (some t247)) else ((glider_At.f a0_0 a0_1 a0_2 a0_3 a0_4 a0_5 a0_6 l0_7 l0_8 a1_0 a1_1 a1_2 a1_3 a2 a3 a4).bind fun bt248 => ((isobathref03_At.f k a0_0 a0_1 a0_2 a0_3 a0_4 a0_5 a0_6 l0_7 l0_8 a1_0 a1_1 a1_2 a1_3 a2 a3 a4).bind fun bt254 => (if bt248.2.2.2.2 = bt254.2.2.2.2 then (if bt248.2.2.2.2 = 0 then (isobathtop_TopCurrents.l0 k a2 a3 a4 (wrap64 (a0_0 * a0_1)) false 0 a0_0 a0_1 a0_2 a0_3 a0_4 a0_5 a0_6 l0_7 l0_8 a1_0 a1_1 a1_2 a1_3 bt248.1 bt248.2.1 bt248.2.2.1 bt248.2.2.2.1 0 0 0 0) else (if ((bt248.1 == 0 && (bt248.2.1 == 0)) && ((bt248.2.2.1 == 0 && (bt248.2.2.2.1 == 0)))) = true then ((isobathtop_works03.f k).bind fun t260 => (some t260)) else (some false))) else (some false)))))) = some r := h
 clear h
 replace H := Option.bind_eq_some_iff.mp H
 obtain ⟨t246, A60, H⟩ := H
 replace H : (if t246 = true then ((isobathtop_works03.f k).bind fun t247 => (some t247)) else ((glider_At.f a0_0 a0_1 a0_2 a0_3 a0_4 a0_5 a0_6 l0_7 l0_8 a1_0 a1_1 a1_2 a1_3 a2 a3 a4).bind fun bt248 => ((isobathref03_At.f k a0_0 a0_1 a0_2 a0_3 a0_4 a0_5 a0_6 l0_7 l0_8 a1_0 a1_1 a1_2 a1_3 a2 a3 a4).bind fun bt254 => (if bt248.2.2.2.2 = bt254.2.2.2.2 then (if bt248.2.2.2.2 = 0 then (isobathtop_TopCurrents.l0 k a2 a3 a4 (wrap64 (a0_0 * a0_1)) false 0 a0_0 a0_1 a0_2 a0_3 a0_4 a0_5 a0_6 l0_7 l0_8 a1_0 a1_1 a1_2 a1_3 bt248.1 bt248.2.1 bt248.2.2.1 bt248.2.2.2.1 0 0 0 0) else (if ((bt248.1 == 0 && (bt248.2.1 == 0)) && ((bt248.2.2.1 == 0 && (bt248.2.2.2.1 == 0)))) = true then ((isobathtop_works03.f k).bind fun t260 => (some t260)) else (some false))) else (some false))))) = some r := H
 have A6 := Aside0.mk A60
 clear A60
 by_cases c7 : t246 = true
 ·subst c7
  have H1 : ((isobathtop_works03.f k).bind fun t247 => (some t247)) = some r := by rw [if_pos rfl] at H; exact H
  clear H
  have H := H1
  clear H1
  replace H := Option.bind_eq_some_iff.mp H
  obtain ⟨t247, A80, H⟩ := H
  replace H : (some t247) = some r := H
  have A8 := Aside0.mk A80
  clear A80
  obtain rfl := Option.some.inj H
  go_enter Try.func3, Try.ntmps3
  go_wp2_with (first | ((with_reducible refine gate_dst (N := 5) rfl ?_); refine box_event (by rfl) (N := 5) (by rfl) (cs := #[.int .i64 a0_0, .int .i64 a0_1, .int .i64 a0_2, .int .i64 a0_3, .int .i64 a0_4, .int .i64 a0_5, .int .i64 a0_6, .slice A0_7 l0_7.length c0_7, .slice A0_8 l0_8.length c0_8]) (t := 25) zq1 ?_; intro gb244 hg w9 hbox hb; have BK244 := Aside0.mk (hbox); have GW244 := zgs HB hg; have GE244 := zgs HB hg; replace HB := zbs HB hb; clear hb hbox hg) | ((with_reducible refine gate_dst (N := 6) rfl ?_); refine box_event (by rfl) (N := 6) (by rfl) (cs := #[.int .i64 a1_0, .int .i64 a1_1, .int .i64 a1_2, .int .i64 a1_3]) (t := 29) zq1 ?_; intro gb245 hg w10 hbox hb; have BK245 := Aside0.mk (hbox); have GW245 := zgs HB hg; have GE245 := zgs HB hg; have NB244_245 := znp BK244 hg; have NB245_244 := znq BK244 hg; replace BK244 := zbb BK244 hb; replace HB := zbs HB hb; clear hb hbox hg; have hnb11 := NB244_245.out; have hnc11 := NB245_244.out; obtain ⟨hcz12_0, hcz12_1, hcz12_2, hcz12_3, hcz12_4, hcz12_5, hcz12_6, hcz12_7, hcz12_8, hfz12_0, hfz12_1, hfz12_2, hfz12_3, hfz12_4, hfz12_5, hfz12_6, hfz12_7, hfz12_8⟩ := zce9 BK244.out) | ((with_reducible refine gate_callee (f := 11) rfl ?_); refine goesL_ (some 33) rfl rfl Try.func11 zq0 rfl #[.agg #[.int .i64 a0_0, .int .i64 a0_1, .int .i64 a0_2, .int .i64 a0_3, .int .i64 a0_4, .int .i64 a0_5, .int .i64 a0_6, .slice A0_7 l0_7.length c0_7, .slice A0_8 l0_8.length c0_8]] rfl zq6 ?_; (with_reducible refine (isobathtop_large.calls a0_0 a0_1 a0_2 a0_3 a0_4 a0_5 a0_6 _ _ l0_7 _ _ l0_8 true _ ?side1 ?side2 ?side3 ?side4 A6.out).mono ?_); (case side1 => repeat (first | exact (Kd.C_below HR0_7.out HB.out) | (with_reducible refine Kd.C_alloc ?_ _) | (with_reducible refine Kd.C_drewN ?_ _) | (with_reducible refine Kd.C_drew ?_))); (case side2 => exact HC0_7.out); (case side3 => repeat (first | exact (Kd.C_below HR0_8.out HB.out) | (with_reducible refine Kd.C_alloc ?_ _) | (with_reducible refine Kd.C_drewN ?_ _) | (with_reducible refine Kd.C_drew ?_))); (case side4 => exact HC0_8.out); rintro e w13 ⟨rfl, hb⟩; refine ⟨_, rfl, ?_⟩; replace BK244 := zbb BK244 hb; replace BK245 := zbb BK245 hb; replace HB := zbs HB hb; (try clear hb); (try clear hb2); (try clear hk); (try clear hi)) | ((with_reducible refine gate_callee (f := 12) rfl ?_); refine goesL_ (some 34) rfl rfl Try.func12 zq0 rfl #[] rfl zq6 ?_; (with_reducible refine (isobathtop_works03.calls k  t247 _ A8.out).mono ?_); rintro e w14 ⟨rfl, hb⟩; refine ⟨_, rfl, ?_⟩; replace BK244 := zbb BK244 hb; replace BK245 := zbb BK245 hb; replace HB := zbs HB hb; (try clear hb); (try clear hb2); (try clear hk); (try clear hi)))
  go_ret
  exact ⟨zq2, zbz⟩
 ·replace c7 := Bool.eq_false_iff.mpr c7
  subst c7
  have H1 : ((glider_At.f a0_0 a0_1 a0_2 a0_3 a0_4 a0_5 a0_6 l0_7 l0_8 a1_0 a1_1 a1_2 a1_3 a2 a3 a4).bind fun bt248 => ((isobathref03_At.f k a0_0 a0_1 a0_2 a0_3 a0_4 a0_5 a0_6 l0_7 l0_8 a1_0 a1_1 a1_2 a1_3 a2 a3 a4).bind fun bt254 => (if bt248.2.2.2.2 = bt254.2.2.2.2 then (if bt248.2.2.2.2 = 0 then (isobathtop_TopCurrents.l0 k a2 a3 a4 (wrap64 (a0_0 * a0_1)) false 0 a0_0 a0_1 a0_2 a0_3 a0_4 a0_5 a0_6 l0_7 l0_8 a1_0 a1_1 a1_2 a1_3 bt248.1 bt248.2.1 bt248.2.2.1 bt248.2.2.2.1 0 0 0 0) else (if ((bt248.1 == 0 && (bt248.2.1 == 0)) && ((bt248.2.2.1 == 0 && (bt248.2.2.2.1 == 0)))) = true then ((isobathtop_works03.f k).bind fun t260 => (some t260)) else (some false))) else (some false)))) = some r := by rw [if_neg (show ¬ (false = true) by decide)] at H; exact H
  clear H
  have H := H1
  clear H1
  replace H := Option.bind_eq_some_iff.mp H
  obtain ⟨⟨t248, t249, t250, t251, t252⟩, A150, H⟩ := H
  replace H : ((isobathref03_At.f k a0_0 a0_1 a0_2 a0_3 a0_4 a0_5 a0_6 l0_7 l0_8 a1_0 a1_1 a1_2 a1_3 a2 a3 a4).bind fun bt254 => (if t252 = bt254.2.2.2.2 then (if t252 = 0 then (isobathtop_TopCurrents.l0 k a2 a3 a4 (wrap64 (a0_0 * a0_1)) false 0 a0_0 a0_1 a0_2 a0_3 a0_4 a0_5 a0_6 l0_7 l0_8 a1_0 a1_1 a1_2 a1_3 t248 t249 t250 t251 0 0 0 0) else (if ((t248 == 0 && (t249 == 0)) && ((t250 == 0 && (t251 == 0)))) = true then ((isobathtop_works03.f k).bind fun t260 => (some t260)) else (some false))) else (some false))) = some r := H
  have A15 := Aside0.mk A150
  clear A150
  replace H := Option.bind_eq_some_iff.mp H
  obtain ⟨⟨t254, t255, t256, t257, t258⟩, A160, H⟩ := H
  replace H : (if t252 = t258 then (if t252 = 0 then (isobathtop_TopCurrents.l0 k a2 a3 a4 (wrap64 (a0_0 * a0_1)) false 0 a0_0 a0_1 a0_2 a0_3 a0_4 a0_5 a0_6 l0_7 l0_8 a1_0 a1_1 a1_2 a1_3 t248 t249 t250 t251 0 0 0 0) else (if ((t248 == 0 && (t249 == 0)) && ((t250 == 0 && (t251 == 0)))) = true then ((isobathtop_works03.f k).bind fun t260 => (some t260)) else (some false))) else (some false)) = some r := H
  have A16 := Aside0.mk A160
  clear A160
  by_cases c17 : t252 = t258
  ·rw [if_pos c17] at H
   have c17b0 : (t252 == t258) = true := beq_iff_eq.mpr c17
   have c17b1 : (t252 != t258) = false := bne_eq_false_iff_eq.mpr c17
   clear c17
   by_cases c18 : t252 = 0
   ·rw [if_pos c18] at H
    have c18b0 : (t252 == 0) = true := beq_iff_eq.mpr c18
    have c18b1 : (t252 != 0) = false := bne_eq_false_iff_eq.mpr c18
    clear c18
    have H' := Aside0.mk H
    clear H
    go_enter Try.func3, Try.ntmps3
    go_wp2_with (first | ((with_reducible refine gate_dst (N := 5) rfl ?_); refine box_event (by rfl) (N := 5) (by rfl) (cs := #[.int .i64 a0_0, .int .i64 a0_1, .int .i64 a0_2, .int .i64 a0_3, .int .i64 a0_4, .int .i64 a0_5, .int .i64 a0_6, .slice A0_7 l0_7.length c0_7, .slice A0_8 l0_8.length c0_8]) (t := 25) zq1 ?_; intro gb244 hg w19 hbox hb; have BK244 := Aside0.mk (hbox); have GW244 := zgs HB hg; have GE244 := zgs HB hg; replace HB := zbs HB hb; clear hb hbox hg) | ((with_reducible refine gate_dst (N := 6) rfl ?_); refine box_event (by rfl) (N := 6) (by rfl) (cs := #[.int .i64 a1_0, .int .i64 a1_1, .int .i64 a1_2, .int .i64 a1_3]) (t := 29) zq1 ?_; intro gb245 hg w20 hbox hb; have BK245 := Aside0.mk (hbox); have GW245 := zgs HB hg; have GE245 := zgs HB hg; have NB244_245 := znp BK244 hg; have NB245_244 := znq BK244 hg; replace BK244 := zbb BK244 hb; replace HB := zbs HB hb; clear hb hbox hg; have hnb21 := NB244_245.out; have hnc21 := NB245_244.out; obtain ⟨hcz22_0, hcz22_1, hcz22_2, hcz22_3, hcz22_4, hcz22_5, hcz22_6, hcz22_7, hcz22_8, hfz22_0, hfz22_1, hfz22_2, hfz22_3, hfz22_4, hfz22_5, hfz22_6, hfz22_7, hfz22_8⟩ := zce9 BK244.out) | ((with_reducible refine gate_callee (f := 11) rfl ?_); refine goesL_ (some 33) rfl rfl Try.func11 zq0 rfl #[.agg #[.int .i64 a0_0, .int .i64 a0_1, .int .i64 a0_2, .int .i64 a0_3, .int .i64 a0_4, .int .i64 a0_5, .int .i64 a0_6, .slice A0_7 l0_7.length c0_7, .slice A0_8 l0_8.length c0_8]] rfl zq6 ?_; (with_reducible refine (isobathtop_large.calls a0_0 a0_1 a0_2 a0_3 a0_4 a0_5 a0_6 _ _ l0_7 _ _ l0_8 false _ ?side1 ?side2 ?side3 ?side4 A6.out).mono ?_); (case side1 => repeat (first | exact (Kd.C_below HR0_7.out HB.out) | (with_reducible refine Kd.C_alloc ?_ _) | (with_reducible refine Kd.C_drewN ?_ _) | (with_reducible refine Kd.C_drew ?_))); (case side2 => exact HC0_7.out); (case side3 => repeat (first | exact (Kd.C_below HR0_8.out HB.out) | (with_reducible refine Kd.C_alloc ?_ _) | (with_reducible refine Kd.C_drewN ?_ _) | (with_reducible refine Kd.C_drew ?_))); (case side4 => exact HC0_8.out); rintro e w23 ⟨rfl, hb⟩; refine ⟨_, rfl, ?_⟩; replace BK244 := zbb BK244 hb; replace BK245 := zbb BK245 hb; replace HB := zbs HB hb; (try clear hb); (try clear hb2); (try clear hk); (try clear hi); obtain ⟨hcz24_0, hcz24_1, hcz24_2, hcz24_3, hcz24_4, hcz24_5, hcz24_6, hcz24_7, hcz24_8, hfz24_0, hfz24_1, hfz24_2, hfz24_3, hfz24_4, hfz24_5, hfz24_6, hfz24_7, hfz24_8⟩ := zce9 BK244.out; obtain ⟨hcz25_0, hcz25_1, hcz25_2, hcz25_3, hfz25_0, hfz25_1, hfz25_2, hfz25_3⟩ := zce4 BK245.out) | ((with_reducible refine gate_callee (f := 13) rfl ?_); refine goesL_ (some 41) rfl rfl Try.func13 zq0 rfl #[.agg #[.int .i64 a0_0, .int .i64 a0_1, .int .i64 a0_2, .int .i64 a0_3, .int .i64 a0_4, .int .i64 a0_5, .int .i64 a0_6, .slice A0_7 l0_7.length c0_7, .slice A0_8 l0_8.length c0_8], .agg #[.int .i64 a1_0, .int .i64 a1_1, .int .i64 a1_2, .int .i64 a1_3], .int .i64 a2, .int .i64 a3, .int .i64 a4] rfl zq6 ?_; (with_reducible refine (glider_At.calls a0_0 a0_1 a0_2 a0_3 a0_4 a0_5 a0_6 _ _ l0_7 _ _ l0_8 a1_0 a1_1 a1_2 a1_3 a2 a3 a4 t248 t249 t250 t251 t252 _ ?side1 ?side2 ?side3 ?side4 A15.out).mono ?_); (case side1 => repeat (first | exact (Kd.C_below HR0_7.out HB.out) | (with_reducible refine Kd.C_alloc ?_ _) | (with_reducible refine Kd.C_drewN ?_ _) | (with_reducible refine Kd.C_drew ?_))); (case side2 => exact HC0_7.out); (case side3 => repeat (first | exact (Kd.C_below HR0_8.out HB.out) | (with_reducible refine Kd.C_alloc ?_ _) | (with_reducible refine Kd.C_drewN ?_ _) | (with_reducible refine Kd.C_drew ?_))); (case side4 => exact HC0_8.out); rintro e w26 ⟨rfl, hb⟩; refine ⟨_, rfl, ?_⟩; replace BK244 := zbb BK244 hb; replace BK245 := zbb BK245 hb; replace HB := zbs HB hb; (try clear hb); (try clear hb2); (try clear hk); (try clear hi)) | ((with_reducible refine gate_dst (N := 11) rfl ?_); refine box_event (by rfl) (N := 11) (by rfl) (cs := #[.int .i64 0, .int .i64 0, .int .i64 0, .int .i64 0]) (t := 33) zq1 ?_; intro gb253 hg w27 hbox hb; have BK253 := Aside0.mk (hbox); have GW253 := zgs HB hg; have GE253 := zgs HB hg; have NB244_253 := znp BK244 hg; have NB253_244 := znq BK244 hg; have NB245_253 := znp BK245 hg; have NB253_245 := znq BK245 hg; replace BK244 := zbb BK244 hb; replace BK245 := zbb BK245 hb; replace HB := zbs HB hb; clear hb hbox hg; have hnb28 := NB253_244.out; have hnc28 := NB244_253.out; have hnb29 := NB253_245.out; have hnc29 := NB245_253.out; obtain ⟨hcz30_0, hcz30_1, hcz30_2, hcz30_3, hfz30_0, hfz30_1, hfz30_2, hfz30_3⟩ := zce4 BK253.out; obtain ⟨hcz31_0, hcz31_1, hcz31_2, hcz31_3, hcz31_4, hcz31_5, hcz31_6, hcz31_7, hcz31_8, hfz31_0, hfz31_1, hfz31_2, hfz31_3, hfz31_4, hfz31_5, hfz31_6, hfz31_7, hfz31_8⟩ := zce9 BK244.out; obtain ⟨hcz32_0, hcz32_1, hcz32_2, hcz32_3, hfz32_0, hfz32_1, hfz32_2, hfz32_3⟩ := zce4 BK245.out) | ((with_reducible refine gate_callee (f := 14) rfl ?_); refine goesL_ (some 50) rfl rfl Try.func14 zq0 rfl #[.agg #[.int .i64 a0_0, .int .i64 a0_1, .int .i64 a0_2, .int .i64 a0_3, .int .i64 a0_4, .int .i64 a0_5, .int .i64 a0_6, .slice A0_7 l0_7.length c0_7, .slice A0_8 l0_8.length c0_8], .agg #[.int .i64 a1_0, .int .i64 a1_1, .int .i64 a1_2, .int .i64 a1_3], .int .i64 a2, .int .i64 a3, .int .i64 a4] rfl zq6 ?_; (with_reducible refine (isobathref03_At.calls k a0_0 a0_1 a0_2 a0_3 a0_4 a0_5 a0_6 _ _ l0_7 _ _ l0_8 a1_0 a1_1 a1_2 a1_3 a2 a3 a4 t254 t255 t256 t257 t258 _ ?side1 ?side2 ?side3 ?side4 A16.out).mono ?_); (case side1 => exact Kd.C_below HR0_7.out zbz); (case side2 => exact HC0_7.out); (case side3 => exact Kd.C_below HR0_8.out zbz); (case side4 => exact HC0_8.out); rintro e w33 ⟨rfl, hb⟩; refine ⟨_, rfl, ?_⟩; have n0_ := zbb BK244 hb; have n1_ := zbb BK245 hb; have n2_ := Aside0.mk (blk_below (g := gb253) (o := .cells #[.int .i64 t248, .int .i64 t249, .int .i64 t250, .int .i64 t251] 33 (0, 0)) (by (with_reducible repeat (first | refine blk_drewN ?_ _ | refine blk_drew ?_ | refine blk_alloc ?_ _)); refine blk_put (cs := #[.int .i64 t248, .int .i64 t249, .int .i64 t250, .int .i64 0]) ?_ 3 _ rfl; (with_reducible repeat (first | refine blk_drewN ?_ _ | refine blk_drew ?_ | refine blk_alloc ?_ _)); refine blk_put (cs := #[.int .i64 t248, .int .i64 t249, .int .i64 0, .int .i64 0]) ?_ 2 _ rfl; (with_reducible repeat (first | refine blk_drewN ?_ _ | refine blk_drew ?_ | refine blk_alloc ?_ _)); refine blk_put (cs := #[.int .i64 t248, .int .i64 0, .int .i64 0, .int .i64 0]) ?_ 1 _ rfl; (with_reducible repeat (first | refine blk_drewN ?_ _ | refine blk_drew ?_ | refine blk_alloc ?_ _)); refine blk_put (cs := #[.int .i64 0, .int .i64 0, .int .i64 0, .int .i64 0]) ?_ 0 _ rfl; (with_reducible repeat (first | refine blk_drewN ?_ _ | refine blk_drew ?_ | refine blk_alloc ?_ _)); exact BK253.out) hb); have n3_ := zbs HB hb; clear BK244; clear BK245; clear BK253; clear HB; have BK244 := n0_; have BK245 := n1_; have BK253 := n2_; have HB := n3_; clear n0_ n1_ n2_ n3_; (try clear hb); (try clear hb2); (try clear hk); (try clear hi)) | ((with_reducible refine gate_dst (N := 13) rfl ?_); refine box_event (by rfl) (N := 13) (by rfl) (cs := #[.int .i64 0, .int .i64 0, .int .i64 0, .int .i64 0]) (t := 33) zq1 ?_; intro gb259 hg w34 hbox hb; have BK259 := Aside0.mk (hbox); have GW259 := zgs HB hg; have GE259 := zgs HB hg; have NB244_259 := znp BK244 hg; have NB259_244 := znq BK244 hg; have NB245_259 := znp BK245 hg; have NB259_245 := znq BK245 hg; have NB253_259 := znp BK253 hg; have NB259_253 := znq BK253 hg; replace BK244 := zbb BK244 hb; replace BK245 := zbb BK245 hb; replace BK253 := zbb BK253 hb; replace HB := zbs HB hb; clear hb hbox hg; have hnb35 := NB259_244.out; have hnc35 := NB244_259.out; have hnb36 := NB259_245.out; have hnc36 := NB245_259.out; have hnb37 := NB259_253.out; have hnc37 := NB253_259.out; obtain ⟨hcz38_0, hcz38_1, hcz38_2, hcz38_3, hfz38_0, hfz38_1, hfz38_2, hfz38_3⟩ := zce4 BK259.out; obtain ⟨hcz39_0, hcz39_1, hcz39_2, hcz39_3, hcz39_4, hcz39_5, hcz39_6, hcz39_7, hcz39_8, hfz39_0, hfz39_1, hfz39_2, hfz39_3, hfz39_4, hfz39_5, hfz39_6, hfz39_7, hfz39_8⟩ := zce9 BK244.out) | ((with_reducible refine gate_dst (N := 16) rfl ?_); refine box_event (by rfl) (N := 16) (by rfl) (cs := #[.int .i64 0, .int .i64 0]) (t := 27) zq1 ?_; intro gb261 hg w40 hbox hb; have n0_ := zbb BK244 hb; have n1_ := zbb BK245 hb; have n2_ := zbb BK253 hb; have n3_ := Aside0.mk (blk_below (g := gb259) (o := .cells #[.int .i64 t254, .int .i64 t255, .int .i64 t256, .int .i64 t257] 33 (0, 0)) (by (with_reducible repeat (first | refine blk_drewN ?_ _ | refine blk_drew ?_ | refine blk_alloc ?_ _)); refine blk_put (cs := #[.int .i64 t254, .int .i64 t255, .int .i64 t256, .int .i64 0]) ?_ 3 _ rfl; (with_reducible repeat (first | refine blk_drewN ?_ _ | refine blk_drew ?_ | refine blk_alloc ?_ _)); refine blk_put (cs := #[.int .i64 t254, .int .i64 t255, .int .i64 0, .int .i64 0]) ?_ 2 _ rfl; (with_reducible repeat (first | refine blk_drewN ?_ _ | refine blk_drew ?_ | refine blk_alloc ?_ _)); refine blk_put (cs := #[.int .i64 t254, .int .i64 0, .int .i64 0, .int .i64 0]) ?_ 1 _ rfl; (with_reducible repeat (first | refine blk_drewN ?_ _ | refine blk_drew ?_ | refine blk_alloc ?_ _)); refine blk_put (cs := #[.int .i64 0, .int .i64 0, .int .i64 0, .int .i64 0]) ?_ 0 _ rfl; (with_reducible repeat (first | refine blk_drewN ?_ _ | refine blk_drew ?_ | refine blk_alloc ?_ _)); exact BK259.out) hb); have n4_ := zbs HB hb; have n5_ := Aside0.mk (hbox); have n6_ := zgs HB hg; have n7_ := zgs HB hg; have n8_ := znp BK244 hg; have n9_ := znq BK244 hg; have n10_ := znp BK245 hg; have n11_ := znq BK245 hg; have n12_ := znp BK253 hg; have n13_ := znq BK253 hg; have n14_ := Aside0.mk ((by rw [hg]; exact Nat.ne_of_lt (blk_lt (g := gb259) (o := .cells #[.int .i64 t254, .int .i64 t255, .int .i64 t256, .int .i64 t257] 33 (0, 0)) (by (with_reducible repeat (first | refine blk_drewN ?_ _ | refine blk_drew ?_ | refine blk_alloc ?_ _)); refine blk_put (cs := #[.int .i64 t254, .int .i64 t255, .int .i64 t256, .int .i64 0]) ?_ 3 _ rfl; (with_reducible repeat (first | refine blk_drewN ?_ _ | refine blk_drew ?_ | refine blk_alloc ?_ _)); refine blk_put (cs := #[.int .i64 t254, .int .i64 t255, .int .i64 0, .int .i64 0]) ?_ 2 _ rfl; (with_reducible repeat (first | refine blk_drewN ?_ _ | refine blk_drew ?_ | refine blk_alloc ?_ _)); refine blk_put (cs := #[.int .i64 t254, .int .i64 0, .int .i64 0, .int .i64 0]) ?_ 1 _ rfl; (with_reducible repeat (first | refine blk_drewN ?_ _ | refine blk_drew ?_ | refine blk_alloc ?_ _)); refine blk_put (cs := #[.int .i64 0, .int .i64 0, .int .i64 0, .int .i64 0]) ?_ 0 _ rfl; (with_reducible repeat (first | refine blk_drewN ?_ _ | refine blk_drew ?_ | refine blk_alloc ?_ _)); exact BK259.out)) : gb259 ≠ gb261)); have n15_ := Aside0.mk ((by rw [hg]; exact Nat.ne_of_gt (blk_lt (g := gb259) (o := .cells #[.int .i64 t254, .int .i64 t255, .int .i64 t256, .int .i64 t257] 33 (0, 0)) (by (with_reducible repeat (first | refine blk_drewN ?_ _ | refine blk_drew ?_ | refine blk_alloc ?_ _)); refine blk_put (cs := #[.int .i64 t254, .int .i64 t255, .int .i64 t256, .int .i64 0]) ?_ 3 _ rfl; (with_reducible repeat (first | refine blk_drewN ?_ _ | refine blk_drew ?_ | refine blk_alloc ?_ _)); refine blk_put (cs := #[.int .i64 t254, .int .i64 t255, .int .i64 0, .int .i64 0]) ?_ 2 _ rfl; (with_reducible repeat (first | refine blk_drewN ?_ _ | refine blk_drew ?_ | refine blk_alloc ?_ _)); refine blk_put (cs := #[.int .i64 t254, .int .i64 0, .int .i64 0, .int .i64 0]) ?_ 1 _ rfl; (with_reducible repeat (first | refine blk_drewN ?_ _ | refine blk_drew ?_ | refine blk_alloc ?_ _)); refine blk_put (cs := #[.int .i64 0, .int .i64 0, .int .i64 0, .int .i64 0]) ?_ 0 _ rfl; (with_reducible repeat (first | refine blk_drewN ?_ _ | refine blk_drew ?_ | refine blk_alloc ?_ _)); exact BK259.out)) : gb261 ≠ gb259)); clear BK244; clear BK245; clear BK253; clear BK259; clear HB; have BK244 := n0_; have BK245 := n1_; have BK253 := n2_; have BK259 := n3_; have HB := n4_; have BK261 := n5_; have GW261 := n6_; have GE261 := n7_; have NB244_261 := n8_; have NB261_244 := n9_; have NB245_261 := n10_; have NB261_245 := n11_; have NB253_261 := n12_; have NB261_253 := n13_; have NB259_261 := n14_; have NB261_259 := n15_; clear n0_ n1_ n2_ n3_ n4_ n5_ n6_ n7_ n8_ n9_ n10_ n11_ n12_ n13_ n14_ n15_; clear hb hbox hg) | ((with_reducible refine gate_dst (N := 17) rfl ?_); refine box_event (by rfl) (N := 17) (by rfl) (cs := #[.int .i64 0, .int .i64 0]) (t := 27) zq1 ?_; intro gb262 hg w41 hbox hb; have BK262 := Aside0.mk (hbox); have GW262 := zgs HB hg; have GE262 := zgs HB hg; have NB244_262 := znp BK244 hg; have NB262_244 := znq BK244 hg; have NB245_262 := znp BK245 hg; have NB262_245 := znq BK245 hg; have NB253_262 := znp BK253 hg; have NB262_253 := znq BK253 hg; have NB259_262 := znp BK259 hg; have NB262_259 := znq BK259 hg; have NB261_262 := znp BK261 hg; have NB262_261 := znq BK261 hg; replace BK244 := zbb BK244 hb; replace BK245 := zbb BK245 hb; replace BK253 := zbb BK253 hb; replace BK259 := zbb BK259 hb; replace BK261 := zbb BK261 hb; replace HB := zbs HB hb; clear hb hbox hg))
    go_loopg [18, 19] k (fun kq v18 v19 w' => ∃ (x18_1 : Bool) (x19_1 : Int) (x262000_1 : Int) (x262001_1 : Int) (x263000_1 : Int) (x263001_1 : Int), v18 = .bool x18_1 ∧ v19 = .int .i64 x19_1 ∧ Aside0 (isobathtop_TopCurrents.l0 kq a2 a3 a4 (wrap64 (a0_0 * a0_1)) x18_1 x19_1 a0_0 a0_1 a0_2 a0_3 a0_4 a0_5 a0_6 l0_7 l0_8 a1_0 a1_1 a1_2 a1_3 t248 t249 t250 t251 x262000_1 x262001_1 x263000_1 x263001_1 = some r) ∧ Aside0 (kq ≤ k) ∧ Aside0 (w'.heap[gb244]? = some (.cells #[.int .i64 a0_0, .int .i64 a0_1, .int .i64 a0_2, .int .i64 a0_3, .int .i64 a0_4, .int .i64 a0_5, .int .i64 a0_6, (.slice A0_7 l0_7.length c0_7), (.slice A0_8 l0_8.length c0_8)] 25 (0, 0))) ∧ Aside0 (w'.heap[gb245]? = some (.cells #[.int .i64 a1_0, .int .i64 a1_1, .int .i64 a1_2, .int .i64 a1_3] 29 (0, 0))) ∧ Aside0 (w'.heap[gb253]? = some (.cells #[.int .i64 t248, .int .i64 t249, .int .i64 t250, .int .i64 t251] 33 (0, 0))) ∧ Aside0 (w'.heap[gb259]? = some (.cells #[.int .i64 t254, .int .i64 t255, .int .i64 t256, .int .i64 t257] 33 (0, 0))) ∧ Aside0 (w'.heap[gb261]? = some (.cells #[.int .i64 x262000_1, .int .i64 x262001_1] 27 (0, 0))) ∧ Aside0 (w'.heap[gb262]? = some (.cells #[.int .i64 x263000_1, .int .i64 x263001_1] 27 (0, 0))) ∧ Aside0 (Below w.heap.size w w'))
    case atStart => exact ⟨(false), (0), (0), (0), (0), (0), zq3, zq3, H', ⟨Nat.le_refl _⟩, ⟨zbf⟩, ⟨zbf⟩, ⟨zbf⟩, ⟨zbf⟩, ⟨zbf⟩, ⟨zbf⟩, ⟨zbz⟩⟩
    case round =>
     clear H'
     try clear c1
     try clear c2
     try clear p2
     try clear c3
     try clear p6
     try clear c7
     try clear c11
     try clear c12
     try clear c13
     try clear c14
     try clear c17
     try clear c17b0
     try clear c17b1
     try clear c18
     try clear c18b0
     try clear c18b1
     try clear c21
     try clear c28
     try clear c29
     try clear c35
     try clear c36
     try clear c37
     try clear hcz12_0 hcz12_1 hcz12_2 hcz12_3 hcz12_4 hcz12_5 hcz12_6 hcz12_7 hcz12_8
     try clear hcz22_0 hcz22_1 hcz22_2 hcz22_3 hcz22_4 hcz22_5 hcz22_6 hcz22_7 hcz22_8
     try clear hcz24_0 hcz24_1 hcz24_2 hcz24_3 hcz24_4 hcz24_5 hcz24_6 hcz24_7 hcz24_8
     try clear hcz25_0 hcz25_1 hcz25_2 hcz25_3
     try clear hcz30_0 hcz30_1 hcz30_2 hcz30_3
     try clear hcz31_0 hcz31_1 hcz31_2 hcz31_3 hcz31_4 hcz31_5 hcz31_6 hcz31_7 hcz31_8
     try clear hcz32_0 hcz32_1 hcz32_2 hcz32_3
     try clear hcz38_0 hcz38_1 hcz38_2 hcz38_3
     try clear hcz39_0 hcz39_1 hcz39_2 hcz39_3 hcz39_4 hcz39_5 hcz39_6 hcz39_7 hcz39_8
     try clear hfz12_0 hfz12_1 hfz12_2 hfz12_3 hfz12_4 hfz12_5 hfz12_6 hfz12_7 hfz12_8
     try clear hfz22_0 hfz22_1 hfz22_2 hfz22_3 hfz22_4 hfz22_5 hfz22_6 hfz22_7 hfz22_8
     try clear hfz24_0 hfz24_1 hfz24_2 hfz24_3 hfz24_4 hfz24_5 hfz24_6 hfz24_7 hfz24_8
     try clear hfz25_0 hfz25_1 hfz25_2 hfz25_3
     try clear hfz30_0 hfz30_1 hfz30_2 hfz30_3
     try clear hfz31_0 hfz31_1 hfz31_2 hfz31_3 hfz31_4 hfz31_5 hfz31_6 hfz31_7 hfz31_8
     try clear hfz32_0 hfz32_1 hfz32_2 hfz32_3
     try clear hfz38_0 hfz38_1 hfz38_2 hfz38_3
     try clear hfz39_0 hfz39_1 hfz39_2 hfz39_3 hfz39_4 hfz39_5 hfz39_6 hfz39_7 hfz39_8
     obtain ⟨x18_1, x19_1, x262000_1, x262001_1, x263000_1, x263001_1, rfl, rfl, HA, HK1, BK244, BK245, BK253, BK259, BK261, BK262, HB⟩ := hrel
     cases gk with
     | zero => exact absurd HA.out (by simp [isobathtop_TopCurrents.l0])
     | succ k1 =>
      have H := HA.out
      clear HA
      simp only [isobathtop_TopCurrents.l0] at H
      by_cases c42 : x19_1 < a0_4
      ·rw [if_pos c42] at H
       have c42b0 : decide (x19_1 < a0_4) = true := decide_eq_true c42
       clear c42
       have HC43 := Aside0.mk H
       clear H
       have hnb44 := NB244_245.out
       have hnc44 := NB245_244.out
       have hnb45 := NB244_253.out
       have hnc45 := NB253_244.out
       have hnb46 := NB244_259.out
       have hnc46 := NB259_244.out
       have hnb47 := NB244_261.out
       have hnc47 := NB261_244.out
       have hnb48 := NB244_262.out
       have hnc48 := NB262_244.out
       obtain ⟨hcz49_0, hcz49_1, hcz49_2, hcz49_3, hcz49_4, hcz49_5, hcz49_6, hcz49_7, hcz49_8, hfz49_0, hfz49_1, hfz49_2, hfz49_3, hfz49_4, hfz49_5, hfz49_6, hfz49_7, hfz49_8⟩ := zce9 BK244.out
       go_upto_region 15 with (fail)
       go_cut [89] (fun v89 wc => ∃ (kq : Nat) (x89_42 : Bool), v89 = .bool x89_42 ∧ Aside0 (isobathtop_TopCurrents.j1 kq a2 a3 a4 (wrap64 (a0_0 * a0_1)) x18_1 x19_1 x89_42 a0_0 a0_1 a0_2 a0_3 a0_4 a0_5 a0_6 l0_7 l0_8 a1_0 a1_1 a1_2 a1_3 t248 t249 t250 t251 x262000_1 x262001_1 x263000_1 x263001_1 = some r) ∧ Aside0 (kq ≤ k1) ∧ Aside0 (wc.heap[gb244]? = some (.cells #[.int .i64 a0_0, .int .i64 a0_1, .int .i64 a0_2, .int .i64 a0_3, .int .i64 a0_4, .int .i64 a0_5, .int .i64 a0_6, (.slice A0_7 l0_7.length c0_7), (.slice A0_8 l0_8.length c0_8)] 25 (0, 0))) ∧ Aside0 (wc.heap[gb245]? = some (.cells #[.int .i64 a1_0, .int .i64 a1_1, .int .i64 a1_2, .int .i64 a1_3] 29 (0, 0))) ∧ Aside0 (wc.heap[gb253]? = some (.cells #[.int .i64 t248, .int .i64 t249, .int .i64 t250, .int .i64 t251] 33 (0, 0))) ∧ Aside0 (wc.heap[gb259]? = some (.cells #[.int .i64 t254, .int .i64 t255, .int .i64 t256, .int .i64 t257] 33 (0, 0))) ∧ Aside0 (wc.heap[gb261]? = some (.cells #[.int .i64 x262000_1, .int .i64 x262001_1] 27 (0, 0))) ∧ Aside0 (wc.heap[gb262]? = some (.cells #[.int .i64 x263000_1, .int .i64 x263001_1] 27 (0, 0))) ∧ Aside0 (Below w.heap.size w wc))
       case first =>
        have H := HC43.out
        clear HC43
        by_cases c50 : (wrap64 (x19_1 * a0_3)) ≥ a4
        ·rw [if_pos c50] at H
         have c50b0 : decide (a4 ≤ (wrap64 (x19_1 * a0_3))) = true := decide_eq_true c50
         clear c50
         (first | rw [c50b0] | (simp only [i64_w, i32_w]; rw [c50b0]) | skip)
         have H' := Aside0.mk H
         clear H
         have hnb51 := NB244_245.out
         have hnc51 := NB245_244.out
         have hnb52 := NB244_253.out
         have hnc52 := NB253_244.out
         have hnb53 := NB244_259.out
         have hnc53 := NB259_244.out
         have hnb54 := NB244_261.out
         have hnc54 := NB261_244.out
         have hnb55 := NB244_262.out
         have hnc55 := NB262_244.out
         obtain ⟨hcz56_0, hcz56_1, hcz56_2, hcz56_3, hcz56_4, hcz56_5, hcz56_6, hcz56_7, hcz56_8, hfz56_0, hfz56_1, hfz56_2, hfz56_3, hfz56_4, hfz56_5, hfz56_6, hfz56_7, hfz56_8⟩ := zce9 BK244.out
         go_wp2
         go_meet
         case rel => exact ⟨_, (true), zq3, H', ⟨zq14⟩, ⟨zbf⟩, ⟨zbf⟩, ⟨zbf⟩, ⟨zbf⟩, ⟨zbf⟩, ⟨zbf⟩, ⟨zbz⟩⟩
        ·rw [if_neg c50] at H
         have c50b0 : decide (a4 ≤ (wrap64 (x19_1 * a0_3))) = false := decide_eq_false c50
         clear c50
         (first | rw [c50b0] | (simp only [i64_w, i32_w]; rw [c50b0]) | skip)
         have H' := Aside0.mk H
         clear H
         have hnb57 := NB244_245.out
         have hnc57 := NB245_244.out
         have hnb58 := NB244_253.out
         have hnc58 := NB253_244.out
         have hnb59 := NB244_259.out
         have hnc59 := NB259_244.out
         have hnb60 := NB244_261.out
         have hnc60 := NB261_244.out
         have hnb61 := NB244_262.out
         have hnc61 := NB262_244.out
         obtain ⟨hcz62_0, hcz62_1, hcz62_2, hcz62_3, hcz62_4, hcz62_5, hcz62_6, hcz62_7, hcz62_8, hfz62_0, hfz62_1, hfz62_2, hfz62_3, hfz62_4, hfz62_5, hfz62_6, hfz62_7, hfz62_8⟩ := zce9 BK244.out
         go_wp2
         go_meet
         case rel => exact ⟨_, (decide ((wrap64 ((wrap64 (x19_1 + 1)) * a0_3)) ≤ a3)), zq3, H', ⟨zq14⟩, ⟨zbf⟩, ⟨zbf⟩, ⟨zbf⟩, ⟨zbf⟩, ⟨zbf⟩, ⟨zbf⟩, ⟨zbz⟩⟩
       case rest =>
        clear HC43
        try clear c1
        try clear c2
        try clear p2
        try clear c3
        try clear c4
        try clear c5
        try clear c6
        try clear p6
        try clear c7
        try clear c11
        try clear c12
        try clear c13
        try clear c14
        try clear c17
        try clear c17b0
        try clear c17b1
        try clear c18
        try clear c18b0
        try clear c18b1
        try clear c21
        try clear c28
        try clear c29
        try clear c35
        try clear c36
        try clear c37
        try clear c42
        try clear c42b0
        try clear c44
        try clear c45
        try clear c46
        try clear c47
        try clear c48
        try clear c50
        try clear c50b0
        try clear c51
        try clear c52
        try clear c53
        try clear c54
        try clear c55
        try clear c57
        try clear c58
        try clear c59
        try clear c60
        try clear c61
        try clear hcz12_0 hcz12_1 hcz12_2 hcz12_3 hcz12_4 hcz12_5 hcz12_6 hcz12_7 hcz12_8
        try clear hcz22_0 hcz22_1 hcz22_2 hcz22_3 hcz22_4 hcz22_5 hcz22_6 hcz22_7 hcz22_8
        try clear hcz24_0 hcz24_1 hcz24_2 hcz24_3 hcz24_4 hcz24_5 hcz24_6 hcz24_7 hcz24_8
        try clear hcz25_0 hcz25_1 hcz25_2 hcz25_3
        try clear hcz30_0 hcz30_1 hcz30_2 hcz30_3
        try clear hcz31_0 hcz31_1 hcz31_2 hcz31_3 hcz31_4 hcz31_5 hcz31_6 hcz31_7 hcz31_8
        try clear hcz32_0 hcz32_1 hcz32_2 hcz32_3
        try clear hcz38_0 hcz38_1 hcz38_2 hcz38_3
        try clear hcz39_0 hcz39_1 hcz39_2 hcz39_3 hcz39_4 hcz39_5 hcz39_6 hcz39_7 hcz39_8
        try clear hcz49_0 hcz49_1 hcz49_2 hcz49_3 hcz49_4 hcz49_5 hcz49_6 hcz49_7 hcz49_8
        try clear hcz56_0 hcz56_1 hcz56_2 hcz56_3 hcz56_4 hcz56_5 hcz56_6 hcz56_7 hcz56_8
        try clear hcz62_0 hcz62_1 hcz62_2 hcz62_3 hcz62_4 hcz62_5 hcz62_6 hcz62_7 hcz62_8
        try clear hfz12_0 hfz12_1 hfz12_2 hfz12_3 hfz12_4 hfz12_5 hfz12_6 hfz12_7 hfz12_8
        try clear hfz22_0 hfz22_1 hfz22_2 hfz22_3 hfz22_4 hfz22_5 hfz22_6 hfz22_7 hfz22_8
        try clear hfz24_0 hfz24_1 hfz24_2 hfz24_3 hfz24_4 hfz24_5 hfz24_6 hfz24_7 hfz24_8
        try clear hfz25_0 hfz25_1 hfz25_2 hfz25_3
        try clear hfz30_0 hfz30_1 hfz30_2 hfz30_3
        try clear hfz31_0 hfz31_1 hfz31_2 hfz31_3 hfz31_4 hfz31_5 hfz31_6 hfz31_7 hfz31_8
        try clear hfz32_0 hfz32_1 hfz32_2 hfz32_3
        try clear hfz38_0 hfz38_1 hfz38_2 hfz38_3
        try clear hfz39_0 hfz39_1 hfz39_2 hfz39_3 hfz39_4 hfz39_5 hfz39_6 hfz39_7 hfz39_8
        try clear hfz49_0 hfz49_1 hfz49_2 hfz49_3 hfz49_4 hfz49_5 hfz49_6 hfz49_7 hfz49_8
        try clear hfz56_0 hfz56_1 hfz56_2 hfz56_3 hfz56_4 hfz56_5 hfz56_6 hfz56_7 hfz56_8
        try clear hfz62_0 hfz62_1 hfz62_2 hfz62_3 hfz62_4 hfz62_5 hfz62_6 hfz62_7 hfz62_8
        try clear p2
        try clear p6
        obtain ⟨kq, x89_42, rfl, HA, HJ42, BK244, BK245, BK253, BK259, BK261, BK262, HB⟩ := hcut
        cases kq with
        | zero => exact absurd HA.out (by simp [isobathtop_TopCurrents.j1])
        | succ kj42 =>
         have H := HA.out
         clear HA
         simp only [isobathtop_TopCurrents.j1] at H
         by_cases c63 : x89_42 = true
         ·subst c63
          have H1 : (isobathtop_TopCurrents.l0 kj42 a2 a3 a4 (wrap64 (a0_0 * a0_1)) x18_1 (wrap64 (x19_1 + 1)) a0_0 a0_1 a0_2 a0_3 a0_4 a0_5 a0_6 l0_7 l0_8 a1_0 a1_1 a1_2 a1_3 t248 t249 t250 t251 x262000_1 x262001_1 x263000_1 x263001_1) = some r := by rw [if_pos rfl] at H; exact H
          clear H
          have H := H1
          clear H1
          have H' := Aside0.mk H
          clear H
          go_wp2
          go_roundg kj42
          case measure => have := HK1.out; have := HJ42.out; omega
          case rel => exact ⟨(x18_1), (wrap64 (x19_1 + 1)), (x262000_1), (x262001_1), (x263000_1), (x263001_1), zq3, zq3, H', ⟨by have := HK1.out; have := HJ42.out; omega⟩, ⟨zbf⟩, ⟨zbf⟩, ⟨zbf⟩, ⟨zbf⟩, ⟨zbf⟩, ⟨zbf⟩, ⟨zbz⟩⟩
         ·replace c63 := Bool.eq_false_iff.mpr c63
          subst c63
          have H1 : (isobathtop_TopCurrents.l1 kj42 a2 a3 a4 (wrap64 (a0_0 * a0_1)) x18_1 x19_1 0 a0_0 a0_1 a0_2 a0_3 a0_4 a0_5 a0_6 l0_7 l0_8 a1_0 a1_1 a1_2 a1_3 t248 t249 t250 t251 x262000_1 x262001_1 x263000_1 x263001_1) = some r := by rw [if_neg (show ¬ (false = true) by decide)] at H; exact H
          clear H
          have H := H1
          clear H1
          have H' := Aside0.mk H
          clear H
          go_wp2
          go_loopg [18, 20] kj42 (fun kq v18 v20 w' => ∃ (x18_3 : Bool) (x20_3 : Int) (x262000_3 : Int) (x262001_3 : Int) (x263000_3 : Int) (x263001_3 : Int), v18 = .bool x18_3 ∧ v20 = .int .i64 x20_3 ∧ Aside0 (isobathtop_TopCurrents.l1 kq a2 a3 a4 (wrap64 (a0_0 * a0_1)) x18_3 x19_1 x20_3 a0_0 a0_1 a0_2 a0_3 a0_4 a0_5 a0_6 l0_7 l0_8 a1_0 a1_1 a1_2 a1_3 t248 t249 t250 t251 x262000_3 x262001_3 x263000_3 x263001_3 = some r) ∧ Aside0 (kq ≤ kj42) ∧ Aside0 (w'.heap[gb244]? = some (.cells #[.int .i64 a0_0, .int .i64 a0_1, .int .i64 a0_2, .int .i64 a0_3, .int .i64 a0_4, .int .i64 a0_5, .int .i64 a0_6, (.slice A0_7 l0_7.length c0_7), (.slice A0_8 l0_8.length c0_8)] 25 (0, 0))) ∧ Aside0 (w'.heap[gb245]? = some (.cells #[.int .i64 a1_0, .int .i64 a1_1, .int .i64 a1_2, .int .i64 a1_3] 29 (0, 0))) ∧ Aside0 (w'.heap[gb253]? = some (.cells #[.int .i64 t248, .int .i64 t249, .int .i64 t250, .int .i64 t251] 33 (0, 0))) ∧ Aside0 (w'.heap[gb259]? = some (.cells #[.int .i64 t254, .int .i64 t255, .int .i64 t256, .int .i64 t257] 33 (0, 0))) ∧ Aside0 (w'.heap[gb261]? = some (.cells #[.int .i64 x262000_3, .int .i64 x262001_3] 27 (0, 0))) ∧ Aside0 (w'.heap[gb262]? = some (.cells #[.int .i64 x263000_3, .int .i64 x263001_3] 27 (0, 0))) ∧ Aside0 (Below w.heap.size w w'))
          case atStart => exact ⟨(x18_1), (0), (x262000_1), (x262001_1), (x263000_1), (x263001_1), zq3, zq3, H', ⟨Nat.le_refl _⟩, ⟨zbf⟩, ⟨zbf⟩, ⟨zbf⟩, ⟨zbf⟩, ⟨zbf⟩, ⟨zbf⟩, ⟨zbz⟩⟩
          case round =>
           clear H'
           try clear c1
           try clear c2
           try clear p2
           try clear c3
           try clear c4
           try clear c5
           try clear c6
           try clear p6
           try clear c7
           try clear c11
           try clear c12
           try clear c13
           try clear c14
           try clear c17
           try clear c17b0
           try clear c17b1
           try clear c18
           try clear c18b0
           try clear c18b1
           try clear c21
           try clear c28
           try clear c29
           try clear c35
           try clear c36
           try clear c37
           try clear c42
           try clear c42b0
           try clear c44
           try clear c45
           try clear c46
           try clear c47
           try clear c48
           try clear c50
           try clear c50b0
           try clear c51
           try clear c52
           try clear c53
           try clear c54
           try clear c55
           try clear c57
           try clear c58
           try clear c59
           try clear c60
           try clear c61
           try clear c63
           try clear hcz12_0 hcz12_1 hcz12_2 hcz12_3 hcz12_4 hcz12_5 hcz12_6 hcz12_7 hcz12_8
           try clear hcz22_0 hcz22_1 hcz22_2 hcz22_3 hcz22_4 hcz22_5 hcz22_6 hcz22_7 hcz22_8
           try clear hcz24_0 hcz24_1 hcz24_2 hcz24_3 hcz24_4 hcz24_5 hcz24_6 hcz24_7 hcz24_8
           try clear hcz25_0 hcz25_1 hcz25_2 hcz25_3
           try clear hcz30_0 hcz30_1 hcz30_2 hcz30_3
           try clear hcz31_0 hcz31_1 hcz31_2 hcz31_3 hcz31_4 hcz31_5 hcz31_6 hcz31_7 hcz31_8
           try clear hcz32_0 hcz32_1 hcz32_2 hcz32_3
           try clear hcz38_0 hcz38_1 hcz38_2 hcz38_3
           try clear hcz39_0 hcz39_1 hcz39_2 hcz39_3 hcz39_4 hcz39_5 hcz39_6 hcz39_7 hcz39_8
           try clear hcz49_0 hcz49_1 hcz49_2 hcz49_3 hcz49_4 hcz49_5 hcz49_6 hcz49_7 hcz49_8
           try clear hcz56_0 hcz56_1 hcz56_2 hcz56_3 hcz56_4 hcz56_5 hcz56_6 hcz56_7 hcz56_8
           try clear hcz62_0 hcz62_1 hcz62_2 hcz62_3 hcz62_4 hcz62_5 hcz62_6 hcz62_7 hcz62_8
           try clear hfz12_0 hfz12_1 hfz12_2 hfz12_3 hfz12_4 hfz12_5 hfz12_6 hfz12_7 hfz12_8
           try clear hfz22_0 hfz22_1 hfz22_2 hfz22_3 hfz22_4 hfz22_5 hfz22_6 hfz22_7 hfz22_8
           try clear hfz24_0 hfz24_1 hfz24_2 hfz24_3 hfz24_4 hfz24_5 hfz24_6 hfz24_7 hfz24_8
           try clear hfz25_0 hfz25_1 hfz25_2 hfz25_3
           try clear hfz30_0 hfz30_1 hfz30_2 hfz30_3
           try clear hfz31_0 hfz31_1 hfz31_2 hfz31_3 hfz31_4 hfz31_5 hfz31_6 hfz31_7 hfz31_8
           try clear hfz32_0 hfz32_1 hfz32_2 hfz32_3
           try clear hfz38_0 hfz38_1 hfz38_2 hfz38_3
           try clear hfz39_0 hfz39_1 hfz39_2 hfz39_3 hfz39_4 hfz39_5 hfz39_6 hfz39_7 hfz39_8
           try clear hfz49_0 hfz49_1 hfz49_2 hfz49_3 hfz49_4 hfz49_5 hfz49_6 hfz49_7 hfz49_8
           try clear hfz56_0 hfz56_1 hfz56_2 hfz56_3 hfz56_4 hfz56_5 hfz56_6 hfz56_7 hfz56_8
           try clear hfz62_0 hfz62_1 hfz62_2 hfz62_3 hfz62_4 hfz62_5 hfz62_6 hfz62_7 hfz62_8
           try clear p2
           try clear p6
           obtain ⟨x18_3, x20_3, x262000_3, x262001_3, x263000_3, x263001_3, rfl, rfl, HA, HK3, BK244, BK245, BK253, BK259, BK261, BK262, HB⟩ := hrel
           cases gk with
           | zero => exact absurd HA.out (by simp [isobathtop_TopCurrents.l1])
           | succ k3 =>
            have H := HA.out
            clear HA
            simp only [isobathtop_TopCurrents.l1] at H
            by_cases c64 : x20_3 < (wrap64 (a0_0 * a0_1))
            ·rw [if_pos c64] at H
             have c64b0 : decide (x20_3 < (wrap64 (a0_0 * a0_1))) = true := decide_eq_true c64
             clear c64
             by_cases c65 : a0_0 = 0
             ·rw [if_pos c65] at H
              exact absurd H (by simp)
             ·rw [if_neg c65] at H
              have c65b0 : (a0_0 == 0) = false := beq_eq_false_iff_ne.mpr c65
              have c65b1 : (a0_0 != 0) = true := bne_iff_ne.mpr c65
              replace H := Option.bind_eq_some_iff.mp H
              obtain ⟨⟨t264, t265, t266⟩, A660, H⟩ := H
              replace H : ((bound_Meet.f k3 a1_2 a1_3 (wrap64 ((wrap64 (Int.tdiv x20_3 a0_0)) * a0_2)) (wrap64 ((wrap64 ((wrap64 (Int.tdiv x20_3 a0_0)) * a0_2)) + a0_2))).bind fun bt268 => (if t266 = 0 then (if bt268.2.2 = 0 then (isobathtop_TopCurrents.j3 k3 a2 a3 a4 (wrap64 (a0_0 * a0_1)) x18_3 x19_1 x20_3 t266 bt268.2.2 false a0_0 a0_1 a0_2 a0_3 a0_4 a0_5 a0_6 l0_7 l0_8 a1_0 a1_1 a1_2 a1_3 t248 t249 t250 t251 x262000_3 x262001_3 x263000_3 x263001_3) else (isobathtop_TopCurrents.j3 k3 a2 a3 a4 (wrap64 (a0_0 * a0_1)) x18_3 x19_1 x20_3 t266 bt268.2.2 (bt268.2.2 != 5) a0_0 a0_1 a0_2 a0_3 a0_4 a0_5 a0_6 l0_7 l0_8 a1_0 a1_1 a1_2 a1_3 t248 t249 t250 t251 x262000_3 x262001_3 x263000_3 x263001_3)) else (if t266 = 5 then (if bt268.2.2 = 0 then (isobathtop_TopCurrents.j3 k3 a2 a3 a4 (wrap64 (a0_0 * a0_1)) x18_3 x19_1 x20_3 t266 bt268.2.2 false a0_0 a0_1 a0_2 a0_3 a0_4 a0_5 a0_6 l0_7 l0_8 a1_0 a1_1 a1_2 a1_3 t248 t249 t250 t251 x262000_3 x262001_3 x263000_3 x263001_3) else (isobathtop_TopCurrents.j3 k3 a2 a3 a4 (wrap64 (a0_0 * a0_1)) x18_3 x19_1 x20_3 t266 bt268.2.2 (bt268.2.2 != 5) a0_0 a0_1 a0_2 a0_3 a0_4 a0_5 a0_6 l0_7 l0_8 a1_0 a1_1 a1_2 a1_3 t248 t249 t250 t251 x262000_3 x262001_3 x263000_3 x263001_3)) else (isobathtop_TopCurrents.j3 k3 a2 a3 a4 (wrap64 (a0_0 * a0_1)) x18_3 x19_1 x20_3 t266 bt268.2.2 true a0_0 a0_1 a0_2 a0_3 a0_4 a0_5 a0_6 l0_7 l0_8 a1_0 a1_1 a1_2 a1_3 t248 t249 t250 t251 x262000_3 x262001_3 x263000_3 x263001_3)))) = some r := H
              have A66 := Aside0.mk A660
              clear A660
              replace H := Option.bind_eq_some_iff.mp H
              obtain ⟨⟨t268, t269, t270⟩, A670, H⟩ := H
              replace H : (if t266 = 0 then (if t270 = 0 then (isobathtop_TopCurrents.j3 k3 a2 a3 a4 (wrap64 (a0_0 * a0_1)) x18_3 x19_1 x20_3 t266 t270 false a0_0 a0_1 a0_2 a0_3 a0_4 a0_5 a0_6 l0_7 l0_8 a1_0 a1_1 a1_2 a1_3 t248 t249 t250 t251 x262000_3 x262001_3 x263000_3 x263001_3) else (isobathtop_TopCurrents.j3 k3 a2 a3 a4 (wrap64 (a0_0 * a0_1)) x18_3 x19_1 x20_3 t266 t270 (t270 != 5) a0_0 a0_1 a0_2 a0_3 a0_4 a0_5 a0_6 l0_7 l0_8 a1_0 a1_1 a1_2 a1_3 t248 t249 t250 t251 x262000_3 x262001_3 x263000_3 x263001_3)) else (if t266 = 5 then (if t270 = 0 then (isobathtop_TopCurrents.j3 k3 a2 a3 a4 (wrap64 (a0_0 * a0_1)) x18_3 x19_1 x20_3 t266 t270 false a0_0 a0_1 a0_2 a0_3 a0_4 a0_5 a0_6 l0_7 l0_8 a1_0 a1_1 a1_2 a1_3 t248 t249 t250 t251 x262000_3 x262001_3 x263000_3 x263001_3) else (isobathtop_TopCurrents.j3 k3 a2 a3 a4 (wrap64 (a0_0 * a0_1)) x18_3 x19_1 x20_3 t266 t270 (t270 != 5) a0_0 a0_1 a0_2 a0_3 a0_4 a0_5 a0_6 l0_7 l0_8 a1_0 a1_1 a1_2 a1_3 t248 t249 t250 t251 x262000_3 x262001_3 x263000_3 x263001_3)) else (isobathtop_TopCurrents.j3 k3 a2 a3 a4 (wrap64 (a0_0 * a0_1)) x18_3 x19_1 x20_3 t266 t270 true a0_0 a0_1 a0_2 a0_3 a0_4 a0_5 a0_6 l0_7 l0_8 a1_0 a1_1 a1_2 a1_3 t248 t249 t250 t251 x262000_3 x262001_3 x263000_3 x263001_3))) = some r := H
              have A67 := Aside0.mk A670
              clear A670
              have HC68 := Aside0.mk H
              clear H
              try go_wp2
              replace BK244 := Aside0.mk (blk_drew BK244.out)
              replace BK245 := Aside0.mk (blk_drew BK245.out)
              replace BK253 := Aside0.mk (blk_drew BK253.out)
              replace BK259 := Aside0.mk (blk_drew BK259.out)
              replace BK261 := Aside0.mk (blk_drew BK261.out)
              replace BK262 := Aside0.mk (blk_drew BK262.out)
              replace HB := Aside0.mk (below_drew1 HB.out)
              refine start_ (n := 16) (S := fun w' => w'.cell? ⟨gb244, 0, none⟩ = some (.int .i64 a0_0) ∧ w'.cell? ⟨gb244, 1, none⟩ = some (.int .i64 a0_1) ∧ w'.cell? ⟨gb244, 2, none⟩ = some (.int .i64 a0_2) ∧ w'.cell? ⟨gb244, 3, none⟩ = some (.int .i64 a0_3) ∧ w'.cell? ⟨gb244, 4, none⟩ = some (.int .i64 a0_4) ∧ w'.cell? ⟨gb244, 5, none⟩ = some (.int .i64 a0_5) ∧ w'.cell? ⟨gb244, 6, none⟩ = some (.int .i64 a0_6) ∧ w'.cell? ⟨gb244, 7, none⟩ = some (.slice A0_7 l0_7.length c0_7) ∧ w'.cell? ⟨gb244, 8, none⟩ = some (.slice A0_8 l0_8.length c0_8)) (ds := []) #[false, false, false, false, false, false, false, false, false, false, false, false, false, false, false, false] zq0 rfl rfl (zcs9 BK244.out) (fun hHeld => ?_); refine with_tabW isobathtop_TopCurrents.tab19 isobathtop_TopCurrents.bits19 (fun HT_ HW_ => ?_)
              generalize wr.drew = w69 at BK244 BK245 BK253 BK259 BK261 BK262 HB hHeld ⊢
              refine zpz (i := 0) (N := some 95) (any_of HT_.out zq0) ?_
              refine zpz (i := 1) (N := some 96) (any_of HT_.out zq0) ?_
              refine zpz (i := 4) (N := some 99) (any_of HT_.out zq0) ?_
              refine zpz (i := 7) (N := some 102) (any_of HT_.out zq0) ?_
              refine zpz (i := 8) (N := some 103) (any_of HT_.out zq0) ?_
              refine zpz (i := 11) (N := some 106) (any_of HT_.out zq0) ?_
              refine ztz (i := 2) (N := some 97) (take_ofW HT_.out HW_.out zq0) hHeld ?_
              refine zpz (i := 3) (N := some 98) (any_of HT_.out zq0) ?_
              refine ztz (i := 5) (N := some 100) (take_ofW HT_.out HW_.out zq0) hHeld ?_
              refine zpz (i := 6) (N := some 101) (any_of HT_.out zq0) ?_
              refine zpz (i := 14) (N := some 21) (any_of HT_.out zq0) ?_
              refine ztz (i := 9) (N := some 104) (take_ofW HT_.out HW_.out zq0) hHeld ?_
              refine zpz (i := 10) (N := some 105) (any_of HT_.out zq0) ?_
              refine ztz (i := 12) (N := some 107) (take_ofW HT_.out HW_.out zq0) hHeld ?_
              refine zpz (i := 13) (N := some 108) (any_of HT_.out zq0) ?_
              refine zpz (i := 15) (N := some 22) (any_of HT_.out zq0) ?_
              refine done_ (done_of HT_.out zq0) ?_
              have hnb70 := NB245_244.out
              have hnc70 := NB244_245.out
              have hnb71 := NB245_253.out
              have hnc71 := NB253_245.out
              have hnb72 := NB245_259.out
              have hnc72 := NB259_245.out
              have hnb73 := NB245_261.out
              have hnc73 := NB261_245.out
              have hnb74 := NB245_262.out
              have hnc74 := NB262_245.out
              obtain ⟨hcz75_0, hcz75_1, hcz75_2, hcz75_3, hfz75_0, hfz75_1, hfz75_2, hfz75_3⟩ := zce4 BK245.out
              have hnb76 := NB244_253.out
              have hnc76 := NB253_244.out
              have hnb77 := NB244_259.out
              have hnc77 := NB259_244.out
              have hnb78 := NB244_261.out
              have hnc78 := NB261_244.out
              have hnb79 := NB244_262.out
              have hnc79 := NB262_244.out
              obtain ⟨hcz80_0, hcz80_1, hcz80_2, hcz80_3, hcz80_4, hcz80_5, hcz80_6, hcz80_7, hcz80_8, hfz80_0, hfz80_1, hfz80_2, hfz80_3, hfz80_4, hfz80_5, hfz80_6, hfz80_7, hfz80_8⟩ := zce9 BK244.out
              go_upto_region 22 with (first | ((with_reducible refine gate_callee (f := 15) rfl ?_); refine goesL_ (some 118) rfl rfl Try.func15 zq0 rfl #[.agg #[.int .i64 a1_0, .int .i64 a1_1], .agg #[.int .i64 (wrap64 ((Int.tmod x20_3 a0_0) * a0_2)), .int .i64 (wrap64 ((wrap64 ((Int.tmod x20_3 a0_0) * a0_2)) + a0_2))]] rfl zq6 ?_; (with_reducible refine (bound_Meet.calls k3 a1_0 a1_1 (wrap64 ((Int.tmod x20_3 a0_0) * a0_2)) (wrap64 ((wrap64 ((Int.tmod x20_3 a0_0) * a0_2)) + a0_2)) t264 t265 t266 _ A66.out).mono ?_); rintro e w81 ⟨rfl, hb⟩; refine ⟨_, rfl, ?_⟩; replace BK244 := zbb BK244 hb; replace BK245 := zbb BK245 hb; replace BK253 := zbb BK253 hb; replace BK259 := zbb BK259 hb; replace BK261 := zbb BK261 hb; replace BK262 := zbb BK262 hb; replace HB := zbs HB hb; (try clear hb); (try clear hb2); (try clear hk); (try clear hi)) | ((with_reducible refine gate_dst (N := 23) rfl ?_); refine box_event (by rfl) (N := 23) (by rfl) (cs := #[.int .i64 0, .int .i64 0]) (t := 27) zq1 ?_; intro gb267 hg w82 hbox hb; have BK267 := Aside0.mk (hbox); have GW267 := zgs HB hg; have GE267 := zgs HB hg; have NB244_267 := znp BK244 hg; have NB267_244 := znq BK244 hg; have NB245_267 := znp BK245 hg; have NB267_245 := znq BK245 hg; have NB253_267 := znp BK253 hg; have NB267_253 := znq BK253 hg; have NB259_267 := znp BK259 hg; have NB267_259 := znq BK259 hg; have NB261_267 := znp BK261 hg; have NB267_261 := znq BK261 hg; have NB262_267 := znp BK262 hg; have NB267_262 := znq BK262 hg; replace BK244 := zbb BK244 hb; replace BK245 := zbb BK245 hb; replace BK253 := zbb BK253 hb; replace BK259 := zbb BK259 hb; replace BK261 := zbb BK261 hb; replace BK262 := zbb BK262 hb; replace HB := zbs HB hb; clear hb hbox hg; have hnb83 := NB267_244.out; have hnc83 := NB244_267.out; have hnb84 := NB267_245.out; have hnc84 := NB245_267.out; have hnb85 := NB267_253.out; have hnc85 := NB253_267.out; have hnb86 := NB267_259.out; have hnc86 := NB259_267.out; have hnb87 := NB267_261.out; have hnc87 := NB261_267.out; have hnb88 := NB267_262.out; have hnc88 := NB262_267.out; obtain ⟨hcz89_0, hcz89_1, hfz89_0, hfz89_1⟩ := zce2 BK267.out; obtain ⟨hcz90_0, hcz90_1, hcz90_2, hcz90_3, hfz90_0, hfz90_1, hfz90_2, hfz90_3⟩ := zce4 BK245.out; obtain ⟨hcz91_0, hcz91_1, hcz91_2, hcz91_3, hcz91_4, hcz91_5, hcz91_6, hcz91_7, hcz91_8, hfz91_0, hfz91_1, hfz91_2, hfz91_3, hfz91_4, hfz91_5, hfz91_6, hfz91_7, hfz91_8⟩ := zce9 BK244.out) | ((with_reducible refine gate_callee (f := 15) rfl ?_); refine goesL_ (some 130) rfl rfl Try.func15 zq0 rfl #[.agg #[.int .i64 a1_2, .int .i64 a1_3], .agg #[.int .i64 (wrap64 ((wrap64 (Int.tdiv x20_3 a0_0)) * a0_2)), .int .i64 (wrap64 ((wrap64 ((wrap64 (Int.tdiv x20_3 a0_0)) * a0_2)) + a0_2))]] rfl zq6 ?_; (with_reducible refine (bound_Meet.calls k3 a1_2 a1_3 (wrap64 ((wrap64 (Int.tdiv x20_3 a0_0)) * a0_2)) (wrap64 ((wrap64 ((wrap64 (Int.tdiv x20_3 a0_0)) * a0_2)) + a0_2)) t268 t269 t270 _ A67.out).mono ?_); rintro e w92 ⟨rfl, hb⟩; refine ⟨_, rfl, ?_⟩; have n0_ := zbb BK244 hb; have n1_ := zbb BK245 hb; have n2_ := zbb BK253 hb; have n3_ := zbb BK259 hb; have n4_ := zbb BK261 hb; have n5_ := zbb BK262 hb; have n6_ := Aside0.mk (blk_below (g := gb267) (o := .cells #[.int .i64 t264, .int .i64 t265] 27 (0, 0)) (by (with_reducible repeat (first | refine blk_drewN ?_ _ | refine blk_drew ?_ | refine blk_alloc ?_ _)); refine blk_put (cs := #[.int .i64 t264, .int .i64 0]) ?_ 1 _ rfl; (with_reducible repeat (first | refine blk_drewN ?_ _ | refine blk_drew ?_ | refine blk_alloc ?_ _)); refine blk_put (cs := #[.int .i64 0, .int .i64 0]) ?_ 0 _ rfl; (with_reducible repeat (first | refine blk_drewN ?_ _ | refine blk_drew ?_ | refine blk_alloc ?_ _)); exact BK267.out) hb); have n7_ := zbs HB hb; clear BK244; clear BK245; clear BK253; clear BK259; clear BK261; clear BK262; clear BK267; clear HB; have BK244 := n0_; have BK245 := n1_; have BK253 := n2_; have BK259 := n3_; have BK261 := n4_; have BK262 := n5_; have BK267 := n6_; have HB := n7_; clear n0_ n1_ n2_ n3_ n4_ n5_ n6_ n7_; (try clear hb); (try clear hb2); (try clear hk); (try clear hi)) | ((with_reducible refine gate_dst (N := 25) rfl ?_); refine box_event (by rfl) (N := 25) (by rfl) (cs := #[.int .i64 0, .int .i64 0]) (t := 27) zq1 ?_; intro gb271 hg w93 hbox hb; have BK271 := Aside0.mk (hbox); have GW271 := zgs HB hg; have GE271 := zgs HB hg; have NB244_271 := znp BK244 hg; have NB271_244 := znq BK244 hg; have NB245_271 := znp BK245 hg; have NB271_245 := znq BK245 hg; have NB253_271 := znp BK253 hg; have NB271_253 := znq BK253 hg; have NB259_271 := znp BK259 hg; have NB271_259 := znq BK259 hg; have NB261_271 := znp BK261 hg; have NB271_261 := znq BK261 hg; have NB262_271 := znp BK262 hg; have NB271_262 := znq BK262 hg; have NB267_271 := znp BK267 hg; have NB271_267 := znq BK267 hg; replace BK244 := zbb BK244 hb; replace BK245 := zbb BK245 hb; replace BK253 := zbb BK253 hb; replace BK259 := zbb BK259 hb; replace BK261 := zbb BK261 hb; replace BK262 := zbb BK262 hb; replace BK267 := zbb BK267 hb; replace HB := zbs HB hb; clear hb hbox hg; have hnb94 := NB271_244.out; have hnc94 := NB244_271.out; have hnb95 := NB271_245.out; have hnc95 := NB245_271.out; have hnb96 := NB271_253.out; have hnc96 := NB253_271.out; have hnb97 := NB271_259.out; have hnc97 := NB259_271.out; have hnb98 := NB271_261.out; have hnc98 := NB261_271.out; have hnb99 := NB271_262.out; have hnc99 := NB262_271.out; have hnb100 := NB271_267.out; have hnc100 := NB267_271.out; obtain ⟨hcz101_0, hcz101_1, hfz101_0, hfz101_1⟩ := zce2 BK271.out))
              (try simp only [Act.put, List.setIfInBounds_toArray, List.set_cons_zero, List.set_cons_succ])
              go_cut [146] (fun v146 wc => ∃ (kq : Nat) (x146_67 : Bool), v146 = .bool x146_67 ∧ Aside0 (isobathtop_TopCurrents.j3 kq a2 a3 a4 (wrap64 (a0_0 * a0_1)) x18_3 x19_1 x20_3 t266 t270 x146_67 a0_0 a0_1 a0_2 a0_3 a0_4 a0_5 a0_6 l0_7 l0_8 a1_0 a1_1 a1_2 a1_3 t248 t249 t250 t251 x262000_3 x262001_3 x263000_3 x263001_3 = some r) ∧ Aside0 (kq ≤ k3) ∧ Aside0 (wc.heap[gb244]? = some (.cells #[.int .i64 a0_0, .int .i64 a0_1, .int .i64 a0_2, .int .i64 a0_3, .int .i64 a0_4, .int .i64 a0_5, .int .i64 a0_6, (.slice A0_7 l0_7.length c0_7), (.slice A0_8 l0_8.length c0_8)] 25 (0, 0))) ∧ Aside0 (wc.heap[gb245]? = some (.cells #[.int .i64 a1_0, .int .i64 a1_1, .int .i64 a1_2, .int .i64 a1_3] 29 (0, 0))) ∧ Aside0 (wc.heap[gb253]? = some (.cells #[.int .i64 t248, .int .i64 t249, .int .i64 t250, .int .i64 t251] 33 (0, 0))) ∧ Aside0 (wc.heap[gb259]? = some (.cells #[.int .i64 t254, .int .i64 t255, .int .i64 t256, .int .i64 t257] 33 (0, 0))) ∧ Aside0 (wc.heap[gb261]? = some (.cells #[.int .i64 x262000_3, .int .i64 x262001_3] 27 (0, 0))) ∧ Aside0 (wc.heap[gb262]? = some (.cells #[.int .i64 x263000_3, .int .i64 x263001_3] 27 (0, 0))) ∧ Aside0 (wc.heap[gb267]? = some (.cells #[.int .i64 t264, .int .i64 t265] 27 (0, 0))) ∧ Aside0 (wc.heap[gb271]? = some (.cells #[.int .i64 t268, .int .i64 t269] 27 (0, 0))) ∧ Aside0 (Below w.heap.size w wc))
              case first =>
               have H := HC68.out
               clear HC68
               by_cases c102 : t266 = 0
               ·rw [if_pos c102] at H
                have c102b0 : (t266 == 0) = true := beq_iff_eq.mpr c102
                have c102b1 : (t266 != 0) = false := bne_eq_false_iff_eq.mpr c102
                clear c102
                (first | rw [c102b0] | (simp only [i64_w, i32_w]; rw [c102b0]) | skip)
                by_cases c103 : t270 = 0
                ·rw [if_pos c103] at H
                 have c103b0 : (t270 == 0) = true := beq_iff_eq.mpr c103
                 have c103b1 : (t270 != 0) = false := bne_eq_false_iff_eq.mpr c103
                 clear c103
                 have H' := Aside0.mk H
                 clear H
                 go_wp2
                 go_meet
                 case rel => exact ⟨_, (false), zq3, H', ⟨zq31⟩, ⟨zbf⟩, ⟨zbf⟩, ⟨zbf⟩, ⟨zbf⟩, ⟨zbf⟩, ⟨zbf⟩, ⟨zbf⟩, ⟨by (with_reducible repeat (first | refine blk_drewN ?_ _ | refine blk_drew ?_ | refine blk_alloc ?_ _)); refine blk_put (cs := #[.int .i64 t268, .int .i64 0]) ?_ 1 _ rfl; (with_reducible repeat (first | refine blk_drewN ?_ _ | refine blk_drew ?_ | refine blk_alloc ?_ _)); refine blk_put (cs := #[.int .i64 0, .int .i64 0]) ?_ 0 _ rfl; (with_reducible repeat (first | refine blk_drewN ?_ _ | refine blk_drew ?_ | refine blk_alloc ?_ _)); exact BK271.out⟩, ⟨zbz⟩⟩
                ·rw [if_neg c103] at H
                 have c103b0 : (t270 == 0) = false := beq_eq_false_iff_ne.mpr c103
                 have c103b1 : (t270 != 0) = true := bne_iff_ne.mpr c103
                 have H' := Aside0.mk H
                 clear H
                 go_wp2
                 go_meet
                 case rel => exact ⟨_, ((t270 != 5)), zq3, H', ⟨zq31⟩, ⟨zbf⟩, ⟨zbf⟩, ⟨zbf⟩, ⟨zbf⟩, ⟨zbf⟩, ⟨zbf⟩, ⟨zbf⟩, ⟨by (with_reducible repeat (first | refine blk_drewN ?_ _ | refine blk_drew ?_ | refine blk_alloc ?_ _)); refine blk_put (cs := #[.int .i64 t268, .int .i64 0]) ?_ 1 _ rfl; (with_reducible repeat (first | refine blk_drewN ?_ _ | refine blk_drew ?_ | refine blk_alloc ?_ _)); refine blk_put (cs := #[.int .i64 0, .int .i64 0]) ?_ 0 _ rfl; (with_reducible repeat (first | refine blk_drewN ?_ _ | refine blk_drew ?_ | refine blk_alloc ?_ _)); exact BK271.out⟩, ⟨zbz⟩⟩
               ·rw [if_neg c102] at H
                have c102b0 : (t266 == 0) = false := beq_eq_false_iff_ne.mpr c102
                have c102b1 : (t266 != 0) = true := bne_iff_ne.mpr c102
                (first | rw [c102b0] | (simp only [i64_w, i32_w]; rw [c102b0]) | skip)
                by_cases c104 : t266 = 5
                ·rw [if_pos c104] at H
                 have c104b0 : (t266 == 5) = true := beq_iff_eq.mpr c104
                 have c104b1 : (t266 != 5) = false := bne_eq_false_iff_eq.mpr c104
                 clear c104
                 by_cases c105 : t270 = 0
                 ·rw [if_pos c105] at H
                  have c105b0 : (t270 == 0) = true := beq_iff_eq.mpr c105
                  have c105b1 : (t270 != 0) = false := bne_eq_false_iff_eq.mpr c105
                  clear c105
                  have H' := Aside0.mk H
                  clear H
                  go_wp2
                  go_meet
                  case rel => exact ⟨_, (false), zq3, H', ⟨zq31⟩, ⟨zbf⟩, ⟨zbf⟩, ⟨zbf⟩, ⟨zbf⟩, ⟨zbf⟩, ⟨zbf⟩, ⟨zbf⟩, ⟨by (with_reducible repeat (first | refine blk_drewN ?_ _ | refine blk_drew ?_ | refine blk_alloc ?_ _)); refine blk_put (cs := #[.int .i64 t268, .int .i64 0]) ?_ 1 _ rfl; (with_reducible repeat (first | refine blk_drewN ?_ _ | refine blk_drew ?_ | refine blk_alloc ?_ _)); refine blk_put (cs := #[.int .i64 0, .int .i64 0]) ?_ 0 _ rfl; (with_reducible repeat (first | refine blk_drewN ?_ _ | refine blk_drew ?_ | refine blk_alloc ?_ _)); exact BK271.out⟩, ⟨zbz⟩⟩
                 ·rw [if_neg c105] at H
                  have c105b0 : (t270 == 0) = false := beq_eq_false_iff_ne.mpr c105
                  have c105b1 : (t270 != 0) = true := bne_iff_ne.mpr c105
                  have H' := Aside0.mk H
                  clear H
                  go_wp2
                  go_meet
                  case rel => exact ⟨_, ((t270 != 5)), zq3, H', ⟨zq31⟩, ⟨zbf⟩, ⟨zbf⟩, ⟨zbf⟩, ⟨zbf⟩, ⟨zbf⟩, ⟨zbf⟩, ⟨zbf⟩, ⟨by (with_reducible repeat (first | refine blk_drewN ?_ _ | refine blk_drew ?_ | refine blk_alloc ?_ _)); refine blk_put (cs := #[.int .i64 t268, .int .i64 0]) ?_ 1 _ rfl; (with_reducible repeat (first | refine blk_drewN ?_ _ | refine blk_drew ?_ | refine blk_alloc ?_ _)); refine blk_put (cs := #[.int .i64 0, .int .i64 0]) ?_ 0 _ rfl; (with_reducible repeat (first | refine blk_drewN ?_ _ | refine blk_drew ?_ | refine blk_alloc ?_ _)); exact BK271.out⟩, ⟨zbz⟩⟩
                ·rw [if_neg c104] at H
                 have c104b0 : (t266 == 5) = false := beq_eq_false_iff_ne.mpr c104
                 have c104b1 : (t266 != 5) = true := bne_iff_ne.mpr c104
                 have H' := Aside0.mk H
                 clear H
                 go_wp2
                 go_meet
                 case rel => exact ⟨_, (true), zq3, H', ⟨zq31⟩, ⟨zbf⟩, ⟨zbf⟩, ⟨zbf⟩, ⟨zbf⟩, ⟨zbf⟩, ⟨zbf⟩, ⟨zbf⟩, ⟨by (with_reducible repeat (first | refine blk_drewN ?_ _ | refine blk_drew ?_ | refine blk_alloc ?_ _)); refine blk_put (cs := #[.int .i64 t268, .int .i64 0]) ?_ 1 _ rfl; (with_reducible repeat (first | refine blk_drewN ?_ _ | refine blk_drew ?_ | refine blk_alloc ?_ _)); refine blk_put (cs := #[.int .i64 0, .int .i64 0]) ?_ 0 _ rfl; (with_reducible repeat (first | refine blk_drewN ?_ _ | refine blk_drew ?_ | refine blk_alloc ?_ _)); exact BK271.out⟩, ⟨zbz⟩⟩
              case rest =>
               clear HC68
               try clear c1
               try clear c2
               try clear p2
               try clear c3
               try clear c4
               try clear c5
               try clear c6
               try clear p6
               try clear c7
               try clear c8
               try clear c9
               try clear c10
               try clear c11
               try clear c12
               try clear c13
               try clear c14
               try clear c15
               try clear c17
               try clear c17b0
               try clear c17b1
               try clear c18
               try clear c18b0
               try clear c18b1
               try clear c21
               try clear c28
               try clear c29
               try clear c35
               try clear c36
               try clear c37
               try clear c42
               try clear c42b0
               try clear c44
               try clear c45
               try clear c46
               try clear c47
               try clear c48
               try clear c50
               try clear c50b0
               try clear c51
               try clear c52
               try clear c53
               try clear c54
               try clear c55
               try clear c57
               try clear c58
               try clear c59
               try clear c60
               try clear c61
               try clear c63
               try clear c64
               try clear c64b0
               try clear p64
               try clear c65
               try clear c65b0
               try clear c65b1
               try clear c70
               try clear c71
               try clear c72
               try clear c73
               try clear c74
               try clear c76
               try clear c77
               try clear c78
               try clear c79
               try clear c83
               try clear c84
               try clear c85
               try clear c86
               try clear c87
               try clear c88
               try clear c94
               try clear c95
               try clear c96
               try clear c97
               try clear c98
               try clear c99
               try clear c100
               try clear c102
               try clear c102b0
               try clear c102b1
               try clear c103
               try clear c103b0
               try clear c103b1
               try clear c104
               try clear c104b0
               try clear c104b1
               try clear c105
               try clear c105b0
               try clear c105b1
               try clear hcz101_0 hcz101_1
               try clear hcz12_0 hcz12_1 hcz12_2 hcz12_3 hcz12_4 hcz12_5 hcz12_6 hcz12_7 hcz12_8
               try clear hcz22_0 hcz22_1 hcz22_2 hcz22_3 hcz22_4 hcz22_5 hcz22_6 hcz22_7 hcz22_8
               try clear hcz24_0 hcz24_1 hcz24_2 hcz24_3 hcz24_4 hcz24_5 hcz24_6 hcz24_7 hcz24_8
               try clear hcz25_0 hcz25_1 hcz25_2 hcz25_3
               try clear hcz30_0 hcz30_1 hcz30_2 hcz30_3
               try clear hcz31_0 hcz31_1 hcz31_2 hcz31_3 hcz31_4 hcz31_5 hcz31_6 hcz31_7 hcz31_8
               try clear hcz32_0 hcz32_1 hcz32_2 hcz32_3
               try clear hcz38_0 hcz38_1 hcz38_2 hcz38_3
               try clear hcz39_0 hcz39_1 hcz39_2 hcz39_3 hcz39_4 hcz39_5 hcz39_6 hcz39_7 hcz39_8
               try clear hcz49_0 hcz49_1 hcz49_2 hcz49_3 hcz49_4 hcz49_5 hcz49_6 hcz49_7 hcz49_8
               try clear hcz56_0 hcz56_1 hcz56_2 hcz56_3 hcz56_4 hcz56_5 hcz56_6 hcz56_7 hcz56_8
               try clear hcz62_0 hcz62_1 hcz62_2 hcz62_3 hcz62_4 hcz62_5 hcz62_6 hcz62_7 hcz62_8
               try clear hcz75_0 hcz75_1 hcz75_2 hcz75_3
               try clear hcz80_0 hcz80_1 hcz80_2 hcz80_3 hcz80_4 hcz80_5 hcz80_6 hcz80_7 hcz80_8
               try clear hcz89_0 hcz89_1
               try clear hcz90_0 hcz90_1 hcz90_2 hcz90_3
               try clear hcz91_0 hcz91_1 hcz91_2 hcz91_3 hcz91_4 hcz91_5 hcz91_6 hcz91_7 hcz91_8
               try clear hfz101_0 hfz101_1
               try clear hfz12_0 hfz12_1 hfz12_2 hfz12_3 hfz12_4 hfz12_5 hfz12_6 hfz12_7 hfz12_8
               try clear hfz22_0 hfz22_1 hfz22_2 hfz22_3 hfz22_4 hfz22_5 hfz22_6 hfz22_7 hfz22_8
               try clear hfz24_0 hfz24_1 hfz24_2 hfz24_3 hfz24_4 hfz24_5 hfz24_6 hfz24_7 hfz24_8
               try clear hfz25_0 hfz25_1 hfz25_2 hfz25_3
               try clear hfz30_0 hfz30_1 hfz30_2 hfz30_3
               try clear hfz31_0 hfz31_1 hfz31_2 hfz31_3 hfz31_4 hfz31_5 hfz31_6 hfz31_7 hfz31_8
               try clear hfz32_0 hfz32_1 hfz32_2 hfz32_3
               try clear hfz38_0 hfz38_1 hfz38_2 hfz38_3
               try clear hfz39_0 hfz39_1 hfz39_2 hfz39_3 hfz39_4 hfz39_5 hfz39_6 hfz39_7 hfz39_8
               try clear hfz49_0 hfz49_1 hfz49_2 hfz49_3 hfz49_4 hfz49_5 hfz49_6 hfz49_7 hfz49_8
               try clear hfz56_0 hfz56_1 hfz56_2 hfz56_3 hfz56_4 hfz56_5 hfz56_6 hfz56_7 hfz56_8
               try clear hfz62_0 hfz62_1 hfz62_2 hfz62_3 hfz62_4 hfz62_5 hfz62_6 hfz62_7 hfz62_8
               try clear hfz75_0 hfz75_1 hfz75_2 hfz75_3
               try clear hfz80_0 hfz80_1 hfz80_2 hfz80_3 hfz80_4 hfz80_5 hfz80_6 hfz80_7 hfz80_8
               try clear hfz89_0 hfz89_1
               try clear hfz90_0 hfz90_1 hfz90_2 hfz90_3
               try clear hfz91_0 hfz91_1 hfz91_2 hfz91_3 hfz91_4 hfz91_5 hfz91_6 hfz91_7 hfz91_8
               try clear p2
               try clear p6
               obtain ⟨kq, x146_67, rfl, HA, HJ67, BK244, BK245, BK253, BK259, BK261, BK262, BK267, BK271, HB⟩ := hcut
               cases kq with
               | zero => exact absurd HA.out (by simp [isobathtop_TopCurrents.j3])
               | succ kj67 =>
                have H := HA.out
                clear HA
                simp only [isobathtop_TopCurrents.j3] at H
                by_cases c106 : x146_67 = true
                ·subst c106
                 have H1 : (some false) = some r := by rw [if_pos rfl] at H; exact H
                 clear H
                 have H := H1
                 clear H1
                 have hh_ := Option.some.inj H
                 rw [hr_.out] at hh_
                 cases hh_
                ·replace c106 := Bool.eq_false_iff.mpr c106
                 subst c106
                 have H1 : (if t266 = 0 then (isobathtop_TopCurrents.j4 kj67 a2 a3 a4 (wrap64 (a0_0 * a0_1)) x18_3 x19_1 x20_3 (t270 != 0) a0_0 a0_1 a0_2 a0_3 a0_4 a0_5 a0_6 l0_7 l0_8 a1_0 a1_1 a1_2 a1_3 t248 t249 t250 t251 x262000_3 x262001_3 x263000_3 x263001_3) else (isobathtop_TopCurrents.j4 kj67 a2 a3 a4 (wrap64 (a0_0 * a0_1)) x18_3 x19_1 x20_3 true a0_0 a0_1 a0_2 a0_3 a0_4 a0_5 a0_6 l0_7 l0_8 a1_0 a1_1 a1_2 a1_3 t248 t249 t250 t251 x262000_3 x262001_3 x263000_3 x263001_3)) = some r := by rw [if_neg (show ¬ (false = true) by decide)] at H; exact H
                 clear H
                 have H := H1
                 clear H1
                 have HC107 := Aside0.mk H
                 clear H
                 go_upto_region 24 with (fail)
                 go_cut [152] (fun v152 wc => ∃ (kq : Nat) (x152_106 : Bool), v152 = .bool x152_106 ∧ Aside0 (isobathtop_TopCurrents.j4 kq a2 a3 a4 (wrap64 (a0_0 * a0_1)) x18_3 x19_1 x20_3 x152_106 a0_0 a0_1 a0_2 a0_3 a0_4 a0_5 a0_6 l0_7 l0_8 a1_0 a1_1 a1_2 a1_3 t248 t249 t250 t251 x262000_3 x262001_3 x263000_3 x263001_3 = some r) ∧ Aside0 (kq ≤ kj67) ∧ Aside0 (wc.heap[gb244]? = some (.cells #[.int .i64 a0_0, .int .i64 a0_1, .int .i64 a0_2, .int .i64 a0_3, .int .i64 a0_4, .int .i64 a0_5, .int .i64 a0_6, (.slice A0_7 l0_7.length c0_7), (.slice A0_8 l0_8.length c0_8)] 25 (0, 0))) ∧ Aside0 (wc.heap[gb245]? = some (.cells #[.int .i64 a1_0, .int .i64 a1_1, .int .i64 a1_2, .int .i64 a1_3] 29 (0, 0))) ∧ Aside0 (wc.heap[gb253]? = some (.cells #[.int .i64 t248, .int .i64 t249, .int .i64 t250, .int .i64 t251] 33 (0, 0))) ∧ Aside0 (wc.heap[gb259]? = some (.cells #[.int .i64 t254, .int .i64 t255, .int .i64 t256, .int .i64 t257] 33 (0, 0))) ∧ Aside0 (wc.heap[gb261]? = some (.cells #[.int .i64 x262000_3, .int .i64 x262001_3] 27 (0, 0))) ∧ Aside0 (wc.heap[gb262]? = some (.cells #[.int .i64 x263000_3, .int .i64 x263001_3] 27 (0, 0))) ∧ Aside0 (wc.heap[gb267]? = some (.cells #[.int .i64 t264, .int .i64 t265] 27 (0, 0))) ∧ Aside0 (wc.heap[gb271]? = some (.cells #[.int .i64 t268, .int .i64 t269] 27 (0, 0))) ∧ Aside0 (Below w.heap.size w wc))
                 case first =>
                  have H := HC107.out
                  clear HC107
                  by_cases c108 : t266 = 0
                  ·rw [if_pos c108] at H
                   have c108b0 : (t266 == 0) = true := beq_iff_eq.mpr c108
                   have c108b1 : (t266 != 0) = false := bne_eq_false_iff_eq.mpr c108
                   clear c108
                   (first | rw [c108b0] | (simp only [i64_w, i32_w]; rw [c108b0]) | skip)
                   have H' := Aside0.mk H
                   clear H
                   go_wp2
                   go_meet
                   case rel => exact ⟨_, ((t270 != 0)), zq3, H', ⟨by have := HK1.out; have := HJ42.out; have := HK3.out; have := HJ67.out; first | omega | exact Nat.le_refl _⟩, ⟨zbf⟩, ⟨zbf⟩, ⟨zbf⟩, ⟨zbf⟩, ⟨zbf⟩, ⟨zbf⟩, ⟨zbf⟩, ⟨zbf⟩, ⟨zbz⟩⟩
                  ·rw [if_neg c108] at H
                   have c108b0 : (t266 == 0) = false := beq_eq_false_iff_ne.mpr c108
                   have c108b1 : (t266 != 0) = true := bne_iff_ne.mpr c108
                   (first | rw [c108b0] | (simp only [i64_w, i32_w]; rw [c108b0]) | skip)
                   have H' := Aside0.mk H
                   clear H
                   go_wp2
                   go_meet
                   case rel => exact ⟨_, (true), zq3, H', ⟨by have := HK1.out; have := HJ42.out; have := HK3.out; have := HJ67.out; first | omega | exact Nat.le_refl _⟩, ⟨zbf⟩, ⟨zbf⟩, ⟨zbf⟩, ⟨zbf⟩, ⟨zbf⟩, ⟨zbf⟩, ⟨zbf⟩, ⟨zbf⟩, ⟨zbz⟩⟩
                 case rest =>
                  clear HC107
                  try clear c1
                  try clear c2
                  try clear p2
                  try clear c3
                  try clear c4
                  try clear c5
                  try clear c6
                  try clear p6
                  try clear c7
                  try clear c8
                  try clear c9
                  try clear c10
                  try clear c11
                  try clear c12
                  try clear c13
                  try clear c14
                  try clear c15
                  try clear c17
                  try clear c17b0
                  try clear c17b1
                  try clear c18
                  try clear c18b0
                  try clear c18b1
                  try clear c21
                  try clear c28
                  try clear c29
                  try clear c35
                  try clear c36
                  try clear c37
                  try clear c42
                  try clear c42b0
                  try clear c44
                  try clear c45
                  try clear c46
                  try clear c47
                  try clear c48
                  try clear c50
                  try clear c50b0
                  try clear c51
                  try clear c52
                  try clear c53
                  try clear c54
                  try clear c55
                  try clear c57
                  try clear c58
                  try clear c59
                  try clear c60
                  try clear c61
                  try clear c63
                  try clear c64
                  try clear c64b0
                  try clear p64
                  try clear c65
                  try clear c65b0
                  try clear c65b1
                  try clear c70
                  try clear c71
                  try clear c72
                  try clear c73
                  try clear c74
                  try clear c76
                  try clear c77
                  try clear c78
                  try clear c79
                  try clear c83
                  try clear c84
                  try clear c85
                  try clear c86
                  try clear c87
                  try clear c88
                  try clear c94
                  try clear c95
                  try clear c96
                  try clear c97
                  try clear c98
                  try clear c99
                  try clear c100
                  try clear c102
                  try clear c102b0
                  try clear c102b1
                  try clear c103
                  try clear c103b0
                  try clear c103b1
                  try clear c104
                  try clear c104b0
                  try clear c104b1
                  try clear c105
                  try clear c105b0
                  try clear c105b1
                  try clear c106
                  try clear c108
                  try clear c108b0
                  try clear c108b1
                  try clear hcz101_0 hcz101_1
                  try clear hcz12_0 hcz12_1 hcz12_2 hcz12_3 hcz12_4 hcz12_5 hcz12_6 hcz12_7 hcz12_8
                  try clear hcz22_0 hcz22_1 hcz22_2 hcz22_3 hcz22_4 hcz22_5 hcz22_6 hcz22_7 hcz22_8
                  try clear hcz24_0 hcz24_1 hcz24_2 hcz24_3 hcz24_4 hcz24_5 hcz24_6 hcz24_7 hcz24_8
                  try clear hcz25_0 hcz25_1 hcz25_2 hcz25_3
                  try clear hcz30_0 hcz30_1 hcz30_2 hcz30_3
                  try clear hcz31_0 hcz31_1 hcz31_2 hcz31_3 hcz31_4 hcz31_5 hcz31_6 hcz31_7 hcz31_8
                  try clear hcz32_0 hcz32_1 hcz32_2 hcz32_3
                  try clear hcz38_0 hcz38_1 hcz38_2 hcz38_3
                  try clear hcz39_0 hcz39_1 hcz39_2 hcz39_3 hcz39_4 hcz39_5 hcz39_6 hcz39_7 hcz39_8
                  try clear hcz49_0 hcz49_1 hcz49_2 hcz49_3 hcz49_4 hcz49_5 hcz49_6 hcz49_7 hcz49_8
                  try clear hcz56_0 hcz56_1 hcz56_2 hcz56_3 hcz56_4 hcz56_5 hcz56_6 hcz56_7 hcz56_8
                  try clear hcz62_0 hcz62_1 hcz62_2 hcz62_3 hcz62_4 hcz62_5 hcz62_6 hcz62_7 hcz62_8
                  try clear hcz75_0 hcz75_1 hcz75_2 hcz75_3
                  try clear hcz80_0 hcz80_1 hcz80_2 hcz80_3 hcz80_4 hcz80_5 hcz80_6 hcz80_7 hcz80_8
                  try clear hcz89_0 hcz89_1
                  try clear hcz90_0 hcz90_1 hcz90_2 hcz90_3
                  try clear hcz91_0 hcz91_1 hcz91_2 hcz91_3 hcz91_4 hcz91_5 hcz91_6 hcz91_7 hcz91_8
                  try clear hfz101_0 hfz101_1
                  try clear hfz12_0 hfz12_1 hfz12_2 hfz12_3 hfz12_4 hfz12_5 hfz12_6 hfz12_7 hfz12_8
                  try clear hfz22_0 hfz22_1 hfz22_2 hfz22_3 hfz22_4 hfz22_5 hfz22_6 hfz22_7 hfz22_8
                  try clear hfz24_0 hfz24_1 hfz24_2 hfz24_3 hfz24_4 hfz24_5 hfz24_6 hfz24_7 hfz24_8
                  try clear hfz25_0 hfz25_1 hfz25_2 hfz25_3
                  try clear hfz30_0 hfz30_1 hfz30_2 hfz30_3
                  try clear hfz31_0 hfz31_1 hfz31_2 hfz31_3 hfz31_4 hfz31_5 hfz31_6 hfz31_7 hfz31_8
                  try clear hfz32_0 hfz32_1 hfz32_2 hfz32_3
                  try clear hfz38_0 hfz38_1 hfz38_2 hfz38_3
                  try clear hfz39_0 hfz39_1 hfz39_2 hfz39_3 hfz39_4 hfz39_5 hfz39_6 hfz39_7 hfz39_8
                  try clear hfz49_0 hfz49_1 hfz49_2 hfz49_3 hfz49_4 hfz49_5 hfz49_6 hfz49_7 hfz49_8
                  try clear hfz56_0 hfz56_1 hfz56_2 hfz56_3 hfz56_4 hfz56_5 hfz56_6 hfz56_7 hfz56_8
                  try clear hfz62_0 hfz62_1 hfz62_2 hfz62_3 hfz62_4 hfz62_5 hfz62_6 hfz62_7 hfz62_8
                  try clear hfz75_0 hfz75_1 hfz75_2 hfz75_3
                  try clear hfz80_0 hfz80_1 hfz80_2 hfz80_3 hfz80_4 hfz80_5 hfz80_6 hfz80_7 hfz80_8
                  try clear hfz89_0 hfz89_1
                  try clear hfz90_0 hfz90_1 hfz90_2 hfz90_3
                  try clear hfz91_0 hfz91_1 hfz91_2 hfz91_3 hfz91_4 hfz91_5 hfz91_6 hfz91_7 hfz91_8
                  try clear p2
                  try clear p6
                  try clear p64
                  obtain ⟨kq, x152_106, rfl, HA, HJ106, BK244, BK245, BK253, BK259, BK261, BK262, BK267, BK271, HB⟩ := hcut
                  cases kq with
                  | zero => exact absurd HA.out (by simp [isobathtop_TopCurrents.j4])
                  | succ kj106 =>
                   have H := HA.out
                   clear HA
                   simp only [isobathtop_TopCurrents.j4] at H
                   by_cases c109 : x152_106 = true
                   ·subst c109
                    have H1 : (isobathtop_TopCurrents.l1 kj106 a2 a3 a4 (wrap64 (a0_0 * a0_1)) x18_3 x19_1 (wrap64 (x20_3 + 1)) a0_0 a0_1 a0_2 a0_3 a0_4 a0_5 a0_6 l0_7 l0_8 a1_0 a1_1 a1_2 a1_3 t248 t249 t250 t251 x262000_3 x262001_3 x263000_3 x263001_3) = some r := by rw [if_pos rfl] at H; exact H
                    clear H
                    have H := H1
                    clear H1
                    have H' := Aside0.mk H
                    clear H
                    go_wp2
                    go_roundg kj106
                    case measure => have := HK1.out; have := HJ42.out; have := HK3.out; have := HJ67.out; have := HJ106.out; omega
                    case rel => exact ⟨(x18_3), (wrap64 (x20_3 + 1)), (x262000_3), (x262001_3), (x263000_3), (x263001_3), zq3, zq3, H', ⟨zq32⟩, ⟨zbf⟩, ⟨zbf⟩, ⟨zbf⟩, ⟨zbf⟩, ⟨zbf⟩, ⟨zbf⟩, ⟨zbz⟩⟩
                   ·replace c109 := Bool.eq_false_iff.mpr c109
                    subst c109
                    have H1 : (if 0 ≤ (wrap64 ((wrap64 ((wrap64 ((wrap64 (x19_1 * a0_5)) + a2)) * (wrap64 (a0_0 * a0_1)))) + x20_3)) then (if (wrap64 ((wrap64 ((wrap64 ((wrap64 (x19_1 * a0_5)) + a2)) * (wrap64 (a0_0 * a0_1)))) + x20_3)) < (l0_8.length : Int) then (if x18_3 = true then ((bound_Hull.f kj106 x262000_3 x262001_3 ((rd_T33 l0_8 (wrap64 ((wrap64 ((wrap64 ((wrap64 (x19_1 * a0_5)) + a2)) * (wrap64 (a0_0 * a0_1)))) + x20_3))).f0.f0) ((rd_T33 l0_8 (wrap64 ((wrap64 ((wrap64 ((wrap64 (x19_1 * a0_5)) + a2)) * (wrap64 (a0_0 * a0_1)))) + x20_3))).f0.f1)).bind fun bt274 => ((bound_Hull.f kj106 x263000_3 x263001_3 ((rd_T33 l0_8 (wrap64 ((wrap64 ((wrap64 ((wrap64 (x19_1 * a0_5)) + a2)) * (wrap64 (a0_0 * a0_1)))) + x20_3))).f1.f0) ((rd_T33 l0_8 (wrap64 ((wrap64 ((wrap64 ((wrap64 (x19_1 * a0_5)) + a2)) * (wrap64 (a0_0 * a0_1)))) + x20_3))).f1.f1)).bind fun bt278 => (if bt274.2.2 = 0 then (if bt278.2.2 = 0 then (isobathtop_TopCurrents.l1 kj106 a2 a3 a4 (wrap64 (a0_0 * a0_1)) x18_3 x19_1 (wrap64 (x20_3 + 1)) a0_0 a0_1 a0_2 a0_3 a0_4 a0_5 a0_6 l0_7 l0_8 a1_0 a1_1 a1_2 a1_3 t248 t249 t250 t251 bt274.1 bt274.2.1 bt278.1 bt278.2.1) else (some false)) else (some false)))) else (isobathtop_TopCurrents.l1 kj106 a2 a3 a4 (wrap64 (a0_0 * a0_1)) true x19_1 (wrap64 (x20_3 + 1)) a0_0 a0_1 a0_2 a0_3 a0_4 a0_5 a0_6 l0_7 l0_8 a1_0 a1_1 a1_2 a1_3 t248 t249 t250 t251 ((rd_T33 l0_8 (wrap64 ((wrap64 ((wrap64 ((wrap64 (x19_1 * a0_5)) + a2)) * (wrap64 (a0_0 * a0_1)))) + x20_3))).f0.f0) ((rd_T33 l0_8 (wrap64 ((wrap64 ((wrap64 ((wrap64 (x19_1 * a0_5)) + a2)) * (wrap64 (a0_0 * a0_1)))) + x20_3))).f0.f1) ((rd_T33 l0_8 (wrap64 ((wrap64 ((wrap64 ((wrap64 (x19_1 * a0_5)) + a2)) * (wrap64 (a0_0 * a0_1)))) + x20_3))).f1.f0) ((rd_T33 l0_8 (wrap64 ((wrap64 ((wrap64 ((wrap64 (x19_1 * a0_5)) + a2)) * (wrap64 (a0_0 * a0_1)))) + x20_3))).f1.f1))) else (none)) else (none)) = some r := by rw [if_neg (show ¬ (false = true) by decide)] at H; exact H
                    clear H
                    have H := H1
                    clear H1
                    obtain ⟨ji110, hji110⟩ : ∃ j_ : Int, (wrap64 ((wrap64 ((wrap64 ((wrap64 (x19_1 * a0_5)) + a2)) * (wrap64 (a0_0 * a0_1)))) + x20_3)) = j_ := ⟨_, rfl⟩
                    replace H : (if 0 ≤ (ji110) then (if (ji110) < (l0_8.length : Int) then (if x18_3 = true then ((bound_Hull.f kj106 x262000_3 x262001_3 ((rd_T33 l0_8 (ji110)).f0.f0) ((rd_T33 l0_8 (ji110)).f0.f1)).bind fun bt274 => ((bound_Hull.f kj106 x263000_3 x263001_3 ((rd_T33 l0_8 (ji110)).f1.f0) ((rd_T33 l0_8 (ji110)).f1.f1)).bind fun bt278 => (if bt274.2.2 = 0 then (if bt278.2.2 = 0 then (isobathtop_TopCurrents.l1 kj106 a2 a3 a4 (wrap64 (a0_0 * a0_1)) x18_3 x19_1 (wrap64 (x20_3 + 1)) a0_0 a0_1 a0_2 a0_3 a0_4 a0_5 a0_6 l0_7 l0_8 a1_0 a1_1 a1_2 a1_3 t248 t249 t250 t251 bt274.1 bt274.2.1 bt278.1 bt278.2.1) else (some false)) else (some false)))) else (isobathtop_TopCurrents.l1 kj106 a2 a3 a4 (wrap64 (a0_0 * a0_1)) true x19_1 (wrap64 (x20_3 + 1)) a0_0 a0_1 a0_2 a0_3 a0_4 a0_5 a0_6 l0_7 l0_8 a1_0 a1_1 a1_2 a1_3 t248 t249 t250 t251 ((rd_T33 l0_8 (ji110)).f0.f0) ((rd_T33 l0_8 (ji110)).f0.f1) ((rd_T33 l0_8 (ji110)).f1.f0) ((rd_T33 l0_8 (ji110)).f1.f1))) else (none)) else (none)) = some r := by first | (rw [hji110] at H; exact H) | (simp only [hji110] at H ⊢; exact H)
                    have hji110w : (IntKind.i64.wrap ((wrap64 ((wrap64 ((wrap64 (x19_1 * a0_5)) + a2)) * (wrap64 (a0_0 * a0_1)))) + x20_3)) = ji110 := (i64_w _).trans hji110
                    by_cases c111 : 0 ≤ (ji110)
                    ·rw [if_pos c111] at H
                     have c111b0 : decide (0 ≤ (ji110)) = true := decide_eq_true c111
                     clear c111
                     by_cases c112 : (ji110) < (l0_8.length : Int)
                     ·rw [if_pos c112] at H
                      have c112b0 : decide ((ji110) < (l0_8.length : Int)) = true := decide_eq_true c112
                      clear c112
                      by_cases c113 : x18_3 = true
                      ·subst c113
                       have H1 : ((bound_Hull.f kj106 x262000_3 x262001_3 ((rd_T33 l0_8 (ji110)).f0.f0) ((rd_T33 l0_8 (ji110)).f0.f1)).bind fun bt274 => ((bound_Hull.f kj106 x263000_3 x263001_3 ((rd_T33 l0_8 (ji110)).f1.f0) ((rd_T33 l0_8 (ji110)).f1.f1)).bind fun bt278 => (if bt274.2.2 = 0 then (if bt278.2.2 = 0 then (isobathtop_TopCurrents.l1 kj106 a2 a3 a4 (wrap64 (a0_0 * a0_1)) true x19_1 (wrap64 (x20_3 + 1)) a0_0 a0_1 a0_2 a0_3 a0_4 a0_5 a0_6 l0_7 l0_8 a1_0 a1_1 a1_2 a1_3 t248 t249 t250 t251 bt274.1 bt274.2.1 bt278.1 bt278.2.1) else (some false)) else (some false)))) = some r := by rw [if_pos rfl] at H; exact H
                       clear H
                       have H := H1
                       clear H1
                       replace H := Option.bind_eq_some_iff.mp H
                       obtain ⟨⟨t274, t275, t276⟩, A1140, H⟩ := H
                       replace H : ((bound_Hull.f kj106 x263000_3 x263001_3 ((rd_T33 l0_8 (ji110)).f1.f0) ((rd_T33 l0_8 (ji110)).f1.f1)).bind fun bt278 => (if t276 = 0 then (if bt278.2.2 = 0 then (isobathtop_TopCurrents.l1 kj106 a2 a3 a4 (wrap64 (a0_0 * a0_1)) true x19_1 (wrap64 (x20_3 + 1)) a0_0 a0_1 a0_2 a0_3 a0_4 a0_5 a0_6 l0_7 l0_8 a1_0 a1_1 a1_2 a1_3 t248 t249 t250 t251 t274 t275 bt278.1 bt278.2.1) else (some false)) else (some false))) = some r := H
                       have A114 := Aside0.mk A1140
                       clear A1140
                       replace H := Option.bind_eq_some_iff.mp H
                       obtain ⟨⟨t278, t279, t280⟩, A1150, H⟩ := H
                       replace H : (if t276 = 0 then (if t280 = 0 then (isobathtop_TopCurrents.l1 kj106 a2 a3 a4 (wrap64 (a0_0 * a0_1)) true x19_1 (wrap64 (x20_3 + 1)) a0_0 a0_1 a0_2 a0_3 a0_4 a0_5 a0_6 l0_7 l0_8 a1_0 a1_1 a1_2 a1_3 t248 t249 t250 t251 t274 t275 t278 t279) else (some false)) else (some false)) = some r := H
                       have A115 := Aside0.mk A1150
                       clear A1150
                       by_cases c116 : t276 = 0
                       ·rw [if_pos c116] at H
                        have c116b0 : (t276 == 0) = true := beq_iff_eq.mpr c116
                        have c116b1 : (t276 != 0) = false := bne_eq_false_iff_eq.mpr c116
                        clear c116
                        by_cases c117 : t280 = 0
                        ·rw [if_pos c117] at H
                         have c117b0 : (t280 == 0) = true := beq_iff_eq.mpr c117
                         have c117b1 : (t280 != 0) = false := bne_eq_false_iff_eq.mpr c117
                         clear c117
                         have H' := Aside0.mk H
                         clear H
                         have hnb118 := NB244_245.out
                         have hnc118 := NB245_244.out
                         have hnb119 := NB244_253.out
                         have hnc119 := NB253_244.out
                         have hnb120 := NB244_259.out
                         have hnc120 := NB259_244.out
                         have hnb121 := NB244_261.out
                         have hnc121 := NB261_244.out
                         have hnb122 := NB244_262.out
                         have hnc122 := NB262_244.out
                         have hnb123 := NB244_267.out
                         have hnc123 := NB267_244.out
                         have hnb124 := NB244_271.out
                         have hnc124 := NB271_244.out
                         obtain ⟨hcz125_0, hcz125_1, hcz125_2, hcz125_3, hcz125_4, hcz125_5, hcz125_6, hcz125_7, hcz125_8, hfz125_0, hfz125_1, hfz125_2, hfz125_3, hfz125_4, hfz125_5, hfz125_6, hfz125_7, hfz125_8⟩ := zce9 BK244.out
                         have p272 : 0 ≤ ((ji110) : Int) := of_decide_eq_true zq4
                         have q272 : (ji110) < (l0_8.length : Int) := of_decide_eq_true zq4
                         obtain ⟨ad272, e272, hx272_0, hx272_1, hx272_2, hx272_3⟩ := at_T33 HR0_8.out (ji110) p272 q272
                         cases e272
                         replace hx272_0 := (HB.out.cell (World.block_lt_of_cell? w _ hx272_0)).trans hx272_0
                         replace hx272_1 := (HB.out.cell (World.block_lt_of_cell? w _ hx272_1)).trans hx272_1
                         replace hx272_2 := (HB.out.cell (World.block_lt_of_cell? w _ hx272_2)).trans hx272_2
                         replace hx272_3 := (HB.out.cell (World.block_lt_of_cell? w _ hx272_3)).trans hx272_3
                         replace p272 := eq_true p272
                         replace q272 := eq_true q272
                         try go_wp2_with (first | ((with_reducible refine gate_dst (N := 27) rfl ?_); refine box_event (by rfl) (N := 27) (by rfl) (cs := #[.int .i64 0, .int .i64 0, .int .i64 0, .int .i64 0]) (t := 33) zq1 ?_; intro gb273 hg w126 hbox hb; have BK273 := Aside0.mk (hbox); have GW273 := zgs HB hg; have GE273 := zgs HB hg; have NB244_273 := znp BK244 hg; have NB273_244 := znq BK244 hg; have NB245_273 := znp BK245 hg; have NB273_245 := znq BK245 hg; have NB253_273 := znp BK253 hg; have NB273_253 := znq BK253 hg; have NB259_273 := znp BK259 hg; have NB273_259 := znq BK259 hg; have NB261_273 := znp BK261 hg; have NB273_261 := znq BK261 hg; have NB262_273 := znp BK262 hg; have NB273_262 := znq BK262 hg; have NB267_273 := znp BK267 hg; have NB273_267 := znq BK267 hg; have NB271_273 := znp BK271 hg; have NB273_271 := znq BK271 hg; replace BK244 := zbb BK244 hb; replace BK245 := zbb BK245 hb; replace BK253 := zbb BK253 hb; replace BK259 := zbb BK259 hb; replace BK261 := zbb BK261 hb; replace BK262 := zbb BK262 hb; replace BK267 := zbb BK267 hb; replace BK271 := zbb BK271 hb; replace HB := zbs HB hb; clear hb hbox hg; have hnb127 := NB273_244.out; have hnc127 := NB244_273.out; have hnb128 := NB273_245.out; have hnc128 := NB245_273.out; have hnb129 := NB273_253.out; have hnc129 := NB253_273.out; have hnb130 := NB273_259.out; have hnc130 := NB259_273.out; have hnb131 := NB273_261.out; have hnc131 := NB261_273.out; have hnb132 := NB273_262.out; have hnc132 := NB262_273.out; have hnb133 := NB273_267.out; have hnc133 := NB267_273.out; have hnb134 := NB273_271.out; have hnc134 := NB271_273.out; obtain ⟨hcz135_0, hcz135_1, hcz135_2, hcz135_3, hfz135_0, hfz135_1, hfz135_2, hfz135_3⟩ := zce4 BK273.out; have hnb136 := NB261_245.out; have hnc136 := NB245_261.out; have hnb137 := NB261_253.out; have hnc137 := NB253_261.out; have hnb138 := NB261_259.out; have hnc138 := NB259_261.out; have hnb139 := NB261_262.out; have hnc139 := NB262_261.out; have hnb140 := NB261_267.out; have hnc140 := NB267_261.out; have hnb141 := NB261_271.out; have hnc141 := NB271_261.out; obtain ⟨hcz142_0, hcz142_1, hfz142_0, hfz142_1⟩ := zce2 BK261.out) | ((with_reducible refine gate_callee (f := 16) rfl ?_); refine goesL_ (some 177) rfl rfl Try.func16 zq0 rfl #[.agg #[.int .i64 x262000_3, .int .i64 x262001_3], .agg #[.int .i64 ((rd_T33 l0_8 (ji110)).f0.f0), .int .i64 ((rd_T33 l0_8 (ji110)).f0.f1)]] rfl zq33 ?_; (with_reducible refine (bound_Hull.calls kj106 x262000_3 x262001_3 ((rd_T33 l0_8 (ji110)).f0.f0) ((rd_T33 l0_8 (ji110)).f0.f1) t274 t275 t276 _ A114.out).mono ?_); rintro e w143 ⟨rfl, hb⟩; refine ⟨_, rfl, ?_⟩; have n0_ := zbb BK244 hb; have n1_ := zbb BK245 hb; have n2_ := zbb BK253 hb; have n3_ := zbb BK259 hb; have n4_ := zbb BK261 hb; have n5_ := zbb BK262 hb; have n6_ := zbb BK267 hb; have n7_ := zbb BK271 hb; have n8_ := Aside0.mk (blk_below (g := gb273) (o := .cells #[.int .i64 ((rd_T33 l0_8 (ji110)).f0.f0), .int .i64 ((rd_T33 l0_8 (ji110)).f0.f1), .int .i64 ((rd_T33 l0_8 (ji110)).f1.f0), .int .i64 ((rd_T33 l0_8 (ji110)).f1.f1)] 33 (0, 0)) (by (with_reducible repeat (first | refine blk_drewN ?_ _ | refine blk_drew ?_ | refine blk_alloc ?_ _)); refine blk_put (cs := #[.int .i64 ((rd_T33 l0_8 (ji110)).f0.f0), .int .i64 ((rd_T33 l0_8 (ji110)).f0.f1), .int .i64 ((rd_T33 l0_8 (ji110)).f1.f0), .int .i64 0]) ?_ 3 _ rfl; (with_reducible repeat (first | refine blk_drewN ?_ _ | refine blk_drew ?_ | refine blk_alloc ?_ _)); refine blk_put (cs := #[.int .i64 ((rd_T33 l0_8 (ji110)).f0.f0), .int .i64 ((rd_T33 l0_8 (ji110)).f0.f1), .int .i64 0, .int .i64 0]) ?_ 2 _ rfl; (with_reducible repeat (first | refine blk_drewN ?_ _ | refine blk_drew ?_ | refine blk_alloc ?_ _)); refine blk_put (cs := #[.int .i64 ((rd_T33 l0_8 (ji110)).f0.f0), .int .i64 0, .int .i64 0, .int .i64 0]) ?_ 1 _ rfl; (with_reducible repeat (first | refine blk_drewN ?_ _ | refine blk_drew ?_ | refine blk_alloc ?_ _)); refine blk_put (cs := #[.int .i64 0, .int .i64 0, .int .i64 0, .int .i64 0]) ?_ 0 _ rfl; (with_reducible repeat (first | refine blk_drewN ?_ _ | refine blk_drew ?_ | refine blk_alloc ?_ _)); exact BK273.out) hb); have n9_ := zbs HB hb; clear BK244; clear BK245; clear BK253; clear BK259; clear BK261; clear BK262; clear BK267; clear BK271; clear BK273; clear HB; have BK244 := n0_; have BK245 := n1_; have BK253 := n2_; have BK259 := n3_; have BK261 := n4_; have BK262 := n5_; have BK267 := n6_; have BK271 := n7_; have BK273 := n8_; have HB := n9_; clear n0_ n1_ n2_ n3_ n4_ n5_ n6_ n7_ n8_ n9_; (try clear hb); (try clear hb2); (try clear hk); (try clear hi)) | ((with_reducible refine gate_dst (N := 28) rfl ?_); refine box_event (by rfl) (N := 28) (by rfl) (cs := #[.int .i64 0, .int .i64 0]) (t := 27) zq1 ?_; intro gb277 hg w144 hbox hb; have BK277 := Aside0.mk (hbox); have GW277 := zgs HB hg; have GE277 := zgs HB hg; have NB244_277 := znp BK244 hg; have NB277_244 := znq BK244 hg; have NB245_277 := znp BK245 hg; have NB277_245 := znq BK245 hg; have NB253_277 := znp BK253 hg; have NB277_253 := znq BK253 hg; have NB259_277 := znp BK259 hg; have NB277_259 := znq BK259 hg; have NB261_277 := znp BK261 hg; have NB277_261 := znq BK261 hg; have NB262_277 := znp BK262 hg; have NB277_262 := znq BK262 hg; have NB267_277 := znp BK267 hg; have NB277_267 := znq BK267 hg; have NB271_277 := znp BK271 hg; have NB277_271 := znq BK271 hg; have NB273_277 := znp BK273 hg; have NB277_273 := znq BK273 hg; replace BK244 := zbb BK244 hb; replace BK245 := zbb BK245 hb; replace BK253 := zbb BK253 hb; replace BK259 := zbb BK259 hb; replace BK261 := zbb BK261 hb; replace BK262 := zbb BK262 hb; replace BK267 := zbb BK267 hb; replace BK271 := zbb BK271 hb; replace BK273 := zbb BK273 hb; replace HB := zbs HB hb; clear hb hbox hg; have hnb145 := NB277_244.out; have hnc145 := NB244_277.out; have hnb146 := NB277_245.out; have hnc146 := NB245_277.out; have hnb147 := NB277_253.out; have hnc147 := NB253_277.out; have hnb148 := NB277_259.out; have hnc148 := NB259_277.out; have hnb149 := NB277_261.out; have hnc149 := NB261_277.out; have hnb150 := NB277_262.out; have hnc150 := NB262_277.out; have hnb151 := NB277_267.out; have hnc151 := NB267_277.out; have hnb152 := NB277_271.out; have hnc152 := NB271_277.out; have hnb153 := NB277_273.out; have hnc153 := NB273_277.out; obtain ⟨hcz154_0, hcz154_1, hfz154_0, hfz154_1⟩ := zce2 BK277.out; have hnb155 := NB262_245.out; have hnc155 := NB245_262.out; have hnb156 := NB262_253.out; have hnc156 := NB253_262.out; have hnb157 := NB262_259.out; have hnc157 := NB259_262.out; have hnb158 := NB262_267.out; have hnc158 := NB267_262.out; have hnb159 := NB262_271.out; have hnc159 := NB271_262.out; obtain ⟨hcz160_0, hcz160_1, hfz160_0, hfz160_1⟩ := zce2 BK262.out; obtain ⟨hcz161_0, hcz161_1, hcz161_2, hcz161_3, hfz161_0, hfz161_1, hfz161_2, hfz161_3⟩ := zce4 BK273.out) | ((with_reducible refine gate_callee (f := 16) rfl ?_); refine goesL_ (some 184) rfl rfl Try.func16 zq0 rfl #[.agg #[.int .i64 x263000_3, .int .i64 x263001_3], .agg #[.int .i64 ((rd_T33 l0_8 (ji110)).f1.f0), .int .i64 ((rd_T33 l0_8 (ji110)).f1.f1)]] rfl zq33 ?_; (with_reducible refine (bound_Hull.calls kj106 x263000_3 x263001_3 ((rd_T33 l0_8 (ji110)).f1.f0) ((rd_T33 l0_8 (ji110)).f1.f1) t278 t279 t280 _ A115.out).mono ?_); rintro e w162 ⟨rfl, hb⟩; refine ⟨_, rfl, ?_⟩; have n0_ := zbb BK244 hb; have n1_ := zbb BK245 hb; have n2_ := zbb BK253 hb; have n3_ := zbb BK259 hb; have n4_ := zbb BK261 hb; have n5_ := zbb BK262 hb; have n6_ := zbb BK267 hb; have n7_ := zbb BK271 hb; have n8_ := zbb BK273 hb; have n9_ := Aside0.mk (blk_below (g := gb277) (o := .cells #[.int .i64 t274, .int .i64 t275] 27 (0, 0)) (by (with_reducible repeat (first | refine blk_drewN ?_ _ | refine blk_drew ?_ | refine blk_alloc ?_ _)); refine blk_put (cs := #[.int .i64 t274, .int .i64 0]) ?_ 1 _ rfl; (with_reducible repeat (first | refine blk_drewN ?_ _ | refine blk_drew ?_ | refine blk_alloc ?_ _)); refine blk_put (cs := #[.int .i64 0, .int .i64 0]) ?_ 0 _ rfl; (with_reducible repeat (first | refine blk_drewN ?_ _ | refine blk_drew ?_ | refine blk_alloc ?_ _)); exact BK277.out) hb); have n10_ := zbs HB hb; clear BK244; clear BK245; clear BK253; clear BK259; clear BK261; clear BK262; clear BK267; clear BK271; clear BK273; clear BK277; clear HB; have BK244 := n0_; have BK245 := n1_; have BK253 := n2_; have BK259 := n3_; have BK261 := n4_; have BK262 := n5_; have BK267 := n6_; have BK271 := n7_; have BK273 := n8_; have BK277 := n9_; have HB := n10_; clear n0_ n1_ n2_ n3_ n4_ n5_ n6_ n7_ n8_ n9_ n10_; (try clear hb); (try clear hb2); (try clear hk); (try clear hi)) | ((with_reducible refine gate_dst (N := 30) rfl ?_); refine box_event (by rfl) (N := 30) (by rfl) (cs := #[.int .i64 0, .int .i64 0]) (t := 27) zq1 ?_; intro gb281 hg w163 hbox hb; have BK281 := Aside0.mk (hbox); have GW281 := zgs HB hg; have GE281 := zgs HB hg; have NB244_281 := znp BK244 hg; have NB281_244 := znq BK244 hg; have NB245_281 := znp BK245 hg; have NB281_245 := znq BK245 hg; have NB253_281 := znp BK253 hg; have NB281_253 := znq BK253 hg; have NB259_281 := znp BK259 hg; have NB281_259 := znq BK259 hg; have NB261_281 := znp BK261 hg; have NB281_261 := znq BK261 hg; have NB262_281 := znp BK262 hg; have NB281_262 := znq BK262 hg; have NB267_281 := znp BK267 hg; have NB281_267 := znq BK267 hg; have NB271_281 := znp BK271 hg; have NB281_271 := znq BK271 hg; have NB273_281 := znp BK273 hg; have NB281_273 := znq BK273 hg; have NB277_281 := znp BK277 hg; have NB281_277 := znq BK277 hg; replace BK244 := zbb BK244 hb; replace BK245 := zbb BK245 hb; replace BK253 := zbb BK253 hb; replace BK259 := zbb BK259 hb; replace BK261 := zbb BK261 hb; replace BK262 := zbb BK262 hb; replace BK267 := zbb BK267 hb; replace BK271 := zbb BK271 hb; replace BK273 := zbb BK273 hb; replace BK277 := zbb BK277 hb; replace HB := zbs HB hb; clear hb hbox hg; have hnb164 := NB281_244.out; have hnc164 := NB244_281.out; have hnb165 := NB281_245.out; have hnc165 := NB245_281.out; have hnb166 := NB281_253.out; have hnc166 := NB253_281.out; have hnb167 := NB281_259.out; have hnc167 := NB259_281.out; have hnb168 := NB281_261.out; have hnc168 := NB261_281.out; have hnb169 := NB281_262.out; have hnc169 := NB262_281.out; have hnb170 := NB281_267.out; have hnc170 := NB267_281.out; have hnb171 := NB281_271.out; have hnc171 := NB271_281.out; have hnb172 := NB281_273.out; have hnc172 := NB273_281.out; have hnb173 := NB281_277.out; have hnc173 := NB277_281.out; obtain ⟨hcz174_0, hcz174_1, hfz174_0, hfz174_1⟩ := zce2 BK281.out))
                         have n0_ : Aside0 (((w163.setCell ⟨gb281, 0, none⟩ (.int .i64 t278)).setCell ⟨gb281, 1, none⟩ (.int .i64 t279)).heap[gb244]? = some (.cells #[.int .i64 a0_0, .int .i64 a0_1, .int .i64 a0_2, .int .i64 a0_3, .int .i64 a0_4, .int .i64 a0_5, .int .i64 a0_6, .slice A0_7 l0_7.length c0_7, .slice (some ad272) l0_8.length c0_8] 25 (0, 0))) := ⟨zbf⟩
                         have n1_ : Aside0 (((w163.setCell ⟨gb281, 0, none⟩ (.int .i64 t278)).setCell ⟨gb281, 1, none⟩ (.int .i64 t279)).heap[gb245]? = some (.cells #[.int .i64 a1_0, .int .i64 a1_1, .int .i64 a1_2, .int .i64 a1_3] 29 (0, 0))) := ⟨zbf⟩
                         have n2_ : Aside0 (((w163.setCell ⟨gb281, 0, none⟩ (.int .i64 t278)).setCell ⟨gb281, 1, none⟩ (.int .i64 t279)).heap[gb253]? = some (.cells #[.int .i64 t248, .int .i64 t249, .int .i64 t250, .int .i64 t251] 33 (0, 0))) := ⟨zbf⟩
                         have n3_ : Aside0 (((w163.setCell ⟨gb281, 0, none⟩ (.int .i64 t278)).setCell ⟨gb281, 1, none⟩ (.int .i64 t279)).heap[gb259]? = some (.cells #[.int .i64 t254, .int .i64 t255, .int .i64 t256, .int .i64 t257] 33 (0, 0))) := ⟨zbf⟩
                         have n4_ : Aside0 (((w163.setCell ⟨gb281, 0, none⟩ (.int .i64 t278)).setCell ⟨gb281, 1, none⟩ (.int .i64 t279)).heap[gb261]? = some (.cells #[.int .i64 x262000_3, .int .i64 x262001_3] 27 (0, 0))) := ⟨zbf⟩
                         have n5_ : Aside0 (((w163.setCell ⟨gb281, 0, none⟩ (.int .i64 t278)).setCell ⟨gb281, 1, none⟩ (.int .i64 t279)).heap[gb262]? = some (.cells #[.int .i64 x263000_3, .int .i64 x263001_3] 27 (0, 0))) := ⟨zbf⟩
                         have n6_ : Aside0 (((w163.setCell ⟨gb281, 0, none⟩ (.int .i64 t278)).setCell ⟨gb281, 1, none⟩ (.int .i64 t279)).heap[gb267]? = some (.cells #[.int .i64 t264, .int .i64 t265] 27 (0, 0))) := ⟨zbf⟩
                         have n7_ : Aside0 (((w163.setCell ⟨gb281, 0, none⟩ (.int .i64 t278)).setCell ⟨gb281, 1, none⟩ (.int .i64 t279)).heap[gb271]? = some (.cells #[.int .i64 t268, .int .i64 t269] 27 (0, 0))) := ⟨zbf⟩
                         have n8_ : Aside0 (((w163.setCell ⟨gb281, 0, none⟩ (.int .i64 t278)).setCell ⟨gb281, 1, none⟩ (.int .i64 t279)).heap[gb273]? = some (.cells #[.int .i64 ((rd_T33 l0_8 (ji110)).f0.f0), .int .i64 ((rd_T33 l0_8 (ji110)).f0.f1), .int .i64 ((rd_T33 l0_8 (ji110)).f1.f0), .int .i64 ((rd_T33 l0_8 (ji110)).f1.f1)] 33 (0, 0))) := ⟨zbf⟩
                         have n9_ : Aside0 (((w163.setCell ⟨gb281, 0, none⟩ (.int .i64 t278)).setCell ⟨gb281, 1, none⟩ (.int .i64 t279)).heap[gb277]? = some (.cells #[.int .i64 t274, .int .i64 t275] 27 (0, 0))) := ⟨zbf⟩
                         have n10_ : Aside0 (((w163.setCell ⟨gb281, 0, none⟩ (.int .i64 t278)).setCell ⟨gb281, 1, none⟩ (.int .i64 t279)).heap[gb281]? = some (.cells #[.int .i64 t278, .int .i64 t279] 27 (0, 0))) := ⟨by (with_reducible repeat (first | refine blk_drewN ?_ _ | refine blk_drew ?_ | refine blk_alloc ?_ _)); refine blk_put (cs := #[.int .i64 t278, .int .i64 0]) ?_ 1 _ rfl; (with_reducible repeat (first | refine blk_drewN ?_ _ | refine blk_drew ?_ | refine blk_alloc ?_ _)); refine blk_put (cs := #[.int .i64 0, .int .i64 0]) ?_ 0 _ rfl; (with_reducible repeat (first | refine blk_drewN ?_ _ | refine blk_drew ?_ | refine blk_alloc ?_ _)); exact BK281.out⟩
                         have n11_ : Aside0 (Below w.heap.size w ((w163.setCell ⟨gb281, 0, none⟩ (.int .i64 t278)).setCell ⟨gb281, 1, none⟩ (.int .i64 t279))) := ⟨zbz⟩
                         (try clear BK244)
                         (try clear BK245)
                         (try clear BK253)
                         (try clear BK259)
                         (try clear BK261)
                         (try clear BK262)
                         (try clear BK267)
                         (try clear BK271)
                         (try clear BK273)
                         (try clear BK277)
                         (try clear BK281)
                         (try clear HB)
                         generalize ((w163.setCell ⟨gb281, 0, none⟩ (.int .i64 t278)).setCell ⟨gb281, 1, none⟩ (.int .i64 t279)) = w175 at n0_ n1_ n2_ n3_ n4_ n5_ n6_ n7_ n8_ n9_ n10_ n11_ ⊢
                         have BK244 := n0_
                         have BK245 := n1_
                         have BK253 := n2_
                         have BK259 := n3_
                         have BK261 := n4_
                         have BK262 := n5_
                         have BK267 := n6_
                         have BK271 := n7_
                         have BK273 := n8_
                         have BK277 := n9_
                         have BK281 := n10_
                         have HB := n11_
                         clear n0_ n1_ n2_ n3_ n4_ n5_ n6_ n7_ n8_ n9_ n10_ n11_
                         replace BK244 := Aside0.mk (blk_drew BK244.out)
                         replace BK245 := Aside0.mk (blk_drew BK245.out)
                         replace BK253 := Aside0.mk (blk_drew BK253.out)
                         replace BK259 := Aside0.mk (blk_drew BK259.out)
                         replace BK261 := Aside0.mk (blk_drew BK261.out)
                         replace BK262 := Aside0.mk (blk_drew BK262.out)
                         replace BK267 := Aside0.mk (blk_drew BK267.out)
                         replace BK271 := Aside0.mk (blk_drew BK271.out)
                         replace BK273 := Aside0.mk (blk_drew BK273.out)
                         replace BK277 := Aside0.mk (blk_drew BK277.out)
                         replace BK281 := Aside0.mk (blk_drew BK281.out)
                         replace HB := Aside0.mk (below_drew1 HB.out)
                         refine start_ (n := 4) (S := fun w' => w'.cell? ⟨gb277, 0, none⟩ = some (.int .i64 t274) ∧ w'.cell? ⟨gb277, 1, none⟩ = some (.int .i64 t275) ∧ w'.cell? ⟨gb281, 0, none⟩ = some (.int .i64 t278) ∧ w'.cell? ⟨gb281, 1, none⟩ = some (.int .i64 t279)) (ds := []) #[false, false, false, false] zq0 rfl rfl (zca2 BK277.out (zcs2 BK281.out)) (fun hHeld => ?_)
                         generalize w175.drew = w176 at BK244 BK245 BK253 BK259 BK261 BK262 BK267 BK271 BK273 BK277 BK281 HB hHeld ⊢
                         refine ztz (i := 0) (N := some 193) zq0 hHeld ?_
                         refine ztz (i := 1) (N := some 194) zq0 hHeld ?_
                         refine one_ (i := 2) (N := none) #[true, true, true, false] rfl rfl zq0 (by decide) (fun K hK => ?_)
                         have hs177 : w176.cell? ⟨gb261, 0, none⟩ = some (.int .i64 x262000_3) := (blk_cell BK261.out 0).trans rfl
                         have hfs177 := blk_frozen BK261.out 0
                         have hns177_0 := NB244_261.out
                         have hns177_1 := NB245_261.out
                         have hns177_2 := NB253_261.out
                         have hns177_3 := NB259_261.out
                         have hns177_5 := NB262_261.out
                         have hns177_6 := NB267_261.out
                         have hns177_7 := NB271_261.out
                         have hns177_8 := NB273_261.out
                         have hns177_9 := NB277_261.out
                         have hns177_10 := NB281_261.out
                         have hms177_0 := NB261_244.out
                         have hms177_1 := NB261_245.out
                         have hms177_2 := NB261_253.out
                         have hms177_3 := NB261_259.out
                         have hms177_5 := NB261_262.out
                         have hms177_6 := NB261_267.out
                         have hms177_7 := NB261_271.out
                         have hms177_8 := NB261_273.out
                         have hms177_9 := NB261_277.out
                         have hms177_10 := NB261_281.out
                         have hs178 : w176.cell? ⟨gb261, 1, none⟩ = some (.int .i64 x262001_3) := (blk_cell BK261.out 1).trans rfl
                         have hfs178 := blk_frozen BK261.out 1
                         have hns178_0 := NB244_261.out
                         have hns178_1 := NB245_261.out
                         have hns178_2 := NB253_261.out
                         have hns178_3 := NB259_261.out
                         have hns178_5 := NB262_261.out
                         have hns178_6 := NB267_261.out
                         have hns178_7 := NB271_261.out
                         have hns178_8 := NB273_261.out
                         have hns178_9 := NB277_261.out
                         have hns178_10 := NB281_261.out
                         have hms178_0 := NB261_244.out
                         have hms178_1 := NB261_245.out
                         have hms178_2 := NB261_253.out
                         have hms178_3 := NB261_259.out
                         have hms178_5 := NB261_262.out
                         have hms178_6 := NB261_267.out
                         have hms178_7 := NB261_271.out
                         have hms178_8 := NB261_273.out
                         have hms178_9 := NB261_277.out
                         have hms178_10 := NB261_281.out
                         refine skip_ (w1 := ?_) (by rfl) rfl ?_ ?_
                         rotate_left
                         ·go_simp
                          rfl
                         refine hK.out _ _ ⟨((cell_far (p := ⟨gb261, _, none⟩) NB277_261.out _).trans (((cell_far (p := ⟨gb261, _, none⟩) NB277_261.out _).trans (hHeld.1)))), ((cell_far (p := ⟨gb261, _, none⟩) NB277_261.out _).trans (((cell_far (p := ⟨gb261, _, none⟩) NB277_261.out _).trans (hHeld.2.1)))), ((cell_far (p := ⟨gb261, _, none⟩) NB281_261.out _).trans (((cell_far (p := ⟨gb261, _, none⟩) NB281_261.out _).trans (hHeld.2.2.1)))), ((cell_far (p := ⟨gb261, _, none⟩) NB281_261.out _).trans (((cell_far (p := ⟨gb261, _, none⟩) NB281_261.out _).trans (hHeld.2.2.2))))⟩ (fun hHeld => ?_)
                         clear hK K
                         refine one_ (i := 3) (N := none) #[true, true, true, true] rfl rfl zq0 (by decide) (fun K hK => ?_)
                         have hs179 : w176.cell? ⟨gb262, 0, none⟩ = some (.int .i64 x263000_3) := (blk_cell BK262.out 0).trans rfl
                         have hfs179 := blk_frozen BK262.out 0
                         have hns179_0 := NB244_262.out
                         have hns179_1 := NB245_262.out
                         have hns179_2 := NB253_262.out
                         have hns179_3 := NB259_262.out
                         have hns179_4 := NB261_262.out
                         have hns179_6 := NB267_262.out
                         have hns179_7 := NB271_262.out
                         have hns179_8 := NB273_262.out
                         have hns179_9 := NB277_262.out
                         have hns179_10 := NB281_262.out
                         have hms179_0 := NB262_244.out
                         have hms179_1 := NB262_245.out
                         have hms179_2 := NB262_253.out
                         have hms179_3 := NB262_259.out
                         have hms179_4 := NB262_261.out
                         have hms179_6 := NB262_267.out
                         have hms179_7 := NB262_271.out
                         have hms179_8 := NB262_273.out
                         have hms179_9 := NB262_277.out
                         have hms179_10 := NB262_281.out
                         have hs180 : w176.cell? ⟨gb262, 1, none⟩ = some (.int .i64 x263001_3) := (blk_cell BK262.out 1).trans rfl
                         have hfs180 := blk_frozen BK262.out 1
                         have hns180_0 := NB244_262.out
                         have hns180_1 := NB245_262.out
                         have hns180_2 := NB253_262.out
                         have hns180_3 := NB259_262.out
                         have hns180_4 := NB261_262.out
                         have hns180_6 := NB267_262.out
                         have hns180_7 := NB271_262.out
                         have hns180_8 := NB273_262.out
                         have hns180_9 := NB277_262.out
                         have hns180_10 := NB281_262.out
                         have hms180_0 := NB262_244.out
                         have hms180_1 := NB262_245.out
                         have hms180_2 := NB262_253.out
                         have hms180_3 := NB262_259.out
                         have hms180_4 := NB262_261.out
                         have hms180_6 := NB262_267.out
                         have hms180_7 := NB262_271.out
                         have hms180_8 := NB262_273.out
                         have hms180_9 := NB262_277.out
                         have hms180_10 := NB262_281.out
                         refine skip_ (w1 := ?_) (by rfl) rfl ?_ ?_
                         rotate_left
                         ·go_simp
                          rfl
                         refine hK.out _ _ ⟨((cell_far (p := ⟨gb262, _, none⟩) NB277_262.out _).trans (((cell_far (p := ⟨gb262, _, none⟩) NB277_262.out _).trans (hHeld.1)))), ((cell_far (p := ⟨gb262, _, none⟩) NB277_262.out _).trans (((cell_far (p := ⟨gb262, _, none⟩) NB277_262.out _).trans (hHeld.2.1)))), ((cell_far (p := ⟨gb262, _, none⟩) NB281_262.out _).trans (((cell_far (p := ⟨gb262, _, none⟩) NB281_262.out _).trans (hHeld.2.2.1)))), ((cell_far (p := ⟨gb262, _, none⟩) NB281_262.out _).trans (((cell_far (p := ⟨gb262, _, none⟩) NB281_262.out _).trans (hHeld.2.2.2))))⟩ (fun hHeld => ?_)
                         clear hK K
                         refine done_ zq0 ?_
                         try go_wp2
                         go_roundg kj106
                         case measure => have := HK1.out; have := HJ42.out; have := HK3.out; have := HJ67.out; have := HJ106.out; omega
                         case rel => exact ⟨(true), (wrap64 (x20_3 + 1)), (t274), (t275), (t278), (t279), zq3, zq3, H', ⟨zq32⟩, ⟨zbf⟩, ⟨zbf⟩, ⟨zbf⟩, ⟨zbf⟩, ⟨by (with_reducible repeat (first | refine blk_drewN ?_ _ | refine blk_drew ?_ | refine blk_alloc ?_ _)); refine blk_far ?_ NB261_262.out _; (with_reducible repeat (first | refine blk_drewN ?_ _ | refine blk_drew ?_ | refine blk_alloc ?_ _)); refine blk_far ?_ NB261_262.out _; (with_reducible repeat (first | refine blk_drewN ?_ _ | refine blk_drew ?_ | refine blk_alloc ?_ _)); refine blk_put (cs := #[.int .i64 t274, .int .i64 x262001_3]) ?_ 1 _ rfl; (with_reducible repeat (first | refine blk_drewN ?_ _ | refine blk_drew ?_ | refine blk_alloc ?_ _)); refine blk_put (cs := #[.int .i64 x262000_3, .int .i64 x262001_3]) ?_ 0 _ rfl; (with_reducible repeat (first | refine blk_drewN ?_ _ | refine blk_drew ?_ | refine blk_alloc ?_ _)); exact BK261.out⟩, ⟨by (with_reducible repeat (first | refine blk_drewN ?_ _ | refine blk_drew ?_ | refine blk_alloc ?_ _)); refine blk_put (cs := #[.int .i64 t278, .int .i64 x263001_3]) ?_ 1 _ rfl; (with_reducible repeat (first | refine blk_drewN ?_ _ | refine blk_drew ?_ | refine blk_alloc ?_ _)); refine blk_put (cs := #[.int .i64 x263000_3, .int .i64 x263001_3]) ?_ 0 _ rfl; (with_reducible repeat (first | refine blk_drewN ?_ _ | refine blk_drew ?_ | refine blk_alloc ?_ _)); refine blk_far ?_ NB262_261.out _; (with_reducible repeat (first | refine blk_drewN ?_ _ | refine blk_drew ?_ | refine blk_alloc ?_ _)); refine blk_far ?_ NB262_261.out _; (with_reducible repeat (first | refine blk_drewN ?_ _ | refine blk_drew ?_ | refine blk_alloc ?_ _)); exact BK262.out⟩, ⟨zbz⟩⟩
                        ·rw [if_neg c117] at H
                         have c117b0 : (t280 == 0) = false := beq_eq_false_iff_ne.mpr c117
                         have c117b1 : (t280 != 0) = true := bne_iff_ne.mpr c117
                         have hh_ := Option.some.inj H
                         rw [hr_.out] at hh_
                         cases hh_
                       ·rw [if_neg c116] at H
                        have c116b0 : (t276 == 0) = false := beq_eq_false_iff_ne.mpr c116
                        have c116b1 : (t276 != 0) = true := bne_iff_ne.mpr c116
                        have hh_ := Option.some.inj H
                        rw [hr_.out] at hh_
                        cases hh_
                      ·replace c113 := Bool.eq_false_iff.mpr c113
                       subst c113
                       have H1 : (isobathtop_TopCurrents.l1 kj106 a2 a3 a4 (wrap64 (a0_0 * a0_1)) true x19_1 (wrap64 (x20_3 + 1)) a0_0 a0_1 a0_2 a0_3 a0_4 a0_5 a0_6 l0_7 l0_8 a1_0 a1_1 a1_2 a1_3 t248 t249 t250 t251 ((rd_T33 l0_8 (ji110)).f0.f0) ((rd_T33 l0_8 (ji110)).f0.f1) ((rd_T33 l0_8 (ji110)).f1.f0) ((rd_T33 l0_8 (ji110)).f1.f1)) = some r := by rw [if_neg (show ¬ (false = true) by decide)] at H; exact H
                       clear H
                       have H := H1
                       clear H1
                       have H' := Aside0.mk H
                       clear H
                       have hnb295 := NB244_245.out
                       have hnc295 := NB245_244.out
                       have hnb296 := NB244_253.out
                       have hnc296 := NB253_244.out
                       have hnb297 := NB244_259.out
                       have hnc297 := NB259_244.out
                       have hnb298 := NB244_261.out
                       have hnc298 := NB261_244.out
                       have hnb299 := NB244_262.out
                       have hnc299 := NB262_244.out
                       have hnb300 := NB244_267.out
                       have hnc300 := NB267_244.out
                       have hnb301 := NB244_271.out
                       have hnc301 := NB271_244.out
                       obtain ⟨hcz302_0, hcz302_1, hcz302_2, hcz302_3, hcz302_4, hcz302_5, hcz302_6, hcz302_7, hcz302_8, hfz302_0, hfz302_1, hfz302_2, hfz302_3, hfz302_4, hfz302_5, hfz302_6, hfz302_7, hfz302_8⟩ := zce9 BK244.out
                       have p272 : 0 ≤ ((ji110) : Int) := of_decide_eq_true zq4
                       have q272 : (ji110) < (l0_8.length : Int) := of_decide_eq_true zq4
                       obtain ⟨ad272, e272, hx272_0, hx272_1, hx272_2, hx272_3⟩ := at_T33 HR0_8.out (ji110) p272 q272
                       cases e272
                       replace hx272_0 := (HB.out.cell (World.block_lt_of_cell? w _ hx272_0)).trans hx272_0
                       replace hx272_1 := (HB.out.cell (World.block_lt_of_cell? w _ hx272_1)).trans hx272_1
                       replace hx272_2 := (HB.out.cell (World.block_lt_of_cell? w _ hx272_2)).trans hx272_2
                       replace hx272_3 := (HB.out.cell (World.block_lt_of_cell? w _ hx272_3)).trans hx272_3
                       replace p272 := eq_true p272
                       replace q272 := eq_true q272
                       try go_wp2_with (first | ((with_reducible refine gate_dst (N := 27) rfl ?_); refine box_event (by rfl) (N := 27) (by rfl) (cs := #[.int .i64 0, .int .i64 0, .int .i64 0, .int .i64 0]) (t := 33) zq1 ?_; intro gb273 hg w303 hbox hb; have BK273 := Aside0.mk (hbox); have GW273 := zgs HB hg; have GE273 := zgs HB hg; have NB244_273 := znp BK244 hg; have NB273_244 := znq BK244 hg; have NB245_273 := znp BK245 hg; have NB273_245 := znq BK245 hg; have NB253_273 := znp BK253 hg; have NB273_253 := znq BK253 hg; have NB259_273 := znp BK259 hg; have NB273_259 := znq BK259 hg; have NB261_273 := znp BK261 hg; have NB273_261 := znq BK261 hg; have NB262_273 := znp BK262 hg; have NB273_262 := znq BK262 hg; have NB267_273 := znp BK267 hg; have NB273_267 := znq BK267 hg; have NB271_273 := znp BK271 hg; have NB273_271 := znq BK271 hg; replace BK244 := zbb BK244 hb; replace BK245 := zbb BK245 hb; replace BK253 := zbb BK253 hb; replace BK259 := zbb BK259 hb; replace BK261 := zbb BK261 hb; replace BK262 := zbb BK262 hb; replace BK267 := zbb BK267 hb; replace BK271 := zbb BK271 hb; replace HB := zbs HB hb; clear hb hbox hg; have hnb304 := NB273_244.out; have hnc304 := NB244_273.out; have hnb305 := NB273_245.out; have hnc305 := NB245_273.out; have hnb306 := NB273_253.out; have hnc306 := NB253_273.out; have hnb307 := NB273_259.out; have hnc307 := NB259_273.out; have hnb308 := NB273_261.out; have hnc308 := NB261_273.out; have hnb309 := NB273_262.out; have hnc309 := NB262_273.out; have hnb310 := NB273_267.out; have hnc310 := NB267_273.out; have hnb311 := NB273_271.out; have hnc311 := NB271_273.out; obtain ⟨hcz312_0, hcz312_1, hcz312_2, hcz312_3, hfz312_0, hfz312_1, hfz312_2, hfz312_3⟩ := zce4 BK273.out))
                       have n0_ : Aside0 (((((w303.setCell ⟨gb273, 0, none⟩ (.int .i64 ((rd_T33 l0_8 (ji110)).f0.f0))).setCell ⟨gb273, 1, none⟩ (.int .i64 ((rd_T33 l0_8 (ji110)).f0.f1))).setCell ⟨gb273, 2, none⟩ (.int .i64 ((rd_T33 l0_8 (ji110)).f1.f0))).setCell ⟨gb273, 3, none⟩ (.int .i64 ((rd_T33 l0_8 (ji110)).f1.f1))).heap[gb244]? = some (.cells #[.int .i64 a0_0, .int .i64 a0_1, .int .i64 a0_2, .int .i64 a0_3, .int .i64 a0_4, .int .i64 a0_5, .int .i64 a0_6, .slice A0_7 l0_7.length c0_7, .slice (some ad272) l0_8.length c0_8] 25 (0, 0))) := ⟨zbf⟩
                       have n1_ : Aside0 (((((w303.setCell ⟨gb273, 0, none⟩ (.int .i64 ((rd_T33 l0_8 (ji110)).f0.f0))).setCell ⟨gb273, 1, none⟩ (.int .i64 ((rd_T33 l0_8 (ji110)).f0.f1))).setCell ⟨gb273, 2, none⟩ (.int .i64 ((rd_T33 l0_8 (ji110)).f1.f0))).setCell ⟨gb273, 3, none⟩ (.int .i64 ((rd_T33 l0_8 (ji110)).f1.f1))).heap[gb245]? = some (.cells #[.int .i64 a1_0, .int .i64 a1_1, .int .i64 a1_2, .int .i64 a1_3] 29 (0, 0))) := ⟨zbf⟩
                       have n2_ : Aside0 (((((w303.setCell ⟨gb273, 0, none⟩ (.int .i64 ((rd_T33 l0_8 (ji110)).f0.f0))).setCell ⟨gb273, 1, none⟩ (.int .i64 ((rd_T33 l0_8 (ji110)).f0.f1))).setCell ⟨gb273, 2, none⟩ (.int .i64 ((rd_T33 l0_8 (ji110)).f1.f0))).setCell ⟨gb273, 3, none⟩ (.int .i64 ((rd_T33 l0_8 (ji110)).f1.f1))).heap[gb253]? = some (.cells #[.int .i64 t248, .int .i64 t249, .int .i64 t250, .int .i64 t251] 33 (0, 0))) := ⟨zbf⟩
                       have n3_ : Aside0 (((((w303.setCell ⟨gb273, 0, none⟩ (.int .i64 ((rd_T33 l0_8 (ji110)).f0.f0))).setCell ⟨gb273, 1, none⟩ (.int .i64 ((rd_T33 l0_8 (ji110)).f0.f1))).setCell ⟨gb273, 2, none⟩ (.int .i64 ((rd_T33 l0_8 (ji110)).f1.f0))).setCell ⟨gb273, 3, none⟩ (.int .i64 ((rd_T33 l0_8 (ji110)).f1.f1))).heap[gb259]? = some (.cells #[.int .i64 t254, .int .i64 t255, .int .i64 t256, .int .i64 t257] 33 (0, 0))) := ⟨zbf⟩
                       have n4_ : Aside0 (((((w303.setCell ⟨gb273, 0, none⟩ (.int .i64 ((rd_T33 l0_8 (ji110)).f0.f0))).setCell ⟨gb273, 1, none⟩ (.int .i64 ((rd_T33 l0_8 (ji110)).f0.f1))).setCell ⟨gb273, 2, none⟩ (.int .i64 ((rd_T33 l0_8 (ji110)).f1.f0))).setCell ⟨gb273, 3, none⟩ (.int .i64 ((rd_T33 l0_8 (ji110)).f1.f1))).heap[gb261]? = some (.cells #[.int .i64 x262000_3, .int .i64 x262001_3] 27 (0, 0))) := ⟨zbf⟩
                       have n5_ : Aside0 (((((w303.setCell ⟨gb273, 0, none⟩ (.int .i64 ((rd_T33 l0_8 (ji110)).f0.f0))).setCell ⟨gb273, 1, none⟩ (.int .i64 ((rd_T33 l0_8 (ji110)).f0.f1))).setCell ⟨gb273, 2, none⟩ (.int .i64 ((rd_T33 l0_8 (ji110)).f1.f0))).setCell ⟨gb273, 3, none⟩ (.int .i64 ((rd_T33 l0_8 (ji110)).f1.f1))).heap[gb262]? = some (.cells #[.int .i64 x263000_3, .int .i64 x263001_3] 27 (0, 0))) := ⟨zbf⟩
                       have n6_ : Aside0 (((((w303.setCell ⟨gb273, 0, none⟩ (.int .i64 ((rd_T33 l0_8 (ji110)).f0.f0))).setCell ⟨gb273, 1, none⟩ (.int .i64 ((rd_T33 l0_8 (ji110)).f0.f1))).setCell ⟨gb273, 2, none⟩ (.int .i64 ((rd_T33 l0_8 (ji110)).f1.f0))).setCell ⟨gb273, 3, none⟩ (.int .i64 ((rd_T33 l0_8 (ji110)).f1.f1))).heap[gb267]? = some (.cells #[.int .i64 t264, .int .i64 t265] 27 (0, 0))) := ⟨zbf⟩
                       have n7_ : Aside0 (((((w303.setCell ⟨gb273, 0, none⟩ (.int .i64 ((rd_T33 l0_8 (ji110)).f0.f0))).setCell ⟨gb273, 1, none⟩ (.int .i64 ((rd_T33 l0_8 (ji110)).f0.f1))).setCell ⟨gb273, 2, none⟩ (.int .i64 ((rd_T33 l0_8 (ji110)).f1.f0))).setCell ⟨gb273, 3, none⟩ (.int .i64 ((rd_T33 l0_8 (ji110)).f1.f1))).heap[gb271]? = some (.cells #[.int .i64 t268, .int .i64 t269] 27 (0, 0))) := ⟨zbf⟩
                       have n8_ : Aside0 (((((w303.setCell ⟨gb273, 0, none⟩ (.int .i64 ((rd_T33 l0_8 (ji110)).f0.f0))).setCell ⟨gb273, 1, none⟩ (.int .i64 ((rd_T33 l0_8 (ji110)).f0.f1))).setCell ⟨gb273, 2, none⟩ (.int .i64 ((rd_T33 l0_8 (ji110)).f1.f0))).setCell ⟨gb273, 3, none⟩ (.int .i64 ((rd_T33 l0_8 (ji110)).f1.f1))).heap[gb273]? = some (.cells #[.int .i64 ((rd_T33 l0_8 (ji110)).f0.f0), .int .i64 ((rd_T33 l0_8 (ji110)).f0.f1), .int .i64 ((rd_T33 l0_8 (ji110)).f1.f0), .int .i64 ((rd_T33 l0_8 (ji110)).f1.f1)] 33 (0, 0))) := ⟨by (with_reducible repeat (first | refine blk_drewN ?_ _ | refine blk_drew ?_ | refine blk_alloc ?_ _)); refine blk_put (cs := #[.int .i64 ((rd_T33 l0_8 (ji110)).f0.f0), .int .i64 ((rd_T33 l0_8 (ji110)).f0.f1), .int .i64 ((rd_T33 l0_8 (ji110)).f1.f0), .int .i64 0]) ?_ 3 _ rfl; (with_reducible repeat (first | refine blk_drewN ?_ _ | refine blk_drew ?_ | refine blk_alloc ?_ _)); refine blk_put (cs := #[.int .i64 ((rd_T33 l0_8 (ji110)).f0.f0), .int .i64 ((rd_T33 l0_8 (ji110)).f0.f1), .int .i64 0, .int .i64 0]) ?_ 2 _ rfl; (with_reducible repeat (first | refine blk_drewN ?_ _ | refine blk_drew ?_ | refine blk_alloc ?_ _)); refine blk_put (cs := #[.int .i64 ((rd_T33 l0_8 (ji110)).f0.f0), .int .i64 0, .int .i64 0, .int .i64 0]) ?_ 1 _ rfl; (with_reducible repeat (first | refine blk_drewN ?_ _ | refine blk_drew ?_ | refine blk_alloc ?_ _)); refine blk_put (cs := #[.int .i64 0, .int .i64 0, .int .i64 0, .int .i64 0]) ?_ 0 _ rfl; (with_reducible repeat (first | refine blk_drewN ?_ _ | refine blk_drew ?_ | refine blk_alloc ?_ _)); exact BK273.out⟩
                       have n9_ : Aside0 (Below w.heap.size w ((((w303.setCell ⟨gb273, 0, none⟩ (.int .i64 ((rd_T33 l0_8 (ji110)).f0.f0))).setCell ⟨gb273, 1, none⟩ (.int .i64 ((rd_T33 l0_8 (ji110)).f0.f1))).setCell ⟨gb273, 2, none⟩ (.int .i64 ((rd_T33 l0_8 (ji110)).f1.f0))).setCell ⟨gb273, 3, none⟩ (.int .i64 ((rd_T33 l0_8 (ji110)).f1.f1)))) := ⟨zbz⟩
                       (try clear BK244)
                       (try clear BK245)
                       (try clear BK253)
                       (try clear BK259)
                       (try clear BK261)
                       (try clear BK262)
                       (try clear BK267)
                       (try clear BK271)
                       (try clear BK273)
                       (try clear HB)
                       generalize ((((w303.setCell ⟨gb273, 0, none⟩ (.int .i64 ((rd_T33 l0_8 (ji110)).f0.f0))).setCell ⟨gb273, 1, none⟩ (.int .i64 ((rd_T33 l0_8 (ji110)).f0.f1))).setCell ⟨gb273, 2, none⟩ (.int .i64 ((rd_T33 l0_8 (ji110)).f1.f0))).setCell ⟨gb273, 3, none⟩ (.int .i64 ((rd_T33 l0_8 (ji110)).f1.f1))) = w313 at n0_ n1_ n2_ n3_ n4_ n5_ n6_ n7_ n8_ n9_ ⊢
                       have BK244 := n0_
                       have BK245 := n1_
                       have BK253 := n2_
                       have BK259 := n3_
                       have BK261 := n4_
                       have BK262 := n5_
                       have BK267 := n6_
                       have BK271 := n7_
                       have BK273 := n8_
                       have HB := n9_
                       clear n0_ n1_ n2_ n3_ n4_ n5_ n6_ n7_ n8_ n9_
                       replace BK244 := Aside0.mk (blk_drew BK244.out)
                       replace BK245 := Aside0.mk (blk_drew BK245.out)
                       replace BK253 := Aside0.mk (blk_drew BK253.out)
                       replace BK259 := Aside0.mk (blk_drew BK259.out)
                       replace BK261 := Aside0.mk (blk_drew BK261.out)
                       replace BK262 := Aside0.mk (blk_drew BK262.out)
                       replace BK267 := Aside0.mk (blk_drew BK267.out)
                       replace BK271 := Aside0.mk (blk_drew BK271.out)
                       replace BK273 := Aside0.mk (blk_drew BK273.out)
                       replace HB := Aside0.mk (below_drew1 HB.out)
                       refine start_ (n := 7) (S := fun w' => w'.cell? ⟨gb273, 0, none⟩ = some (.int .i64 ((rd_T33 l0_8 (ji110)).f0.f0)) ∧ w'.cell? ⟨gb273, 1, none⟩ = some (.int .i64 ((rd_T33 l0_8 (ji110)).f0.f1)) ∧ w'.cell? ⟨gb273, 2, none⟩ = some (.int .i64 ((rd_T33 l0_8 (ji110)).f1.f0)) ∧ w'.cell? ⟨gb273, 3, none⟩ = some (.int .i64 ((rd_T33 l0_8 (ji110)).f1.f1))) (ds := []) #[false, false, false, false, false, false, false] zq0 rfl rfl (zcs4 BK273.out) (fun hHeld => ?_)
                       generalize w313.drew = w314 at BK244 BK245 BK253 BK259 BK261 BK262 BK267 BK271 BK273 HB hHeld ⊢
                       refine zpz (i := 0) (N := some 169) zq0 ?_
                       refine zpz (i := 2) (N := some 171) zq0 ?_
                       refine ztz (i := 1) (N := some 170) zq0 hHeld ?_
                       refine ztz (i := 3) (N := some 172) zq0 hHeld ?_
                       refine one_ (i := 4) (N := none) #[true, true, true, true, true, false, false] rfl rfl zq0 (by decide) (fun K hK => ?_)
                       have hs315 : w314.cell? ⟨gb261, 0, none⟩ = some (.int .i64 x262000_3) := (blk_cell BK261.out 0).trans rfl
                       have hfs315 := blk_frozen BK261.out 0
                       have hns315_0 := NB244_261.out
                       have hns315_1 := NB245_261.out
                       have hns315_2 := NB253_261.out
                       have hns315_3 := NB259_261.out
                       have hns315_5 := NB262_261.out
                       have hns315_6 := NB267_261.out
                       have hns315_7 := NB271_261.out
                       have hns315_8 := NB273_261.out
                       have hms315_0 := NB261_244.out
                       have hms315_1 := NB261_245.out
                       have hms315_2 := NB261_253.out
                       have hms315_3 := NB261_259.out
                       have hms315_5 := NB261_262.out
                       have hms315_6 := NB261_267.out
                       have hms315_7 := NB261_271.out
                       have hms315_8 := NB261_273.out
                       have hs316 : w314.cell? ⟨gb261, 1, none⟩ = some (.int .i64 x262001_3) := (blk_cell BK261.out 1).trans rfl
                       have hfs316 := blk_frozen BK261.out 1
                       have hns316_0 := NB244_261.out
                       have hns316_1 := NB245_261.out
                       have hns316_2 := NB253_261.out
                       have hns316_3 := NB259_261.out
                       have hns316_5 := NB262_261.out
                       have hns316_6 := NB267_261.out
                       have hns316_7 := NB271_261.out
                       have hns316_8 := NB273_261.out
                       have hms316_0 := NB261_244.out
                       have hms316_1 := NB261_245.out
                       have hms316_2 := NB261_253.out
                       have hms316_3 := NB261_259.out
                       have hms316_5 := NB261_262.out
                       have hms316_6 := NB261_267.out
                       have hms316_7 := NB261_271.out
                       have hms316_8 := NB261_273.out
                       refine skip_ (w1 := ?_) (by rfl) rfl ?_ ?_
                       rotate_left
                       ·go_simp
                        rfl
                       refine hK.out _ _ ⟨((cell_far (p := ⟨gb261, _, none⟩) NB273_261.out _).trans (((cell_far (p := ⟨gb261, _, none⟩) NB273_261.out _).trans (hHeld.1)))), ((cell_far (p := ⟨gb261, _, none⟩) NB273_261.out _).trans (((cell_far (p := ⟨gb261, _, none⟩) NB273_261.out _).trans (hHeld.2.1)))), ((cell_far (p := ⟨gb261, _, none⟩) NB273_261.out _).trans (((cell_far (p := ⟨gb261, _, none⟩) NB273_261.out _).trans (hHeld.2.2.1)))), ((cell_far (p := ⟨gb261, _, none⟩) NB273_261.out _).trans (((cell_far (p := ⟨gb261, _, none⟩) NB273_261.out _).trans (hHeld.2.2.2))))⟩ (fun hHeld => ?_)
                       clear hK K
                       refine one_ (i := 5) (N := none) #[true, true, true, true, true, true, false] rfl rfl zq0 (by decide) (fun K hK => ?_)
                       have hs317 : w314.cell? ⟨gb262, 0, none⟩ = some (.int .i64 x263000_3) := (blk_cell BK262.out 0).trans rfl
                       have hfs317 := blk_frozen BK262.out 0
                       have hns317_0 := NB244_262.out
                       have hns317_1 := NB245_262.out
                       have hns317_2 := NB253_262.out
                       have hns317_3 := NB259_262.out
                       have hns317_4 := NB261_262.out
                       have hns317_6 := NB267_262.out
                       have hns317_7 := NB271_262.out
                       have hns317_8 := NB273_262.out
                       have hms317_0 := NB262_244.out
                       have hms317_1 := NB262_245.out
                       have hms317_2 := NB262_253.out
                       have hms317_3 := NB262_259.out
                       have hms317_4 := NB262_261.out
                       have hms317_6 := NB262_267.out
                       have hms317_7 := NB262_271.out
                       have hms317_8 := NB262_273.out
                       have hs318 : w314.cell? ⟨gb262, 1, none⟩ = some (.int .i64 x263001_3) := (blk_cell BK262.out 1).trans rfl
                       have hfs318 := blk_frozen BK262.out 1
                       have hns318_0 := NB244_262.out
                       have hns318_1 := NB245_262.out
                       have hns318_2 := NB253_262.out
                       have hns318_3 := NB259_262.out
                       have hns318_4 := NB261_262.out
                       have hns318_6 := NB267_262.out
                       have hns318_7 := NB271_262.out
                       have hns318_8 := NB273_262.out
                       have hms318_0 := NB262_244.out
                       have hms318_1 := NB262_245.out
                       have hms318_2 := NB262_253.out
                       have hms318_3 := NB262_259.out
                       have hms318_4 := NB262_261.out
                       have hms318_6 := NB262_267.out
                       have hms318_7 := NB262_271.out
                       have hms318_8 := NB262_273.out
                       refine skip_ (w1 := ?_) (by rfl) rfl ?_ ?_
                       rotate_left
                       ·go_simp
                        rfl
                       refine hK.out _ _ ⟨((cell_far (p := ⟨gb262, _, none⟩) NB273_262.out _).trans (((cell_far (p := ⟨gb262, _, none⟩) NB273_262.out _).trans (hHeld.1)))), ((cell_far (p := ⟨gb262, _, none⟩) NB273_262.out _).trans (((cell_far (p := ⟨gb262, _, none⟩) NB273_262.out _).trans (hHeld.2.1)))), ((cell_far (p := ⟨gb262, _, none⟩) NB273_262.out _).trans (((cell_far (p := ⟨gb262, _, none⟩) NB273_262.out _).trans (hHeld.2.2.1)))), ((cell_far (p := ⟨gb262, _, none⟩) NB273_262.out _).trans (((cell_far (p := ⟨gb262, _, none⟩) NB273_262.out _).trans (hHeld.2.2.2))))⟩ (fun hHeld => ?_)
                       clear hK K
                       refine zpz (i := 6) (N := some 18) zq0 ?_
                       refine done_ zq0 ?_
                       try go_wp2
                       go_roundg kj106
                       case measure => have := HK1.out; have := HJ42.out; have := HK3.out; have := HJ67.out; have := HJ106.out; omega
                       case rel => exact ⟨(true), (wrap64 (x20_3 + 1)), ((rd_T33 l0_8 (ji110)).f0.f0), ((rd_T33 l0_8 (ji110)).f0.f1), ((rd_T33 l0_8 (ji110)).f1.f0), ((rd_T33 l0_8 (ji110)).f1.f1), zq3, zq3, H', ⟨zq32⟩, ⟨zbf⟩, ⟨zbf⟩, ⟨zbf⟩, ⟨zbf⟩, ⟨by (with_reducible repeat (first | refine blk_drewN ?_ _ | refine blk_drew ?_ | refine blk_alloc ?_ _)); refine blk_far ?_ NB261_262.out _; (with_reducible repeat (first | refine blk_drewN ?_ _ | refine blk_drew ?_ | refine blk_alloc ?_ _)); refine blk_far ?_ NB261_262.out _; (with_reducible repeat (first | refine blk_drewN ?_ _ | refine blk_drew ?_ | refine blk_alloc ?_ _)); refine blk_put (cs := #[.int .i64 ((rd_T33 l0_8 (ji110)).f0.f0), .int .i64 x262001_3]) ?_ 1 _ rfl; (with_reducible repeat (first | refine blk_drewN ?_ _ | refine blk_drew ?_ | refine blk_alloc ?_ _)); refine blk_put (cs := #[.int .i64 x262000_3, .int .i64 x262001_3]) ?_ 0 _ rfl; (with_reducible repeat (first | refine blk_drewN ?_ _ | refine blk_drew ?_ | refine blk_alloc ?_ _)); exact BK261.out⟩, ⟨by (with_reducible repeat (first | refine blk_drewN ?_ _ | refine blk_drew ?_ | refine blk_alloc ?_ _)); refine blk_put (cs := #[.int .i64 ((rd_T33 l0_8 (ji110)).f1.f0), .int .i64 x263001_3]) ?_ 1 _ rfl; (with_reducible repeat (first | refine blk_drewN ?_ _ | refine blk_drew ?_ | refine blk_alloc ?_ _)); refine blk_put (cs := #[.int .i64 x263000_3, .int .i64 x263001_3]) ?_ 0 _ rfl; (with_reducible repeat (first | refine blk_drewN ?_ _ | refine blk_drew ?_ | refine blk_alloc ?_ _)); refine blk_far ?_ NB262_261.out _; (with_reducible repeat (first | refine blk_drewN ?_ _ | refine blk_drew ?_ | refine blk_alloc ?_ _)); refine blk_far ?_ NB262_261.out _; (with_reducible repeat (first | refine blk_drewN ?_ _ | refine blk_drew ?_ | refine blk_alloc ?_ _)); exact BK262.out⟩, ⟨zbz⟩⟩
                     ·rw [if_neg c112] at H
                      exact absurd H (by simp)
                    ·rw [if_neg c111] at H
                     exact absurd H (by simp)
            ·rw [if_neg c64] at H
             have c64b0 : decide (x20_3 < (wrap64 (a0_0 * a0_1))) = false := decide_eq_false c64
             clear c64
             have H' := Aside0.mk H
             clear H
             go_wp2
             go_roundg k3
             case measure => have := HK1.out; have := HJ42.out; have := HK3.out; omega
             case rel => exact ⟨(x18_3), (wrap64 (x19_1 + 1)), (x262000_3), (x262001_3), (x263000_3), (x263001_3), zq3, zq3, H', ⟨by have := HK1.out; have := HJ42.out; have := HK3.out; omega⟩, ⟨zbf⟩, ⟨zbf⟩, ⟨zbf⟩, ⟨zbf⟩, ⟨zbf⟩, ⟨zbf⟩, ⟨zbz⟩⟩
      ·rw [if_neg c42] at H
       have c42b0 : decide (x19_1 < a0_4) = false := decide_eq_false c42
       clear c42
       by_cases c319 : x18_1 = true
       ·subst c319
        have H1 : (if (t248 == x262000_1 && (t249 == x262001_1)) = true then (if (t250 == x263000_1 && (t251 == x263001_1)) = true then ((isobathtop_works03.f k1).bind fun t263 => (some t263)) else (some false)) else (some false)) = some r := by rw [if_pos rfl] at H; exact H
        clear H
        have H := H1
        clear H1
        by_cases c320 : (t248 == x262000_1 && (t249 == x262001_1)) = true
        ·rw [if_pos c320] at H
         have c320b0 : (t248 == x262000_1 && (t249 == x262001_1)) = true := c320
         (try (have c320b1 : decide (t248 = x262000_1 && (t249 == x262001_1)) = true := by simpa using c320))
         (try (have c320b2 : (t248 == x262000_1 && (t249 == x262001_1)) = true := by simpa using c320))
         clear c320
         by_cases c321 : (t250 == x263000_1 && (t251 == x263001_1)) = true
         ·rw [if_pos c321] at H
          have c321b0 : (t250 == x263000_1 && (t251 == x263001_1)) = true := c321
          (try (have c321b1 : decide (t250 = x263000_1 && (t251 == x263001_1)) = true := by simpa using c321))
          (try (have c321b2 : (t250 == x263000_1 && (t251 == x263001_1)) = true := by simpa using c321))
          clear c321
          replace H := Option.bind_eq_some_iff.mp H
          obtain ⟨t263, A3220, H⟩ := H
          replace H : (some t263) = some r := H
          have A322 := Aside0.mk A3220
          clear A3220
          obtain rfl := Option.some.inj H
          have hnb323 := NB244_245.out
          have hnc323 := NB245_244.out
          have hnb324 := NB244_253.out
          have hnc324 := NB253_244.out
          have hnb325 := NB244_259.out
          have hnc325 := NB259_244.out
          have hnb326 := NB244_261.out
          have hnc326 := NB261_244.out
          have hnb327 := NB244_262.out
          have hnc327 := NB262_244.out
          obtain ⟨hcz328_0, hcz328_1, hcz328_2, hcz328_3, hcz328_4, hcz328_5, hcz328_6, hcz328_7, hcz328_8, hfz328_0, hfz328_1, hfz328_2, hfz328_3, hfz328_4, hfz328_5, hfz328_6, hfz328_7, hfz328_8⟩ := zce9 BK244.out
          have hnb329 := NB253_245.out
          have hnc329 := NB245_253.out
          have hnb330 := NB253_259.out
          have hnc330 := NB259_253.out
          have hnb331 := NB253_261.out
          have hnc331 := NB261_253.out
          have hnb332 := NB253_262.out
          have hnc332 := NB262_253.out
          obtain ⟨hcz333_0, hcz333_1, hcz333_2, hcz333_3, hfz333_0, hfz333_1, hfz333_2, hfz333_3⟩ := zce4 BK253.out
          have hnb334 := NB261_245.out
          have hnc334 := NB245_261.out
          have hnb335 := NB261_259.out
          have hnc335 := NB259_261.out
          have hnb336 := NB261_262.out
          have hnc336 := NB262_261.out
          obtain ⟨hcz337_0, hcz337_1, hfz337_0, hfz337_1⟩ := zce2 BK261.out
          have hnb338 := NB262_245.out
          have hnc338 := NB245_262.out
          have hnb339 := NB262_259.out
          have hnc339 := NB259_262.out
          obtain ⟨hcz340_0, hcz340_1, hfz340_0, hfz340_1⟩ := zce2 BK262.out
          go_wp2_with (first | (go_at_call 12; (with_reducible refine (isobathtop_works03.calls k1  t263 _ A322.out).mono ?_); rintro e w341 ⟨rfl, hb⟩; replace BK244 := zbb BK244 hb; replace BK245 := zbb BK245 hb; replace BK253 := zbb BK253 hb; replace BK259 := zbb BK259 hb; replace BK261 := zbb BK261 hb; replace BK262 := zbb BK262 hb; replace HB := zbs HB hb; (try clear hb); (try clear hb2); (try clear hk); (try clear hi)))
          go_ret
          exact ⟨zq2, zbz⟩
         ·rw [if_neg c321] at H
          have c321b0 : (t250 == x263000_1 && (t251 == x263001_1)) = false := by simpa using c321
          (try (have c321b1 : decide (t250 = x263000_1 && (t251 == x263001_1)) = false := by simpa using c321))
          (try (have c321b2 : (t250 == x263000_1 && (t251 == x263001_1)) = false := by simpa using c321))
          (try (have c321b3 : ¬ (t250 = x263000_1 && (t251 == x263001_1)) := by simpa using c321))
          clear c321
          have hh_ := Option.some.inj H
          rw [hr_.out] at hh_
          cases hh_
        ·rw [if_neg c320] at H
         have c320b0 : (t248 == x262000_1 && (t249 == x262001_1)) = false := by simpa using c320
         (try (have c320b1 : decide (t248 = x262000_1 && (t249 == x262001_1)) = false := by simpa using c320))
         (try (have c320b2 : (t248 == x262000_1 && (t249 == x262001_1)) = false := by simpa using c320))
         (try (have c320b3 : ¬ (t248 = x262000_1 && (t249 == x262001_1)) := by simpa using c320))
         clear c320
         have hh_ := Option.some.inj H
         rw [hr_.out] at hh_
         cases hh_
       ·replace c319 := Bool.eq_false_iff.mpr c319
        subst c319
        have H1 : (some false) = some r := by rw [if_neg (show ¬ (false = true) by decide)] at H; exact H
        clear H
        have H := H1
        clear H1
        have hh_ := Option.some.inj H
        rw [hr_.out] at hh_
        cases hh_
   ·rw [if_neg c18] at H
    have c18b0 : (t252 == 0) = false := beq_eq_false_iff_ne.mpr c18
    have c18b1 : (t252 != 0) = true := bne_iff_ne.mpr c18
    by_cases c381 : ((t248 == 0 && (t249 == 0)) && ((t250 == 0 && (t251 == 0)))) = true
    ·rw [if_pos c381] at H
     have c381b0 : ((t248 == 0 && (t249 == 0)) && ((t250 == 0 && (t251 == 0)))) = true := c381
     clear c381
     replace H := Option.bind_eq_some_iff.mp H
     obtain ⟨t260, A3820, H⟩ := H
     replace H : (some t260) = some r := H
     have A382 := Aside0.mk A3820
     clear A3820
     obtain rfl := Option.some.inj H
     go_enter Try.func3, Try.ntmps3
     go_wp2_with (first | ((with_reducible refine gate_dst (N := 5) rfl ?_); refine box_event (by rfl) (N := 5) (by rfl) (cs := #[.int .i64 a0_0, .int .i64 a0_1, .int .i64 a0_2, .int .i64 a0_3, .int .i64 a0_4, .int .i64 a0_5, .int .i64 a0_6, .slice A0_7 l0_7.length c0_7, .slice A0_8 l0_8.length c0_8]) (t := 25) zq1 ?_; intro gb244 hg w383 hbox hb; have BK244 := Aside0.mk (hbox); have GW244 := zgs HB hg; have GE244 := zgs HB hg; replace HB := zbs HB hb; clear hb hbox hg) | ((with_reducible refine gate_dst (N := 6) rfl ?_); refine box_event (by rfl) (N := 6) (by rfl) (cs := #[.int .i64 a1_0, .int .i64 a1_1, .int .i64 a1_2, .int .i64 a1_3]) (t := 29) zq1 ?_; intro gb245 hg w384 hbox hb; have BK245 := Aside0.mk (hbox); have GW245 := zgs HB hg; have GE245 := zgs HB hg; have NB244_245 := znp BK244 hg; have NB245_244 := znq BK244 hg; replace BK244 := zbb BK244 hb; replace HB := zbs HB hb; clear hb hbox hg; have hnb385 := NB244_245.out; have hnc385 := NB245_244.out; obtain ⟨hcz386_0, hcz386_1, hcz386_2, hcz386_3, hcz386_4, hcz386_5, hcz386_6, hcz386_7, hcz386_8, hfz386_0, hfz386_1, hfz386_2, hfz386_3, hfz386_4, hfz386_5, hfz386_6, hfz386_7, hfz386_8⟩ := zce9 BK244.out) | ((with_reducible refine gate_callee (f := 11) rfl ?_); refine goesL_ (some 33) rfl rfl Try.func11 zq0 rfl #[.agg #[.int .i64 a0_0, .int .i64 a0_1, .int .i64 a0_2, .int .i64 a0_3, .int .i64 a0_4, .int .i64 a0_5, .int .i64 a0_6, .slice A0_7 l0_7.length c0_7, .slice A0_8 l0_8.length c0_8]] rfl zq6 ?_; (with_reducible refine (isobathtop_large.calls a0_0 a0_1 a0_2 a0_3 a0_4 a0_5 a0_6 _ _ l0_7 _ _ l0_8 false _ ?side1 ?side2 ?side3 ?side4 A6.out).mono ?_); (case side1 => repeat (first | exact (Kd.C_below HR0_7.out HB.out) | (with_reducible refine Kd.C_alloc ?_ _) | (with_reducible refine Kd.C_drewN ?_ _) | (with_reducible refine Kd.C_drew ?_))); (case side2 => exact HC0_7.out); (case side3 => repeat (first | exact (Kd.C_below HR0_8.out HB.out) | (with_reducible refine Kd.C_alloc ?_ _) | (with_reducible refine Kd.C_drewN ?_ _) | (with_reducible refine Kd.C_drew ?_))); (case side4 => exact HC0_8.out); rintro e w387 ⟨rfl, hb⟩; refine ⟨_, rfl, ?_⟩; replace BK244 := zbb BK244 hb; replace BK245 := zbb BK245 hb; replace HB := zbs HB hb; (try clear hb); (try clear hb2); (try clear hk); (try clear hi); obtain ⟨hcz388_0, hcz388_1, hcz388_2, hcz388_3, hcz388_4, hcz388_5, hcz388_6, hcz388_7, hcz388_8, hfz388_0, hfz388_1, hfz388_2, hfz388_3, hfz388_4, hfz388_5, hfz388_6, hfz388_7, hfz388_8⟩ := zce9 BK244.out; obtain ⟨hcz389_0, hcz389_1, hcz389_2, hcz389_3, hfz389_0, hfz389_1, hfz389_2, hfz389_3⟩ := zce4 BK245.out) | ((with_reducible refine gate_callee (f := 13) rfl ?_); refine goesL_ (some 41) rfl rfl Try.func13 zq0 rfl #[.agg #[.int .i64 a0_0, .int .i64 a0_1, .int .i64 a0_2, .int .i64 a0_3, .int .i64 a0_4, .int .i64 a0_5, .int .i64 a0_6, .slice A0_7 l0_7.length c0_7, .slice A0_8 l0_8.length c0_8], .agg #[.int .i64 a1_0, .int .i64 a1_1, .int .i64 a1_2, .int .i64 a1_3], .int .i64 a2, .int .i64 a3, .int .i64 a4] rfl zq6 ?_; (with_reducible refine (glider_At.calls a0_0 a0_1 a0_2 a0_3 a0_4 a0_5 a0_6 _ _ l0_7 _ _ l0_8 a1_0 a1_1 a1_2 a1_3 a2 a3 a4 t248 t249 t250 t251 t252 _ ?side1 ?side2 ?side3 ?side4 A15.out).mono ?_); (case side1 => repeat (first | exact (Kd.C_below HR0_7.out HB.out) | (with_reducible refine Kd.C_alloc ?_ _) | (with_reducible refine Kd.C_drewN ?_ _) | (with_reducible refine Kd.C_drew ?_))); (case side2 => exact HC0_7.out); (case side3 => repeat (first | exact (Kd.C_below HR0_8.out HB.out) | (with_reducible refine Kd.C_alloc ?_ _) | (with_reducible refine Kd.C_drewN ?_ _) | (with_reducible refine Kd.C_drew ?_))); (case side4 => exact HC0_8.out); rintro e w390 ⟨rfl, hb⟩; refine ⟨_, rfl, ?_⟩; replace BK244 := zbb BK244 hb; replace BK245 := zbb BK245 hb; replace HB := zbs HB hb; (try clear hb); (try clear hb2); (try clear hk); (try clear hi)) | ((with_reducible refine gate_dst (N := 11) rfl ?_); refine box_event (by rfl) (N := 11) (by rfl) (cs := #[.int .i64 0, .int .i64 0, .int .i64 0, .int .i64 0]) (t := 33) zq1 ?_; intro gb253 hg w391 hbox hb; have BK253 := Aside0.mk (hbox); have GW253 := zgs HB hg; have GE253 := zgs HB hg; have NB244_253 := znp BK244 hg; have NB253_244 := znq BK244 hg; have NB245_253 := znp BK245 hg; have NB253_245 := znq BK245 hg; replace BK244 := zbb BK244 hb; replace BK245 := zbb BK245 hb; replace HB := zbs HB hb; clear hb hbox hg; have hnb392 := NB253_244.out; have hnc392 := NB244_253.out; have hnb393 := NB253_245.out; have hnc393 := NB245_253.out; obtain ⟨hcz394_0, hcz394_1, hcz394_2, hcz394_3, hfz394_0, hfz394_1, hfz394_2, hfz394_3⟩ := zce4 BK253.out; obtain ⟨hcz395_0, hcz395_1, hcz395_2, hcz395_3, hcz395_4, hcz395_5, hcz395_6, hcz395_7, hcz395_8, hfz395_0, hfz395_1, hfz395_2, hfz395_3, hfz395_4, hfz395_5, hfz395_6, hfz395_7, hfz395_8⟩ := zce9 BK244.out; obtain ⟨hcz396_0, hcz396_1, hcz396_2, hcz396_3, hfz396_0, hfz396_1, hfz396_2, hfz396_3⟩ := zce4 BK245.out) | ((with_reducible refine gate_callee (f := 14) rfl ?_); refine goesL_ (some 50) rfl rfl Try.func14 zq0 rfl #[.agg #[.int .i64 a0_0, .int .i64 a0_1, .int .i64 a0_2, .int .i64 a0_3, .int .i64 a0_4, .int .i64 a0_5, .int .i64 a0_6, .slice A0_7 l0_7.length c0_7, .slice A0_8 l0_8.length c0_8], .agg #[.int .i64 a1_0, .int .i64 a1_1, .int .i64 a1_2, .int .i64 a1_3], .int .i64 a2, .int .i64 a3, .int .i64 a4] rfl zq6 ?_; (with_reducible refine (isobathref03_At.calls k a0_0 a0_1 a0_2 a0_3 a0_4 a0_5 a0_6 _ _ l0_7 _ _ l0_8 a1_0 a1_1 a1_2 a1_3 a2 a3 a4 t254 t255 t256 t257 t258 _ ?side1 ?side2 ?side3 ?side4 A16.out).mono ?_); (case side1 => exact Kd.C_below HR0_7.out zbz); (case side2 => exact HC0_7.out); (case side3 => exact Kd.C_below HR0_8.out zbz); (case side4 => exact HC0_8.out); rintro e w397 ⟨rfl, hb⟩; refine ⟨_, rfl, ?_⟩; have n0_ := zbb BK244 hb; have n1_ := zbb BK245 hb; have n2_ := Aside0.mk (blk_below (g := gb253) (o := .cells #[.int .i64 t248, .int .i64 t249, .int .i64 t250, .int .i64 t251] 33 (0, 0)) (by (with_reducible repeat (first | refine blk_drewN ?_ _ | refine blk_drew ?_ | refine blk_alloc ?_ _)); refine blk_put (cs := #[.int .i64 t248, .int .i64 t249, .int .i64 t250, .int .i64 0]) ?_ 3 _ rfl; (with_reducible repeat (first | refine blk_drewN ?_ _ | refine blk_drew ?_ | refine blk_alloc ?_ _)); refine blk_put (cs := #[.int .i64 t248, .int .i64 t249, .int .i64 0, .int .i64 0]) ?_ 2 _ rfl; (with_reducible repeat (first | refine blk_drewN ?_ _ | refine blk_drew ?_ | refine blk_alloc ?_ _)); refine blk_put (cs := #[.int .i64 t248, .int .i64 0, .int .i64 0, .int .i64 0]) ?_ 1 _ rfl; (with_reducible repeat (first | refine blk_drewN ?_ _ | refine blk_drew ?_ | refine blk_alloc ?_ _)); refine blk_put (cs := #[.int .i64 0, .int .i64 0, .int .i64 0, .int .i64 0]) ?_ 0 _ rfl; (with_reducible repeat (first | refine blk_drewN ?_ _ | refine blk_drew ?_ | refine blk_alloc ?_ _)); exact BK253.out) hb); have n3_ := zbs HB hb; clear BK244; clear BK245; clear BK253; clear HB; have BK244 := n0_; have BK245 := n1_; have BK253 := n2_; have HB := n3_; clear n0_ n1_ n2_ n3_; (try clear hb); (try clear hb2); (try clear hk); (try clear hi)) | ((with_reducible refine gate_dst (N := 13) rfl ?_); refine box_event (by rfl) (N := 13) (by rfl) (cs := #[.int .i64 0, .int .i64 0, .int .i64 0, .int .i64 0]) (t := 33) zq1 ?_; intro gb259 hg w398 hbox hb; have BK259 := Aside0.mk (hbox); have GW259 := zgs HB hg; have GE259 := zgs HB hg; have NB244_259 := znp BK244 hg; have NB259_244 := znq BK244 hg; have NB245_259 := znp BK245 hg; have NB259_245 := znq BK245 hg; have NB253_259 := znp BK253 hg; have NB259_253 := znq BK253 hg; replace BK244 := zbb BK244 hb; replace BK245 := zbb BK245 hb; replace BK253 := zbb BK253 hb; replace HB := zbs HB hb; clear hb hbox hg; have hnb399 := NB259_244.out; have hnc399 := NB244_259.out; have hnb400 := NB259_245.out; have hnc400 := NB245_259.out; have hnb401 := NB259_253.out; have hnc401 := NB253_259.out; obtain ⟨hcz402_0, hcz402_1, hcz402_2, hcz402_3, hfz402_0, hfz402_1, hfz402_2, hfz402_3⟩ := zce4 BK259.out; obtain ⟨hcz403_0, hcz403_1, hcz403_2, hcz403_3, hfz403_0, hfz403_1, hfz403_2, hfz403_3⟩ := zce4 BK253.out) | (go_at_call 12; (with_reducible refine (isobathtop_works03.calls k  t260 _ A382.out).mono ?_); rintro e w404 ⟨rfl, hb⟩; have n0_ := zbb BK244 hb; have n1_ := zbb BK245 hb; have n2_ := zbb BK253 hb; have n3_ := Aside0.mk (blk_below (g := gb259) (o := .cells #[.int .i64 t254, .int .i64 t255, .int .i64 t256, .int .i64 t257] 33 (0, 0)) (by (with_reducible repeat (first | refine blk_drewN ?_ _ | refine blk_drew ?_ | refine blk_alloc ?_ _)); refine blk_put (cs := #[.int .i64 t254, .int .i64 t255, .int .i64 t256, .int .i64 0]) ?_ 3 _ rfl; (with_reducible repeat (first | refine blk_drewN ?_ _ | refine blk_drew ?_ | refine blk_alloc ?_ _)); refine blk_put (cs := #[.int .i64 t254, .int .i64 t255, .int .i64 0, .int .i64 0]) ?_ 2 _ rfl; (with_reducible repeat (first | refine blk_drewN ?_ _ | refine blk_drew ?_ | refine blk_alloc ?_ _)); refine blk_put (cs := #[.int .i64 t254, .int .i64 0, .int .i64 0, .int .i64 0]) ?_ 1 _ rfl; (with_reducible repeat (first | refine blk_drewN ?_ _ | refine blk_drew ?_ | refine blk_alloc ?_ _)); refine blk_put (cs := #[.int .i64 0, .int .i64 0, .int .i64 0, .int .i64 0]) ?_ 0 _ rfl; (with_reducible repeat (first | refine blk_drewN ?_ _ | refine blk_drew ?_ | refine blk_alloc ?_ _)); exact BK259.out) hb); have n4_ := zbs HB hb; clear BK244; clear BK245; clear BK253; clear BK259; clear HB; have BK244 := n0_; have BK245 := n1_; have BK253 := n2_; have BK259 := n3_; have HB := n4_; clear n0_ n1_ n2_ n3_ n4_; (try clear hb); (try clear hb2); (try clear hk); (try clear hi)))
     go_ret
     exact ⟨zq2, zbz⟩
    ·rw [if_neg c381] at H
     have c381b0 : ((t248 == 0 && (t249 == 0)) && ((t250 == 0 && (t251 == 0)))) = false := by simpa using c381
     clear c381
     have hh_ := Option.some.inj H
     rw [hr_.out] at hh_
     cases hh_
  ·rw [if_neg c17] at H
   have c17b0 : (t252 == t258) = false := beq_eq_false_iff_ne.mpr c17
   have c17b1 : (t252 != t258) = true := bne_iff_ne.mpr c17
   have hh_ := Option.some.inj H
   rw [hr_.out] at hh_
   cases hh_

end Go.Proofs.Ythglkoddmpicdaa.Pr
end
