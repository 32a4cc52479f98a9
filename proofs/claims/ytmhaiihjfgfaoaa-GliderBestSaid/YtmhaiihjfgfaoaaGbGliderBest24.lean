/- Part 24 of the proof of GliderBest: what the functions compute. No condition. -/
import Derived.Test.YtmhaiihjfgfaoaaGbGliderBest3
import Derived.Test.YtmhaiihjfgfaoaaGbGliderBest6
import Derived.Test.YtmhaiihjfgfaoaaGbGliderBest16
import Derived.Test.YtmhaiihjfgfaoaaGbGliderBest17
import Derived.Test.YtmhaiihjfgfaoaaGbGliderBest19
import Derived.Test.YtmhaiihjfgfaoaaGbGliderBest23
section
namespace Go.Proofs.Ytmhaiihjfgfaoaa.Pr
open Go.RowKit Go.Proofs.YtmhaiihjfgfaoaaW.PrintWords Go.Proofs.YtmhaiihjfgfaoaaW.PrintLast Go.Proofs.YtmhaiihjfgfaoaaW.PrintMore
attribute [local go_sem] max2_int min2_int max_two min_two max_four
set_option linter.unusedVariables false
set_option linter.unusedSimpArgs false

/-! ### isobathlaw03_GliderBest: function 15 -/
mutual
def isobathlaw03_GliderBest.j0 : Nat → Int → Int → List (S33) → Bool → Int → Int → Int → Int → Int → Int → Int → List Bool → List (S40) → Int → Int → Int → Int → Int → Int → Int → Int → Int → Int → Int → Int → Int → Int → Int → Int → Int → Int → Int → Option (Bool)
 | 0, _, _, _, _, _, _, _, _, _, _, _, _, _, _, _, _, _, _, _, _, _, _, _, _, _, _, _, _, _, _, _, _ => none
 | k + 1, x3, x6, x7, x37, x1013000, x1013001, x1013002, x1013003, x1013004, x1013005, x1013006, x1013007, x1013008, x1014000, x1014001, x1014002, x1014003, x1014004, x1014005, x1014006, x1015000, x1015001, x1015002, x1015003, x1016000, x1016001, x1017000, x1017001, x1017002, x1017003, x1017004, x1017005 => if x37 = true then ((isobathlaw03_Works.f k).bind fun t1019 => (some t1019)) else ((glider_Best.f x1013000 x1013001 x1013002 x1013003 x1013004 x1013005 x1013006 x1013007 x1013008 x1014000 x1014001 x1014002 x1014003 x1014004 x1014005 x1014006 x1015000 x1015001 x1015002 x1015003 x3 x1016000 x1016001 x1017000 x1017001 x1017002 x1017003 x1017004 x1017005 x6).bind fun bt1020 => (if (x7.length : Int) ≥ 1 then (if (x7.length : Int) ≤ x6 then ((glider_CheckPlan.f x1013000 x1013001 x1013002 x1013003 x1013004 x1013005 x1013006 x1013007 x1013008 x1014000 x1014001 x1014002 x1014003 x1014004 x1014005 x1014006 x1015000 x1015001 x1015002 x1015003 x3 x1016000 x1016001 x7 x1017000 x1017001 x1017002 x1017003 x1017004 x1017005).bind fun t1025 => (isobathlaw03_GliderBest.j1 k x3 x6 x7 bt1020.1 bt1020.2.1 bt1020.2.2 (t1025 == 0) x1013000 x1013001 x1013002 x1013003 x1013004 x1013005 x1013006 x1013007 x1013008 x1014000 x1014001 x1014002 x1014003 x1014004 x1014005 x1014006 x1015000 x1015001 x1015002 x1015003 x1016000 x1016001 x1017000 x1017001 x1017002 x1017003 x1017004 x1017005)) else (isobathlaw03_GliderBest.j1 k x3 x6 x7 bt1020.1 bt1020.2.1 bt1020.2.2 false x1013000 x1013001 x1013002 x1013003 x1013004 x1013005 x1013006 x1013007 x1013008 x1014000 x1014001 x1014002 x1014003 x1014004 x1014005 x1014006 x1015000 x1015001 x1015002 x1015003 x1016000 x1016001 x1017000 x1017001 x1017002 x1017003 x1017004 x1017005)) else (isobathlaw03_GliderBest.j1 k x3 x6 x7 bt1020.1 bt1020.2.1 bt1020.2.2 false x1013000 x1013001 x1013002 x1013003 x1013004 x1013005 x1013006 x1013007 x1013008 x1014000 x1014001 x1014002 x1014003 x1014004 x1014005 x1014006 x1015000 x1015001 x1015002 x1015003 x1016000 x1016001 x1017000 x1017001 x1017002 x1017003 x1017004 x1017005)))
def isobathlaw03_GliderBest.j1 : Nat → Int → Int → List (S33) → List (S33) → Int → Int → Bool → Int → Int → Int → Int → Int → Int → Int → List Bool → List (S40) → Int → Int → Int → Int → Int → Int → Int → Int → Int → Int → Int → Int → Int → Int → Int → Int → Int → Int → Int → Option (Bool)
 | 0, _, _, _, _, _, _, _, _, _, _, _, _, _, _, _, _, _, _, _, _, _, _, _, _, _, _, _, _, _, _, _, _, _, _, _ => none
 | k + 1, x3, x6, x7, x17, x18, x19, x20, x1013000, x1013001, x1013002, x1013003, x1013004, x1013005, x1013006, x1013007, x1013008, x1014000, x1014001, x1014002, x1014003, x1014004, x1014005, x1014006, x1015000, x1015001, x1015002, x1015003, x1016000, x1016001, x1017000, x1017001, x1017002, x1017003, x1017004, x1017005 => if x19 = 0 then (if (x17.length : Int) < 1 then (isobathlaw03_GliderBest.j2 k x3 x7 x17 x18 x20 true x1013000 x1013001 x1013002 x1013003 x1013004 x1013005 x1013006 x1013007 x1013008 x1014000 x1014001 x1014002 x1014003 x1014004 x1014005 x1014006 x1015000 x1015001 x1015002 x1015003 x1016000 x1016001 x1017000 x1017001 x1017002 x1017003 x1017004 x1017005) else (if (x17.length : Int) > x6 then (isobathlaw03_GliderBest.j2 k x3 x7 x17 x18 x20 true x1013000 x1013001 x1013002 x1013003 x1013004 x1013005 x1013006 x1013007 x1013008 x1014000 x1014001 x1014002 x1014003 x1014004 x1014005 x1014006 x1015000 x1015001 x1015002 x1015003 x1016000 x1016001 x1017000 x1017001 x1017002 x1017003 x1017004 x1017005) else (isobathlaw03_GliderBest.j2 k x3 x7 x17 x18 x20 (decide ((x17.length : Int) > 3)) x1013000 x1013001 x1013002 x1013003 x1013004 x1013005 x1013006 x1013007 x1013008 x1014000 x1014001 x1014002 x1014003 x1014004 x1014005 x1014006 x1015000 x1015001 x1015002 x1015003 x1016000 x1016001 x1017000 x1017001 x1017002 x1017003 x1017004 x1017005))) else (if x19 = 15 then (if x20 = true then (some false) else (if (x17.length : Int) = 0 then (if x18 = 0 then ((isobathlaw03_Works.f k).bind fun t1026 => (some t1026)) else (some false)) else (some false))) else (if (x17.length : Int) = 0 then (if x18 = 0 then ((isobathlaw03_Works.f k).bind fun t1027 => (some t1027)) else (some false)) else (some false)))
def isobathlaw03_GliderBest.j2 : Nat → Int → List (S33) → List (S33) → Int → Bool → Bool → Int → Int → Int → Int → Int → Int → Int → List Bool → List (S40) → Int → Int → Int → Int → Int → Int → Int → Int → Int → Int → Int → Int → Int → Int → Int → Int → Int → Int → Int → Option (Bool)
 | 0, _, _, _, _, _, _, _, _, _, _, _, _, _, _, _, _, _, _, _, _, _, _, _, _, _, _, _, _, _, _, _, _, _, _ => none
 | k + 1, x3, x7, x17, x18, x20, x104, x1013000, x1013001, x1013002, x1013003, x1013004, x1013005, x1013006, x1013007, x1013008, x1014000, x1014001, x1014002, x1014003, x1014004, x1014005, x1014006, x1015000, x1015001, x1015002, x1015003, x1016000, x1016001, x1017000, x1017001, x1017002, x1017003, x1017004, x1017005 => if x104 = true then (some false) else (isobathlaw03_GliderBest.l0 k x3 x7 x17 x18 x20 0 x1013000 x1013001 x1013002 x1013003 x1013004 x1013005 x1013006 x1013007 x1013008 x1014000 x1014001 x1014002 x1014003 x1014004 x1014005 x1014006 x1015000 x1015001 x1015002 x1015003 x1016000 x1016001 x1017000 x1017001 x1017002 x1017003 x1017004 x1017005)
def isobathlaw03_GliderBest.l0 : Nat → Int → List (S33) → List (S33) → Int → Bool → Int → Int → Int → Int → Int → Int → Int → Int → List Bool → List (S40) → Int → Int → Int → Int → Int → Int → Int → Int → Int → Int → Int → Int → Int → Int → Int → Int → Int → Int → Int → Option (Bool)
 | 0, _, _, _, _, _, _, _, _, _, _, _, _, _, _, _, _, _, _, _, _, _, _, _, _, _, _, _, _, _, _, _, _, _, _ => none
 | k + 1, x3, x7, x17, x18, x20, x21, x1013000, x1013001, x1013002, x1013003, x1013004, x1013005, x1013006, x1013007, x1013008, x1014000, x1014001, x1014002, x1014003, x1014004, x1014005, x1014006, x1015000, x1015001, x1015002, x1015003, x1016000, x1016001, x1017000, x1017001, x1017002, x1017003, x1017004, x1017005 => if x21 < (x17.length : Int) then (if 0 ≤ x21 then (if ((rd_T33 x17 x21).f0) < 0 then (some false) else (if ((rd_T33 x17 x21).f0) > 8 then (some false) else (isobathlaw03_GliderBest.l0 k x3 x7 x17 x18 x20 (wrap64 (x21 + 1)) x1013000 x1013001 x1013002 x1013003 x1013004 x1013005 x1013006 x1013007 x1013008 x1014000 x1014001 x1014002 x1014003 x1014004 x1014005 x1014006 x1015000 x1015001 x1015002 x1015003 x1016000 x1016001 x1017000 x1017001 x1017002 x1017003 x1017004 x1017005))) else (none)) else ((glider_CheckPlan.f x1013000 x1013001 x1013002 x1013003 x1013004 x1013005 x1013006 x1013007 x1013008 x1014000 x1014001 x1014002 x1014003 x1014004 x1014005 x1014006 x1015000 x1015001 x1015002 x1015003 x3 x1016000 x1016001 x17 x1017000 x1017001 x1017002 x1017003 x1017004 x1017005).bind fun t1030 => (if t1030 = 0 then ((isobathref03_Cost.f k x1014000 x1014001 x1014002 x1014003 x1014004 x1014005 x1014006 x17).bind fun t1031 => (isobathlaw03_GliderBest.j4 k x7 x18 x20 (t1031 != x18) x1014000 x1014001 x1014002 x1014003 x1014004 x1014005 x1014006)) else (isobathlaw03_GliderBest.j4 k x7 x18 x20 true x1014000 x1014001 x1014002 x1014003 x1014004 x1014005 x1014006)))
def isobathlaw03_GliderBest.j4 : Nat → List (S33) → Int → Bool → Bool → Int → Int → Int → Int → Int → Int → Int → Option (Bool)
 | 0, _, _, _, _, _, _, _, _, _, _, _ => none
 | k + 1, x7, x18, x20, x140, x1014000, x1014001, x1014002, x1014003, x1014004, x1014005, x1014006 => if x140 = true then (some false) else (if x20 = true then ((isobathref03_Cost.f k x1014000 x1014001 x1014002 x1014003 x1014004 x1014005 x1014006 x7).bind fun t1032 => (if t1032 ≥ x18 then ((isobathlaw03_Works.f k).bind fun t1033 => (some t1033)) else (some false))) else ((isobathlaw03_Works.f k).bind fun t1034 => (some t1034)))
end
def isobathlaw03_GliderBest.f (k : Nat) (a0_0 : Int) (a0_1 : Int) (a0_2 : Int) (a0_3 : Int) (a0_4 : Int) (a0_5 : Int) (a0_6 : Int) (l0_7 : List Bool) (l0_8 : List (S40)) (a1_0 : Int) (a1_1 : Int) (a1_2 : Int) (a1_3 : Int) (a1_4 : Int) (a1_5 : Int) (a1_6 : Int) (a2_0 : Int) (a2_1 : Int) (a2_2 : Int) (a2_3 : Int) (a3 : Int) (a4_0 : Int) (a4_1 : Int) (a5_0 : Int) (a5_1 : Int) (a5_2 : Int) (a5_3 : Int) (a5_4 : Int) (a5_5 : Int) (a6 : Int) (l7 : List (S33)) : Option (Bool) := (isobathlaw03_valid.f k a0_0 a0_1 a0_2 a0_3 a0_4 a0_5 a0_6 l0_7 l0_8 a1_0 a1_1 a1_2 a1_3 a1_4 a1_5 a1_6 a2_0 a2_1 a2_2 a2_3 a3).bind fun t1017 => (if t1017 = true then ((isobathlaw03_deep.f a0_0 a0_1 a0_2 a0_3 a0_4 a0_5 a0_6 l0_7 l0_8 a6).bind fun t1018 => (if t1018 = true then (isobathlaw03_GliderBest.j0 k a3 a6 l7 true a0_0 a0_1 a0_2 a0_3 a0_4 a0_5 a0_6 l0_7 l0_8 a1_0 a1_1 a1_2 a1_3 a1_4 a1_5 a1_6 a2_0 a2_1 a2_2 a2_3 a4_0 a4_1 a5_0 a5_1 a5_2 a5_3 a5_4 a5_5) else (isobathlaw03_GliderBest.j0 k a3 a6 l7 (decide ((l7.length : Int) > 10)) a0_0 a0_1 a0_2 a0_3 a0_4 a0_5 a0_6 l0_7 l0_8 a1_0 a1_1 a1_2 a1_3 a1_4 a1_5 a1_6 a2_0 a2_1 a2_2 a2_3 a4_0 a4_1 a5_0 a5_1 a5_2 a5_3 a5_4 a5_5))) else (isobathlaw03_GliderBest.j0 k a3 a6 l7 true a0_0 a0_1 a0_2 a0_3 a0_4 a0_5 a0_6 l0_7 l0_8 a1_0 a1_1 a1_2 a1_3 a1_4 a1_5 a1_6 a2_0 a2_1 a2_2 a2_3 a4_0 a4_1 a5_0 a5_1 a5_2 a5_3 a5_4 a5_5))
set_option maxHeartbeats 8000000 in
set_option maxRecDepth 100000 in
theorem isobathlaw03_GliderBest.calls (k : Nat) (a0_0 : Int) (a0_1 : Int) (a0_2 : Int) (a0_3 : Int) (a0_4 : Int) (a0_5 : Int) (a0_6 : Int) (A0_7 : Option Addr) (c0_7 : Nat) (l0_7 : List Bool) (A0_8 : Option Addr) (c0_8 : Nat) (l0_8 : List (S40)) (a1_0 : Int) (a1_1 : Int) (a1_2 : Int) (a1_3 : Int) (a1_4 : Int) (a1_5 : Int) (a1_6 : Int) (a2_0 : Int) (a2_1 : Int) (a2_2 : Int) (a2_3 : Int) (a3 : Int) (a4_0 : Int) (a4_1 : Int) (a5_0 : Int) (a5_1 : Int) (a5_2 : Int) (a5_3 : Int) (a5_4 : Int) (a5_5 : Int) (a6 : Int) (A7 : Option Addr) (c7 : Nat) (l7 : List (S33)) (r : Bool) (w : World) (hr0_7 : Kd.C Kd.bool w A0_7 l0_7.length l0_7) (hc0_7 : l0_7.length ≤ c0_7) (hr0_8 : Kd.C k40 w A0_8 l0_8.length l0_8) (hc0_8 : l0_8.length ≤ c0_8) (hr7 : Kd.C k33 w A7 l7.length l7) (hc7 : l7.length ≤ c7) (h : isobathlaw03_GliderBest.f k a0_0 a0_1 a0_2 a0_3 a0_4 a0_5 a0_6 l0_7 l0_8 a1_0 a1_1 a1_2 a1_3 a1_4 a1_5 a1_6 a2_0 a2_1 a2_2 a2_3 a3 a4_0 a4_1 a5_0 a5_1 a5_2 a5_3 a5_4 a5_5 a6 l7 = some r) (hr_ : Aside0 (r = true)) :
  Calls Try.prog 15 #[.agg #[.int .i64 a0_0, .int .i64 a0_1, .int .i64 a0_2, .int .i64 a0_3, .int .i64 a0_4, .int .i64 a0_5, .int .i64 a0_6, .slice A0_7 l0_7.length c0_7, .slice A0_8 l0_8.length c0_8], .agg #[.int .i64 a1_0, .int .i64 a1_1, .int .i64 a1_2, .int .i64 a1_3, .int .i64 a1_4, .int .i64 a1_5, .int .i64 a1_6], .agg #[.int .i64 a2_0, .int .i64 a2_1, .int .i64 a2_2, .int .i64 a2_3], .int .i64 a3, .agg #[.int .i64 a4_0, .int .i64 a4_1], .agg #[.int .i64 a5_0, .int .i64 a5_1, .int .i64 a5_2, .int .i64 a5_3, .int .i64 a5_4, .int .i64 a5_5], .int .i64 a6, .slice A7 l7.length c7] w fun e w' => e = .returned (.bool r) ∧ Below w.heap.size w w' := by
 have hu25 := Try.underlying25
 have hu29 := Try.underlying29
 have hu31 := Try.underlying31
 have hu27 := Try.underlying27
 have hu81 := Try.underlying81
 have HR0_7 := Aside0.mk hr0_7
 have HC0_7 := Aside0.mk hc0_7
 clear hr0_7 hc0_7
 have HR0_8 := Aside0.mk hr0_8
 have HC0_8 := Aside0.mk hc0_8
 clear hr0_8 hc0_8
 have HR7 := Aside0.mk hr7
 have HC7 := Aside0.mk hc7
 clear hr7 hc7
 have HB := Aside0.mk (Below.refl w.heap.size w)
 have H : ((isobathlaw03_valid.f k a0_0 a0_1 a0_2 a0_3 a0_4 a0_5 a0_6 l0_7 l0_8 a1_0 a1_1 a1_2 a1_3 a1_4 a1_5 a1_6 a2_0 a2_1 a2_2 a2_3 a3).bind fun t1017 => (if t1017 = true then ((isobathlaw03_deep.f a0_0 a0_1 a0_2 a0_3 a0_4 a0_5 a0_6 l0_7 l0_8 a6).bind fun t1018 => (if t1018 = true then (isobathlaw03_GliderBest.j0 k a3 a6 l7 true a0_0 a0_1 a0_2 a0_3 a0_4 a0_5 a0_6 l0_7 l0_8 a1_0 a1_1 a1_2 a1_3 a1_4 a1_5 a1_6 a2_0 a2_1 a2_2 a2_3 a4_0 a4_1 a5_0 a5_1 a5_2 a5_3 a5_4 a5_5) else (isobathlaw03_GliderBest.j0 k a3 a6 l7 (decide ((l7.length : Int) > 10)) a0_0 a0_1 a0_2 a0_3 a0_4 a0_5 a0_6 l0_7 l0_8 a1_0 a1_1 a1_2 a1_3 a1_4 a1_5 a1_6 a2_0 a2_1 a2_2 a2_3 a4_0 a4_1 a5_0 a5_1 a5_2 a5_3 a5_4 a5_5))) else (isobathlaw03_GliderBest.j0 k a3 a6 l7 true a0_0 a0_1 a0_2 a0_3 a0_4 a0_5 a0_6 l0_7 l0_8 a1_0 a1_1 a1_2 a1_3 a1_4 a1_5 a1_6 a2_0 a2_1 a2_2 a2_3 a4_0 a4_1 a5_0 a5_1 a5_2 a5_3 a5_4 a5_5))) = some r := h
 clear h
 have HC9 := Aside0.mk H
 clear H
 go_enter Try.func15, Try.ntmps15
 go_upto_region 1 with (first | ((with_reducible refine gate_dst (N := 8) rfl ?_); (try (refine gate_guard (by rfl) ?_; dsimp only)); refine box_event (by rfl) (N := 8) (by rfl) (cs := #[.int .i64 a0_0, .int .i64 a0_1, .int .i64 a0_2, .int .i64 a0_3, .int .i64 a0_4, .int .i64 a0_5, .int .i64 a0_6, .slice A0_7 l0_7.length c0_7, .slice A0_8 l0_8.length c0_8]) (t := 25) zq1 ?_; intro gb1012 hg w10 hbox hb; have BK1012 := Aside0.mk (hbox); have GW1012 := zgs HB hg; have GE1012 := zgs HB hg; replace HB := zbs HB hb; clear hb hbox hg) | ((with_reducible refine gate_dst (N := 9) rfl ?_); (try (refine gate_guard (by rfl) ?_; dsimp only)); refine box_event (by rfl) (N := 9) (by rfl) (cs := #[.int .i64 a1_0, .int .i64 a1_1, .int .i64 a1_2, .int .i64 a1_3, .int .i64 a1_4, .int .i64 a1_5, .int .i64 a1_6]) (t := 29) zq1 ?_; intro gb1013 hg w11 hbox hb; have BK1013 := Aside0.mk (hbox); have GW1013 := zgs HB hg; have GE1013 := zgs HB hg; have NB1012_1013 := znp BK1012 hg; have NB1013_1012 := znq BK1012 hg; replace BK1012 := zbb BK1012 hb; replace HB := zbs HB hb; clear hb hbox hg) | ((with_reducible refine gate_dst (N := 10) rfl ?_); (try (refine gate_guard (by rfl) ?_; dsimp only)); refine box_event (by rfl) (N := 10) (by rfl) (cs := #[.int .i64 a2_0, .int .i64 a2_1, .int .i64 a2_2, .int .i64 a2_3]) (t := 31) zq1 ?_; intro gb1014 hg w12 hbox hb; have BK1014 := Aside0.mk (hbox); have GW1014 := zgs HB hg; have GE1014 := zgs HB hg; have NB1012_1014 := znp BK1012 hg; have NB1014_1012 := znq BK1012 hg; have NB1013_1014 := znp BK1013 hg; have NB1014_1013 := znq BK1013 hg; replace BK1012 := zbb BK1012 hb; replace BK1013 := zbb BK1013 hb; replace HB := zbs HB hb; clear hb hbox hg) | ((with_reducible refine gate_dst (N := 12) rfl ?_); (try (refine gate_guard (by rfl) ?_; dsimp only)); refine box_event (by rfl) (N := 12) (by rfl) (cs := #[.int .i64 a4_0, .int .i64 a4_1]) (t := 27) zq1 ?_; intro gb1015 hg w13 hbox hb; have BK1015 := Aside0.mk (hbox); have GW1015 := zgs HB hg; have GE1015 := zgs HB hg; have NB1012_1015 := znp BK1012 hg; have NB1015_1012 := znq BK1012 hg; have NB1013_1015 := znp BK1013 hg; have NB1015_1013 := znq BK1013 hg; have NB1014_1015 := znp BK1014 hg; have NB1015_1014 := znq BK1014 hg; replace BK1012 := zbb BK1012 hb; replace BK1013 := zbb BK1013 hb; replace BK1014 := zbb BK1014 hb; replace HB := zbs HB hb; clear hb hbox hg) | ((with_reducible refine gate_dst (N := 13) rfl ?_); (try (refine gate_guard (by rfl) ?_; dsimp only)); refine box_event (by rfl) (N := 13) (by rfl) (cs := #[.int .i64 a5_0, .int .i64 a5_1, .int .i64 a5_2, .int .i64 a5_3, .int .i64 a5_4, .int .i64 a5_5]) (t := 81) zq1 ?_; intro gb1016 hg w14 hbox hb; have BK1016 := Aside0.mk (hbox); have GW1016 := zgs HB hg; have GE1016 := zgs HB hg; have NB1012_1016 := znp BK1012 hg; have NB1016_1012 := znq BK1012 hg; have NB1013_1016 := znp BK1013 hg; have NB1016_1013 := znq BK1013 hg; have NB1014_1016 := znp BK1014 hg; have NB1016_1014 := znq BK1014 hg; have NB1015_1016 := znp BK1015 hg; have NB1016_1015 := znq BK1015 hg; replace BK1012 := zbb BK1012 hb; replace BK1013 := zbb BK1013 hb; replace BK1014 := zbb BK1014 hb; replace BK1015 := zbb BK1015 hb; replace HB := zbs HB hb; clear hb hbox hg))
 (try simp only [Act.put, List.setIfInBounds_toArray, List.set_cons_zero, List.set_cons_succ])
 go_cut [37] (fun v37 wc => ∃ (kq : Nat) (x37_8 : Bool), v37 = .bool x37_8 ∧ Aside0 (isobathlaw03_GliderBest.j0 kq a3 a6 l7 x37_8 a0_0 a0_1 a0_2 a0_3 a0_4 a0_5 a0_6 l0_7 l0_8 a1_0 a1_1 a1_2 a1_3 a1_4 a1_5 a1_6 a2_0 a2_1 a2_2 a2_3 a4_0 a4_1 a5_0 a5_1 a5_2 a5_3 a5_4 a5_5 = some r) ∧ Aside0 (kq ≤ k) ∧ Aside0 (wc.heap[gb1012]? = some (.cells #[.int .i64 a0_0, .int .i64 a0_1, .int .i64 a0_2, .int .i64 a0_3, .int .i64 a0_4, .int .i64 a0_5, .int .i64 a0_6, (.slice A0_7 l0_7.length c0_7), (.slice A0_8 l0_8.length c0_8)] 25 (0, 0))) ∧ Aside0 (wc.heap[gb1013]? = some (.cells #[.int .i64 a1_0, .int .i64 a1_1, .int .i64 a1_2, .int .i64 a1_3, .int .i64 a1_4, .int .i64 a1_5, .int .i64 a1_6] 29 (0, 0))) ∧ Aside0 (wc.heap[gb1014]? = some (.cells #[.int .i64 a2_0, .int .i64 a2_1, .int .i64 a2_2, .int .i64 a2_3] 31 (0, 0))) ∧ Aside0 (wc.heap[gb1015]? = some (.cells #[.int .i64 a4_0, .int .i64 a4_1] 27 (0, 0))) ∧ Aside0 (wc.heap[gb1016]? = some (.cells #[.int .i64 a5_0, .int .i64 a5_1, .int .i64 a5_2, .int .i64 a5_3, .int .i64 a5_4, .int .i64 a5_5] 81 (0, 0))) ∧ Aside0 (Below w.heap.size w wc))
 case first =>
  have H := HC9.out
  clear HC9
  replace H := Option.bind_eq_some_iff.mp H
  obtain ⟨t1017, A150, H⟩ := H
  replace H : (if t1017 = true then ((isobathlaw03_deep.f a0_0 a0_1 a0_2 a0_3 a0_4 a0_5 a0_6 l0_7 l0_8 a6).bind fun t1018 => (if t1018 = true then (isobathlaw03_GliderBest.j0 k a3 a6 l7 true a0_0 a0_1 a0_2 a0_3 a0_4 a0_5 a0_6 l0_7 l0_8 a1_0 a1_1 a1_2 a1_3 a1_4 a1_5 a1_6 a2_0 a2_1 a2_2 a2_3 a4_0 a4_1 a5_0 a5_1 a5_2 a5_3 a5_4 a5_5) else (isobathlaw03_GliderBest.j0 k a3 a6 l7 (decide ((l7.length : Int) > 10)) a0_0 a0_1 a0_2 a0_3 a0_4 a0_5 a0_6 l0_7 l0_8 a1_0 a1_1 a1_2 a1_3 a1_4 a1_5 a1_6 a2_0 a2_1 a2_2 a2_3 a4_0 a4_1 a5_0 a5_1 a5_2 a5_3 a5_4 a5_5))) else (isobathlaw03_GliderBest.j0 k a3 a6 l7 true a0_0 a0_1 a0_2 a0_3 a0_4 a0_5 a0_6 l0_7 l0_8 a1_0 a1_1 a1_2 a1_3 a1_4 a1_5 a1_6 a2_0 a2_1 a2_2 a2_3 a4_0 a4_1 a5_0 a5_1 a5_2 a5_3 a5_4 a5_5)) = some r := H
  have A15 := Aside0.mk A150
  clear A150
  by_cases c16 : t1017 = true
  ·subst c16
   have H1 : ((isobathlaw03_deep.f a0_0 a0_1 a0_2 a0_3 a0_4 a0_5 a0_6 l0_7 l0_8 a6).bind fun t1018 => (if t1018 = true then (isobathlaw03_GliderBest.j0 k a3 a6 l7 true a0_0 a0_1 a0_2 a0_3 a0_4 a0_5 a0_6 l0_7 l0_8 a1_0 a1_1 a1_2 a1_3 a1_4 a1_5 a1_6 a2_0 a2_1 a2_2 a2_3 a4_0 a4_1 a5_0 a5_1 a5_2 a5_3 a5_4 a5_5) else (isobathlaw03_GliderBest.j0 k a3 a6 l7 (decide ((l7.length : Int) > 10)) a0_0 a0_1 a0_2 a0_3 a0_4 a0_5 a0_6 l0_7 l0_8 a1_0 a1_1 a1_2 a1_3 a1_4 a1_5 a1_6 a2_0 a2_1 a2_2 a2_3 a4_0 a4_1 a5_0 a5_1 a5_2 a5_3 a5_4 a5_5))) = some r := by rw [if_pos rfl] at H; exact H
   clear H
   have H := H1
   clear H1
   replace H := Option.bind_eq_some_iff.mp H
   obtain ⟨t1018, A170, H⟩ := H
   replace H : (if t1018 = true then (isobathlaw03_GliderBest.j0 k a3 a6 l7 true a0_0 a0_1 a0_2 a0_3 a0_4 a0_5 a0_6 l0_7 l0_8 a1_0 a1_1 a1_2 a1_3 a1_4 a1_5 a1_6 a2_0 a2_1 a2_2 a2_3 a4_0 a4_1 a5_0 a5_1 a5_2 a5_3 a5_4 a5_5) else (isobathlaw03_GliderBest.j0 k a3 a6 l7 (decide ((l7.length : Int) > 10)) a0_0 a0_1 a0_2 a0_3 a0_4 a0_5 a0_6 l0_7 l0_8 a1_0 a1_1 a1_2 a1_3 a1_4 a1_5 a1_6 a2_0 a2_1 a2_2 a2_3 a4_0 a4_1 a5_0 a5_1 a5_2 a5_3 a5_4 a5_5)) = some r := H
   have A17 := Aside0.mk A170
   clear A170
   by_cases c18 : t1018 = true
   ·subst c18
    have H1 : (isobathlaw03_GliderBest.j0 k a3 a6 l7 true a0_0 a0_1 a0_2 a0_3 a0_4 a0_5 a0_6 l0_7 l0_8 a1_0 a1_1 a1_2 a1_3 a1_4 a1_5 a1_6 a2_0 a2_1 a2_2 a2_3 a4_0 a4_1 a5_0 a5_1 a5_2 a5_3 a5_4 a5_5) = some r := by rw [if_pos rfl] at H; exact H
    clear H
    have H := H1
    clear H1
    have H' := Aside0.mk H
    clear H
    have hnb19 := NB1012_1013.out
    have hnc19 := NB1013_1012.out
    have hnb20 := NB1012_1014.out
    have hnc20 := NB1014_1012.out
    have hnb21 := NB1012_1015.out
    have hnc21 := NB1015_1012.out
    have hnb22 := NB1012_1016.out
    have hnc22 := NB1016_1012.out
    obtain ⟨hcz23_0, hcz23_1, hcz23_2, hcz23_3, hcz23_4, hcz23_5, hcz23_6, hcz23_7, hcz23_8, hfz23_0, hfz23_1, hfz23_2, hfz23_3, hfz23_4, hfz23_5, hfz23_6, hfz23_7, hfz23_8⟩ := zce9 BK1012.out
    have hnb24 := NB1013_1014.out
    have hnc24 := NB1014_1013.out
    have hnb25 := NB1013_1015.out
    have hnc25 := NB1015_1013.out
    have hnb26 := NB1013_1016.out
    have hnc26 := NB1016_1013.out
    obtain ⟨hcz27_0, hcz27_1, hcz27_2, hcz27_3, hcz27_4, hcz27_5, hcz27_6, hfz27_0, hfz27_1, hfz27_2, hfz27_3, hfz27_4, hfz27_5, hfz27_6⟩ := zce7 BK1013.out
    have hnb28 := NB1014_1015.out
    have hnc28 := NB1015_1014.out
    have hnb29 := NB1014_1016.out
    have hnc29 := NB1016_1014.out
    obtain ⟨hcz30_0, hcz30_1, hcz30_2, hcz30_3, hfz30_0, hfz30_1, hfz30_2, hfz30_3⟩ := zce4 BK1014.out
    go_wp2_with (first | ((with_reducible refine gate_callee (f := 18) rfl ?_); refine goesL_ (some 26) rfl rfl Try.func18 zq5 rfl #[.agg #[.int .i64 a0_0, .int .i64 a0_1, .int .i64 a0_2, .int .i64 a0_3, .int .i64 a0_4, .int .i64 a0_5, .int .i64 a0_6, .slice A0_7 l0_7.length c0_7, .slice A0_8 l0_8.length c0_8], .agg #[.int .i64 a1_0, .int .i64 a1_1, .int .i64 a1_2, .int .i64 a1_3, .int .i64 a1_4, .int .i64 a1_5, .int .i64 a1_6], .agg #[.int .i64 a2_0, .int .i64 a2_1, .int .i64 a2_2, .int .i64 a2_3], .int .i64 a3] rfl zq6 ?_; (with_reducible refine (isobathlaw03_valid.calls k a0_0 a0_1 a0_2 a0_3 a0_4 a0_5 a0_6 _ _ l0_7 _ _ l0_8 a1_0 a1_1 a1_2 a1_3 a1_4 a1_5 a1_6 a2_0 a2_1 a2_2 a2_3 a3 true _ ?side1 ?side2 ?side3 ?side4 A15.out).mono ?_); (case side1 => repeat (first | exact (Kd.C_below HR0_7.out HB.out) | (with_reducible refine Kd.C_alloc ?_ _) | (with_reducible refine Kd.C_drewN ?_ _) | (with_reducible refine Kd.C_drew ?_))); (case side2 => exact HC0_7.out); (case side3 => repeat (first | exact (Kd.C_below HR0_8.out HB.out) | (with_reducible refine Kd.C_alloc ?_ _) | (with_reducible refine Kd.C_drewN ?_ _) | (with_reducible refine Kd.C_drew ?_))); (case side4 => exact HC0_8.out); rintro e w31 ⟨rfl, hb⟩; refine ⟨_, rfl, ?_⟩; replace BK1012 := zbb BK1012 hb; replace BK1013 := zbb BK1013 hb; replace BK1014 := zbb BK1014 hb; replace BK1015 := zbb BK1015 hb; replace BK1016 := zbb BK1016 hb; replace HB := zbs HB hb; (try clear hb); (try clear hb2); (try clear hk); (try clear hi); obtain ⟨hcz32_0, hcz32_1, hcz32_2, hcz32_3, hcz32_4, hcz32_5, hcz32_6, hcz32_7, hcz32_8, hfz32_0, hfz32_1, hfz32_2, hfz32_3, hfz32_4, hfz32_5, hfz32_6, hfz32_7, hfz32_8⟩ := zce9 BK1012.out) | (go_at_call 56; (with_reducible refine (isobathlaw03_deep.calls a0_0 a0_1 a0_2 a0_3 a0_4 a0_5 a0_6 _ _ l0_7 _ _ l0_8 a6 true _ ?side1 ?side2 ?side3 ?side4 A17.out).mono ?_); (case side1 => repeat (first | exact (Kd.C_below HR0_7.out HB.out) | (with_reducible refine Kd.C_alloc ?_ _) | (with_reducible refine Kd.C_drewN ?_ _) | (with_reducible refine Kd.C_drew ?_))); (case side2 => exact HC0_7.out); (case side3 => repeat (first | exact (Kd.C_below HR0_8.out HB.out) | (with_reducible refine Kd.C_alloc ?_ _) | (with_reducible refine Kd.C_drewN ?_ _) | (with_reducible refine Kd.C_drew ?_))); (case side4 => exact HC0_8.out); rintro e w33 ⟨rfl, hb⟩; replace BK1012 := zbb BK1012 hb; replace BK1013 := zbb BK1013 hb; replace BK1014 := zbb BK1014 hb; replace BK1015 := zbb BK1015 hb; replace BK1016 := zbb BK1016 hb; replace HB := zbs HB hb; (try clear hb); (try clear hb2); (try clear hk); (try clear hi)))
    go_meet
    case rel => exact ⟨_, (true), zq3, H', ⟨zq7⟩, ⟨zbf⟩, ⟨zbf⟩, ⟨zbf⟩, ⟨zbf⟩, ⟨zbf⟩, ⟨zbz⟩⟩
   ·replace c18 := Bool.eq_false_iff.mpr c18
    subst c18
    have H1 : (isobathlaw03_GliderBest.j0 k a3 a6 l7 (decide ((l7.length : Int) > 10)) a0_0 a0_1 a0_2 a0_3 a0_4 a0_5 a0_6 l0_7 l0_8 a1_0 a1_1 a1_2 a1_3 a1_4 a1_5 a1_6 a2_0 a2_1 a2_2 a2_3 a4_0 a4_1 a5_0 a5_1 a5_2 a5_3 a5_4 a5_5) = some r := by rw [if_neg (show ¬ (false = true) by decide)] at H; exact H
    clear H
    have H := H1
    clear H1
    have H' := Aside0.mk H
    clear H
    have hnb34 := NB1012_1013.out
    have hnc34 := NB1013_1012.out
    have hnb35 := NB1012_1014.out
    have hnc35 := NB1014_1012.out
    have hnb36 := NB1012_1015.out
    have hnc36 := NB1015_1012.out
    have hnb37 := NB1012_1016.out
    have hnc37 := NB1016_1012.out
    obtain ⟨hcz38_0, hcz38_1, hcz38_2, hcz38_3, hcz38_4, hcz38_5, hcz38_6, hcz38_7, hcz38_8, hfz38_0, hfz38_1, hfz38_2, hfz38_3, hfz38_4, hfz38_5, hfz38_6, hfz38_7, hfz38_8⟩ := zce9 BK1012.out
    have hnb39 := NB1013_1014.out
    have hnc39 := NB1014_1013.out
    have hnb40 := NB1013_1015.out
    have hnc40 := NB1015_1013.out
    have hnb41 := NB1013_1016.out
    have hnc41 := NB1016_1013.out
    obtain ⟨hcz42_0, hcz42_1, hcz42_2, hcz42_3, hcz42_4, hcz42_5, hcz42_6, hfz42_0, hfz42_1, hfz42_2, hfz42_3, hfz42_4, hfz42_5, hfz42_6⟩ := zce7 BK1013.out
    have hnb43 := NB1014_1015.out
    have hnc43 := NB1015_1014.out
    have hnb44 := NB1014_1016.out
    have hnc44 := NB1016_1014.out
    obtain ⟨hcz45_0, hcz45_1, hcz45_2, hcz45_3, hfz45_0, hfz45_1, hfz45_2, hfz45_3⟩ := zce4 BK1014.out
    go_wp2_with (first | ((with_reducible refine gate_callee (f := 18) rfl ?_); refine goesL_ (some 26) rfl rfl Try.func18 zq5 rfl #[.agg #[.int .i64 a0_0, .int .i64 a0_1, .int .i64 a0_2, .int .i64 a0_3, .int .i64 a0_4, .int .i64 a0_5, .int .i64 a0_6, .slice A0_7 l0_7.length c0_7, .slice A0_8 l0_8.length c0_8], .agg #[.int .i64 a1_0, .int .i64 a1_1, .int .i64 a1_2, .int .i64 a1_3, .int .i64 a1_4, .int .i64 a1_5, .int .i64 a1_6], .agg #[.int .i64 a2_0, .int .i64 a2_1, .int .i64 a2_2, .int .i64 a2_3], .int .i64 a3] rfl zq6 ?_; (with_reducible refine (isobathlaw03_valid.calls k a0_0 a0_1 a0_2 a0_3 a0_4 a0_5 a0_6 _ _ l0_7 _ _ l0_8 a1_0 a1_1 a1_2 a1_3 a1_4 a1_5 a1_6 a2_0 a2_1 a2_2 a2_3 a3 true _ ?side1 ?side2 ?side3 ?side4 A15.out).mono ?_); (case side1 => repeat (first | exact (Kd.C_below HR0_7.out HB.out) | (with_reducible refine Kd.C_alloc ?_ _) | (with_reducible refine Kd.C_drewN ?_ _) | (with_reducible refine Kd.C_drew ?_))); (case side2 => exact HC0_7.out); (case side3 => repeat (first | exact (Kd.C_below HR0_8.out HB.out) | (with_reducible refine Kd.C_alloc ?_ _) | (with_reducible refine Kd.C_drewN ?_ _) | (with_reducible refine Kd.C_drew ?_))); (case side4 => exact HC0_8.out); rintro e w46 ⟨rfl, hb⟩; refine ⟨_, rfl, ?_⟩; replace BK1012 := zbb BK1012 hb; replace BK1013 := zbb BK1013 hb; replace BK1014 := zbb BK1014 hb; replace BK1015 := zbb BK1015 hb; replace BK1016 := zbb BK1016 hb; replace HB := zbs HB hb; (try clear hb); (try clear hb2); (try clear hk); (try clear hi); obtain ⟨hcz47_0, hcz47_1, hcz47_2, hcz47_3, hcz47_4, hcz47_5, hcz47_6, hcz47_7, hcz47_8, hfz47_0, hfz47_1, hfz47_2, hfz47_3, hfz47_4, hfz47_5, hfz47_6, hfz47_7, hfz47_8⟩ := zce9 BK1012.out) | (go_at_call 56; (with_reducible refine (isobathlaw03_deep.calls a0_0 a0_1 a0_2 a0_3 a0_4 a0_5 a0_6 _ _ l0_7 _ _ l0_8 a6 false _ ?side1 ?side2 ?side3 ?side4 A17.out).mono ?_); (case side1 => repeat (first | exact (Kd.C_below HR0_7.out HB.out) | (with_reducible refine Kd.C_alloc ?_ _) | (with_reducible refine Kd.C_drewN ?_ _) | (with_reducible refine Kd.C_drew ?_))); (case side2 => exact HC0_7.out); (case side3 => repeat (first | exact (Kd.C_below HR0_8.out HB.out) | (with_reducible refine Kd.C_alloc ?_ _) | (with_reducible refine Kd.C_drewN ?_ _) | (with_reducible refine Kd.C_drew ?_))); (case side4 => exact HC0_8.out); rintro e w48 ⟨rfl, hb⟩; replace BK1012 := zbb BK1012 hb; replace BK1013 := zbb BK1013 hb; replace BK1014 := zbb BK1014 hb; replace BK1015 := zbb BK1015 hb; replace BK1016 := zbb BK1016 hb; replace HB := zbs HB hb; (try clear hb); (try clear hb2); (try clear hk); (try clear hi)))
    go_meet
    case rel => exact ⟨_, (decide ((l7.length : Int) > 10)), zq3, H', ⟨zq7⟩, ⟨zbf⟩, ⟨zbf⟩, ⟨zbf⟩, ⟨zbf⟩, ⟨zbf⟩, ⟨zbz⟩⟩
  ·replace c16 := Bool.eq_false_iff.mpr c16
   subst c16
   have H1 : (isobathlaw03_GliderBest.j0 k a3 a6 l7 true a0_0 a0_1 a0_2 a0_3 a0_4 a0_5 a0_6 l0_7 l0_8 a1_0 a1_1 a1_2 a1_3 a1_4 a1_5 a1_6 a2_0 a2_1 a2_2 a2_3 a4_0 a4_1 a5_0 a5_1 a5_2 a5_3 a5_4 a5_5) = some r := by rw [if_neg (show ¬ (false = true) by decide)] at H; exact H
   clear H
   have H := H1
   clear H1
   have H' := Aside0.mk H
   clear H
   have hnb49 := NB1012_1013.out
   have hnc49 := NB1013_1012.out
   have hnb50 := NB1012_1014.out
   have hnc50 := NB1014_1012.out
   have hnb51 := NB1012_1015.out
   have hnc51 := NB1015_1012.out
   have hnb52 := NB1012_1016.out
   have hnc52 := NB1016_1012.out
   obtain ⟨hcz53_0, hcz53_1, hcz53_2, hcz53_3, hcz53_4, hcz53_5, hcz53_6, hcz53_7, hcz53_8, hfz53_0, hfz53_1, hfz53_2, hfz53_3, hfz53_4, hfz53_5, hfz53_6, hfz53_7, hfz53_8⟩ := zce9 BK1012.out
   have hnb54 := NB1013_1014.out
   have hnc54 := NB1014_1013.out
   have hnb55 := NB1013_1015.out
   have hnc55 := NB1015_1013.out
   have hnb56 := NB1013_1016.out
   have hnc56 := NB1016_1013.out
   obtain ⟨hcz57_0, hcz57_1, hcz57_2, hcz57_3, hcz57_4, hcz57_5, hcz57_6, hfz57_0, hfz57_1, hfz57_2, hfz57_3, hfz57_4, hfz57_5, hfz57_6⟩ := zce7 BK1013.out
   have hnb58 := NB1014_1015.out
   have hnc58 := NB1015_1014.out
   have hnb59 := NB1014_1016.out
   have hnc59 := NB1016_1014.out
   obtain ⟨hcz60_0, hcz60_1, hcz60_2, hcz60_3, hfz60_0, hfz60_1, hfz60_2, hfz60_3⟩ := zce4 BK1014.out
   go_wp2_with (first | ((with_reducible refine gate_callee (f := 18) rfl ?_); refine goesL_ (some 26) rfl rfl Try.func18 zq5 rfl #[.agg #[.int .i64 a0_0, .int .i64 a0_1, .int .i64 a0_2, .int .i64 a0_3, .int .i64 a0_4, .int .i64 a0_5, .int .i64 a0_6, .slice A0_7 l0_7.length c0_7, .slice A0_8 l0_8.length c0_8], .agg #[.int .i64 a1_0, .int .i64 a1_1, .int .i64 a1_2, .int .i64 a1_3, .int .i64 a1_4, .int .i64 a1_5, .int .i64 a1_6], .agg #[.int .i64 a2_0, .int .i64 a2_1, .int .i64 a2_2, .int .i64 a2_3], .int .i64 a3] rfl zq6 ?_; (with_reducible refine (isobathlaw03_valid.calls k a0_0 a0_1 a0_2 a0_3 a0_4 a0_5 a0_6 _ _ l0_7 _ _ l0_8 a1_0 a1_1 a1_2 a1_3 a1_4 a1_5 a1_6 a2_0 a2_1 a2_2 a2_3 a3 false _ ?side1 ?side2 ?side3 ?side4 A15.out).mono ?_); (case side1 => repeat (first | exact (Kd.C_below HR0_7.out HB.out) | (with_reducible refine Kd.C_alloc ?_ _) | (with_reducible refine Kd.C_drewN ?_ _) | (with_reducible refine Kd.C_drew ?_))); (case side2 => exact HC0_7.out); (case side3 => repeat (first | exact (Kd.C_below HR0_8.out HB.out) | (with_reducible refine Kd.C_alloc ?_ _) | (with_reducible refine Kd.C_drewN ?_ _) | (with_reducible refine Kd.C_drew ?_))); (case side4 => exact HC0_8.out); rintro e w61 ⟨rfl, hb⟩; refine ⟨_, rfl, ?_⟩; replace BK1012 := zbb BK1012 hb; replace BK1013 := zbb BK1013 hb; replace BK1014 := zbb BK1014 hb; replace BK1015 := zbb BK1015 hb; replace BK1016 := zbb BK1016 hb; replace HB := zbs HB hb; (try clear hb); (try clear hb2); (try clear hk); (try clear hi)))
   go_meet
   case rel => exact ⟨_, (true), zq3, H', ⟨zq7⟩, ⟨zbf⟩, ⟨zbf⟩, ⟨zbf⟩, ⟨zbf⟩, ⟨zbf⟩, ⟨zbz⟩⟩
 case rest =>
  clear HC9
  try clear c1
  try clear c2
  try clear p2
  try clear c3
  try clear c4
  try clear c5
  try clear c7
  try clear c15
  try clear c16
  try clear c18
  try clear c19
  try clear c20
  try clear c21
  try clear c22
  try clear c24
  try clear c25
  try clear c26
  try clear c28
  try clear c29
  try clear c34
  try clear c35
  try clear c36
  try clear c37
  try clear c39
  try clear c40
  try clear c41
  try clear c43
  try clear c44
  try clear c49
  try clear c50
  try clear c51
  try clear c52
  try clear c54
  try clear c55
  try clear c56
  try clear c58
  try clear c59
  try clear hcz23_0 hcz23_1 hcz23_2 hcz23_3 hcz23_4 hcz23_5 hcz23_6 hcz23_7 hcz23_8
  try clear hcz27_0 hcz27_1 hcz27_2 hcz27_3 hcz27_4 hcz27_5 hcz27_6
  try clear hcz30_0 hcz30_1 hcz30_2 hcz30_3
  try clear hcz32_0 hcz32_1 hcz32_2 hcz32_3 hcz32_4 hcz32_5 hcz32_6 hcz32_7 hcz32_8
  try clear hcz38_0 hcz38_1 hcz38_2 hcz38_3 hcz38_4 hcz38_5 hcz38_6 hcz38_7 hcz38_8
  try clear hcz42_0 hcz42_1 hcz42_2 hcz42_3 hcz42_4 hcz42_5 hcz42_6
  try clear hcz45_0 hcz45_1 hcz45_2 hcz45_3
  try clear hcz47_0 hcz47_1 hcz47_2 hcz47_3 hcz47_4 hcz47_5 hcz47_6 hcz47_7 hcz47_8
  try clear hcz53_0 hcz53_1 hcz53_2 hcz53_3 hcz53_4 hcz53_5 hcz53_6 hcz53_7 hcz53_8
  try clear hcz57_0 hcz57_1 hcz57_2 hcz57_3 hcz57_4 hcz57_5 hcz57_6
  try clear hcz60_0 hcz60_1 hcz60_2 hcz60_3
  try clear hfz23_0 hfz23_1 hfz23_2 hfz23_3 hfz23_4 hfz23_5 hfz23_6 hfz23_7 hfz23_8
  try clear hfz27_0 hfz27_1 hfz27_2 hfz27_3 hfz27_4 hfz27_5 hfz27_6
  try clear hfz30_0 hfz30_1 hfz30_2 hfz30_3
  try clear hfz32_0 hfz32_1 hfz32_2 hfz32_3 hfz32_4 hfz32_5 hfz32_6 hfz32_7 hfz32_8
  try clear hfz38_0 hfz38_1 hfz38_2 hfz38_3 hfz38_4 hfz38_5 hfz38_6 hfz38_7 hfz38_8
  try clear hfz42_0 hfz42_1 hfz42_2 hfz42_3 hfz42_4 hfz42_5 hfz42_6
  try clear hfz45_0 hfz45_1 hfz45_2 hfz45_3
  try clear hfz47_0 hfz47_1 hfz47_2 hfz47_3 hfz47_4 hfz47_5 hfz47_6 hfz47_7 hfz47_8
  try clear hfz53_0 hfz53_1 hfz53_2 hfz53_3 hfz53_4 hfz53_5 hfz53_6 hfz53_7 hfz53_8
  try clear hfz57_0 hfz57_1 hfz57_2 hfz57_3 hfz57_4 hfz57_5 hfz57_6
  try clear hfz60_0 hfz60_1 hfz60_2 hfz60_3
  obtain ⟨kq, x37_8, rfl, HA, HJ8, BK1012, BK1013, BK1014, BK1015, BK1016, HB⟩ := hcut
  cases kq with
  | zero => exact absurd HA.out (by simp [isobathlaw03_GliderBest.j0])
  | succ kj8 =>
   have H := HA.out
   clear HA
   simp only [isobathlaw03_GliderBest.j0] at H
   by_cases c62 : x37_8 = true
   ·subst c62
    have H1 : ((isobathlaw03_Works.f kj8).bind fun t1019 => (some t1019)) = some r := by rw [if_pos rfl] at H; exact H
    clear H
    have H := H1
    clear H1
    replace H := Option.bind_eq_some_iff.mp H
    obtain ⟨t1019, A630, H⟩ := H
    replace H : (some t1019) = some r := H
    have A63 := Aside0.mk A630
    clear A630
    obtain rfl := Option.some.inj H
    go_wp2_with (first | ((with_reducible refine gate_callee (f := 19) rfl ?_); refine goesL_ (some 38) rfl rfl Try.func19 zq5 rfl #[] rfl zq6 ?_; (with_reducible refine (isobathlaw03_Works.calls kj8  t1019 _ A63.out).mono ?_); rintro e w64 ⟨rfl, hb⟩; refine ⟨_, rfl, ?_⟩; replace BK1012 := zbb BK1012 hb; replace BK1013 := zbb BK1013 hb; replace BK1014 := zbb BK1014 hb; replace BK1015 := zbb BK1015 hb; replace BK1016 := zbb BK1016 hb; replace HB := zbs HB hb; (try clear hb); (try clear hb2); (try clear hk); (try clear hi)))
    go_ret
    exact ⟨zq2, zbz⟩
   ·replace c62 := Bool.eq_false_iff.mpr c62
    subst c62
    have H1 : ((glider_Best.f a0_0 a0_1 a0_2 a0_3 a0_4 a0_5 a0_6 l0_7 l0_8 a1_0 a1_1 a1_2 a1_3 a1_4 a1_5 a1_6 a2_0 a2_1 a2_2 a2_3 a3 a4_0 a4_1 a5_0 a5_1 a5_2 a5_3 a5_4 a5_5 a6).bind fun bt1020 => (if (l7.length : Int) ≥ 1 then (if (l7.length : Int) ≤ a6 then ((glider_CheckPlan.f a0_0 a0_1 a0_2 a0_3 a0_4 a0_5 a0_6 l0_7 l0_8 a1_0 a1_1 a1_2 a1_3 a1_4 a1_5 a1_6 a2_0 a2_1 a2_2 a2_3 a3 a4_0 a4_1 l7 a5_0 a5_1 a5_2 a5_3 a5_4 a5_5).bind fun t1025 => (isobathlaw03_GliderBest.j1 kj8 a3 a6 l7 bt1020.1 bt1020.2.1 bt1020.2.2 (t1025 == 0) a0_0 a0_1 a0_2 a0_3 a0_4 a0_5 a0_6 l0_7 l0_8 a1_0 a1_1 a1_2 a1_3 a1_4 a1_5 a1_6 a2_0 a2_1 a2_2 a2_3 a4_0 a4_1 a5_0 a5_1 a5_2 a5_3 a5_4 a5_5)) else (isobathlaw03_GliderBest.j1 kj8 a3 a6 l7 bt1020.1 bt1020.2.1 bt1020.2.2 false a0_0 a0_1 a0_2 a0_3 a0_4 a0_5 a0_6 l0_7 l0_8 a1_0 a1_1 a1_2 a1_3 a1_4 a1_5 a1_6 a2_0 a2_1 a2_2 a2_3 a4_0 a4_1 a5_0 a5_1 a5_2 a5_3 a5_4 a5_5)) else (isobathlaw03_GliderBest.j1 kj8 a3 a6 l7 bt1020.1 bt1020.2.1 bt1020.2.2 false a0_0 a0_1 a0_2 a0_3 a0_4 a0_5 a0_6 l0_7 l0_8 a1_0 a1_1 a1_2 a1_3 a1_4 a1_5 a1_6 a2_0 a2_1 a2_2 a2_3 a4_0 a4_1 a5_0 a5_1 a5_2 a5_3 a5_4 a5_5))) = some r := by rw [if_neg (show ¬ (false = true) by decide)] at H; exact H
    clear H
    have H := H1
    clear H1
    replace H := Option.bind_eq_some_iff.mp H
    obtain ⟨⟨t1020, t1023, t1024⟩, A650, H⟩ := H
    replace H : (if (l7.length : Int) ≥ 1 then (if (l7.length : Int) ≤ a6 then ((glider_CheckPlan.f a0_0 a0_1 a0_2 a0_3 a0_4 a0_5 a0_6 l0_7 l0_8 a1_0 a1_1 a1_2 a1_3 a1_4 a1_5 a1_6 a2_0 a2_1 a2_2 a2_3 a3 a4_0 a4_1 l7 a5_0 a5_1 a5_2 a5_3 a5_4 a5_5).bind fun t1025 => (isobathlaw03_GliderBest.j1 kj8 a3 a6 l7 t1020 t1023 t1024 (t1025 == 0) a0_0 a0_1 a0_2 a0_3 a0_4 a0_5 a0_6 l0_7 l0_8 a1_0 a1_1 a1_2 a1_3 a1_4 a1_5 a1_6 a2_0 a2_1 a2_2 a2_3 a4_0 a4_1 a5_0 a5_1 a5_2 a5_3 a5_4 a5_5)) else (isobathlaw03_GliderBest.j1 kj8 a3 a6 l7 t1020 t1023 t1024 false a0_0 a0_1 a0_2 a0_3 a0_4 a0_5 a0_6 l0_7 l0_8 a1_0 a1_1 a1_2 a1_3 a1_4 a1_5 a1_6 a2_0 a2_1 a2_2 a2_3 a4_0 a4_1 a5_0 a5_1 a5_2 a5_3 a5_4 a5_5)) else (isobathlaw03_GliderBest.j1 kj8 a3 a6 l7 t1020 t1023 t1024 false a0_0 a0_1 a0_2 a0_3 a0_4 a0_5 a0_6 l0_7 l0_8 a1_0 a1_1 a1_2 a1_3 a1_4 a1_5 a1_6 a2_0 a2_1 a2_2 a2_3 a4_0 a4_1 a5_0 a5_1 a5_2 a5_3 a5_4 a5_5)) = some r := H
    have A65 := Aside0.mk A650
    clear A650
    have HC66 := Aside0.mk H
    clear H
    have hnb67 := NB1012_1013.out
    have hnc67 := NB1013_1012.out
    have hnb68 := NB1012_1014.out
    have hnc68 := NB1014_1012.out
    have hnb69 := NB1012_1015.out
    have hnc69 := NB1015_1012.out
    have hnb70 := NB1012_1016.out
    have hnc70 := NB1016_1012.out
    obtain ⟨hcz71_0, hcz71_1, hcz71_2, hcz71_3, hcz71_4, hcz71_5, hcz71_6, hcz71_7, hcz71_8, hfz71_0, hfz71_1, hfz71_2, hfz71_3, hfz71_4, hfz71_5, hfz71_6, hfz71_7, hfz71_8⟩ := zce9 BK1012.out
    have hnb72 := NB1013_1014.out
    have hnc72 := NB1014_1013.out
    have hnb73 := NB1013_1015.out
    have hnc73 := NB1015_1013.out
    have hnb74 := NB1013_1016.out
    have hnc74 := NB1016_1013.out
    obtain ⟨hcz75_0, hcz75_1, hcz75_2, hcz75_3, hcz75_4, hcz75_5, hcz75_6, hfz75_0, hfz75_1, hfz75_2, hfz75_3, hfz75_4, hfz75_5, hfz75_6⟩ := zce7 BK1013.out
    have hnb76 := NB1014_1015.out
    have hnc76 := NB1015_1014.out
    have hnb77 := NB1014_1016.out
    have hnc77 := NB1016_1014.out
    obtain ⟨hcz78_0, hcz78_1, hcz78_2, hcz78_3, hfz78_0, hfz78_1, hfz78_2, hfz78_3⟩ := zce4 BK1014.out
    have hnb79 := NB1015_1016.out
    have hnc79 := NB1016_1015.out
    obtain ⟨hcz80_0, hcz80_1, hfz80_0, hfz80_1⟩ := zce2 BK1015.out
    obtain ⟨hcz81_0, hcz81_1, hcz81_2, hcz81_3, hcz81_4, hcz81_5, hfz81_0, hfz81_1, hfz81_2, hfz81_3, hfz81_4, hfz81_5⟩ := zce6 BK1016.out
    go_upto_region 4 with (first | ((with_reducible refine gate_callee (f := 57) rfl ?_); refine goesL_ (some 47) rfl rfl Try.func57 zq5 rfl #[.agg #[.int .i64 a0_0, .int .i64 a0_1, .int .i64 a0_2, .int .i64 a0_3, .int .i64 a0_4, .int .i64 a0_5, .int .i64 a0_6, .slice A0_7 l0_7.length c0_7, .slice A0_8 l0_8.length c0_8], .agg #[.int .i64 a1_0, .int .i64 a1_1, .int .i64 a1_2, .int .i64 a1_3, .int .i64 a1_4, .int .i64 a1_5, .int .i64 a1_6], .agg #[.int .i64 a2_0, .int .i64 a2_1, .int .i64 a2_2, .int .i64 a2_3], .int .i64 a3, .agg #[.int .i64 a4_0, .int .i64 a4_1], .agg #[.int .i64 a5_0, .int .i64 a5_1, .int .i64 a5_2, .int .i64 a5_3, .int .i64 a5_4, .int .i64 a5_5], .int .i64 a6] rfl zq6 ?_; (with_reducible refine (glider_Best.calls a0_0 a0_1 a0_2 a0_3 a0_4 a0_5 a0_6 _ _ l0_7 _ _ l0_8 a1_0 a1_1 a1_2 a1_3 a1_4 a1_5 a1_6 a2_0 a2_1 a2_2 a2_3 a3 a4_0 a4_1 a5_0 a5_1 a5_2 a5_3 a5_4 a5_5 a6 t1020 t1023 t1024 _ ?side1 ?side2 ?side3 ?side4 A65.out).mono ?_); (case side1 => repeat (first | exact (Kd.C_below HR0_7.out HB.out) | (with_reducible refine Kd.C_alloc ?_ _) | (with_reducible refine Kd.C_drewN ?_ _) | (with_reducible refine Kd.C_drew ?_))); (case side2 => exact HC0_7.out); (case side3 => repeat (first | exact (Kd.C_below HR0_8.out HB.out) | (with_reducible refine Kd.C_alloc ?_ _) | (with_reducible refine Kd.C_drewN ?_ _) | (with_reducible refine Kd.C_drew ?_))); (case side4 => exact HC0_8.out); rintro e w82 ⟨v1021, rfl, ho0, hb⟩; refine ⟨_, rfl, ?_⟩; have HO1022 := Aside0.mk (Kd.R_lower ho0 (below_size zbz)); replace BK1012 := zbb BK1012 hb; replace BK1013 := zbb BK1013 hb; replace BK1014 := zbb BK1014 hb; replace BK1015 := zbb BK1015 hb; replace BK1016 := zbb BK1016 hb; replace HB := zbs HB hb; (try clear hb); (try clear hb2); (try clear hk); (try clear hi); (try clear ho0)))
    (try simp only [Act.put, List.setIfInBounds_toArray, List.set_cons_zero, List.set_cons_succ])
    go_cut [20] (fun v20 wc => ∃ (kq : Nat) (x20_65 : Bool), v20 = .bool x20_65 ∧ Aside0 (isobathlaw03_GliderBest.j1 kq a3 a6 l7 t1020 t1023 t1024 x20_65 a0_0 a0_1 a0_2 a0_3 a0_4 a0_5 a0_6 l0_7 l0_8 a1_0 a1_1 a1_2 a1_3 a1_4 a1_5 a1_6 a2_0 a2_1 a2_2 a2_3 a4_0 a4_1 a5_0 a5_1 a5_2 a5_3 a5_4 a5_5 = some r) ∧ Aside0 (kq ≤ kj8) ∧ Aside0 (Kd.R k33 33 wc w.heap.size (fun _ => True) v1021 t1020) ∧ Aside0 (wc.heap[gb1012]? = some (.cells #[.int .i64 a0_0, .int .i64 a0_1, .int .i64 a0_2, .int .i64 a0_3, .int .i64 a0_4, .int .i64 a0_5, .int .i64 a0_6, (.slice A0_7 l0_7.length c0_7), (.slice A0_8 l0_8.length c0_8)] 25 (0, 0))) ∧ Aside0 (wc.heap[gb1013]? = some (.cells #[.int .i64 a1_0, .int .i64 a1_1, .int .i64 a1_2, .int .i64 a1_3, .int .i64 a1_4, .int .i64 a1_5, .int .i64 a1_6] 29 (0, 0))) ∧ Aside0 (wc.heap[gb1014]? = some (.cells #[.int .i64 a2_0, .int .i64 a2_1, .int .i64 a2_2, .int .i64 a2_3] 31 (0, 0))) ∧ Aside0 (wc.heap[gb1015]? = some (.cells #[.int .i64 a4_0, .int .i64 a4_1] 27 (0, 0))) ∧ Aside0 (wc.heap[gb1016]? = some (.cells #[.int .i64 a5_0, .int .i64 a5_1, .int .i64 a5_2, .int .i64 a5_3, .int .i64 a5_4, .int .i64 a5_5] 81 (0, 0))) ∧ Aside0 (Below w.heap.size w wc))
    case first =>
     have H := HC66.out
     clear HC66
     by_cases c83 : (l7.length : Int) ≥ 1
     ·rw [if_pos c83] at H
      have c83b0 : decide (1 ≤ (l7.length : Int)) = true := decide_eq_true c83
      have c83b1 : decide (1 ≤ l7.length) = true := decide_eq_true (by omega)
      clear c83
      (first | rw [c83b0] | (simp only [i64_w, i32_w]; rw [c83b0]) | skip)
      by_cases c84 : (l7.length : Int) ≤ a6
      ·rw [if_pos c84] at H
       have c84b0 : decide ((l7.length : Int) ≤ a6) = true := decide_eq_true c84
       clear c84
       replace H := Option.bind_eq_some_iff.mp H
       obtain ⟨t1025, A850, H⟩ := H
       replace H : (isobathlaw03_GliderBest.j1 kj8 a3 a6 l7 t1020 t1023 t1024 (t1025 == 0) a0_0 a0_1 a0_2 a0_3 a0_4 a0_5 a0_6 l0_7 l0_8 a1_0 a1_1 a1_2 a1_3 a1_4 a1_5 a1_6 a2_0 a2_1 a2_2 a2_3 a4_0 a4_1 a5_0 a5_1 a5_2 a5_3 a5_4 a5_5) = some r := H
       have A85 := Aside0.mk A850
       clear A850
       have H' := Aside0.mk H
       clear H
       have hnb86 := NB1012_1013.out
       have hnc86 := NB1013_1012.out
       have hnb87 := NB1012_1014.out
       have hnc87 := NB1014_1012.out
       have hnb88 := NB1012_1015.out
       have hnc88 := NB1015_1012.out
       have hnb89 := NB1012_1016.out
       have hnc89 := NB1016_1012.out
       obtain ⟨hcz90_0, hcz90_1, hcz90_2, hcz90_3, hcz90_4, hcz90_5, hcz90_6, hcz90_7, hcz90_8, hfz90_0, hfz90_1, hfz90_2, hfz90_3, hfz90_4, hfz90_5, hfz90_6, hfz90_7, hfz90_8⟩ := zce9 BK1012.out
       have hnb91 := NB1013_1014.out
       have hnc91 := NB1014_1013.out
       have hnb92 := NB1013_1015.out
       have hnc92 := NB1015_1013.out
       have hnb93 := NB1013_1016.out
       have hnc93 := NB1016_1013.out
       obtain ⟨hcz94_0, hcz94_1, hcz94_2, hcz94_3, hcz94_4, hcz94_5, hcz94_6, hfz94_0, hfz94_1, hfz94_2, hfz94_3, hfz94_4, hfz94_5, hfz94_6⟩ := zce7 BK1013.out
       have hnb95 := NB1014_1015.out
       have hnc95 := NB1015_1014.out
       have hnb96 := NB1014_1016.out
       have hnc96 := NB1016_1014.out
       obtain ⟨hcz97_0, hcz97_1, hcz97_2, hcz97_3, hfz97_0, hfz97_1, hfz97_2, hfz97_3⟩ := zce4 BK1014.out
       have hnb98 := NB1015_1016.out
       have hnc98 := NB1016_1015.out
       obtain ⟨hcz99_0, hcz99_1, hfz99_0, hfz99_1⟩ := zce2 BK1015.out
       obtain ⟨hcz100_0, hcz100_1, hcz100_2, hcz100_3, hcz100_4, hcz100_5, hfz100_0, hfz100_1, hfz100_2, hfz100_3, hfz100_4, hfz100_5⟩ := zce6 BK1016.out
       go_wp2_with (first | (go_at_call 48; (with_reducible refine (glider_CheckPlan.calls a0_0 a0_1 a0_2 a0_3 a0_4 a0_5 a0_6 _ _ l0_7 _ _ l0_8 a1_0 a1_1 a1_2 a1_3 a1_4 a1_5 a1_6 a2_0 a2_1 a2_2 a2_3 a3 a4_0 a4_1 _ _ l7 a5_0 a5_1 a5_2 a5_3 a5_4 a5_5 t1025 _ ?side1 ?side2 ?side3 ?side4 ?side5 ?side6 A85.out).mono ?_); (case side1 => repeat (first | exact (Kd.C_below HR0_7.out HB.out) | (with_reducible refine Kd.C_alloc ?_ _) | (with_reducible refine Kd.C_drewN ?_ _) | (with_reducible refine Kd.C_drew ?_))); (case side2 => exact HC0_7.out); (case side3 => repeat (first | exact (Kd.C_below HR0_8.out HB.out) | (with_reducible refine Kd.C_alloc ?_ _) | (with_reducible refine Kd.C_drewN ?_ _) | (with_reducible refine Kd.C_drew ?_))); (case side4 => exact HC0_8.out); (case side5 => repeat (first | exact (Kd.C_below HR7.out HB.out) | (with_reducible refine Kd.C_alloc ?_ _) | (with_reducible refine Kd.C_drewN ?_ _) | (with_reducible refine Kd.C_drew ?_))); (case side6 => exact HC7.out); rintro e w101 ⟨rfl, hb⟩; replace HO1022 := zrb HO1022 hb; replace BK1012 := zbb BK1012 hb; replace BK1013 := zbb BK1013 hb; replace BK1014 := zbb BK1014 hb; replace BK1015 := zbb BK1015 hb; replace BK1016 := zbb BK1016 hb; replace HB := zbs HB hb; (try clear hb); (try clear hb2); (try clear hk); (try clear hi)))
       go_meet
       case rel => exact ⟨_, ((t1025 == 0)), zq3, H', ⟨by have := HJ8.out; first | omega | exact Nat.le_refl _⟩, ⟨zq64⟩, ⟨zbf⟩, ⟨zbf⟩, ⟨zbf⟩, ⟨zbf⟩, ⟨zbf⟩, ⟨zbz⟩⟩
      ·rw [if_neg c84] at H
       have c84b0 : decide ((l7.length : Int) ≤ a6) = false := decide_eq_false c84
       clear c84
       have H' := Aside0.mk H
       clear H
       go_wp2
       go_meet
       case rel => exact ⟨_, (false), zq3, H', ⟨by have := HJ8.out; first | omega | exact Nat.le_refl _⟩, ⟨zq64⟩, ⟨zbf⟩, ⟨zbf⟩, ⟨zbf⟩, ⟨zbf⟩, ⟨zbf⟩, ⟨zbz⟩⟩
     ·rw [if_neg c83] at H
      have c83b0 : decide (1 ≤ (l7.length : Int)) = false := decide_eq_false c83
      have c83b1 : decide (1 ≤ l7.length) = false := decide_eq_false (by omega)
      clear c83
      (first | rw [c83b0] | (simp only [i64_w, i32_w]; rw [c83b0]) | skip)
      have H' := Aside0.mk H
      clear H
      go_wp2
      go_meet
      case rel => exact ⟨_, (false), zq3, H', ⟨by have := HJ8.out; first | omega | exact Nat.le_refl _⟩, ⟨zq64⟩, ⟨zbf⟩, ⟨zbf⟩, ⟨zbf⟩, ⟨zbf⟩, ⟨zbf⟩, ⟨zbz⟩⟩
    case rest =>
     clear HC66
     try clear c1
     try clear c2
     try clear p2
     try clear c3
     try clear c4
     try clear c5
     try clear c6
     try clear c7
     try clear c8
     try clear c9
     try clear c15
     try clear c16
     try clear c18
     try clear c19
     try clear c20
     try clear c21
     try clear c22
     try clear c24
     try clear c25
     try clear c26
     try clear c28
     try clear c29
     try clear c34
     try clear c35
     try clear c36
     try clear c37
     try clear c39
     try clear c40
     try clear c41
     try clear c43
     try clear c44
     try clear c49
     try clear c50
     try clear c51
     try clear c52
     try clear c54
     try clear c55
     try clear c56
     try clear c57
     try clear c58
     try clear c59
     try clear c62
     try clear c67
     try clear c68
     try clear c69
     try clear c70
     try clear c72
     try clear c73
     try clear c74
     try clear c76
     try clear c77
     try clear c79
     try clear c83
     try clear c83b0
     try clear c83b1
     try clear c84
     try clear c84b0
     try clear c86
     try clear c87
     try clear c88
     try clear c89
     try clear c91
     try clear c92
     try clear c93
     try clear c95
     try clear c96
     try clear c98
     try clear hcz100_0 hcz100_1 hcz100_2 hcz100_3 hcz100_4 hcz100_5
     try clear hcz23_0 hcz23_1 hcz23_2 hcz23_3 hcz23_4 hcz23_5 hcz23_6 hcz23_7 hcz23_8
     try clear hcz27_0 hcz27_1 hcz27_2 hcz27_3 hcz27_4 hcz27_5 hcz27_6
     try clear hcz30_0 hcz30_1 hcz30_2 hcz30_3
     try clear hcz32_0 hcz32_1 hcz32_2 hcz32_3 hcz32_4 hcz32_5 hcz32_6 hcz32_7 hcz32_8
     try clear hcz38_0 hcz38_1 hcz38_2 hcz38_3 hcz38_4 hcz38_5 hcz38_6 hcz38_7 hcz38_8
     try clear hcz42_0 hcz42_1 hcz42_2 hcz42_3 hcz42_4 hcz42_5 hcz42_6
     try clear hcz45_0 hcz45_1 hcz45_2 hcz45_3
     try clear hcz47_0 hcz47_1 hcz47_2 hcz47_3 hcz47_4 hcz47_5 hcz47_6 hcz47_7 hcz47_8
     try clear hcz53_0 hcz53_1 hcz53_2 hcz53_3 hcz53_4 hcz53_5 hcz53_6 hcz53_7 hcz53_8
     try clear hcz57_0 hcz57_1 hcz57_2 hcz57_3 hcz57_4 hcz57_5 hcz57_6
     try clear hcz60_0 hcz60_1 hcz60_2 hcz60_3
     try clear hcz71_0 hcz71_1 hcz71_2 hcz71_3 hcz71_4 hcz71_5 hcz71_6 hcz71_7 hcz71_8
     try clear hcz75_0 hcz75_1 hcz75_2 hcz75_3 hcz75_4 hcz75_5 hcz75_6
     try clear hcz78_0 hcz78_1 hcz78_2 hcz78_3
     try clear hcz80_0 hcz80_1
     try clear hcz81_0 hcz81_1 hcz81_2 hcz81_3 hcz81_4 hcz81_5
     try clear hcz90_0 hcz90_1 hcz90_2 hcz90_3 hcz90_4 hcz90_5 hcz90_6 hcz90_7 hcz90_8
     try clear hcz94_0 hcz94_1 hcz94_2 hcz94_3 hcz94_4 hcz94_5 hcz94_6
     try clear hcz97_0 hcz97_1 hcz97_2 hcz97_3
     try clear hcz99_0 hcz99_1
     try clear hfz100_0 hfz100_1 hfz100_2 hfz100_3 hfz100_4 hfz100_5
     try clear hfz23_0 hfz23_1 hfz23_2 hfz23_3 hfz23_4 hfz23_5 hfz23_6 hfz23_7 hfz23_8
     try clear hfz27_0 hfz27_1 hfz27_2 hfz27_3 hfz27_4 hfz27_5 hfz27_6
     try clear hfz30_0 hfz30_1 hfz30_2 hfz30_3
     try clear hfz32_0 hfz32_1 hfz32_2 hfz32_3 hfz32_4 hfz32_5 hfz32_6 hfz32_7 hfz32_8
     try clear hfz38_0 hfz38_1 hfz38_2 hfz38_3 hfz38_4 hfz38_5 hfz38_6 hfz38_7 hfz38_8
     try clear hfz42_0 hfz42_1 hfz42_2 hfz42_3 hfz42_4 hfz42_5 hfz42_6
     try clear hfz45_0 hfz45_1 hfz45_2 hfz45_3
     try clear hfz47_0 hfz47_1 hfz47_2 hfz47_3 hfz47_4 hfz47_5 hfz47_6 hfz47_7 hfz47_8
     try clear hfz53_0 hfz53_1 hfz53_2 hfz53_3 hfz53_4 hfz53_5 hfz53_6 hfz53_7 hfz53_8
     try clear hfz57_0 hfz57_1 hfz57_2 hfz57_3 hfz57_4 hfz57_5 hfz57_6
     try clear hfz60_0 hfz60_1 hfz60_2 hfz60_3
     try clear hfz71_0 hfz71_1 hfz71_2 hfz71_3 hfz71_4 hfz71_5 hfz71_6 hfz71_7 hfz71_8
     try clear hfz75_0 hfz75_1 hfz75_2 hfz75_3 hfz75_4 hfz75_5 hfz75_6
     try clear hfz78_0 hfz78_1 hfz78_2 hfz78_3
     try clear hfz80_0 hfz80_1
     try clear hfz81_0 hfz81_1 hfz81_2 hfz81_3 hfz81_4 hfz81_5
     try clear hfz90_0 hfz90_1 hfz90_2 hfz90_3 hfz90_4 hfz90_5 hfz90_6 hfz90_7 hfz90_8
     try clear hfz94_0 hfz94_1 hfz94_2 hfz94_3 hfz94_4 hfz94_5 hfz94_6
     try clear hfz97_0 hfz97_1 hfz97_2 hfz97_3
     try clear hfz99_0 hfz99_1
     try clear p2
     obtain ⟨kq, x20_65, rfl, HA, HJ65, HO_17, BK1012, BK1013, BK1014, BK1015, BK1016, HB⟩ := hcut
     cases kq with
     | zero => exact absurd HA.out (by simp [isobathlaw03_GliderBest.j1])
     | succ kj65 =>
      have H := HA.out
      clear HA
      simp only [isobathlaw03_GliderBest.j1] at H
      by_cases c102 : t1024 = 0
      ·rw [if_pos c102] at H
       have c102b0 : (t1024 == 0) = true := beq_iff_eq.mpr c102
       have c102b1 : (t1024 != 0) = false := bne_eq_false_iff_eq.mpr c102
       clear c102
       have HC103 := Aside0.mk H
       clear H
       go_upto_region 7 with (fail)
       go_cut [104] (fun v104 wc => ∃ (kq : Nat) (x104_102 : Bool), v104 = .bool x104_102 ∧ Aside0 (isobathlaw03_GliderBest.j2 kq a3 l7 t1020 t1023 x20_65 x104_102 a0_0 a0_1 a0_2 a0_3 a0_4 a0_5 a0_6 l0_7 l0_8 a1_0 a1_1 a1_2 a1_3 a1_4 a1_5 a1_6 a2_0 a2_1 a2_2 a2_3 a4_0 a4_1 a5_0 a5_1 a5_2 a5_3 a5_4 a5_5 = some r) ∧ Aside0 (kq ≤ kj65) ∧ Aside0 (Kd.R k33 33 wc w.heap.size (fun _ => True) v1021 t1020) ∧ Aside0 (wc.heap[gb1012]? = some (.cells #[.int .i64 a0_0, .int .i64 a0_1, .int .i64 a0_2, .int .i64 a0_3, .int .i64 a0_4, .int .i64 a0_5, .int .i64 a0_6, (.slice A0_7 l0_7.length c0_7), (.slice A0_8 l0_8.length c0_8)] 25 (0, 0))) ∧ Aside0 (wc.heap[gb1013]? = some (.cells #[.int .i64 a1_0, .int .i64 a1_1, .int .i64 a1_2, .int .i64 a1_3, .int .i64 a1_4, .int .i64 a1_5, .int .i64 a1_6] 29 (0, 0))) ∧ Aside0 (wc.heap[gb1014]? = some (.cells #[.int .i64 a2_0, .int .i64 a2_1, .int .i64 a2_2, .int .i64 a2_3] 31 (0, 0))) ∧ Aside0 (wc.heap[gb1015]? = some (.cells #[.int .i64 a4_0, .int .i64 a4_1] 27 (0, 0))) ∧ Aside0 (wc.heap[gb1016]? = some (.cells #[.int .i64 a5_0, .int .i64 a5_1, .int .i64 a5_2, .int .i64 a5_3, .int .i64 a5_4, .int .i64 a5_5] 81 (0, 0))) ∧ Aside0 (Below w.heap.size w wc))
       case first =>
        have H := HC103.out
        clear HC103
        by_cases c104 : (t1020.length : Int) < 1
        ·rw [if_pos c104] at H
         have c104b0 : decide ((t1020.length : Int) < 1) = true := decide_eq_true c104
         have c104b1 : decide (t1020.length < 1) = true := decide_eq_true (by omega)
         clear c104
         (first | rw [c104b0] | (simp only [i64_w, i32_w]; rw [c104b0]) | skip)
         have H' := Aside0.mk H
         clear H
         obtain ⟨Ao105, co105, eo105⟩ := Kd.R_slice HO_17.out
         subst eo105
         go_wp2
         go_meet
         case rel => exact ⟨_, (true), zq3, H', ⟨zq65⟩, ⟨zq66⟩, ⟨zbf⟩, ⟨zbf⟩, ⟨zbf⟩, ⟨zbf⟩, ⟨zbf⟩, ⟨zbz⟩⟩
        ·rw [if_neg c104] at H
         have c104b0 : decide ((t1020.length : Int) < 1) = false := decide_eq_false c104
         have c104b1 : decide (t1020.length < 1) = false := decide_eq_false (by omega)
         clear c104
         (first | rw [c104b0] | (simp only [i64_w, i32_w]; rw [c104b0]) | skip)
         by_cases c106 : (t1020.length : Int) > a6
         ·rw [if_pos c106] at H
          have c106b0 : decide (a6 < (t1020.length : Int)) = true := decide_eq_true c106
          clear c106
          have H' := Aside0.mk H
          clear H
          obtain ⟨Ao107, co107, eo107⟩ := Kd.R_slice HO_17.out
          subst eo107
          go_wp2
          go_meet
          case rel => exact ⟨_, (true), zq3, H', ⟨zq65⟩, ⟨zq66⟩, ⟨zbf⟩, ⟨zbf⟩, ⟨zbf⟩, ⟨zbf⟩, ⟨zbf⟩, ⟨zbz⟩⟩
         ·rw [if_neg c106] at H
          have c106b0 : decide (a6 < (t1020.length : Int)) = false := decide_eq_false c106
          clear c106
          have H' := Aside0.mk H
          clear H
          obtain ⟨Ao108, co108, eo108⟩ := Kd.R_slice HO_17.out
          subst eo108
          go_wp2
          go_meet
          case rel => exact ⟨_, (decide ((t1020.length : Int) > 3)), zq3, H', ⟨zq65⟩, ⟨zq66⟩, ⟨zbf⟩, ⟨zbf⟩, ⟨zbf⟩, ⟨zbf⟩, ⟨zbf⟩, ⟨zbz⟩⟩
       case rest =>
        clear HC103
        try clear c1
        try clear c2
        try clear p2
        try clear c3
        try clear c4
        try clear c5
        try clear c6
        try clear c7
        try clear c8
        try clear c9
        try clear c10
        try clear c15
        try clear c16
        try clear c18
        try clear c19
        try clear c20
        try clear c21
        try clear c22
        try clear c24
        try clear c25
        try clear c26
        try clear c28
        try clear c29
        try clear c34
        try clear c35
        try clear c36
        try clear c37
        try clear c39
        try clear c40
        try clear c41
        try clear c43
        try clear c44
        try clear c49
        try clear c50
        try clear c51
        try clear c52
        try clear c54
        try clear c55
        try clear c56
        try clear c57
        try clear c58
        try clear c59
        try clear c62
        try clear c67
        try clear c68
        try clear c69
        try clear c70
        try clear c72
        try clear c73
        try clear c74
        try clear c76
        try clear c77
        try clear c79
        try clear c83
        try clear c83b0
        try clear c83b1
        try clear c84
        try clear c84b0
        try clear c86
        try clear c87
        try clear c88
        try clear c89
        try clear c91
        try clear c92
        try clear c93
        try clear c95
        try clear c96
        try clear c98
        try clear c102
        try clear c102b0
        try clear c102b1
        try clear c104
        try clear c104b0
        try clear c104b1
        try clear c106
        try clear c106b0
        try clear hcz100_0 hcz100_1 hcz100_2 hcz100_3 hcz100_4 hcz100_5
        try clear hcz23_0 hcz23_1 hcz23_2 hcz23_3 hcz23_4 hcz23_5 hcz23_6 hcz23_7 hcz23_8
        try clear hcz27_0 hcz27_1 hcz27_2 hcz27_3 hcz27_4 hcz27_5 hcz27_6
        try clear hcz30_0 hcz30_1 hcz30_2 hcz30_3
        try clear hcz32_0 hcz32_1 hcz32_2 hcz32_3 hcz32_4 hcz32_5 hcz32_6 hcz32_7 hcz32_8
        try clear hcz38_0 hcz38_1 hcz38_2 hcz38_3 hcz38_4 hcz38_5 hcz38_6 hcz38_7 hcz38_8
        try clear hcz42_0 hcz42_1 hcz42_2 hcz42_3 hcz42_4 hcz42_5 hcz42_6
        try clear hcz45_0 hcz45_1 hcz45_2 hcz45_3
        try clear hcz47_0 hcz47_1 hcz47_2 hcz47_3 hcz47_4 hcz47_5 hcz47_6 hcz47_7 hcz47_8
        try clear hcz53_0 hcz53_1 hcz53_2 hcz53_3 hcz53_4 hcz53_5 hcz53_6 hcz53_7 hcz53_8
        try clear hcz57_0 hcz57_1 hcz57_2 hcz57_3 hcz57_4 hcz57_5 hcz57_6
        try clear hcz60_0 hcz60_1 hcz60_2 hcz60_3
        try clear hcz71_0 hcz71_1 hcz71_2 hcz71_3 hcz71_4 hcz71_5 hcz71_6 hcz71_7 hcz71_8
        try clear hcz75_0 hcz75_1 hcz75_2 hcz75_3 hcz75_4 hcz75_5 hcz75_6
        try clear hcz78_0 hcz78_1 hcz78_2 hcz78_3
        try clear hcz80_0 hcz80_1
        try clear hcz81_0 hcz81_1 hcz81_2 hcz81_3 hcz81_4 hcz81_5
        try clear hcz90_0 hcz90_1 hcz90_2 hcz90_3 hcz90_4 hcz90_5 hcz90_6 hcz90_7 hcz90_8
        try clear hcz94_0 hcz94_1 hcz94_2 hcz94_3 hcz94_4 hcz94_5 hcz94_6
        try clear hcz97_0 hcz97_1 hcz97_2 hcz97_3
        try clear hcz99_0 hcz99_1
        try clear hfz100_0 hfz100_1 hfz100_2 hfz100_3 hfz100_4 hfz100_5
        try clear hfz23_0 hfz23_1 hfz23_2 hfz23_3 hfz23_4 hfz23_5 hfz23_6 hfz23_7 hfz23_8
        try clear hfz27_0 hfz27_1 hfz27_2 hfz27_3 hfz27_4 hfz27_5 hfz27_6
        try clear hfz30_0 hfz30_1 hfz30_2 hfz30_3
        try clear hfz32_0 hfz32_1 hfz32_2 hfz32_3 hfz32_4 hfz32_5 hfz32_6 hfz32_7 hfz32_8
        try clear hfz38_0 hfz38_1 hfz38_2 hfz38_3 hfz38_4 hfz38_5 hfz38_6 hfz38_7 hfz38_8
        try clear hfz42_0 hfz42_1 hfz42_2 hfz42_3 hfz42_4 hfz42_5 hfz42_6
        try clear hfz45_0 hfz45_1 hfz45_2 hfz45_3
        try clear hfz47_0 hfz47_1 hfz47_2 hfz47_3 hfz47_4 hfz47_5 hfz47_6 hfz47_7 hfz47_8
        try clear hfz53_0 hfz53_1 hfz53_2 hfz53_3 hfz53_4 hfz53_5 hfz53_6 hfz53_7 hfz53_8
        try clear hfz57_0 hfz57_1 hfz57_2 hfz57_3 hfz57_4 hfz57_5 hfz57_6
        try clear hfz60_0 hfz60_1 hfz60_2 hfz60_3
        try clear hfz71_0 hfz71_1 hfz71_2 hfz71_3 hfz71_4 hfz71_5 hfz71_6 hfz71_7 hfz71_8
        try clear hfz75_0 hfz75_1 hfz75_2 hfz75_3 hfz75_4 hfz75_5 hfz75_6
        try clear hfz78_0 hfz78_1 hfz78_2 hfz78_3
        try clear hfz80_0 hfz80_1
        try clear hfz81_0 hfz81_1 hfz81_2 hfz81_3 hfz81_4 hfz81_5
        try clear hfz90_0 hfz90_1 hfz90_2 hfz90_3 hfz90_4 hfz90_5 hfz90_6 hfz90_7 hfz90_8
        try clear hfz94_0 hfz94_1 hfz94_2 hfz94_3 hfz94_4 hfz94_5 hfz94_6
        try clear hfz97_0 hfz97_1 hfz97_2 hfz97_3
        try clear hfz99_0 hfz99_1
        try clear p2
        obtain ⟨kq, x104_102, rfl, HA, HJ102, HO_17, BK1012, BK1013, BK1014, BK1015, BK1016, HB⟩ := hcut
        cases kq with
        | zero => exact absurd HA.out (by simp [isobathlaw03_GliderBest.j2])
        | succ kj102 =>
         have H := HA.out
         clear HA
         simp only [isobathlaw03_GliderBest.j2] at H
         by_cases c109 : x104_102 = true
         ·subst c109
          have H1 : (some false) = some r := by rw [if_pos rfl] at H; exact H
          clear H
          have H := H1
          clear H1
          have hh_ := Option.some.inj H
          rw [hr_.out] at hh_
          cases hh_
         ·replace c109 := Bool.eq_false_iff.mpr c109
          subst c109
          have H1 : (isobathlaw03_GliderBest.l0 kj102 a3 l7 t1020 t1023 x20_65 0 a0_0 a0_1 a0_2 a0_3 a0_4 a0_5 a0_6 l0_7 l0_8 a1_0 a1_1 a1_2 a1_3 a1_4 a1_5 a1_6 a2_0 a2_1 a2_2 a2_3 a4_0 a4_1 a5_0 a5_1 a5_2 a5_3 a5_4 a5_5) = some r := by rw [if_neg (show ¬ (false = true) by decide)] at H; exact H
          clear H
          have H := H1
          clear H1
          have H' := Aside0.mk H
          clear H
          go_wp2
          go_loopg [21] kj102 (fun kq v21 w' => ∃ (x21_4 : Int), v21 = .int .i64 x21_4 ∧ Aside0 (isobathlaw03_GliderBest.l0 kq a3 l7 t1020 t1023 x20_65 x21_4 a0_0 a0_1 a0_2 a0_3 a0_4 a0_5 a0_6 l0_7 l0_8 a1_0 a1_1 a1_2 a1_3 a1_4 a1_5 a1_6 a2_0 a2_1 a2_2 a2_3 a4_0 a4_1 a5_0 a5_1 a5_2 a5_3 a5_4 a5_5 = some r) ∧ Aside0 (kq ≤ kj102) ∧ Aside0 (Kd.R k33 33 w' w.heap.size (fun _ => True) v1021 t1020) ∧ Aside0 (w'.heap[gb1012]? = some (.cells #[.int .i64 a0_0, .int .i64 a0_1, .int .i64 a0_2, .int .i64 a0_3, .int .i64 a0_4, .int .i64 a0_5, .int .i64 a0_6, (.slice A0_7 l0_7.length c0_7), (.slice A0_8 l0_8.length c0_8)] 25 (0, 0))) ∧ Aside0 (w'.heap[gb1013]? = some (.cells #[.int .i64 a1_0, .int .i64 a1_1, .int .i64 a1_2, .int .i64 a1_3, .int .i64 a1_4, .int .i64 a1_5, .int .i64 a1_6] 29 (0, 0))) ∧ Aside0 (w'.heap[gb1014]? = some (.cells #[.int .i64 a2_0, .int .i64 a2_1, .int .i64 a2_2, .int .i64 a2_3] 31 (0, 0))) ∧ Aside0 (w'.heap[gb1015]? = some (.cells #[.int .i64 a4_0, .int .i64 a4_1] 27 (0, 0))) ∧ Aside0 (w'.heap[gb1016]? = some (.cells #[.int .i64 a5_0, .int .i64 a5_1, .int .i64 a5_2, .int .i64 a5_3, .int .i64 a5_4, .int .i64 a5_5] 81 (0, 0))) ∧ Aside0 (Below w.heap.size w w'))
          case atStart => exact ⟨(0), zq3, H', ⟨Nat.le_refl _⟩, ⟨zq66⟩, ⟨zbf⟩, ⟨zbf⟩, ⟨zbf⟩, ⟨zbf⟩, ⟨zbf⟩, ⟨zbz⟩⟩
          case round =>
           clear H'
           try clear c1
           try clear c2
           try clear p2
           try clear c3
           try clear c4
           try clear c5
           try clear c6
           try clear c7
           try clear c8
           try clear c9
           try clear c10
           try clear c15
           try clear c16
           try clear c18
           try clear c19
           try clear c20
           try clear c21
           try clear c22
           try clear c24
           try clear c25
           try clear c26
           try clear c28
           try clear c29
           try clear c34
           try clear c35
           try clear c36
           try clear c37
           try clear c39
           try clear c40
           try clear c41
           try clear c43
           try clear c44
           try clear c49
           try clear c50
           try clear c51
           try clear c52
           try clear c54
           try clear c55
           try clear c56
           try clear c57
           try clear c58
           try clear c59
           try clear c62
           try clear c67
           try clear c68
           try clear c69
           try clear c70
           try clear c72
           try clear c73
           try clear c74
           try clear c76
           try clear c77
           try clear c79
           try clear c83
           try clear c83b0
           try clear c83b1
           try clear c84
           try clear c84b0
           try clear c86
           try clear c87
           try clear c88
           try clear c89
           try clear c91
           try clear c92
           try clear c93
           try clear c95
           try clear c96
           try clear c98
           try clear c102
           try clear c102b0
           try clear c102b1
           try clear c104
           try clear c104b0
           try clear c104b1
           try clear c106
           try clear c106b0
           try clear c109
           try clear hcz100_0 hcz100_1 hcz100_2 hcz100_3 hcz100_4 hcz100_5
           try clear hcz23_0 hcz23_1 hcz23_2 hcz23_3 hcz23_4 hcz23_5 hcz23_6 hcz23_7 hcz23_8
           try clear hcz27_0 hcz27_1 hcz27_2 hcz27_3 hcz27_4 hcz27_5 hcz27_6
           try clear hcz30_0 hcz30_1 hcz30_2 hcz30_3
           try clear hcz32_0 hcz32_1 hcz32_2 hcz32_3 hcz32_4 hcz32_5 hcz32_6 hcz32_7 hcz32_8
           try clear hcz38_0 hcz38_1 hcz38_2 hcz38_3 hcz38_4 hcz38_5 hcz38_6 hcz38_7 hcz38_8
           try clear hcz42_0 hcz42_1 hcz42_2 hcz42_3 hcz42_4 hcz42_5 hcz42_6
           try clear hcz45_0 hcz45_1 hcz45_2 hcz45_3
           try clear hcz47_0 hcz47_1 hcz47_2 hcz47_3 hcz47_4 hcz47_5 hcz47_6 hcz47_7 hcz47_8
           try clear hcz53_0 hcz53_1 hcz53_2 hcz53_3 hcz53_4 hcz53_5 hcz53_6 hcz53_7 hcz53_8
           try clear hcz57_0 hcz57_1 hcz57_2 hcz57_3 hcz57_4 hcz57_5 hcz57_6
           try clear hcz60_0 hcz60_1 hcz60_2 hcz60_3
           try clear hcz71_0 hcz71_1 hcz71_2 hcz71_3 hcz71_4 hcz71_5 hcz71_6 hcz71_7 hcz71_8
           try clear hcz75_0 hcz75_1 hcz75_2 hcz75_3 hcz75_4 hcz75_5 hcz75_6
           try clear hcz78_0 hcz78_1 hcz78_2 hcz78_3
           try clear hcz80_0 hcz80_1
           try clear hcz81_0 hcz81_1 hcz81_2 hcz81_3 hcz81_4 hcz81_5
           try clear hcz90_0 hcz90_1 hcz90_2 hcz90_3 hcz90_4 hcz90_5 hcz90_6 hcz90_7 hcz90_8
           try clear hcz94_0 hcz94_1 hcz94_2 hcz94_3 hcz94_4 hcz94_5 hcz94_6
           try clear hcz97_0 hcz97_1 hcz97_2 hcz97_3
           try clear hcz99_0 hcz99_1
           try clear hfz100_0 hfz100_1 hfz100_2 hfz100_3 hfz100_4 hfz100_5
           try clear hfz23_0 hfz23_1 hfz23_2 hfz23_3 hfz23_4 hfz23_5 hfz23_6 hfz23_7 hfz23_8
           try clear hfz27_0 hfz27_1 hfz27_2 hfz27_3 hfz27_4 hfz27_5 hfz27_6
           try clear hfz30_0 hfz30_1 hfz30_2 hfz30_3
           try clear hfz32_0 hfz32_1 hfz32_2 hfz32_3 hfz32_4 hfz32_5 hfz32_6 hfz32_7 hfz32_8
           try clear hfz38_0 hfz38_1 hfz38_2 hfz38_3 hfz38_4 hfz38_5 hfz38_6 hfz38_7 hfz38_8
           try clear hfz42_0 hfz42_1 hfz42_2 hfz42_3 hfz42_4 hfz42_5 hfz42_6
           try clear hfz45_0 hfz45_1 hfz45_2 hfz45_3
           try clear hfz47_0 hfz47_1 hfz47_2 hfz47_3 hfz47_4 hfz47_5 hfz47_6 hfz47_7 hfz47_8
           try clear hfz53_0 hfz53_1 hfz53_2 hfz53_3 hfz53_4 hfz53_5 hfz53_6 hfz53_7 hfz53_8
           try clear hfz57_0 hfz57_1 hfz57_2 hfz57_3 hfz57_4 hfz57_5 hfz57_6
           try clear hfz60_0 hfz60_1 hfz60_2 hfz60_3
           try clear hfz71_0 hfz71_1 hfz71_2 hfz71_3 hfz71_4 hfz71_5 hfz71_6 hfz71_7 hfz71_8
           try clear hfz75_0 hfz75_1 hfz75_2 hfz75_3 hfz75_4 hfz75_5 hfz75_6
           try clear hfz78_0 hfz78_1 hfz78_2 hfz78_3
           try clear hfz80_0 hfz80_1
           try clear hfz81_0 hfz81_1 hfz81_2 hfz81_3 hfz81_4 hfz81_5
           try clear hfz90_0 hfz90_1 hfz90_2 hfz90_3 hfz90_4 hfz90_5 hfz90_6 hfz90_7 hfz90_8
           try clear hfz94_0 hfz94_1 hfz94_2 hfz94_3 hfz94_4 hfz94_5 hfz94_6
           try clear hfz97_0 hfz97_1 hfz97_2 hfz97_3
           try clear hfz99_0 hfz99_1
           try clear p2
           obtain ⟨x21_4, rfl, HA, HK4, HO_17, BK1012, BK1013, BK1014, BK1015, BK1016, HB⟩ := hrel
           cases gk with
           | zero => exact absurd HA.out (by simp [isobathlaw03_GliderBest.l0])
           | succ k4 =>
            have H := HA.out
            clear HA
            simp only [isobathlaw03_GliderBest.l0] at H
            by_cases c110 : x21_4 < (t1020.length : Int)
            ·rw [if_pos c110] at H
             have c110b0 : decide (x21_4 < (t1020.length : Int)) = true := decide_eq_true c110
             clear c110
             by_cases c111 : 0 ≤ x21_4
             ·rw [if_pos c111] at H
              have c111b0 : decide (0 ≤ x21_4) = true := decide_eq_true c111
              clear c111
              by_cases c112 : ((rd_T33 t1020 x21_4).f0) < 0
              ·rw [if_pos c112] at H
               have c112b0 : decide (((rd_T33 t1020 x21_4).f0) < 0) = true := decide_eq_true c112
               clear c112
               have hh_ := Option.some.inj H
               rw [hr_.out] at hh_
               cases hh_
              ·rw [if_neg c112] at H
               have c112b0 : decide (((rd_T33 t1020 x21_4).f0) < 0) = false := decide_eq_false c112
               clear c112
               by_cases c114 : ((rd_T33 t1020 x21_4).f0) > 8
               ·rw [if_pos c114] at H
                have c114b0 : decide (8 < ((rd_T33 t1020 x21_4).f0)) = true := decide_eq_true c114
                clear c114
                have hh_ := Option.some.inj H
                rw [hr_.out] at hh_
                cases hh_
               ·rw [if_neg c114] at H
                have c114b0 : decide (8 < ((rd_T33 t1020 x21_4).f0)) = false := decide_eq_false c114
                clear c114
                have H' := Aside0.mk H
                clear H
                obtain ⟨Ao116, co116, eo116⟩ := Kd.R_slice HO_17.out
                subst eo116
                have p1028 : 0 ≤ (x21_4 : Int) := of_decide_eq_true zq8
                have q1028 : x21_4 < (t1020.length : Int) := of_decide_eq_true zq8
                obtain ⟨ad1028, e1028, hx1028_0, hx1028_1⟩ := at_T33 (Kd.R_reads' HO_17.out).2.2 x21_4 p1028 q1028
                cases e1028
                replace p1028 := eq_true p1028
                replace q1028 := eq_true q1028
                have p1029 : 0 ≤ (x21_4 : Int) := of_decide_eq_true zq8
                have q1029 : x21_4 < (t1020.length : Int) := of_decide_eq_true zq8
                obtain ⟨ad1029, e1029, hx1029_0, hx1029_1⟩ := at_T33 (Kd.R_reads' HO_17.out).2.2 x21_4 p1029 q1029
                obtain rfl : ad1028 = ad1029 := (by injection e1029)
                replace p1029 := eq_true p1029
                replace q1029 := eq_true q1029
                go_wp2
                go_roundg k4
                case measure => have := HJ8.out; have := HJ65.out; have := HJ102.out; have := HK4.out; omega
                case rel => exact ⟨(wrap64 (x21_4 + 1)), zq3, H', ⟨by have := HJ8.out; have := HJ65.out; have := HJ102.out; have := HK4.out; omega⟩, ⟨zq66⟩, ⟨zbf⟩, ⟨zbf⟩, ⟨zbf⟩, ⟨zbf⟩, ⟨zbf⟩, ⟨zbz⟩⟩
             ·rw [if_neg c111] at H
              exact absurd H (by simp)
            ·rw [if_neg c110] at H
             have c110b0 : decide (x21_4 < (t1020.length : Int)) = false := decide_eq_false c110
             clear c110
             have HC117 := Aside0.mk H
             clear H
             obtain ⟨Ao118, co118, eo118⟩ := Kd.R_slice HO_17.out
             subst eo118
             go_upto_region 14 with (fail)
             go_cut [140] (fun v140 wc => ∃ (kq : Nat) (x140_116 : Bool), v140 = .bool x140_116 ∧ Aside0 (isobathlaw03_GliderBest.j4 kq l7 t1023 x20_65 x140_116 a1_0 a1_1 a1_2 a1_3 a1_4 a1_5 a1_6 = some r) ∧ Aside0 (kq ≤ k4) ∧ Aside0 (wc.heap[gb1012]? = some (.cells #[.int .i64 a0_0, .int .i64 a0_1, .int .i64 a0_2, .int .i64 a0_3, .int .i64 a0_4, .int .i64 a0_5, .int .i64 a0_6, (.slice A0_7 l0_7.length c0_7), (.slice A0_8 l0_8.length c0_8)] 25 (0, 0))) ∧ Aside0 (wc.heap[gb1013]? = some (.cells #[.int .i64 a1_0, .int .i64 a1_1, .int .i64 a1_2, .int .i64 a1_3, .int .i64 a1_4, .int .i64 a1_5, .int .i64 a1_6] 29 (0, 0))) ∧ Aside0 (wc.heap[gb1014]? = some (.cells #[.int .i64 a2_0, .int .i64 a2_1, .int .i64 a2_2, .int .i64 a2_3] 31 (0, 0))) ∧ Aside0 (wc.heap[gb1015]? = some (.cells #[.int .i64 a4_0, .int .i64 a4_1] 27 (0, 0))) ∧ Aside0 (wc.heap[gb1016]? = some (.cells #[.int .i64 a5_0, .int .i64 a5_1, .int .i64 a5_2, .int .i64 a5_3, .int .i64 a5_4, .int .i64 a5_5] 81 (0, 0))) ∧ Aside0 (Below w.heap.size w wc))
             case first =>
              have H := HC117.out
              clear HC117
              replace H := Option.bind_eq_some_iff.mp H
              obtain ⟨t1030, A1190, H⟩ := H
              replace H : (if t1030 = 0 then ((isobathref03_Cost.f k4 a1_0 a1_1 a1_2 a1_3 a1_4 a1_5 a1_6 t1020).bind fun t1031 => (isobathlaw03_GliderBest.j4 k4 l7 t1023 x20_65 (t1031 != t1023) a1_0 a1_1 a1_2 a1_3 a1_4 a1_5 a1_6)) else (isobathlaw03_GliderBest.j4 k4 l7 t1023 x20_65 true a1_0 a1_1 a1_2 a1_3 a1_4 a1_5 a1_6)) = some r := H
              have A119 := Aside0.mk A1190
              clear A1190
              by_cases c120 : t1030 = 0
              ·rw [if_pos c120] at H
               have c120b0 : (t1030 == 0) = true := beq_iff_eq.mpr c120
               have c120b1 : (t1030 != 0) = false := bne_eq_false_iff_eq.mpr c120
               clear c120
               (first | rw [c120b0] | (simp only [i64_w, i32_w]; rw [c120b0]) | skip)
               replace H := Option.bind_eq_some_iff.mp H
               obtain ⟨t1031, A1210, H⟩ := H
               replace H : (isobathlaw03_GliderBest.j4 k4 l7 t1023 x20_65 (t1031 != t1023) a1_0 a1_1 a1_2 a1_3 a1_4 a1_5 a1_6) = some r := H
               have A121 := Aside0.mk A1210
               clear A1210
               have H' := Aside0.mk H
               clear H
               have hnb122 := NB1012_1013.out
               have hnc122 := NB1013_1012.out
               have hnb123 := NB1012_1014.out
               have hnc123 := NB1014_1012.out
               have hnb124 := NB1012_1015.out
               have hnc124 := NB1015_1012.out
               have hnb125 := NB1012_1016.out
               have hnc125 := NB1016_1012.out
               obtain ⟨hcz126_0, hcz126_1, hcz126_2, hcz126_3, hcz126_4, hcz126_5, hcz126_6, hcz126_7, hcz126_8, hfz126_0, hfz126_1, hfz126_2, hfz126_3, hfz126_4, hfz126_5, hfz126_6, hfz126_7, hfz126_8⟩ := zce9 BK1012.out
               have hnb127 := NB1013_1014.out
               have hnc127 := NB1014_1013.out
               have hnb128 := NB1013_1015.out
               have hnc128 := NB1015_1013.out
               have hnb129 := NB1013_1016.out
               have hnc129 := NB1016_1013.out
               obtain ⟨hcz130_0, hcz130_1, hcz130_2, hcz130_3, hcz130_4, hcz130_5, hcz130_6, hfz130_0, hfz130_1, hfz130_2, hfz130_3, hfz130_4, hfz130_5, hfz130_6⟩ := zce7 BK1013.out
               have hnb131 := NB1014_1015.out
               have hnc131 := NB1015_1014.out
               have hnb132 := NB1014_1016.out
               have hnc132 := NB1016_1014.out
               obtain ⟨hcz133_0, hcz133_1, hcz133_2, hcz133_3, hfz133_0, hfz133_1, hfz133_2, hfz133_3⟩ := zce4 BK1014.out
               have hnb134 := NB1015_1016.out
               have hnc134 := NB1016_1015.out
               obtain ⟨hcz135_0, hcz135_1, hfz135_0, hfz135_1⟩ := zce2 BK1015.out
               obtain ⟨hcz136_0, hcz136_1, hcz136_2, hcz136_3, hcz136_4, hcz136_5, hfz136_0, hfz136_1, hfz136_2, hfz136_3, hfz136_4, hfz136_5⟩ := zce6 BK1016.out
               go_wp2_with (first | ((with_reducible refine gate_callee (f := 48) rfl ?_); refine goesL_ (some 132) rfl rfl Try.func48 zq5 rfl #[.agg #[.int .i64 a0_0, .int .i64 a0_1, .int .i64 a0_2, .int .i64 a0_3, .int .i64 a0_4, .int .i64 a0_5, .int .i64 a0_6, .slice A0_7 l0_7.length c0_7, .slice A0_8 l0_8.length c0_8], .agg #[.int .i64 a1_0, .int .i64 a1_1, .int .i64 a1_2, .int .i64 a1_3, .int .i64 a1_4, .int .i64 a1_5, .int .i64 a1_6], .agg #[.int .i64 a2_0, .int .i64 a2_1, .int .i64 a2_2, .int .i64 a2_3], .int .i64 a3, .agg #[.int .i64 a4_0, .int .i64 a4_1], .slice Ao118 t1020.length co118, .agg #[.int .i64 a5_0, .int .i64 a5_1, .int .i64 a5_2, .int .i64 a5_3, .int .i64 a5_4, .int .i64 a5_5]] rfl zq6 ?_; (with_reducible refine (glider_CheckPlan.calls a0_0 a0_1 a0_2 a0_3 a0_4 a0_5 a0_6 _ _ l0_7 _ _ l0_8 a1_0 a1_1 a1_2 a1_3 a1_4 a1_5 a1_6 a2_0 a2_1 a2_2 a2_3 a3 a4_0 a4_1 _ _ t1020 a5_0 a5_1 a5_2 a5_3 a5_4 a5_5 t1030 _ ?side1 ?side2 ?side3 ?side4 ?side5 ?side6 A119.out).mono ?_); (case side1 => repeat (first | exact (Kd.C_below HR0_7.out HB.out) | (with_reducible refine Kd.C_alloc ?_ _) | (with_reducible refine Kd.C_drewN ?_ _) | (with_reducible refine Kd.C_drew ?_))); (case side2 => exact HC0_7.out); (case side3 => repeat (first | exact (Kd.C_below HR0_8.out HB.out) | (with_reducible refine Kd.C_alloc ?_ _) | (with_reducible refine Kd.C_drewN ?_ _) | (with_reducible refine Kd.C_drew ?_))); (case side4 => exact HC0_8.out); (case side5 => repeat (first | exact (Kd.R_reads' HO_17.out).2.2 | (with_reducible refine Kd.C_alloc ?_ _) | (with_reducible refine Kd.C_drewN ?_ _) | (with_reducible refine Kd.C_drew ?_))); (case side6 => exact (Kd.R_reads' HO_17.out).2.1); rintro e w137 ⟨rfl, hb⟩; refine ⟨_, rfl, ?_⟩; replace HO_17 := zrb HO_17 hb; replace BK1012 := zbb BK1012 hb; replace BK1013 := zbb BK1013 hb; replace BK1014 := zbb BK1014 hb; replace BK1015 := zbb BK1015 hb; replace BK1016 := zbb BK1016 hb; replace HB := zbs HB hb; (try clear hb); (try clear hb2); (try clear hk); (try clear hi); obtain ⟨hcz138_0, hcz138_1, hcz138_2, hcz138_3, hcz138_4, hcz138_5, hcz138_6, hfz138_0, hfz138_1, hfz138_2, hfz138_3, hfz138_4, hfz138_5, hfz138_6⟩ := zce7 BK1013.out) | (go_at_call 60; (with_reducible refine (isobathref03_Cost.calls k4 a1_0 a1_1 a1_2 a1_3 a1_4 a1_5 a1_6 _ _ t1020 t1031 _ ?side1 ?side2 A121.out).mono ?_); (case side1 => repeat (first | exact (Kd.R_reads' HO_17.out).2.2 | (with_reducible refine Kd.C_alloc ?_ _) | (with_reducible refine Kd.C_drewN ?_ _) | (with_reducible refine Kd.C_drew ?_))); (case side2 => exact (Kd.R_reads' HO_17.out).2.1); rintro e w139 ⟨rfl, hb⟩; replace HO_17 := zrb HO_17 hb; replace BK1012 := zbb BK1012 hb; replace BK1013 := zbb BK1013 hb; replace BK1014 := zbb BK1014 hb; replace BK1015 := zbb BK1015 hb; replace BK1016 := zbb BK1016 hb; replace HB := zbs HB hb; (try clear hb); (try clear hb2); (try clear hk); (try clear hi)))
               go_meet
               case rel => exact ⟨_, ((t1031 != t1023)), zq3, H', ⟨by have := HJ8.out; have := HJ65.out; have := HJ102.out; have := HK4.out; first | omega | exact Nat.le_refl _⟩, ⟨zbf⟩, ⟨zbf⟩, ⟨zbf⟩, ⟨zbf⟩, ⟨zbf⟩, ⟨zbz⟩⟩
              ·rw [if_neg c120] at H
               have c120b0 : (t1030 == 0) = false := beq_eq_false_iff_ne.mpr c120
               have c120b1 : (t1030 != 0) = true := bne_iff_ne.mpr c120
               (first | rw [c120b0] | (simp only [i64_w, i32_w]; rw [c120b0]) | skip)
               have H' := Aside0.mk H
               clear H
               have hnb140 := NB1012_1013.out
               have hnc140 := NB1013_1012.out
               have hnb141 := NB1012_1014.out
               have hnc141 := NB1014_1012.out
               have hnb142 := NB1012_1015.out
               have hnc142 := NB1015_1012.out
               have hnb143 := NB1012_1016.out
               have hnc143 := NB1016_1012.out
               obtain ⟨hcz144_0, hcz144_1, hcz144_2, hcz144_3, hcz144_4, hcz144_5, hcz144_6, hcz144_7, hcz144_8, hfz144_0, hfz144_1, hfz144_2, hfz144_3, hfz144_4, hfz144_5, hfz144_6, hfz144_7, hfz144_8⟩ := zce9 BK1012.out
               have hnb145 := NB1013_1014.out
               have hnc145 := NB1014_1013.out
               have hnb146 := NB1013_1015.out
               have hnc146 := NB1015_1013.out
               have hnb147 := NB1013_1016.out
               have hnc147 := NB1016_1013.out
               obtain ⟨hcz148_0, hcz148_1, hcz148_2, hcz148_3, hcz148_4, hcz148_5, hcz148_6, hfz148_0, hfz148_1, hfz148_2, hfz148_3, hfz148_4, hfz148_5, hfz148_6⟩ := zce7 BK1013.out
               have hnb149 := NB1014_1015.out
               have hnc149 := NB1015_1014.out
               have hnb150 := NB1014_1016.out
               have hnc150 := NB1016_1014.out
               obtain ⟨hcz151_0, hcz151_1, hcz151_2, hcz151_3, hfz151_0, hfz151_1, hfz151_2, hfz151_3⟩ := zce4 BK1014.out
               have hnb152 := NB1015_1016.out
               have hnc152 := NB1016_1015.out
               obtain ⟨hcz153_0, hcz153_1, hfz153_0, hfz153_1⟩ := zce2 BK1015.out
               obtain ⟨hcz154_0, hcz154_1, hcz154_2, hcz154_3, hcz154_4, hcz154_5, hfz154_0, hfz154_1, hfz154_2, hfz154_3, hfz154_4, hfz154_5⟩ := zce6 BK1016.out
               go_wp2_with (first | ((with_reducible refine gate_callee (f := 48) rfl ?_); refine goesL_ (some 132) rfl rfl Try.func48 zq5 rfl #[.agg #[.int .i64 a0_0, .int .i64 a0_1, .int .i64 a0_2, .int .i64 a0_3, .int .i64 a0_4, .int .i64 a0_5, .int .i64 a0_6, .slice A0_7 l0_7.length c0_7, .slice A0_8 l0_8.length c0_8], .agg #[.int .i64 a1_0, .int .i64 a1_1, .int .i64 a1_2, .int .i64 a1_3, .int .i64 a1_4, .int .i64 a1_5, .int .i64 a1_6], .agg #[.int .i64 a2_0, .int .i64 a2_1, .int .i64 a2_2, .int .i64 a2_3], .int .i64 a3, .agg #[.int .i64 a4_0, .int .i64 a4_1], .slice Ao118 t1020.length co118, .agg #[.int .i64 a5_0, .int .i64 a5_1, .int .i64 a5_2, .int .i64 a5_3, .int .i64 a5_4, .int .i64 a5_5]] rfl zq6 ?_; (with_reducible refine (glider_CheckPlan.calls a0_0 a0_1 a0_2 a0_3 a0_4 a0_5 a0_6 _ _ l0_7 _ _ l0_8 a1_0 a1_1 a1_2 a1_3 a1_4 a1_5 a1_6 a2_0 a2_1 a2_2 a2_3 a3 a4_0 a4_1 _ _ t1020 a5_0 a5_1 a5_2 a5_3 a5_4 a5_5 t1030 _ ?side1 ?side2 ?side3 ?side4 ?side5 ?side6 A119.out).mono ?_); (case side1 => repeat (first | exact (Kd.C_below HR0_7.out HB.out) | (with_reducible refine Kd.C_alloc ?_ _) | (with_reducible refine Kd.C_drewN ?_ _) | (with_reducible refine Kd.C_drew ?_))); (case side2 => exact HC0_7.out); (case side3 => repeat (first | exact (Kd.C_below HR0_8.out HB.out) | (with_reducible refine Kd.C_alloc ?_ _) | (with_reducible refine Kd.C_drewN ?_ _) | (with_reducible refine Kd.C_drew ?_))); (case side4 => exact HC0_8.out); (case side5 => repeat (first | exact (Kd.R_reads' HO_17.out).2.2 | (with_reducible refine Kd.C_alloc ?_ _) | (with_reducible refine Kd.C_drewN ?_ _) | (with_reducible refine Kd.C_drew ?_))); (case side6 => exact (Kd.R_reads' HO_17.out).2.1); rintro e w155 ⟨rfl, hb⟩; refine ⟨_, rfl, ?_⟩; replace HO_17 := zrb HO_17 hb; replace BK1012 := zbb BK1012 hb; replace BK1013 := zbb BK1013 hb; replace BK1014 := zbb BK1014 hb; replace BK1015 := zbb BK1015 hb; replace BK1016 := zbb BK1016 hb; replace HB := zbs HB hb; (try clear hb); (try clear hb2); (try clear hk); (try clear hi)))
               go_meet
               case rel => exact ⟨_, (true), zq3, H', ⟨by have := HJ8.out; have := HJ65.out; have := HJ102.out; have := HK4.out; first | omega | exact Nat.le_refl _⟩, ⟨zbf⟩, ⟨zbf⟩, ⟨zbf⟩, ⟨zbf⟩, ⟨zbf⟩, ⟨zbz⟩⟩
             case rest =>
              clear HC117
              try clear c1
              try clear p1
              try clear q1
              try clear hx1
              try clear p2
              try clear c3
              try clear c4
              try clear c5
              try clear c6
              try clear p6
              try clear c7
              try clear c8
              try clear c9
              try clear c10
              try clear p10
              try clear q10
              try clear hx10
              try clear c11
              try clear c12
              try clear c13
              try clear c14
              try clear c15
              try clear c34
              try clear c35
              try clear c36
              try clear c37
              try clear c39
              try clear c40
              try clear c41
              try clear c43
              try clear c44
              try clear c48
              try clear c49
              try clear c50
              try clear c51
              try clear c52
              try clear c54
              try clear c55
              try clear c56
              try clear c57
              try clear c58
              try clear c59
              try clear c62
              try clear p64
              try clear c67
              try clear c68
              try clear c69
              try clear c70
              try clear c72
              try clear c73
              try clear c74
              try clear c76
              try clear c77
              try clear c79
              try clear c83
              try clear c83b0
              try clear c83b1
              try clear c84
              try clear c84b0
              try clear c86
              try clear c87
              try clear c88
              try clear c89
              try clear c91
              try clear c92
              try clear c93
              try clear c95
              try clear c96
              try clear c98
              try clear c102
              try clear c102b0
              try clear c102b1
              try clear p102
              try clear q102
              try clear hx102
              try clear c104
              try clear c104b0
              try clear c104b1
              try clear c106
              try clear c106b0
              try clear c109
              try clear c110
              try clear c110b0
              try clear c111
              try clear c111b0
              try clear c112
              try clear c112b0
              try clear c114
              try clear c114b0
              try clear c120
              try clear c120b0
              try clear c120b1
              try clear c122
              try clear c123
              try clear c124
              try clear c125
              try clear c127
              try clear c128
              try clear c129
              try clear c131
              try clear c132
              try clear c134
              try clear c140
              try clear c141
              try clear c142
              try clear c143
              try clear c145
              try clear c146
              try clear c147
              try clear c149
              try clear c150
              try clear c152
              try clear hcz100_0 hcz100_1 hcz100_2 hcz100_3 hcz100_4 hcz100_5
              try clear hcz126_0 hcz126_1 hcz126_2 hcz126_3 hcz126_4 hcz126_5 hcz126_6 hcz126_7 hcz126_8
              try clear hcz130_0 hcz130_1 hcz130_2 hcz130_3 hcz130_4 hcz130_5 hcz130_6
              try clear hcz133_0 hcz133_1 hcz133_2 hcz133_3
              try clear hcz135_0 hcz135_1
              try clear hcz136_0 hcz136_1 hcz136_2 hcz136_3 hcz136_4 hcz136_5
              try clear hcz138_0 hcz138_1 hcz138_2 hcz138_3 hcz138_4 hcz138_5 hcz138_6
              try clear hcz144_0 hcz144_1 hcz144_2 hcz144_3 hcz144_4 hcz144_5 hcz144_6 hcz144_7 hcz144_8
              try clear hcz148_0 hcz148_1 hcz148_2 hcz148_3 hcz148_4 hcz148_5 hcz148_6
              try clear hcz151_0 hcz151_1 hcz151_2 hcz151_3
              try clear hcz153_0 hcz153_1
              try clear hcz154_0 hcz154_1 hcz154_2 hcz154_3 hcz154_4 hcz154_5
              try clear hcz23_0 hcz23_1 hcz23_2 hcz23_3 hcz23_4 hcz23_5 hcz23_6 hcz23_7 hcz23_8
              try clear hcz27_0 hcz27_1 hcz27_2 hcz27_3 hcz27_4 hcz27_5 hcz27_6
              try clear hcz30_0 hcz30_1 hcz30_2 hcz30_3
              try clear hcz32_0 hcz32_1 hcz32_2 hcz32_3 hcz32_4 hcz32_5 hcz32_6 hcz32_7 hcz32_8
              try clear hcz38_0 hcz38_1 hcz38_2 hcz38_3 hcz38_4 hcz38_5 hcz38_6 hcz38_7 hcz38_8
              try clear hcz42_0 hcz42_1 hcz42_2 hcz42_3 hcz42_4 hcz42_5 hcz42_6
              try clear hcz45_0 hcz45_1 hcz45_2 hcz45_3
              try clear hcz47_0 hcz47_1 hcz47_2 hcz47_3 hcz47_4 hcz47_5 hcz47_6 hcz47_7 hcz47_8
              try clear hcz53_0 hcz53_1 hcz53_2 hcz53_3 hcz53_4 hcz53_5 hcz53_6 hcz53_7 hcz53_8
              try clear hcz57_0 hcz57_1 hcz57_2 hcz57_3 hcz57_4 hcz57_5 hcz57_6
              try clear hcz60_0 hcz60_1 hcz60_2 hcz60_3
              try clear hcz71_0 hcz71_1 hcz71_2 hcz71_3 hcz71_4 hcz71_5 hcz71_6 hcz71_7 hcz71_8
              try clear hcz75_0 hcz75_1 hcz75_2 hcz75_3 hcz75_4 hcz75_5 hcz75_6
              try clear hcz78_0 hcz78_1 hcz78_2 hcz78_3
              try clear hcz80_0 hcz80_1
              try clear hcz81_0 hcz81_1 hcz81_2 hcz81_3 hcz81_4 hcz81_5
              try clear hcz90_0 hcz90_1 hcz90_2 hcz90_3 hcz90_4 hcz90_5 hcz90_6 hcz90_7 hcz90_8
              try clear hcz94_0 hcz94_1 hcz94_2 hcz94_3 hcz94_4 hcz94_5 hcz94_6
              try clear hcz97_0 hcz97_1 hcz97_2 hcz97_3
              try clear hcz99_0 hcz99_1
              try clear hfz100_0 hfz100_1 hfz100_2 hfz100_3 hfz100_4 hfz100_5
              try clear hfz126_0 hfz126_1 hfz126_2 hfz126_3 hfz126_4 hfz126_5 hfz126_6 hfz126_7 hfz126_8
              try clear hfz130_0 hfz130_1 hfz130_2 hfz130_3 hfz130_4 hfz130_5 hfz130_6
              try clear hfz133_0 hfz133_1 hfz133_2 hfz133_3
              try clear hfz135_0 hfz135_1
              try clear hfz136_0 hfz136_1 hfz136_2 hfz136_3 hfz136_4 hfz136_5
              try clear hfz138_0 hfz138_1 hfz138_2 hfz138_3 hfz138_4 hfz138_5 hfz138_6
              try clear hfz144_0 hfz144_1 hfz144_2 hfz144_3 hfz144_4 hfz144_5 hfz144_6 hfz144_7 hfz144_8
              try clear hfz148_0 hfz148_1 hfz148_2 hfz148_3 hfz148_4 hfz148_5 hfz148_6
              try clear hfz151_0 hfz151_1 hfz151_2 hfz151_3
              try clear hfz153_0 hfz153_1
              try clear hfz154_0 hfz154_1 hfz154_2 hfz154_3 hfz154_4 hfz154_5
              try clear hfz23_0 hfz23_1 hfz23_2 hfz23_3 hfz23_4 hfz23_5 hfz23_6 hfz23_7 hfz23_8
              try clear hfz27_0 hfz27_1 hfz27_2 hfz27_3 hfz27_4 hfz27_5 hfz27_6
              try clear hfz30_0 hfz30_1 hfz30_2 hfz30_3
              try clear hfz32_0 hfz32_1 hfz32_2 hfz32_3 hfz32_4 hfz32_5 hfz32_6 hfz32_7 hfz32_8
              try clear hfz38_0 hfz38_1 hfz38_2 hfz38_3 hfz38_4 hfz38_5 hfz38_6 hfz38_7 hfz38_8
              try clear hfz42_0 hfz42_1 hfz42_2 hfz42_3 hfz42_4 hfz42_5 hfz42_6
              try clear hfz45_0 hfz45_1 hfz45_2 hfz45_3
              try clear hfz47_0 hfz47_1 hfz47_2 hfz47_3 hfz47_4 hfz47_5 hfz47_6 hfz47_7 hfz47_8
              try clear hfz53_0 hfz53_1 hfz53_2 hfz53_3 hfz53_4 hfz53_5 hfz53_6 hfz53_7 hfz53_8
              try clear hfz57_0 hfz57_1 hfz57_2 hfz57_3 hfz57_4 hfz57_5 hfz57_6
              try clear hfz60_0 hfz60_1 hfz60_2 hfz60_3
              try clear hfz71_0 hfz71_1 hfz71_2 hfz71_3 hfz71_4 hfz71_5 hfz71_6 hfz71_7 hfz71_8
              try clear hfz75_0 hfz75_1 hfz75_2 hfz75_3 hfz75_4 hfz75_5 hfz75_6
              try clear hfz78_0 hfz78_1 hfz78_2 hfz78_3
              try clear hfz80_0 hfz80_1
              try clear hfz81_0 hfz81_1 hfz81_2 hfz81_3 hfz81_4 hfz81_5
              try clear hfz90_0 hfz90_1 hfz90_2 hfz90_3 hfz90_4 hfz90_5 hfz90_6 hfz90_7 hfz90_8
              try clear hfz94_0 hfz94_1 hfz94_2 hfz94_3 hfz94_4 hfz94_5 hfz94_6
              try clear hfz97_0 hfz97_1 hfz97_2 hfz97_3
              try clear hfz99_0 hfz99_1
              try clear hx1028_0 hx1028_1
              try clear hx1029_0 hx1029_1
              try clear p1028
              try clear p1029
              try clear p2
              try clear q1028
              try clear q1029
              obtain ⟨kq, x140_116, rfl, HA, HJ116, BK1012, BK1013, BK1014, BK1015, BK1016, HB⟩ := hcut
              cases kq with
              | zero => exact absurd HA.out (by simp [isobathlaw03_GliderBest.j4])
              | succ kj116 =>
               have H := HA.out
               clear HA
               simp only [isobathlaw03_GliderBest.j4] at H
               by_cases c156 : x140_116 = true
               ·subst c156
                have H1 : (some false) = some r := by rw [if_pos rfl] at H; exact H
                clear H
                have H := H1
                clear H1
                have hh_ := Option.some.inj H
                rw [hr_.out] at hh_
                cases hh_
               ·replace c156 := Bool.eq_false_iff.mpr c156
                subst c156
                have H1 : (if x20_65 = true then ((isobathref03_Cost.f kj116 a1_0 a1_1 a1_2 a1_3 a1_4 a1_5 a1_6 l7).bind fun t1032 => (if t1032 ≥ t1023 then ((isobathlaw03_Works.f kj116).bind fun t1033 => (some t1033)) else (some false))) else ((isobathlaw03_Works.f kj116).bind fun t1034 => (some t1034))) = some r := by rw [if_neg (show ¬ (false = true) by decide)] at H; exact H
                clear H
                have H := H1
                clear H1
                by_cases c157 : x20_65 = true
                ·subst c157
                 have H1 : ((isobathref03_Cost.f kj116 a1_0 a1_1 a1_2 a1_3 a1_4 a1_5 a1_6 l7).bind fun t1032 => (if t1032 ≥ t1023 then ((isobathlaw03_Works.f kj116).bind fun t1033 => (some t1033)) else (some false))) = some r := by rw [if_pos rfl] at H; exact H
                 clear H
                 have H := H1
                 clear H1
                 replace H := Option.bind_eq_some_iff.mp H
                 obtain ⟨t1032, A1580, H⟩ := H
                 replace H : (if t1032 ≥ t1023 then ((isobathlaw03_Works.f kj116).bind fun t1033 => (some t1033)) else (some false)) = some r := H
                 have A158 := Aside0.mk A1580
                 clear A1580
                 by_cases c159 : t1032 ≥ t1023
                 ·rw [if_pos c159] at H
                  have c159b0 : decide (t1023 ≤ t1032) = true := decide_eq_true c159
                  clear c159
                  replace H := Option.bind_eq_some_iff.mp H
                  obtain ⟨t1033, A1600, H⟩ := H
                  replace H : (some t1033) = some r := H
                  have A160 := Aside0.mk A1600
                  clear A1600
                  obtain rfl := Option.some.inj H
                  have hnb161 := NB1013_1012.out
                  have hnc161 := NB1012_1013.out
                  have hnb162 := NB1013_1014.out
                  have hnc162 := NB1014_1013.out
                  have hnb163 := NB1013_1015.out
                  have hnc163 := NB1015_1013.out
                  have hnb164 := NB1013_1016.out
                  have hnc164 := NB1016_1013.out
                  obtain ⟨hcz165_0, hcz165_1, hcz165_2, hcz165_3, hcz165_4, hcz165_5, hcz165_6, hfz165_0, hfz165_1, hfz165_2, hfz165_3, hfz165_4, hfz165_5, hfz165_6⟩ := zce7 BK1013.out
                  go_wp2_with (first | (go_at_call 60; (with_reducible refine (isobathref03_Cost.calls kj116 a1_0 a1_1 a1_2 a1_3 a1_4 a1_5 a1_6 _ _ l7 t1032 _ ?side1 ?side2 A158.out).mono ?_); (case side1 => repeat (first | exact (Kd.C_below HR7.out HB.out) | (with_reducible refine Kd.C_alloc ?_ _) | (with_reducible refine Kd.C_drewN ?_ _) | (with_reducible refine Kd.C_drew ?_))); (case side2 => exact HC7.out); rintro e w166 ⟨rfl, hb⟩; replace BK1012 := zbb BK1012 hb; replace BK1013 := zbb BK1013 hb; replace BK1014 := zbb BK1014 hb; replace BK1015 := zbb BK1015 hb; replace BK1016 := zbb BK1016 hb; replace HB := zbs HB hb; (try clear hb); (try clear hb2); (try clear hk); (try clear hi)) | (go_at_call 19; (with_reducible refine (isobathlaw03_Works.calls kj116  t1033 _ A160.out).mono ?_); rintro e w167 ⟨rfl, hb⟩; replace BK1012 := zbb BK1012 hb; replace BK1013 := zbb BK1013 hb; replace BK1014 := zbb BK1014 hb; replace BK1015 := zbb BK1015 hb; replace BK1016 := zbb BK1016 hb; replace HB := zbs HB hb; (try clear hb); (try clear hb2); (try clear hk); (try clear hi)))
                  go_ret
                  exact ⟨zq2, zbz⟩
                 ·rw [if_neg c159] at H
                  have c159b0 : decide (t1023 ≤ t1032) = false := decide_eq_false c159
                  clear c159
                  have hh_ := Option.some.inj H
                  rw [hr_.out] at hh_
                  cases hh_
                ·replace c157 := Bool.eq_false_iff.mpr c157
                 subst c157
                 have H1 : ((isobathlaw03_Works.f kj116).bind fun t1034 => (some t1034)) = some r := by rw [if_neg (show ¬ (false = true) by decide)] at H; exact H
                 clear H
                 have H := H1
                 clear H1
                 replace H := Option.bind_eq_some_iff.mp H
                 obtain ⟨t1034, A1740, H⟩ := H
                 replace H : (some t1034) = some r := H
                 have A174 := Aside0.mk A1740
                 clear A1740
                 obtain rfl := Option.some.inj H
                 go_wp2_with (first | (go_at_call 19; (with_reducible refine (isobathlaw03_Works.calls kj116  t1034 _ A174.out).mono ?_); rintro e w175 ⟨rfl, hb⟩; replace BK1012 := zbb BK1012 hb; replace BK1013 := zbb BK1013 hb; replace BK1014 := zbb BK1014 hb; replace BK1015 := zbb BK1015 hb; replace BK1016 := zbb BK1016 hb; replace HB := zbs HB hb; (try clear hb); (try clear hb2); (try clear hk); (try clear hi)))
                 go_ret
                 exact ⟨zq2, zbz⟩
      ·rw [if_neg c102] at H
       have c102b0 : (t1024 == 0) = false := beq_eq_false_iff_ne.mpr c102
       have c102b1 : (t1024 != 0) = true := bne_iff_ne.mpr c102
       by_cases c176 : t1024 = 15
       ·rw [if_pos c176] at H
        have c176b0 : (t1024 == 15) = true := beq_iff_eq.mpr c176
        have c176b1 : (t1024 != 15) = false := bne_eq_false_iff_eq.mpr c176
        clear c176
        by_cases c177 : x20_65 = true
        ·subst c177
         have H1 : (some false) = some r := by rw [if_pos rfl] at H; exact H
         clear H
         have H := H1
         clear H1
         have hh_ := Option.some.inj H
         rw [hr_.out] at hh_
         cases hh_
        ·replace c177 := Bool.eq_false_iff.mpr c177
         subst c177
         have H1 : (if (t1020.length : Int) = 0 then (if t1023 = 0 then ((isobathlaw03_Works.f kj65).bind fun t1026 => (some t1026)) else (some false)) else (some false)) = some r := by rw [if_neg (show ¬ (false = true) by decide)] at H; exact H
         clear H
         have H := H1
         clear H1
         by_cases c178 : (t1020.length : Int) = 0
         ·rw [if_pos c178] at H
          have c178b0 : ((t1020.length : Int) == 0) = true := beq_iff_eq.mpr c178
          have c178b1 : ((t1020.length : Int) != 0) = false := bne_eq_false_iff_eq.mpr c178
          clear c178
          by_cases c179 : t1023 = 0
          ·rw [if_pos c179] at H
           have c179b0 : (t1023 == 0) = true := beq_iff_eq.mpr c179
           have c179b1 : (t1023 != 0) = false := bne_eq_false_iff_eq.mpr c179
           clear c179
           replace H := Option.bind_eq_some_iff.mp H
           obtain ⟨t1026, A1800, H⟩ := H
           replace H : (some t1026) = some r := H
           have A180 := Aside0.mk A1800
           clear A1800
           obtain rfl := Option.some.inj H
           obtain ⟨Ao181, co181, eo181⟩ := Kd.R_slice HO_17.out
           subst eo181
           go_wp2_with (first | (go_at_call 19; (with_reducible refine (isobathlaw03_Works.calls kj65  t1026 _ A180.out).mono ?_); rintro e w182 ⟨rfl, hb⟩; replace HO_17 := zrb HO_17 hb; replace BK1012 := zbb BK1012 hb; replace BK1013 := zbb BK1013 hb; replace BK1014 := zbb BK1014 hb; replace BK1015 := zbb BK1015 hb; replace BK1016 := zbb BK1016 hb; replace HB := zbs HB hb; (try clear hb); (try clear hb2); (try clear hk); (try clear hi)))
           go_ret
           exact ⟨zq2, zbz⟩
          ·rw [if_neg c179] at H
           have c179b0 : (t1023 == 0) = false := beq_eq_false_iff_ne.mpr c179
           have c179b1 : (t1023 != 0) = true := bne_iff_ne.mpr c179
           have hh_ := Option.some.inj H
           rw [hr_.out] at hh_
           cases hh_
         ·rw [if_neg c178] at H
          have c178b0 : ((t1020.length : Int) == 0) = false := beq_eq_false_iff_ne.mpr c178
          have c178b1 : ((t1020.length : Int) != 0) = true := bne_iff_ne.mpr c178
          have c178b2 : ¬ (t1020 = []) := fun h_ => c178 (by rw [h_]; rfl)
          have hh_ := Option.some.inj H
          rw [hr_.out] at hh_
          cases hh_
       ·rw [if_neg c176] at H
        have c176b0 : (t1024 == 15) = false := beq_eq_false_iff_ne.mpr c176
        have c176b1 : (t1024 != 15) = true := bne_iff_ne.mpr c176
        by_cases c185 : (t1020.length : Int) = 0
        ·rw [if_pos c185] at H
         have c185b0 : ((t1020.length : Int) == 0) = true := beq_iff_eq.mpr c185
         have c185b1 : ((t1020.length : Int) != 0) = false := bne_eq_false_iff_eq.mpr c185
         clear c185
         by_cases c186 : t1023 = 0
         ·rw [if_pos c186] at H
          have c186b0 : (t1023 == 0) = true := beq_iff_eq.mpr c186
          have c186b1 : (t1023 != 0) = false := bne_eq_false_iff_eq.mpr c186
          clear c186
          replace H := Option.bind_eq_some_iff.mp H
          obtain ⟨t1027, A1870, H⟩ := H
          replace H : (some t1027) = some r := H
          have A187 := Aside0.mk A1870
          clear A1870
          obtain rfl := Option.some.inj H
          obtain ⟨Ao188, co188, eo188⟩ := Kd.R_slice HO_17.out
          subst eo188
          go_wp2_with (first | (go_at_call 19; (with_reducible refine (isobathlaw03_Works.calls kj65  t1027 _ A187.out).mono ?_); rintro e w189 ⟨rfl, hb⟩; replace HO_17 := zrb HO_17 hb; replace BK1012 := zbb BK1012 hb; replace BK1013 := zbb BK1013 hb; replace BK1014 := zbb BK1014 hb; replace BK1015 := zbb BK1015 hb; replace BK1016 := zbb BK1016 hb; replace HB := zbs HB hb; (try clear hb); (try clear hb2); (try clear hk); (try clear hi)))
          go_ret
          exact ⟨zq2, zbz⟩
         ·rw [if_neg c186] at H
          have c186b0 : (t1023 == 0) = false := beq_eq_false_iff_ne.mpr c186
          have c186b1 : (t1023 != 0) = true := bne_iff_ne.mpr c186
          have hh_ := Option.some.inj H
          rw [hr_.out] at hh_
          cases hh_
        ·rw [if_neg c185] at H
         have c185b0 : ((t1020.length : Int) == 0) = false := beq_eq_false_iff_ne.mpr c185
         have c185b1 : ((t1020.length : Int) != 0) = true := bne_iff_ne.mpr c185
         have c185b2 : ¬ (t1020 = []) := fun h_ => c185 (by rw [h_]; rfl)
         have hh_ := Option.some.inj H
         rw [hr_.out] at hh_
         cases hh_

end Go.Proofs.Ytmhaiihjfgfaoaa.Pr
end
