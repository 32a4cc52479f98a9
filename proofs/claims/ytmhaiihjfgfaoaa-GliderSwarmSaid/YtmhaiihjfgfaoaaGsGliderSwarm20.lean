/- Part 20 of the proof of GliderSwarm: what the functions compute. No condition. -/
import Derived.Test.YtmhaiihjfgfaoaaGsGliderSwarm3
import Derived.Test.YtmhaiihjfgfaoaaGsGliderSwarm13
import Derived.Test.YtmhaiihjfgfaoaaGsGliderSwarm15
import Derived.Test.YtmhaiihjfgfaoaaGsGliderSwarm16
import Derived.Test.YtmhaiihjfgfaoaaGsGliderSwarm19
import Derived.Test.YtmhaiihjfgfaoaaGsGliderSwarm18
import Derived.Test.YtmhaiihjfgfaoaaGsGliderSwarm5
set_option linter.unusedSimpArgs false
set_option linter.unusedVariables false
section
namespace Go.Proofs.Ytmhaiihjfgfaoaa.Pr
open Go.RowKit Go.Proofs.YtmhaiihjfgfaoaaW.Round Go.Proofs.YtmhaiihjfgfaoaaW.PrintWords Go.Proofs.YtmhaiihjfgfaoaaW.PrintLast Go.Proofs.YtmhaiihjfgfaoaaW.PrintMore
attribute [local go_sem] max2_int min2_int max_two min_two max_four
set_option linter.unusedVariables false
set_option linter.unusedSimpArgs false

/-! ### isobathlaw03_GliderSwarm: function 9 -/
mutual
def isobathlaw03_GliderSwarm.j0 : Nat → List (List (S31)) → List (S31) → Bool → Int → Int → Int → Int → Int → Int → Int → List Bool → List (S40) → Option (Bool)
 | 0, _, _, _, _, _, _, _, _, _, _, _, _ => none
 | k + 1, x1, x2, x32, x303000, x303001, x303002, x303003, x303004, x303005, x303006, x303007, x303008 => if x32 = true then ((isobathlaw03_Works.f k).bind fun t305 => (some t305)) else (isobathlaw03_GliderSwarm.l0 k x1 x2 0 x303000 x303001 x303002 x303003 x303004 x303005 x303006 x303007 x303008)
def isobathlaw03_GliderSwarm.l0 : Nat → List (List (S31)) → List (S31) → Int → Int → Int → Int → Int → Int → Int → Int → List Bool → List (S40) → Option (Bool)
 | 0, _, _, _, _, _, _, _, _, _, _, _, _ => none
 | k + 1, x1, x2, x7, x303000, x303001, x303002, x303003, x303004, x303005, x303006, x303007, x303008 => if x7 < (x1.length : Int) then (if 0 ≤ x7 then (if ((rd_L11 x1 x7).length : Int) > 20 then ((isobathlaw03_Works.f k).bind fun t307 => (some t307)) else (isobathlaw03_GliderSwarm.l0 k x1 x2 (wrap64 (x7 + 1)) x303000 x303001 x303002 x303003 x303004 x303005 x303006 x303007 x303008)) else (none)) else ((glider_Visited.f k x303000 x303001 x303002 x303003 x303004 x303005 x303006 x303007 x303008 x1).bind fun bt308 => ((swarm_more.f k x303000 x303001 x303002 x303003 x303004 x303005 x303006 x303007 x303008 x1 x2).bind fun bt312 => (if bt308.2 = 0 then (isobathlaw03_GliderSwarm.j2 k x2 bt308.1 bt308.2 bt312.1 bt312.2 (bt312.2 != 0) x303000 x303001 x303002 x303003 x303004 x303005 x303006 x303007 x303008) else (isobathlaw03_GliderSwarm.j2 k x2 bt308.1 bt308.2 bt312.1 bt312.2 true x303000 x303001 x303002 x303003 x303004 x303005 x303006 x303007 x303008))))
def isobathlaw03_GliderSwarm.j2 : Nat → List (S31) → List Int → Int → List Int → Int → Bool → Int → Int → Int → Int → Int → Int → Int → List Bool → List (S40) → Option (Bool)
 | 0, _, _, _, _, _, _, _, _, _, _, _, _, _, _, _ => none
 | k + 1, x2, x8, x9, x10, x11, x69, x303000, x303001, x303002, x303003, x303004, x303005, x303006, x303007, x303008 => if x69 = true then (if x9 = 0 then ((isobathlaw03_Works.f k).bind fun t316 => (some t316)) else (if x11 = x9 then ((isobathlaw03_Works.f k).bind fun t317 => (some t317)) else (some false))) else (if (x8.length : Int) = (wrap64 (x303000 * x303001)) then (isobathlaw03_GliderSwarm.j3 k x2 x8 x10 ((x10.length : Int) != (x8.length : Int)) x303000 x303001 x303002 x303003 x303004 x303005 x303006 x303007 x303008) else (isobathlaw03_GliderSwarm.j3 k x2 x8 x10 true x303000 x303001 x303002 x303003 x303004 x303005 x303006 x303007 x303008))
def isobathlaw03_GliderSwarm.j3 : Nat → List (S31) → List Int → List Int → Bool → Int → Int → Int → Int → Int → Int → Int → List Bool → List (S40) → Option (Bool)
 | 0, _, _, _, _, _, _, _, _, _, _, _, _, _ => none
 | k + 1, x2, x8, x10, x94, x303000, x303001, x303002, x303003, x303004, x303005, x303006, x303007, x303008 => if x94 = true then (some false) else (isobathlaw03_GliderSwarm.l1 k x2 x8 x10 0 x303000 x303001 x303002 x303003 x303004 x303005 x303006 x303007 x303008)
def isobathlaw03_GliderSwarm.l1 : Nat → List (S31) → List Int → List Int → Int → Int → Int → Int → Int → Int → Int → Int → List Bool → List (S40) → Option (Bool)
 | 0, _, _, _, _, _, _, _, _, _, _, _, _, _ => none
 | k + 1, x2, x8, x10, x12, x303000, x303001, x303002, x303003, x303004, x303005, x303006, x303007, x303008 => if x12 < (x8.length : Int) then (if 0 ≤ x12 then (if x12 < (x10.length : Int) then (if (rd x10 x12) < (rd x8 x12) then (some false) else ((isobathref03_Cell.f x303000 x303001 x303002 x303003 x303004 x303005 x303006 x303007 x303008 x12).bind fun bt321 => (isobathlaw03_GliderSwarm.l2 k x2 x8 x10 x12 0 x303000 x303001 x303002 x303003 x303004 x303005 x303006 x303007 x303008 bt321.1 bt321.2.1 bt321.2.2.1 bt321.2.2.2))) else (none)) else (none)) else ((isobathlaw03_Works.f k).bind fun t318 => (some t318))
def isobathlaw03_GliderSwarm.l2 : Nat → List (S31) → List Int → List Int → Int → Int → Int → Int → Int → Int → Int → Int → Int → List Bool → List (S40) → Int → Int → Int → Int → Option (Bool)
 | 0, _, _, _, _, _, _, _, _, _, _, _, _, _, _, _, _, _, _ => none
 | k + 1, x2, x8, x10, x12, x14, x303000, x303001, x303002, x303003, x303004, x303005, x303006, x303007, x303008, x326000, x326001, x326002, x326003 => if x14 < (x2.length : Int) then (if 0 ≤ x14 then ((isobathref03_Inside.f k ((rd_T31 x2 x14).f0.f0) ((rd_T31 x2 x14).f0.f1) ((rd_T31 x2 x14).f1.f0) ((rd_T31 x2 x14).f1.f1) x326000 x326001 x326002 x326003).bind fun t327 => (if 0 ≤ x12 then (if x12 < (x10.length : Int) then (if t327 > (rd x10 x12) then (some false) else (isobathlaw03_GliderSwarm.l2 k x2 x8 x10 x12 (wrap64 (x14 + 1)) x303000 x303001 x303002 x303003 x303004 x303005 x303006 x303007 x303008 x326000 x326001 x326002 x326003)) else (none)) else (none))) else (none)) else (isobathlaw03_GliderSwarm.l1 k x2 x8 x10 (wrap64 (x12 + 1)) x303000 x303001 x303002 x303003 x303004 x303005 x303006 x303007 x303008)
end
def isobathlaw03_GliderSwarm.f (k : Nat) (a0_0 : Int) (a0_1 : Int) (a0_2 : Int) (a0_3 : Int) (a0_4 : Int) (a0_5 : Int) (a0_6 : Int) (l0_7 : List Bool) (l0_8 : List (S40)) (l1 : List (List (S31))) (l2 : List (S31)) : Option (Bool) := (isobathlaw03_great.f a0_0 a0_1 a0_2 a0_3 a0_4 a0_5 a0_6 l0_7 l0_8).bind fun t303 => (if t303 = true then (isobathlaw03_GliderSwarm.j0 k l1 l2 true a0_0 a0_1 a0_2 a0_3 a0_4 a0_5 a0_6 l0_7 l0_8) else (if (l1.length : Int) > 7 then (isobathlaw03_GliderSwarm.j0 k l1 l2 true a0_0 a0_1 a0_2 a0_3 a0_4 a0_5 a0_6 l0_7 l0_8) else (if (l2.length : Int) > 20 then (isobathlaw03_GliderSwarm.j0 k l1 l2 true a0_0 a0_1 a0_2 a0_3 a0_4 a0_5 a0_6 l0_7 l0_8) else ((isobathref03_CheckSea.f k a0_0 a0_1 a0_2 a0_3 a0_4 a0_5 a0_6 l0_7 l0_8).bind fun t304 => (isobathlaw03_GliderSwarm.j0 k l1 l2 (t304 != 0) a0_0 a0_1 a0_2 a0_3 a0_4 a0_5 a0_6 l0_7 l0_8)))))
def isobathlaw03_GliderSwarm.T17 : Bool × List (List Nat × List Nat) := (true, [([], []), ([], []), ([0, 1], [0, 1]), ([2], [2]), ([], []), ([], []), ([4, 5], [4, 5]), ([6], [6]), ([3, 7], [3, 7])])
def isobathlaw03_GliderSwarm.B17 : List Nat := [0, 0, 3, 7, 0, 0, 48, 112, 255]
theorem isobathlaw03_GliderSwarm.tab17 : rtab .any (opsOf Try.f9 17) = isobathlaw03_GliderSwarm.T17 := by kernel_rfl
theorem isobathlaw03_GliderSwarm.bits17 : waitsOk isobathlaw03_GliderSwarm.T17.2 isobathlaw03_GliderSwarm.B17 = true := by kernel_rfl
set_option maxHeartbeats 8000000 in
set_option maxRecDepth 100000 in
theorem isobathlaw03_GliderSwarm.calls (k : Nat) (a0_0 : Int) (a0_1 : Int) (a0_2 : Int) (a0_3 : Int) (a0_4 : Int) (a0_5 : Int) (a0_6 : Int) (A0_7 : Option Addr) (c0_7 : Nat) (l0_7 : List Bool) (A0_8 : Option Addr) (c0_8 : Nat) (l0_8 : List (S40)) (A1 : Option Addr) (c1 : Nat) (l1 : List (List (S31))) (A2 : Option Addr) (c2 : Nat) (l2 : List (S31)) (r : Bool) (w : World) (hr0_7 : Kd.C Kd.bool w A0_7 l0_7.length l0_7) (hc0_7 : l0_7.length ≤ c0_7) (hr0_8 : Kd.C k40 w A0_8 l0_8.length l0_8) (hc0_8 : l0_8.length ≤ c0_8) (hr1 : Kd.C (Kd.slice 31 k31) w A1 l1.length l1) (hc1 : l1.length ≤ c1) (hr2 : Kd.C k31 w A2 l2.length l2) (hc2 : l2.length ≤ c2) (h : isobathlaw03_GliderSwarm.f k a0_0 a0_1 a0_2 a0_3 a0_4 a0_5 a0_6 l0_7 l0_8 l1 l2 = some r) (hr_ : Aside0 (r = true)) :
  Calls Try.prog 9 #[.agg #[.int .i64 a0_0, .int .i64 a0_1, .int .i64 a0_2, .int .i64 a0_3, .int .i64 a0_4, .int .i64 a0_5, .int .i64 a0_6, .slice A0_7 l0_7.length c0_7, .slice A0_8 l0_8.length c0_8], .slice A1 l1.length c1, .slice A2 l2.length c2] w fun e w' => e = .returned (.bool r) ∧ Below w.heap.size w w' := by
 have hu25 := Try.underlying25
 have hu31 := Try.underlying31
 have HR0_7 := Aside0.mk hr0_7
 have HC0_7 := Aside0.mk hc0_7
 clear hr0_7 hc0_7
 have HR0_8 := Aside0.mk hr0_8
 have HC0_8 := Aside0.mk hc0_8
 clear hr0_8 hc0_8
 have HR1 := Aside0.mk hr1
 have HC1 := Aside0.mk hc1
 clear hr1 hc1
 have HR2 := Aside0.mk hr2
 have HC2 := Aside0.mk hc2
 clear hr2 hc2
 have HB := Aside0.mk (Below.refl w.heap.size w)
 have H : ((isobathlaw03_great.f a0_0 a0_1 a0_2 a0_3 a0_4 a0_5 a0_6 l0_7 l0_8).bind fun t303 => (if t303 = true then (isobathlaw03_GliderSwarm.j0 k l1 l2 true a0_0 a0_1 a0_2 a0_3 a0_4 a0_5 a0_6 l0_7 l0_8) else (if (l1.length : Int) > 7 then (isobathlaw03_GliderSwarm.j0 k l1 l2 true a0_0 a0_1 a0_2 a0_3 a0_4 a0_5 a0_6 l0_7 l0_8) else (if (l2.length : Int) > 20 then (isobathlaw03_GliderSwarm.j0 k l1 l2 true a0_0 a0_1 a0_2 a0_3 a0_4 a0_5 a0_6 l0_7 l0_8) else ((isobathref03_CheckSea.f k a0_0 a0_1 a0_2 a0_3 a0_4 a0_5 a0_6 l0_7 l0_8).bind fun t304 => (isobathlaw03_GliderSwarm.j0 k l1 l2 (t304 != 0) a0_0 a0_1 a0_2 a0_3 a0_4 a0_5 a0_6 l0_7 l0_8)))))) = some r := h
 clear h
 have HC4 := Aside0.mk H
 clear H
 go_enter Try.func9, Try.ntmps9
 go_upto_region 1 with (first | ((with_reducible refine gate_dst (N := 3) rfl ?_); (try (refine gate_guard (by rfl) ?_; dsimp only)); refine box_event (by rfl) (N := 3) (by rfl) (cs := #[.int .i64 a0_0, .int .i64 a0_1, .int .i64 a0_2, .int .i64 a0_3, .int .i64 a0_4, .int .i64 a0_5, .int .i64 a0_6, .slice A0_7 l0_7.length c0_7, .slice A0_8 l0_8.length c0_8]) (t := 25) zq5 ?_; intro gb302 hg w5 hbox hb; have BK302 := Aside0.mk (hbox); have GW302 := zgs HB hg; have GE302 := zgs HB hg; replace HB := zbs HB hb; clear hb hbox hg))
 (try simp only [Act.put, List.setIfInBounds_toArray, List.set_cons_zero, List.set_cons_succ])
 go_cut [32] (fun v32 wc => ∃ (kq : Nat) (x32_3 : Bool), v32 = .bool x32_3 ∧ Aside0 (isobathlaw03_GliderSwarm.j0 kq l1 l2 x32_3 a0_0 a0_1 a0_2 a0_3 a0_4 a0_5 a0_6 l0_7 l0_8 = some r) ∧ Aside0 (kq ≤ k) ∧ Aside0 (wc.heap[gb302]? = some (.cells #[.int .i64 a0_0, .int .i64 a0_1, .int .i64 a0_2, .int .i64 a0_3, .int .i64 a0_4, .int .i64 a0_5, .int .i64 a0_6, (.slice A0_7 l0_7.length c0_7), (.slice A0_8 l0_8.length c0_8)] 25 (0, 0))) ∧ Aside0 (Below w.heap.size w wc))
 case first =>
  have H := HC4.out
  clear HC4
  replace H := Option.bind_eq_some_iff.mp H
  obtain ⟨t303, A60, H⟩ := H
  replace H : (if t303 = true then (isobathlaw03_GliderSwarm.j0 k l1 l2 true a0_0 a0_1 a0_2 a0_3 a0_4 a0_5 a0_6 l0_7 l0_8) else (if (l1.length : Int) > 7 then (isobathlaw03_GliderSwarm.j0 k l1 l2 true a0_0 a0_1 a0_2 a0_3 a0_4 a0_5 a0_6 l0_7 l0_8) else (if (l2.length : Int) > 20 then (isobathlaw03_GliderSwarm.j0 k l1 l2 true a0_0 a0_1 a0_2 a0_3 a0_4 a0_5 a0_6 l0_7 l0_8) else ((isobathref03_CheckSea.f k a0_0 a0_1 a0_2 a0_3 a0_4 a0_5 a0_6 l0_7 l0_8).bind fun t304 => (isobathlaw03_GliderSwarm.j0 k l1 l2 (t304 != 0) a0_0 a0_1 a0_2 a0_3 a0_4 a0_5 a0_6 l0_7 l0_8))))) = some r := H
  have A6 := Aside0.mk A60
  clear A60
  by_cases c7 : t303 = true
  ·subst c7
   have H1 : (isobathlaw03_GliderSwarm.j0 k l1 l2 true a0_0 a0_1 a0_2 a0_3 a0_4 a0_5 a0_6 l0_7 l0_8) = some r := by rw [if_pos rfl] at H; exact H
   clear H
   have H := H1
   clear H1
   have H' := Aside0.mk H
   clear H
   obtain ⟨hcz8_0, hcz8_1, hcz8_2, hcz8_3, hcz8_4, hcz8_5, hcz8_6, hcz8_7, hcz8_8, hfz8_0, hfz8_1, hfz8_2, hfz8_3, hfz8_4, hfz8_5, hfz8_6, hfz8_7, hfz8_8⟩ := zce9 BK302.out
   go_wp2_with (first | ((with_reducible refine gate_callee (f := 22) rfl ?_); refine goesL_ (some 17) rfl rfl Try.func22 zq1 rfl #[.agg #[.int .i64 a0_0, .int .i64 a0_1, .int .i64 a0_2, .int .i64 a0_3, .int .i64 a0_4, .int .i64 a0_5, .int .i64 a0_6, .slice A0_7 l0_7.length c0_7, .slice A0_8 l0_8.length c0_8]] rfl zq7 ?_; (with_reducible refine (isobathlaw03_great.calls a0_0 a0_1 a0_2 a0_3 a0_4 a0_5 a0_6 _ _ l0_7 _ _ l0_8 true _ ?side1 ?side2 ?side3 ?side4 A6.out).mono ?_); (case side1 => repeat (first | exact (Kd.C_below HR0_7.out HB.out) | (with_reducible refine Kd.C_alloc ?_ _) | (with_reducible refine Kd.C_drewN ?_ _) | (with_reducible refine Kd.C_drew ?_))); (case side2 => exact HC0_7.out); (case side3 => repeat (first | exact (Kd.C_below HR0_8.out HB.out) | (with_reducible refine Kd.C_alloc ?_ _) | (with_reducible refine Kd.C_drewN ?_ _) | (with_reducible refine Kd.C_drew ?_))); (case side4 => exact HC0_8.out); rintro e w9 ⟨rfl, hb⟩; refine ⟨_, rfl, ?_⟩; replace BK302 := zbb BK302 hb; replace HB := zbs HB hb; (try clear hb); (try clear hb2); (try clear hk); (try clear hi)))
   go_meet
   case rel => exact ⟨_, (true), zq2, H', ⟨zq42⟩, ⟨zbf⟩, ⟨zbz⟩⟩
  ·replace c7 := Bool.eq_false_iff.mpr c7
   subst c7
   have H1 : (if (l1.length : Int) > 7 then (isobathlaw03_GliderSwarm.j0 k l1 l2 true a0_0 a0_1 a0_2 a0_3 a0_4 a0_5 a0_6 l0_7 l0_8) else (if (l2.length : Int) > 20 then (isobathlaw03_GliderSwarm.j0 k l1 l2 true a0_0 a0_1 a0_2 a0_3 a0_4 a0_5 a0_6 l0_7 l0_8) else ((isobathref03_CheckSea.f k a0_0 a0_1 a0_2 a0_3 a0_4 a0_5 a0_6 l0_7 l0_8).bind fun t304 => (isobathlaw03_GliderSwarm.j0 k l1 l2 (t304 != 0) a0_0 a0_1 a0_2 a0_3 a0_4 a0_5 a0_6 l0_7 l0_8)))) = some r := by rw [if_neg (show ¬ (false = true) by decide)] at H; exact H
   clear H
   have H := H1
   clear H1
   by_cases c10 : (l1.length : Int) > 7
   ·rw [if_pos c10] at H
    have c10b0 : decide (7 < (l1.length : Int)) = true := decide_eq_true c10
    have c10b1 : decide (7 < l1.length) = true := decide_eq_true (by omega)
    clear c10
    (first | rw [c10b0] | (simp only [i64_w, i32_w]; rw [c10b0]) | skip)
    have H' := Aside0.mk H
    clear H
    obtain ⟨hcz11_0, hcz11_1, hcz11_2, hcz11_3, hcz11_4, hcz11_5, hcz11_6, hcz11_7, hcz11_8, hfz11_0, hfz11_1, hfz11_2, hfz11_3, hfz11_4, hfz11_5, hfz11_6, hfz11_7, hfz11_8⟩ := zce9 BK302.out
    go_wp2_with (first | ((with_reducible refine gate_callee (f := 22) rfl ?_); refine goesL_ (some 17) rfl rfl Try.func22 zq1 rfl #[.agg #[.int .i64 a0_0, .int .i64 a0_1, .int .i64 a0_2, .int .i64 a0_3, .int .i64 a0_4, .int .i64 a0_5, .int .i64 a0_6, .slice A0_7 l0_7.length c0_7, .slice A0_8 l0_8.length c0_8]] rfl zq7 ?_; (with_reducible refine (isobathlaw03_great.calls a0_0 a0_1 a0_2 a0_3 a0_4 a0_5 a0_6 _ _ l0_7 _ _ l0_8 false _ ?side1 ?side2 ?side3 ?side4 A6.out).mono ?_); (case side1 => repeat (first | exact (Kd.C_below HR0_7.out HB.out) | (with_reducible refine Kd.C_alloc ?_ _) | (with_reducible refine Kd.C_drewN ?_ _) | (with_reducible refine Kd.C_drew ?_))); (case side2 => exact HC0_7.out); (case side3 => repeat (first | exact (Kd.C_below HR0_8.out HB.out) | (with_reducible refine Kd.C_alloc ?_ _) | (with_reducible refine Kd.C_drewN ?_ _) | (with_reducible refine Kd.C_drew ?_))); (case side4 => exact HC0_8.out); rintro e w12 ⟨rfl, hb⟩; refine ⟨_, rfl, ?_⟩; replace BK302 := zbb BK302 hb; replace HB := zbs HB hb; (try clear hb); (try clear hb2); (try clear hk); (try clear hi)))
    go_meet
    case rel => exact ⟨_, (true), zq2, H', ⟨zq42⟩, ⟨zbf⟩, ⟨zbz⟩⟩
   ·rw [if_neg c10] at H
    have c10b0 : decide (7 < (l1.length : Int)) = false := decide_eq_false c10
    have c10b1 : decide (7 < l1.length) = false := decide_eq_false (by omega)
    clear c10
    (first | rw [c10b0] | (simp only [i64_w, i32_w]; rw [c10b0]) | skip)
    by_cases c13 : (l2.length : Int) > 20
    ·rw [if_pos c13] at H
     have c13b0 : decide (20 < (l2.length : Int)) = true := decide_eq_true c13
     have c13b1 : decide (20 < l2.length) = true := decide_eq_true (by omega)
     clear c13
     have H' := Aside0.mk H
     clear H
     obtain ⟨hcz14_0, hcz14_1, hcz14_2, hcz14_3, hcz14_4, hcz14_5, hcz14_6, hcz14_7, hcz14_8, hfz14_0, hfz14_1, hfz14_2, hfz14_3, hfz14_4, hfz14_5, hfz14_6, hfz14_7, hfz14_8⟩ := zce9 BK302.out
     go_wp2_with (first | ((with_reducible refine gate_callee (f := 22) rfl ?_); refine goesL_ (some 17) rfl rfl Try.func22 zq1 rfl #[.agg #[.int .i64 a0_0, .int .i64 a0_1, .int .i64 a0_2, .int .i64 a0_3, .int .i64 a0_4, .int .i64 a0_5, .int .i64 a0_6, .slice A0_7 l0_7.length c0_7, .slice A0_8 l0_8.length c0_8]] rfl zq7 ?_; (with_reducible refine (isobathlaw03_great.calls a0_0 a0_1 a0_2 a0_3 a0_4 a0_5 a0_6 _ _ l0_7 _ _ l0_8 false _ ?side1 ?side2 ?side3 ?side4 A6.out).mono ?_); (case side1 => repeat (first | exact (Kd.C_below HR0_7.out HB.out) | (with_reducible refine Kd.C_alloc ?_ _) | (with_reducible refine Kd.C_drewN ?_ _) | (with_reducible refine Kd.C_drew ?_))); (case side2 => exact HC0_7.out); (case side3 => repeat (first | exact (Kd.C_below HR0_8.out HB.out) | (with_reducible refine Kd.C_alloc ?_ _) | (with_reducible refine Kd.C_drewN ?_ _) | (with_reducible refine Kd.C_drew ?_))); (case side4 => exact HC0_8.out); rintro e w15 ⟨rfl, hb⟩; refine ⟨_, rfl, ?_⟩; replace BK302 := zbb BK302 hb; replace HB := zbs HB hb; (try clear hb); (try clear hb2); (try clear hk); (try clear hi)))
     go_meet
     case rel => exact ⟨_, (true), zq2, H', ⟨zq42⟩, ⟨zbf⟩, ⟨zbz⟩⟩
    ·rw [if_neg c13] at H
     have c13b0 : decide (20 < (l2.length : Int)) = false := decide_eq_false c13
     have c13b1 : decide (20 < l2.length) = false := decide_eq_false (by omega)
     clear c13
     replace H := Option.bind_eq_some_iff.mp H
     obtain ⟨t304, A160, H⟩ := H
     replace H : (isobathlaw03_GliderSwarm.j0 k l1 l2 (t304 != 0) a0_0 a0_1 a0_2 a0_3 a0_4 a0_5 a0_6 l0_7 l0_8) = some r := H
     have A16 := Aside0.mk A160
     clear A160
     have H' := Aside0.mk H
     clear H
     obtain ⟨hcz17_0, hcz17_1, hcz17_2, hcz17_3, hcz17_4, hcz17_5, hcz17_6, hcz17_7, hcz17_8, hfz17_0, hfz17_1, hfz17_2, hfz17_3, hfz17_4, hfz17_5, hfz17_6, hfz17_7, hfz17_8⟩ := zce9 BK302.out
     go_wp2_with (first | ((with_reducible refine gate_callee (f := 22) rfl ?_); refine goesL_ (some 17) rfl rfl Try.func22 zq1 rfl #[.agg #[.int .i64 a0_0, .int .i64 a0_1, .int .i64 a0_2, .int .i64 a0_3, .int .i64 a0_4, .int .i64 a0_5, .int .i64 a0_6, .slice A0_7 l0_7.length c0_7, .slice A0_8 l0_8.length c0_8]] rfl zq7 ?_; (with_reducible refine (isobathlaw03_great.calls a0_0 a0_1 a0_2 a0_3 a0_4 a0_5 a0_6 _ _ l0_7 _ _ l0_8 false _ ?side1 ?side2 ?side3 ?side4 A6.out).mono ?_); (case side1 => repeat (first | exact (Kd.C_below HR0_7.out HB.out) | (with_reducible refine Kd.C_alloc ?_ _) | (with_reducible refine Kd.C_drewN ?_ _) | (with_reducible refine Kd.C_drew ?_))); (case side2 => exact HC0_7.out); (case side3 => repeat (first | exact (Kd.C_below HR0_8.out HB.out) | (with_reducible refine Kd.C_alloc ?_ _) | (with_reducible refine Kd.C_drewN ?_ _) | (with_reducible refine Kd.C_drew ?_))); (case side4 => exact HC0_8.out); rintro e w18 ⟨rfl, hb⟩; refine ⟨_, rfl, ?_⟩; replace BK302 := zbb BK302 hb; replace HB := zbs HB hb; (try clear hb); (try clear hb2); (try clear hk); (try clear hi); obtain ⟨hcz19_0, hcz19_1, hcz19_2, hcz19_3, hcz19_4, hcz19_5, hcz19_6, hcz19_7, hcz19_8, hfz19_0, hfz19_1, hfz19_2, hfz19_3, hfz19_4, hfz19_5, hfz19_6, hfz19_7, hfz19_8⟩ := zce9 BK302.out) | (go_at_call 26; (with_reducible refine (isobathref03_CheckSea.calls k a0_0 a0_1 a0_2 a0_3 a0_4 a0_5 a0_6 _ _ l0_7 _ _ l0_8 t304 _ ?side1 ?side2 ?side3 ?side4 A16.out).mono ?_); (case side1 => repeat (first | exact (Kd.C_below HR0_7.out HB.out) | (with_reducible refine Kd.C_alloc ?_ _) | (with_reducible refine Kd.C_drewN ?_ _) | (with_reducible refine Kd.C_drew ?_))); (case side2 => exact HC0_7.out); (case side3 => repeat (first | exact (Kd.C_below HR0_8.out HB.out) | (with_reducible refine Kd.C_alloc ?_ _) | (with_reducible refine Kd.C_drewN ?_ _) | (with_reducible refine Kd.C_drew ?_))); (case side4 => exact HC0_8.out); rintro e w20 ⟨rfl, hb⟩; replace BK302 := zbb BK302 hb; replace HB := zbs HB hb; (try clear hb); (try clear hb2); (try clear hk); (try clear hi)))
     go_meet
     case rel => exact ⟨_, ((t304 != 0)), zq2, H', ⟨zq42⟩, ⟨zbf⟩, ⟨zbz⟩⟩
 case rest =>
  clear HC4
  try clear c1
  try clear c2
  try clear p2
  try clear c7
  try clear c9
  try clear c10
  try clear c10b0
  try clear c10b1
  try clear c13
  try clear c13b0
  try clear c13b1
  try clear hcz11_0 hcz11_1 hcz11_2 hcz11_3 hcz11_4 hcz11_5 hcz11_6 hcz11_7 hcz11_8
  try clear hcz14_0 hcz14_1 hcz14_2 hcz14_3 hcz14_4 hcz14_5 hcz14_6 hcz14_7 hcz14_8
  try clear hcz17_0 hcz17_1 hcz17_2 hcz17_3 hcz17_4 hcz17_5 hcz17_6 hcz17_7 hcz17_8
  try clear hcz19_0 hcz19_1 hcz19_2 hcz19_3 hcz19_4 hcz19_5 hcz19_6 hcz19_7 hcz19_8
  try clear hcz8_0 hcz8_1 hcz8_2 hcz8_3 hcz8_4 hcz8_5 hcz8_6 hcz8_7 hcz8_8
  try clear hfz11_0 hfz11_1 hfz11_2 hfz11_3 hfz11_4 hfz11_5 hfz11_6 hfz11_7 hfz11_8
  try clear hfz14_0 hfz14_1 hfz14_2 hfz14_3 hfz14_4 hfz14_5 hfz14_6 hfz14_7 hfz14_8
  try clear hfz17_0 hfz17_1 hfz17_2 hfz17_3 hfz17_4 hfz17_5 hfz17_6 hfz17_7 hfz17_8
  try clear hfz19_0 hfz19_1 hfz19_2 hfz19_3 hfz19_4 hfz19_5 hfz19_6 hfz19_7 hfz19_8
  try clear hfz8_0 hfz8_1 hfz8_2 hfz8_3 hfz8_4 hfz8_5 hfz8_6 hfz8_7 hfz8_8
  obtain ⟨kq, x32_3, rfl, HA, HJ3, BK302, HB⟩ := hcut
  cases kq with
  | zero => exact absurd HA.out (by simp [isobathlaw03_GliderSwarm.j0])
  | succ kj3 =>
   have H := HA.out
   clear HA
   simp only [isobathlaw03_GliderSwarm.j0] at H
   by_cases c21 : x32_3 = true
   ·subst c21
    have H1 : ((isobathlaw03_Works.f kj3).bind fun t305 => (some t305)) = some r := by rw [if_pos rfl] at H; exact H
    clear H
    have H := H1
    clear H1
    replace H := Option.bind_eq_some_iff.mp H
    obtain ⟨t305, A220, H⟩ := H
    replace H : (some t305) = some r := H
    have A22 := Aside0.mk A220
    clear A220
    obtain rfl := Option.some.inj H
    go_wp2_with (first | ((with_reducible refine gate_callee (f := 19) rfl ?_); refine goesL_ (some 33) rfl rfl Try.func19 zq1 rfl #[] rfl zq7 ?_; (with_reducible refine (isobathlaw03_Works.calls kj3  t305 _ A22.out).mono ?_); rintro e w23 ⟨rfl, hb⟩; refine ⟨_, rfl, ?_⟩; replace BK302 := zbb BK302 hb; replace HB := zbs HB hb; (try clear hb); (try clear hb2); (try clear hk); (try clear hi)))
    go_ret
    exact ⟨zq6, zbz⟩
   ·replace c21 := Bool.eq_false_iff.mpr c21
    subst c21
    have H1 : (isobathlaw03_GliderSwarm.l0 kj3 l1 l2 0 a0_0 a0_1 a0_2 a0_3 a0_4 a0_5 a0_6 l0_7 l0_8) = some r := by rw [if_neg (show ¬ (false = true) by decide)] at H; exact H
    clear H
    have H := H1
    clear H1
    have H' := Aside0.mk H
    clear H
    go_wp2
    go_loopg [7] kj3 (fun kq v7 w' => ∃ (x7_2 : Int), v7 = .int .i64 x7_2 ∧ Aside0 (isobathlaw03_GliderSwarm.l0 kq l1 l2 x7_2 a0_0 a0_1 a0_2 a0_3 a0_4 a0_5 a0_6 l0_7 l0_8 = some r) ∧ Aside0 (kq ≤ kj3) ∧ Aside0 (w'.heap[gb302]? = some (.cells #[.int .i64 a0_0, .int .i64 a0_1, .int .i64 a0_2, .int .i64 a0_3, .int .i64 a0_4, .int .i64 a0_5, .int .i64 a0_6, (.slice A0_7 l0_7.length c0_7), (.slice A0_8 l0_8.length c0_8)] 25 (0, 0))) ∧ Aside0 (Below w.heap.size w w'))
    case atStart => exact ⟨(0), zq2, H', ⟨Nat.le_refl _⟩, ⟨zbf⟩, ⟨zbz⟩⟩
    case round =>
     clear H'
     try clear c1
     try clear c2
     try clear p2
     try clear c7
     try clear c9
     try clear c10
     try clear c10b0
     try clear c10b1
     try clear c13
     try clear c13b0
     try clear c13b1
     try clear c19
     try clear c21
     try clear c22
     try clear hcz11_0 hcz11_1 hcz11_2 hcz11_3 hcz11_4 hcz11_5 hcz11_6 hcz11_7 hcz11_8
     try clear hcz14_0 hcz14_1 hcz14_2 hcz14_3 hcz14_4 hcz14_5 hcz14_6 hcz14_7 hcz14_8
     try clear hcz17_0 hcz17_1 hcz17_2 hcz17_3 hcz17_4 hcz17_5 hcz17_6 hcz17_7 hcz17_8
     try clear hcz19_0 hcz19_1 hcz19_2 hcz19_3 hcz19_4 hcz19_5 hcz19_6 hcz19_7 hcz19_8
     try clear hcz8_0 hcz8_1 hcz8_2 hcz8_3 hcz8_4 hcz8_5 hcz8_6 hcz8_7 hcz8_8
     try clear hfz11_0 hfz11_1 hfz11_2 hfz11_3 hfz11_4 hfz11_5 hfz11_6 hfz11_7 hfz11_8
     try clear hfz14_0 hfz14_1 hfz14_2 hfz14_3 hfz14_4 hfz14_5 hfz14_6 hfz14_7 hfz14_8
     try clear hfz17_0 hfz17_1 hfz17_2 hfz17_3 hfz17_4 hfz17_5 hfz17_6 hfz17_7 hfz17_8
     try clear hfz19_0 hfz19_1 hfz19_2 hfz19_3 hfz19_4 hfz19_5 hfz19_6 hfz19_7 hfz19_8
     try clear hfz8_0 hfz8_1 hfz8_2 hfz8_3 hfz8_4 hfz8_5 hfz8_6 hfz8_7 hfz8_8
     try clear p2
     obtain ⟨x7_2, rfl, HA, HK2, BK302, HB⟩ := hrel
     cases gk with
     | zero => exact absurd HA.out (by simp [isobathlaw03_GliderSwarm.l0])
     | succ k2 =>
      have H := HA.out
      clear HA
      simp only [isobathlaw03_GliderSwarm.l0] at H
      by_cases c24 : x7_2 < (l1.length : Int)
      ·rw [if_pos c24] at H
       have c24b0 : decide (x7_2 < (l1.length : Int)) = true := decide_eq_true c24
       clear c24
       by_cases c25 : 0 ≤ x7_2
       ·rw [if_pos c25] at H
        have c25b0 : decide (0 ≤ x7_2) = true := decide_eq_true c25
        clear c25
        by_cases c26 : ((rd_L11 l1 x7_2).length : Int) > 20
        ·rw [if_pos c26] at H
         have c26b0 : decide (20 < ((rd_L11 l1 x7_2).length : Int)) = true := decide_eq_true c26
         have c26b1 : decide (20 < (rd_L11 l1 x7_2).length) = true := decide_eq_true (by omega)
         clear c26
         replace H := Option.bind_eq_some_iff.mp H
         obtain ⟨t307, A270, H⟩ := H
         replace H : (some t307) = some r := H
         have A27 := Aside0.mk A270
         clear A270
         obtain rfl := Option.some.inj H
         have p306 : 0 ≤ (x7_2 : Int) := of_decide_eq_true zq4
         have q306 : x7_2 < (l1.length : Int) := of_decide_eq_true zq4
         obtain ⟨ad306, A306_0, c306_0, e306, hx306_0, hl306_0, hi306_0⟩ := at_L11 HR1.out x7_2 p306 q306
         cases e306
         replace hx306_0 := (HB.out.cell (World.block_lt_of_cell? w _ hx306_0)).trans hx306_0
         have HR306_0 := Aside0.mk hi306_0
         have HC306_0 := Aside0.mk hl306_0
         clear hi306_0 hl306_0
         replace p306 := eq_true p306
         replace q306 := eq_true q306
         go_wp2_with (first | ((with_reducible refine gate_callee (f := 19) rfl ?_); refine goesL_ (some 46) rfl rfl Try.func19 zq1 rfl #[] rfl zq7 ?_; (with_reducible refine (isobathlaw03_Works.calls k2  t307 _ A27.out).mono ?_); rintro e w28 ⟨rfl, hb⟩; refine ⟨_, rfl, ?_⟩; replace BK302 := zbb BK302 hb; replace HB := zbs HB hb; (try clear hb); (try clear hb2); (try clear hk); (try clear hi)))
         go_ret
         exact ⟨zq6, zbz⟩
        ·rw [if_neg c26] at H
         have c26b0 : decide (20 < ((rd_L11 l1 x7_2).length : Int)) = false := decide_eq_false c26
         have c26b1 : decide (20 < (rd_L11 l1 x7_2).length) = false := decide_eq_false (by omega)
         clear c26
         have H' := Aside0.mk H
         clear H
         have p306 : 0 ≤ (x7_2 : Int) := of_decide_eq_true zq4
         have q306 : x7_2 < (l1.length : Int) := of_decide_eq_true zq4
         obtain ⟨ad306, A306_0, c306_0, e306, hx306_0, hl306_0, hi306_0⟩ := at_L11 HR1.out x7_2 p306 q306
         cases e306
         replace hx306_0 := (HB.out.cell (World.block_lt_of_cell? w _ hx306_0)).trans hx306_0
         have HR306_0 := Aside0.mk hi306_0
         have HC306_0 := Aside0.mk hl306_0
         clear hi306_0 hl306_0
         replace p306 := eq_true p306
         replace q306 := eq_true q306
         go_wp2
         go_roundg k2
         case measure => have := HJ3.out; have := HK2.out; omega
         case rel => exact ⟨(wrap64 (x7_2 + 1)), zq2, H', ⟨by have := HJ3.out; have := HK2.out; omega⟩, ⟨zbf⟩, ⟨zbz⟩⟩
       ·rw [if_neg c25] at H
        exact absurd H (by simp)
      ·rw [if_neg c24] at H
       have c24b0 : decide (x7_2 < (l1.length : Int)) = false := decide_eq_false c24
       clear c24
       replace H := Option.bind_eq_some_iff.mp H
       obtain ⟨⟨t308, t311⟩, A290, H⟩ := H
       replace H : ((swarm_more.f k2 a0_0 a0_1 a0_2 a0_3 a0_4 a0_5 a0_6 l0_7 l0_8 l1 l2).bind fun bt312 => (if t311 = 0 then (isobathlaw03_GliderSwarm.j2 k2 l2 t308 t311 bt312.1 bt312.2 (bt312.2 != 0) a0_0 a0_1 a0_2 a0_3 a0_4 a0_5 a0_6 l0_7 l0_8) else (isobathlaw03_GliderSwarm.j2 k2 l2 t308 t311 bt312.1 bt312.2 true a0_0 a0_1 a0_2 a0_3 a0_4 a0_5 a0_6 l0_7 l0_8))) = some r := H
       have A29 := Aside0.mk A290
       clear A290
       replace H := Option.bind_eq_some_iff.mp H
       obtain ⟨⟨t312, t315⟩, A300, H⟩ := H
       replace H : (if t311 = 0 then (isobathlaw03_GliderSwarm.j2 k2 l2 t308 t311 t312 t315 (t315 != 0) a0_0 a0_1 a0_2 a0_3 a0_4 a0_5 a0_6 l0_7 l0_8) else (isobathlaw03_GliderSwarm.j2 k2 l2 t308 t311 t312 t315 true a0_0 a0_1 a0_2 a0_3 a0_4 a0_5 a0_6 l0_7 l0_8)) = some r := H
       have A30 := Aside0.mk A300
       clear A300
       have HC31 := Aside0.mk H
       clear H
       obtain ⟨hcz32_0, hcz32_1, hcz32_2, hcz32_3, hcz32_4, hcz32_5, hcz32_6, hcz32_7, hcz32_8, hfz32_0, hfz32_1, hfz32_2, hfz32_3, hfz32_4, hfz32_5, hfz32_6, hfz32_7, hfz32_8⟩ := zce9 BK302.out
       go_upto_region 9 with (first | ((with_reducible refine gate_callee (f := 40) rfl ?_); refine goesL_ (some 50) rfl rfl Try.func40 zq1 rfl #[.agg #[.int .i64 a0_0, .int .i64 a0_1, .int .i64 a0_2, .int .i64 a0_3, .int .i64 a0_4, .int .i64 a0_5, .int .i64 a0_6, .slice A0_7 l0_7.length c0_7, .slice A0_8 l0_8.length c0_8], .slice A1 l1.length c1] rfl zq7 ?_; (with_reducible refine (glider_Visited.calls k2 a0_0 a0_1 a0_2 a0_3 a0_4 a0_5 a0_6 _ _ l0_7 _ _ l0_8 _ _ l1 t308 t311 _ ?side1 ?side2 ?side3 ?side4 ?side5 ?side6 A29.out).mono ?_); (case side1 => repeat (first | exact (Kd.C_below HR0_7.out HB.out) | (with_reducible refine Kd.C_alloc ?_ _) | (with_reducible refine Kd.C_drewN ?_ _) | (with_reducible refine Kd.C_drew ?_))); (case side2 => exact HC0_7.out); (case side3 => repeat (first | exact (Kd.C_below HR0_8.out HB.out) | (with_reducible refine Kd.C_alloc ?_ _) | (with_reducible refine Kd.C_drewN ?_ _) | (with_reducible refine Kd.C_drew ?_))); (case side4 => exact HC0_8.out); (case side5 => repeat (first | exact (Kd.C_below HR1.out HB.out) | (with_reducible refine Kd.C_alloc ?_ _) | (with_reducible refine Kd.C_drewN ?_ _) | (with_reducible refine Kd.C_drew ?_))); (case side6 => exact HC1.out); rintro e w33 ⟨v309, rfl, ho0, hb⟩; refine ⟨_, rfl, ?_⟩; have HO310 := Aside0.mk (Kd.R_lower ho0 (below_size zbz)); replace BK302 := zbb BK302 hb; replace HB := zbs HB hb; (try clear hb); (try clear hb2); (try clear hk); (try clear hi); (try clear ho0); obtain ⟨hcz34_0, hcz34_1, hcz34_2, hcz34_3, hcz34_4, hcz34_5, hcz34_6, hcz34_7, hcz34_8, hfz34_0, hfz34_1, hfz34_2, hfz34_3, hfz34_4, hfz34_5, hfz34_6, hfz34_7, hfz34_8⟩ := zce9 BK302.out))
       (try simp only [Act.put, List.setIfInBounds_toArray, List.set_cons_zero, List.set_cons_succ])
       refine (wpIn_wide (n := 0)).1 (wpIn_only (wpIn_wide.2 ?_))
       refine swarm9 _ _ _ _ _ _ _ _ _ _ _ _ _ _ _ _ _ _ _ _ _ _ _ _ _ _ _ _ _ _ _ _ _ _ _ _ _ _ _ _ _ _ _ _ _ _ _ _ _ _ _ _ _ _ _ _ _ _ _ _ _ _ _ _ _ _ _ _ _ _ _ _ _ _ _ _ _ _ _ _ _ _ _ _ _ _ _ _ _ _ _ _ _ _ _ _ _ _ _ _ _ _ _ _ _ _ _ _ _ _ _ _ _ _ _ _ _ _ _ _ _ _ _ _ _ _ _ _ _ _ k2 a0_0 a0_1 a0_2 a0_3 a0_4 a0_5 a0_6 _ _ l0_7 _ _ l0_8 _ _ l1 _ _ l2 t312 t315 gb302 w33 (Kd.C_below HR0_7.out HB.out) HC0_7.out (Kd.C_below HR0_8.out HB.out) HC0_8.out (Kd.C_below HR1.out HB.out) (Kd.C_below HR2.out HB.out) HC2.out BK302.out A30.out ?_
       intro v313 z54 z55 z56 z57 z58 z59 z60 z61 w35 ho0 hb
       have n0_ := Aside0.mk (Kd.R_elder' (by (with_reducible repeat (first | apply Kd.R_alloc | apply Kd.R_drewN | apply Kd.R_drew)); exact HO310.out) (Kd.R_base ho0) hb); have n1_ := Aside0.mk (Kd.R_lower (Kd.R_new' ho0 (Kd.R_lt (by (with_reducible repeat (first | apply Kd.R_alloc | apply Kd.R_drewN | apply Kd.R_drew)); exact HO310.out))) (below_size zbz)); have n2_ := zbb BK302 hb; have n3_ := zbs HB hb; clear HO310; clear BK302; clear HB; have HO310 := n0_; have HO314 := n1_; have BK302 := n2_; have HB := n3_; clear n0_ n1_ n2_ n3_; (try clear hb); (try clear hb2); (try clear hk); (try clear hi); (try clear ho0)
       (try dsimp only [Exit.then])
       (try apply_assumption)
       go_upto_region 10 with fail
       (try simp only [Act.put, List.setIfInBounds_toArray, List.set_cons_zero, List.set_cons_succ])
       go_cut [69] (fun v69 wc => ∃ (kq : Nat) (x69_30 : Bool), v69 = .bool x69_30 ∧ Aside0 (isobathlaw03_GliderSwarm.j2 kq l2 t308 t311 t312 t315 x69_30 a0_0 a0_1 a0_2 a0_3 a0_4 a0_5 a0_6 l0_7 l0_8 = some r) ∧ Aside0 (kq ≤ k2) ∧ Aside0 (Kd.R (Kd.int .i64) 75 wc w.heap.size (fun k_ => some k_ ≠ (v313 : Value).ownBlock) v309 t308) ∧ Aside0 (Kd.R (Kd.int .i64) 75 wc w.heap.size (fun k_ => some k_ ≠ (v309 : Value).ownBlock) v313 t312) ∧ Aside0 (wc.heap[gb302]? = some (.cells #[.int .i64 a0_0, .int .i64 a0_1, .int .i64 a0_2, .int .i64 a0_3, .int .i64 a0_4, .int .i64 a0_5, .int .i64 a0_6, (.slice A0_7 l0_7.length c0_7), (.slice A0_8 l0_8.length c0_8)] 25 (0, 0))) ∧ Aside0 (Below w.heap.size w wc))
       case first =>
        have H := HC31.out
        clear HC31
        by_cases c36 : t311 = 0
        ·rw [if_pos c36] at H
         have c36b0 : (t311 == 0) = true := beq_iff_eq.mpr c36
         have c36b1 : (t311 != 0) = false := bne_eq_false_iff_eq.mpr c36
         clear c36
         (first | rw [c36b0] | (simp only [i64_w, i32_w]; rw [c36b0]) | skip)
         have H' := Aside0.mk H
         clear H
         go_wp2
         go_meet
         case rel => exact ⟨_, ((t315 != 0)), zq2, H', ⟨by have := HJ3.out; have := HK2.out; first | omega | exact Nat.le_refl _⟩, ⟨zq51⟩, ⟨zq52⟩, ⟨zbf⟩, ⟨zbz⟩⟩
        ·rw [if_neg c36] at H
         have c36b0 : (t311 == 0) = false := beq_eq_false_iff_ne.mpr c36
         have c36b1 : (t311 != 0) = true := bne_iff_ne.mpr c36
         (first | rw [c36b0] | (simp only [i64_w, i32_w]; rw [c36b0]) | skip)
         have H' := Aside0.mk H
         clear H
         go_wp2
         go_meet
         case rel => exact ⟨_, (true), zq2, H', ⟨by have := HJ3.out; have := HK2.out; first | omega | exact Nat.le_refl _⟩, ⟨zq51⟩, ⟨zq52⟩, ⟨zbf⟩, ⟨zbz⟩⟩
       case rest =>
        clear HC31
        try clear c1
        try clear c2
        try clear p2
        try clear c3
        try clear p3
        try clear q3
        try clear hx3
        try clear c4
        try clear p6
        try clear c7
        try clear c8
        try clear c9
        try clear c10
        try clear c10b0
        try clear c10b1
        try clear c13
        try clear c13b0
        try clear c13b1
        try clear c19
        try clear c21
        try clear c22
        try clear c24
        try clear c24b0
        try clear c25
        try clear c25b0
        try clear c26
        try clear c26b0
        try clear c26b1
        try clear c30
        try clear p30
        try clear q30
        try clear hx30
        try clear c36
        try clear c36b0
        try clear c36b1
        try clear hcz11_0 hcz11_1 hcz11_2 hcz11_3 hcz11_4 hcz11_5 hcz11_6 hcz11_7 hcz11_8
        try clear hcz14_0 hcz14_1 hcz14_2 hcz14_3 hcz14_4 hcz14_5 hcz14_6 hcz14_7 hcz14_8
        try clear hcz17_0 hcz17_1 hcz17_2 hcz17_3 hcz17_4 hcz17_5 hcz17_6 hcz17_7 hcz17_8
        try clear hcz19_0 hcz19_1 hcz19_2 hcz19_3 hcz19_4 hcz19_5 hcz19_6 hcz19_7 hcz19_8
        try clear hcz32_0 hcz32_1 hcz32_2 hcz32_3 hcz32_4 hcz32_5 hcz32_6 hcz32_7 hcz32_8
        try clear hcz34_0 hcz34_1 hcz34_2 hcz34_3 hcz34_4 hcz34_5 hcz34_6 hcz34_7 hcz34_8
        try clear hcz8_0 hcz8_1 hcz8_2 hcz8_3 hcz8_4 hcz8_5 hcz8_6 hcz8_7 hcz8_8
        try clear hfz11_0 hfz11_1 hfz11_2 hfz11_3 hfz11_4 hfz11_5 hfz11_6 hfz11_7 hfz11_8
        try clear hfz14_0 hfz14_1 hfz14_2 hfz14_3 hfz14_4 hfz14_5 hfz14_6 hfz14_7 hfz14_8
        try clear hfz17_0 hfz17_1 hfz17_2 hfz17_3 hfz17_4 hfz17_5 hfz17_6 hfz17_7 hfz17_8
        try clear hfz19_0 hfz19_1 hfz19_2 hfz19_3 hfz19_4 hfz19_5 hfz19_6 hfz19_7 hfz19_8
        try clear hfz32_0 hfz32_1 hfz32_2 hfz32_3 hfz32_4 hfz32_5 hfz32_6 hfz32_7 hfz32_8
        try clear hfz34_0 hfz34_1 hfz34_2 hfz34_3 hfz34_4 hfz34_5 hfz34_6 hfz34_7 hfz34_8
        try clear hfz8_0 hfz8_1 hfz8_2 hfz8_3 hfz8_4 hfz8_5 hfz8_6 hfz8_7 hfz8_8
        try clear hx306_0
        try clear p2
        try clear p306
        try clear q306
        obtain ⟨kq, x69_30, rfl, HA, HJ30, HO_8, HO_10, BK302, HB⟩ := hcut
        cases kq with
        | zero => exact absurd HA.out (by simp [isobathlaw03_GliderSwarm.j2])
        | succ kj30 =>
         have H := HA.out
         clear HA
         simp only [isobathlaw03_GliderSwarm.j2] at H
         by_cases c37 : x69_30 = true
         ·subst c37
          have H1 : (if t311 = 0 then ((isobathlaw03_Works.f kj30).bind fun t316 => (some t316)) else (if t315 = t311 then ((isobathlaw03_Works.f kj30).bind fun t317 => (some t317)) else (some false))) = some r := by rw [if_pos rfl] at H; exact H
          clear H
          have H := H1
          clear H1
          by_cases c38 : t311 = 0
          ·rw [if_pos c38] at H
           have c38b0 : (t311 == 0) = true := beq_iff_eq.mpr c38
           have c38b1 : (t311 != 0) = false := bne_eq_false_iff_eq.mpr c38
           clear c38
           replace H := Option.bind_eq_some_iff.mp H
           obtain ⟨t316, A390, H⟩ := H
           replace H : (some t316) = some r := H
           have A39 := Aside0.mk A390
           clear A390
           obtain rfl := Option.some.inj H
           go_wp2_with (first | (go_at_call 19; (with_reducible refine (isobathlaw03_Works.calls kj30  t316 _ A39.out).mono ?_); rintro e w40 ⟨rfl, hb⟩; replace HO_8 := zrb HO_8 hb; replace HO_10 := zrb HO_10 hb; replace BK302 := zbb BK302 hb; replace HB := zbs HB hb; (try clear hb); (try clear hb2); (try clear hk); (try clear hi)))
           go_ret
           exact ⟨zq6, zbz⟩
          ·rw [if_neg c38] at H
           have c38b0 : (t311 == 0) = false := beq_eq_false_iff_ne.mpr c38
           have c38b1 : (t311 != 0) = true := bne_iff_ne.mpr c38
           by_cases c41 : t315 = t311
           ·rw [if_pos c41] at H
            have c41b0 : (t315 == t311) = true := beq_iff_eq.mpr c41
            have c41b1 : (t315 != t311) = false := bne_eq_false_iff_eq.mpr c41
            clear c41
            replace H := Option.bind_eq_some_iff.mp H
            obtain ⟨t317, A420, H⟩ := H
            replace H : (some t317) = some r := H
            have A42 := Aside0.mk A420
            clear A420
            obtain rfl := Option.some.inj H
            go_wp2_with (first | (go_at_call 19; (with_reducible refine (isobathlaw03_Works.calls kj30  t317 _ A42.out).mono ?_); rintro e w43 ⟨rfl, hb⟩; replace HO_8 := zrb HO_8 hb; replace HO_10 := zrb HO_10 hb; replace BK302 := zbb BK302 hb; replace HB := zbs HB hb; (try clear hb); (try clear hb2); (try clear hk); (try clear hi)))
            go_ret
            exact ⟨zq6, zbz⟩
           ·rw [if_neg c41] at H
            have c41b0 : (t315 == t311) = false := beq_eq_false_iff_ne.mpr c41
            have c41b1 : (t315 != t311) = true := bne_iff_ne.mpr c41
            have hh_ := Option.some.inj H
            rw [hr_.out] at hh_
            cases hh_
         ·replace c37 := Bool.eq_false_iff.mpr c37
          subst c37
          have H1 : (if (t308.length : Int) = (wrap64 (a0_0 * a0_1)) then (isobathlaw03_GliderSwarm.j3 kj30 l2 t308 t312 ((t312.length : Int) != (t308.length : Int)) a0_0 a0_1 a0_2 a0_3 a0_4 a0_5 a0_6 l0_7 l0_8) else (isobathlaw03_GliderSwarm.j3 kj30 l2 t308 t312 true a0_0 a0_1 a0_2 a0_3 a0_4 a0_5 a0_6 l0_7 l0_8)) = some r := by rw [if_neg (show ¬ (false = true) by decide)] at H; exact H
          clear H
          have H := H1
          clear H1
          have HC44 := Aside0.mk H
          clear H
          go_upto_region 12 with (fail)
          go_cut [94] (fun v94 wc => ∃ (kq : Nat) (x94_43 : Bool), v94 = .bool x94_43 ∧ Aside0 (isobathlaw03_GliderSwarm.j3 kq l2 t308 t312 x94_43 a0_0 a0_1 a0_2 a0_3 a0_4 a0_5 a0_6 l0_7 l0_8 = some r) ∧ Aside0 (kq ≤ kj30) ∧ Aside0 (Kd.R (Kd.int .i64) 75 wc w.heap.size (fun k_ => some k_ ≠ (v313 : Value).ownBlock) v309 t308) ∧ Aside0 (Kd.R (Kd.int .i64) 75 wc w.heap.size (fun k_ => some k_ ≠ (v309 : Value).ownBlock) v313 t312) ∧ Aside0 (wc.heap[gb302]? = some (.cells #[.int .i64 a0_0, .int .i64 a0_1, .int .i64 a0_2, .int .i64 a0_3, .int .i64 a0_4, .int .i64 a0_5, .int .i64 a0_6, (.slice A0_7 l0_7.length c0_7), (.slice A0_8 l0_8.length c0_8)] 25 (0, 0))) ∧ Aside0 (Below w.heap.size w wc))
          case first =>
           have H := HC44.out
           clear HC44
           by_cases c45 : (t308.length : Int) = (wrap64 (a0_0 * a0_1))
           ·rw [if_pos c45] at H
            have c45b0 : ((t308.length : Int) == (wrap64 (a0_0 * a0_1))) = true := beq_iff_eq.mpr c45
            have c45b1 : ((t308.length : Int) != (wrap64 (a0_0 * a0_1))) = false := bne_eq_false_iff_eq.mpr c45
            clear c45
            (first | rw [c45b0] | (simp only [i64_w, i32_w]; rw [c45b0]) | skip)
            have H' := Aside0.mk H
            clear H
            obtain ⟨Ao46, co46, eo46⟩ := Kd.R_slice HO_8.out
            subst eo46
            obtain ⟨hcz47_0, hcz47_1, hcz47_2, hcz47_3, hcz47_4, hcz47_5, hcz47_6, hcz47_7, hcz47_8, hfz47_0, hfz47_1, hfz47_2, hfz47_3, hfz47_4, hfz47_5, hfz47_6, hfz47_7, hfz47_8⟩ := zce9 BK302.out
            obtain ⟨Ao48, co48, eo48⟩ := Kd.R_slice HO_10.out
            subst eo48
            go_wp2
            go_meet
            case rel => exact ⟨_, (((t312.length : Int) != (t308.length : Int))), zq2, H', ⟨by have := HJ3.out; have := HK2.out; have := HJ30.out; first | omega | exact Nat.le_refl _⟩, ⟨zq53⟩, ⟨zq48⟩, ⟨zbf⟩, ⟨zbz⟩⟩
           ·rw [if_neg c45] at H
            have c45b0 : ((t308.length : Int) == (wrap64 (a0_0 * a0_1))) = false := beq_eq_false_iff_ne.mpr c45
            have c45b1 : ((t308.length : Int) != (wrap64 (a0_0 * a0_1))) = true := bne_iff_ne.mpr c45
            (first | rw [c45b0] | (simp only [i64_w, i32_w]; rw [c45b0]) | skip)
            have H' := Aside0.mk H
            clear H
            obtain ⟨Ao49, co49, eo49⟩ := Kd.R_slice HO_8.out
            subst eo49
            obtain ⟨hcz50_0, hcz50_1, hcz50_2, hcz50_3, hcz50_4, hcz50_5, hcz50_6, hcz50_7, hcz50_8, hfz50_0, hfz50_1, hfz50_2, hfz50_3, hfz50_4, hfz50_5, hfz50_6, hfz50_7, hfz50_8⟩ := zce9 BK302.out
            go_wp2
            go_meet
            case rel => exact ⟨_, (true), zq2, H', ⟨by have := HJ3.out; have := HK2.out; have := HJ30.out; first | omega | exact Nat.le_refl _⟩, ⟨zq53⟩, ⟨zq48⟩, ⟨zbf⟩, ⟨zbz⟩⟩
          case rest =>
           clear HC44
           try clear c1
           try clear c2
           try clear p2
           try clear c3
           try clear p3
           try clear q3
           try clear hx3
           try clear c4
           try clear p6
           try clear c7
           try clear c8
           try clear c9
           try clear c10
           try clear c10b0
           try clear c10b1
           try clear c13
           try clear c13b0
           try clear c13b1
           try clear c19
           try clear c21
           try clear c22
           try clear c24
           try clear c24b0
           try clear c25
           try clear c25b0
           try clear c26
           try clear c26b0
           try clear c26b1
           try clear c30
           try clear p30
           try clear q30
           try clear hx30
           try clear c36
           try clear c36b0
           try clear c36b1
           try clear c37
           try clear c38
           try clear c38b0
           try clear c38b1
           try clear c40
           try clear c41
           try clear c41b0
           try clear c41b1
           try clear c45
           try clear c45b0
           try clear c45b1
           try clear hcz11_0 hcz11_1 hcz11_2 hcz11_3 hcz11_4 hcz11_5 hcz11_6 hcz11_7 hcz11_8
           try clear hcz14_0 hcz14_1 hcz14_2 hcz14_3 hcz14_4 hcz14_5 hcz14_6 hcz14_7 hcz14_8
           try clear hcz17_0 hcz17_1 hcz17_2 hcz17_3 hcz17_4 hcz17_5 hcz17_6 hcz17_7 hcz17_8
           try clear hcz19_0 hcz19_1 hcz19_2 hcz19_3 hcz19_4 hcz19_5 hcz19_6 hcz19_7 hcz19_8
           try clear hcz32_0 hcz32_1 hcz32_2 hcz32_3 hcz32_4 hcz32_5 hcz32_6 hcz32_7 hcz32_8
           try clear hcz34_0 hcz34_1 hcz34_2 hcz34_3 hcz34_4 hcz34_5 hcz34_6 hcz34_7 hcz34_8
           try clear hcz47_0 hcz47_1 hcz47_2 hcz47_3 hcz47_4 hcz47_5 hcz47_6 hcz47_7 hcz47_8
           try clear hcz50_0 hcz50_1 hcz50_2 hcz50_3 hcz50_4 hcz50_5 hcz50_6 hcz50_7 hcz50_8
           try clear hcz8_0 hcz8_1 hcz8_2 hcz8_3 hcz8_4 hcz8_5 hcz8_6 hcz8_7 hcz8_8
           try clear hfz11_0 hfz11_1 hfz11_2 hfz11_3 hfz11_4 hfz11_5 hfz11_6 hfz11_7 hfz11_8
           try clear hfz14_0 hfz14_1 hfz14_2 hfz14_3 hfz14_4 hfz14_5 hfz14_6 hfz14_7 hfz14_8
           try clear hfz17_0 hfz17_1 hfz17_2 hfz17_3 hfz17_4 hfz17_5 hfz17_6 hfz17_7 hfz17_8
           try clear hfz19_0 hfz19_1 hfz19_2 hfz19_3 hfz19_4 hfz19_5 hfz19_6 hfz19_7 hfz19_8
           try clear hfz32_0 hfz32_1 hfz32_2 hfz32_3 hfz32_4 hfz32_5 hfz32_6 hfz32_7 hfz32_8
           try clear hfz34_0 hfz34_1 hfz34_2 hfz34_3 hfz34_4 hfz34_5 hfz34_6 hfz34_7 hfz34_8
           try clear hfz47_0 hfz47_1 hfz47_2 hfz47_3 hfz47_4 hfz47_5 hfz47_6 hfz47_7 hfz47_8
           try clear hfz50_0 hfz50_1 hfz50_2 hfz50_3 hfz50_4 hfz50_5 hfz50_6 hfz50_7 hfz50_8
           try clear hfz8_0 hfz8_1 hfz8_2 hfz8_3 hfz8_4 hfz8_5 hfz8_6 hfz8_7 hfz8_8
           try clear hx306_0
           try clear p2
           try clear p3
           try clear p30
           try clear p306
           try clear p6
           try clear q3
           try clear q30
           try clear q306
           obtain ⟨kq, x94_43, rfl, HA, HJ43, HO_8, HO_10, BK302, HB⟩ := hcut
           cases kq with
           | zero => exact absurd HA.out (by simp [isobathlaw03_GliderSwarm.j3])
           | succ kj43 =>
            have H := HA.out
            clear HA
            simp only [isobathlaw03_GliderSwarm.j3] at H
            by_cases c51 : x94_43 = true
            ·subst c51
             have H1 : (some false) = some r := by rw [if_pos rfl] at H; exact H
             clear H
             have H := H1
             clear H1
             have hh_ := Option.some.inj H
             rw [hr_.out] at hh_
             cases hh_
            ·replace c51 := Bool.eq_false_iff.mpr c51
             subst c51
             have H1 : (isobathlaw03_GliderSwarm.l1 kj43 l2 t308 t312 0 a0_0 a0_1 a0_2 a0_3 a0_4 a0_5 a0_6 l0_7 l0_8) = some r := by rw [if_neg (show ¬ (false = true) by decide)] at H; exact H
             clear H
             have H := H1
             clear H1
             have H' := Aside0.mk H
             clear H
             go_wp2
             go_loopg [12] kj43 (fun kq v12 w' => ∃ (x12_5 : Int), v12 = .int .i64 x12_5 ∧ Aside0 (isobathlaw03_GliderSwarm.l1 kq l2 t308 t312 x12_5 a0_0 a0_1 a0_2 a0_3 a0_4 a0_5 a0_6 l0_7 l0_8 = some r) ∧ Aside0 (kq ≤ kj43) ∧ Aside0 (Kd.R (Kd.int .i64) 75 w' w.heap.size (fun k_ => some k_ ≠ (v313 : Value).ownBlock) v309 t308) ∧ Aside0 (Kd.R (Kd.int .i64) 75 w' w.heap.size (fun k_ => some k_ ≠ (v309 : Value).ownBlock) v313 t312) ∧ Aside0 (w'.heap[gb302]? = some (.cells #[.int .i64 a0_0, .int .i64 a0_1, .int .i64 a0_2, .int .i64 a0_3, .int .i64 a0_4, .int .i64 a0_5, .int .i64 a0_6, (.slice A0_7 l0_7.length c0_7), (.slice A0_8 l0_8.length c0_8)] 25 (0, 0))) ∧ Aside0 (Below w.heap.size w w'))
             case atStart => exact ⟨(0), zq2, H', ⟨Nat.le_refl _⟩, ⟨zq53⟩, ⟨zq48⟩, ⟨zbf⟩, ⟨zbz⟩⟩
             case round =>
              clear H'
              try clear c1
              try clear c2
              try clear p2
              try clear c3
              try clear p3
              try clear q3
              try clear hx3
              try clear c4
              try clear c5
              try clear p6
              try clear c7
              try clear c8
              try clear c9
              try clear c10
              try clear c10b0
              try clear c10b1
              try clear c13
              try clear c13b0
              try clear c13b1
              try clear c19
              try clear c21
              try clear c22
              try clear c24
              try clear c24b0
              try clear c25
              try clear c25b0
              try clear c26
              try clear c26b0
              try clear c26b1
              try clear c30
              try clear p30
              try clear q30
              try clear hx30
              try clear c36
              try clear c36b0
              try clear c36b1
              try clear c37
              try clear c38
              try clear c38b0
              try clear c38b1
              try clear c40
              try clear c41
              try clear c41b0
              try clear c41b1
              try clear c45
              try clear c45b0
              try clear c45b1
              try clear c51
              try clear hcz11_0 hcz11_1 hcz11_2 hcz11_3 hcz11_4 hcz11_5 hcz11_6 hcz11_7 hcz11_8
              try clear hcz14_0 hcz14_1 hcz14_2 hcz14_3 hcz14_4 hcz14_5 hcz14_6 hcz14_7 hcz14_8
              try clear hcz17_0 hcz17_1 hcz17_2 hcz17_3 hcz17_4 hcz17_5 hcz17_6 hcz17_7 hcz17_8
              try clear hcz19_0 hcz19_1 hcz19_2 hcz19_3 hcz19_4 hcz19_5 hcz19_6 hcz19_7 hcz19_8
              try clear hcz32_0 hcz32_1 hcz32_2 hcz32_3 hcz32_4 hcz32_5 hcz32_6 hcz32_7 hcz32_8
              try clear hcz34_0 hcz34_1 hcz34_2 hcz34_3 hcz34_4 hcz34_5 hcz34_6 hcz34_7 hcz34_8
              try clear hcz47_0 hcz47_1 hcz47_2 hcz47_3 hcz47_4 hcz47_5 hcz47_6 hcz47_7 hcz47_8
              try clear hcz50_0 hcz50_1 hcz50_2 hcz50_3 hcz50_4 hcz50_5 hcz50_6 hcz50_7 hcz50_8
              try clear hcz8_0 hcz8_1 hcz8_2 hcz8_3 hcz8_4 hcz8_5 hcz8_6 hcz8_7 hcz8_8
              try clear hfz11_0 hfz11_1 hfz11_2 hfz11_3 hfz11_4 hfz11_5 hfz11_6 hfz11_7 hfz11_8
              try clear hfz14_0 hfz14_1 hfz14_2 hfz14_3 hfz14_4 hfz14_5 hfz14_6 hfz14_7 hfz14_8
              try clear hfz17_0 hfz17_1 hfz17_2 hfz17_3 hfz17_4 hfz17_5 hfz17_6 hfz17_7 hfz17_8
              try clear hfz19_0 hfz19_1 hfz19_2 hfz19_3 hfz19_4 hfz19_5 hfz19_6 hfz19_7 hfz19_8
              try clear hfz32_0 hfz32_1 hfz32_2 hfz32_3 hfz32_4 hfz32_5 hfz32_6 hfz32_7 hfz32_8
              try clear hfz34_0 hfz34_1 hfz34_2 hfz34_3 hfz34_4 hfz34_5 hfz34_6 hfz34_7 hfz34_8
              try clear hfz47_0 hfz47_1 hfz47_2 hfz47_3 hfz47_4 hfz47_5 hfz47_6 hfz47_7 hfz47_8
              try clear hfz50_0 hfz50_1 hfz50_2 hfz50_3 hfz50_4 hfz50_5 hfz50_6 hfz50_7 hfz50_8
              try clear hfz8_0 hfz8_1 hfz8_2 hfz8_3 hfz8_4 hfz8_5 hfz8_6 hfz8_7 hfz8_8
              try clear hx306_0
              try clear p2
              try clear p3
              try clear p30
              try clear p306
              try clear p6
              try clear q3
              try clear q30
              try clear q306
              obtain ⟨x12_5, rfl, HA, HK5, HO_8, HO_10, BK302, HB⟩ := hrel
              cases gk with
              | zero => exact absurd HA.out (by simp [isobathlaw03_GliderSwarm.l1])
              | succ k5 =>
               have H := HA.out
               clear HA
               simp only [isobathlaw03_GliderSwarm.l1] at H
               by_cases c52 : x12_5 < (t308.length : Int)
               ·rw [if_pos c52] at H
                have c52b0 : decide (x12_5 < (t308.length : Int)) = true := decide_eq_true c52
                clear c52
                by_cases c53 : 0 ≤ x12_5
                ·rw [if_pos c53] at H
                 have c53b0 : decide (0 ≤ x12_5) = true := decide_eq_true c53
                 clear c53
                 by_cases c54 : x12_5 < (t312.length : Int)
                 ·rw [if_pos c54] at H
                  have c54b0 : decide (x12_5 < (t312.length : Int)) = true := decide_eq_true c54
                  clear c54
                  by_cases c55 : (rd t312 x12_5) < (rd t308 x12_5)
                  ·rw [if_pos c55] at H
                   have c55b0 : decide ((rd t312 x12_5) < (rd t308 x12_5)) = true := decide_eq_true c55
                   clear c55
                   have hh_ := Option.some.inj H
                   rw [hr_.out] at hh_
                   cases hh_
                  ·rw [if_neg c55] at H
                   have c55b0 : decide ((rd t312 x12_5) < (rd t308 x12_5)) = false := decide_eq_false c55
                   clear c55
                   replace H := Option.bind_eq_some_iff.mp H
                   obtain ⟨⟨t321, t322, t323, t324⟩, A590, H⟩ := H
                   replace H : (isobathlaw03_GliderSwarm.l2 k5 l2 t308 t312 x12_5 0 a0_0 a0_1 a0_2 a0_3 a0_4 a0_5 a0_6 l0_7 l0_8 t321 t322 t323 t324) = some r := H
                   have A59 := Aside0.mk A590
                   clear A590
                   have H' := Aside0.mk H
                   clear H
                   obtain ⟨Ao60, co60, eo60⟩ := Kd.R_slice HO_8.out
                   subst eo60
                   try go_wp2
                   replace HO_8 := Aside0.mk (Kd.R_drew HO_8.out)
                   replace HO_10 := Aside0.mk (Kd.R_drew HO_10.out)
                   replace BK302 := Aside0.mk (blk_drew BK302.out)
                   replace HB := Aside0.mk (below_drew1 HB.out)
                   obtain ⟨Ao62, co62, eo62⟩ := Kd.R_slice HO_10.out
                   (first | subst eo62 | (injection eo62 with f1_ f2_ f3_; have f4_ := f1_.symm; have f5_ := f3_.symm; clear f1_ f2_ f3_; subst f4_; subst f5_))
                   have p319 : 0 ≤ (x12_5 : Int) := of_decide_eq_true zq4
                   have q319 : x12_5 < (t312.length : Int) := of_decide_eq_true zq4
                   obtain ⟨ad319, e319, hx319_0⟩ := Kd.at_int (Kd.R_reads' HO_10.out).2.2 x12_5 p319 q319
                   cases e319
                   replace p319 := eq_true p319
                   replace q319 := eq_true q319
                   have p320 : 0 ≤ (x12_5 : Int) := of_decide_eq_true zq4
                   have q320 : x12_5 < (t308.length : Int) := of_decide_eq_true zq4
                   obtain ⟨ad320, e320, hx320_0⟩ := Kd.at_int (Kd.R_reads' HO_8.out).2.2 x12_5 p320 q320
                   cases e320
                   replace p320 := eq_true p320
                   replace q320 := eq_true q320
                   refine start_ (n := 9) (S := fun w' => w'.cell? (ad319.add (x12_5).toNat) = some (.int .i64 (rd t312 x12_5)) ∧ w'.cell? (ad320.add (x12_5).toNat) = some (.int .i64 (rd t308 x12_5))) (ds := []) #[false, false, false, false, false, false, false, false, false] zq1 rfl rfl ⟨hx319_0, hx320_0⟩ (fun hHeld => ?_); refine with_tabW isobathlaw03_GliderSwarm.tab17 isobathlaw03_GliderSwarm.bits17 (fun HT_ HW_ => ?_)
                   generalize wr.drew = w61 at HO_8 HO_10 BK302 HB hx319_0 hx320_0 hHeld ⊢
                   refine zpz (i := 0) (N := some 101) (any_of HT_.out zq1) ?_
                   refine zpz (i := 1) (N := some 102) (any_of HT_.out zq1) ?_
                   refine zpz (i := 2) (N := some 103) (any_of HT_.out zq1) ?_
                   refine zpz (i := 4) (N := some 105) (any_of HT_.out zq1) ?_
                   refine zpz (i := 5) (N := some 106) (any_of HT_.out zq1) ?_
                   refine zpz (i := 6) (N := some 107) (any_of HT_.out zq1) ?_
                   refine ztz (i := 3) (N := some 104) (take_ofW HT_.out HW_.out zq1) hHeld ?_
                   refine ztz (i := 7) (N := some 108) (take_ofW HT_.out HW_.out zq1) hHeld ?_
                   refine zpz (i := 8) (N := some 109) (any_of HT_.out zq1) ?_
                   refine done_ (done_of HT_.out zq1) ?_
                   obtain ⟨hcz63_0, hcz63_1, hcz63_2, hcz63_3, hcz63_4, hcz63_5, hcz63_6, hcz63_7, hcz63_8, hfz63_0, hfz63_1, hfz63_2, hfz63_3, hfz63_4, hfz63_5, hfz63_6, hfz63_7, hfz63_8⟩ := zce9 BK302.out
                   try go_wp2_with (first | ((with_reducible refine gate_callee (f := 42) rfl ?_); refine goesL_ (some 112) rfl rfl Try.func42 zq1 rfl #[.agg #[.int .i64 a0_0, .int .i64 a0_1, .int .i64 a0_2, .int .i64 a0_3, .int .i64 a0_4, .int .i64 a0_5, .int .i64 a0_6, .slice A0_7 l0_7.length c0_7, .slice A0_8 l0_8.length c0_8], .int .i64 x12_5] rfl zq7 ?_; (with_reducible refine (isobathref03_Cell.calls a0_0 a0_1 a0_2 a0_3 a0_4 a0_5 a0_6 _ _ l0_7 _ _ l0_8 x12_5 t321 t322 t323 t324 _ ?side1 ?side2 ?side3 ?side4 A59.out).mono ?_); (case side1 => repeat (first | exact (Kd.C_below HR0_7.out HB.out) | (with_reducible refine Kd.C_alloc ?_ _) | (with_reducible refine Kd.C_drewN ?_ _) | (with_reducible refine Kd.C_drew ?_))); (case side2 => exact HC0_7.out); (case side3 => repeat (first | exact (Kd.C_below HR0_8.out HB.out) | (with_reducible refine Kd.C_alloc ?_ _) | (with_reducible refine Kd.C_drewN ?_ _) | (with_reducible refine Kd.C_drew ?_))); (case side4 => exact HC0_8.out); rintro e w64 ⟨rfl, hb⟩; refine ⟨_, rfl, ?_⟩; replace HO_8 := zrb HO_8 hb; replace HO_10 := zrb HO_10 hb; replace BK302 := zbb BK302 hb; replace HB := zbs HB hb; (try clear hb); (try clear hb2); (try clear hk); (try clear hi)) | ((with_reducible refine gate_dst (N := 13) rfl ?_); (try (refine gate_guard (by rfl) ?_; dsimp only)); refine box_event (by rfl) (N := 13) (by rfl) (cs := #[.int .i64 0, .int .i64 0, .int .i64 0, .int .i64 0]) (t := 31) zq5 ?_; intro gb325 hg w65 hbox hb; have BK325 := Aside0.mk (hbox); have GW325 := zgs HB hg; have GE325 := zgs HB hg; have NB302_325 := znp BK302 hg; have NB325_302 := znq BK302 hg; replace HO_8 := zrb HO_8 hb; replace HO_10 := zrb HO_10 hb; replace BK302 := zbb BK302 hb; replace HB := zbs HB hb; clear hb hbox hg; have hnb66 := NB325_302.out; have hnc66 := NB302_325.out; obtain ⟨hcz67_0, hcz67_1, hcz67_2, hcz67_3, hfz67_0, hfz67_1, hfz67_2, hfz67_3⟩ := zce4 BK325.out))
                   go_loopg [14] k5 (fun kq v14 w' => ∃ (x14_6 : Int), v14 = .int .i64 x14_6 ∧ Aside0 (isobathlaw03_GliderSwarm.l2 kq l2 t308 t312 x12_5 x14_6 a0_0 a0_1 a0_2 a0_3 a0_4 a0_5 a0_6 l0_7 l0_8 t321 t322 t323 t324 = some r) ∧ Aside0 (kq ≤ k5) ∧ Aside0 (Kd.R (Kd.int .i64) 75 w' w.heap.size (fun k_ => some k_ ≠ ((.slice (some ad319) t312.length co62) : Value).ownBlock) (.slice (some ad320) t308.length co60) t308) ∧ Aside0 (Kd.R (Kd.int .i64) 75 w' w.heap.size (fun k_ => some k_ ≠ ((.slice (some ad320) t308.length co60) : Value).ownBlock) (.slice (some ad319) t312.length co62) t312) ∧ Aside0 (w'.heap[gb302]? = some (.cells #[.int .i64 a0_0, .int .i64 a0_1, .int .i64 a0_2, .int .i64 a0_3, .int .i64 a0_4, .int .i64 a0_5, .int .i64 a0_6, (.slice A0_7 l0_7.length c0_7), (.slice A0_8 l0_8.length c0_8)] 25 (0, 0))) ∧ Aside0 (w'.heap[gb325]? = some (.cells #[.int .i64 t321, .int .i64 t322, .int .i64 t323, .int .i64 t324] 31 (0, 0))) ∧ Aside0 (Below w.heap.size w w'))
                   case atStart => exact ⟨(0), zq2, H', ⟨Nat.le_refl _⟩, ⟨by (with_reducible repeat (first | apply Kd.R_alloc | apply Kd.R_drewN | apply Kd.R_drew)); exact Kd.R_mono (Kd.R_far (p := ⟨gb325, 3, none⟩) (Kd.R_far (p := ⟨gb325, 2, none⟩) (Kd.R_far (p := ⟨gb325, 1, none⟩) (Kd.R_far (p := ⟨gb325, 0, none⟩) (Kd.R_types HO_8.out BK325.out (by decide)) (fun _ hk => hk.2) (.int .i64 t321)) (fun _ hk => hk.2) (.int .i64 t322)) (fun _ hk => hk.2) (.int .i64 t323)) (fun _ hk => hk.2) (.int .i64 t324)) (fun _ hk => hk.1)⟩, ⟨by (with_reducible repeat (first | apply Kd.R_alloc | apply Kd.R_drewN | apply Kd.R_drew)); exact Kd.R_mono (Kd.R_far (p := ⟨gb325, 3, none⟩) (Kd.R_far (p := ⟨gb325, 2, none⟩) (Kd.R_far (p := ⟨gb325, 1, none⟩) (Kd.R_far (p := ⟨gb325, 0, none⟩) (Kd.R_types HO_10.out BK325.out (by decide)) (fun _ hk => hk.2) (.int .i64 t321)) (fun _ hk => hk.2) (.int .i64 t322)) (fun _ hk => hk.2) (.int .i64 t323)) (fun _ hk => hk.2) (.int .i64 t324)) (fun _ hk => hk.1)⟩, ⟨zbf⟩, ⟨by (with_reducible repeat (first | refine blk_drewN ?_ _ | refine blk_drew ?_ | refine blk_alloc ?_ _)); refine blk_put (cs := #[.int .i64 t321, .int .i64 t322, .int .i64 t323, .int .i64 0]) ?_ 3 _ rfl; (with_reducible repeat (first | refine blk_drewN ?_ _ | refine blk_drew ?_ | refine blk_alloc ?_ _)); refine blk_put (cs := #[.int .i64 t321, .int .i64 t322, .int .i64 0, .int .i64 0]) ?_ 2 _ rfl; (with_reducible repeat (first | refine blk_drewN ?_ _ | refine blk_drew ?_ | refine blk_alloc ?_ _)); refine blk_put (cs := #[.int .i64 t321, .int .i64 0, .int .i64 0, .int .i64 0]) ?_ 1 _ rfl; (with_reducible repeat (first | refine blk_drewN ?_ _ | refine blk_drew ?_ | refine blk_alloc ?_ _)); refine blk_put (cs := #[.int .i64 0, .int .i64 0, .int .i64 0, .int .i64 0]) ?_ 0 _ rfl; (with_reducible repeat (first | refine blk_drewN ?_ _ | refine blk_drew ?_ | refine blk_alloc ?_ _)); exact BK325.out⟩, ⟨zbz⟩⟩
                   case round =>
                    clear H'
                    try clear c1
                    try clear c2
                    try clear p2
                    try clear c3
                    try clear p3
                    try clear q3
                    try clear hx3
                    try clear c4
                    try clear c5
                    try clear c6
                    try clear p6
                    try clear c7
                    try clear c8
                    try clear c9
                    try clear c10
                    try clear c10b0
                    try clear c10b1
                    try clear c13
                    try clear c13b0
                    try clear c13b1
                    try clear c19
                    try clear c21
                    try clear c22
                    try clear c24
                    try clear c24b0
                    try clear c25
                    try clear c25b0
                    try clear c26
                    try clear c26b0
                    try clear c26b1
                    try clear c30
                    try clear p30
                    try clear q30
                    try clear hx30
                    try clear p31
                    try clear q31
                    try clear hx31
                    try clear p32
                    try clear q32
                    try clear hx32
                    try clear c36
                    try clear c36b0
                    try clear c36b1
                    try clear c37
                    try clear c38
                    try clear c38b0
                    try clear c38b1
                    try clear c40
                    try clear c41
                    try clear c41b0
                    try clear c41b1
                    try clear c42
                    try clear c45
                    try clear c45b0
                    try clear c45b1
                    try clear c51
                    try clear c52
                    try clear c52b0
                    try clear c53
                    try clear c53b0
                    try clear c54
                    try clear c54b0
                    try clear c55
                    try clear c55b0
                    try clear c66
                    try clear hcz11_0 hcz11_1 hcz11_2 hcz11_3 hcz11_4 hcz11_5 hcz11_6 hcz11_7 hcz11_8
                    try clear hcz14_0 hcz14_1 hcz14_2 hcz14_3 hcz14_4 hcz14_5 hcz14_6 hcz14_7 hcz14_8
                    try clear hcz17_0 hcz17_1 hcz17_2 hcz17_3 hcz17_4 hcz17_5 hcz17_6 hcz17_7 hcz17_8
                    try clear hcz19_0 hcz19_1 hcz19_2 hcz19_3 hcz19_4 hcz19_5 hcz19_6 hcz19_7 hcz19_8
                    try clear hcz32_0 hcz32_1 hcz32_2 hcz32_3 hcz32_4 hcz32_5 hcz32_6 hcz32_7 hcz32_8
                    try clear hcz34_0 hcz34_1 hcz34_2 hcz34_3 hcz34_4 hcz34_5 hcz34_6 hcz34_7 hcz34_8
                    try clear hcz47_0 hcz47_1 hcz47_2 hcz47_3 hcz47_4 hcz47_5 hcz47_6 hcz47_7 hcz47_8
                    try clear hcz50_0 hcz50_1 hcz50_2 hcz50_3 hcz50_4 hcz50_5 hcz50_6 hcz50_7 hcz50_8
                    try clear hcz63_0 hcz63_1 hcz63_2 hcz63_3 hcz63_4 hcz63_5 hcz63_6 hcz63_7 hcz63_8
                    try clear hcz67_0 hcz67_1 hcz67_2 hcz67_3
                    try clear hcz8_0 hcz8_1 hcz8_2 hcz8_3 hcz8_4 hcz8_5 hcz8_6 hcz8_7 hcz8_8
                    try clear hfz11_0 hfz11_1 hfz11_2 hfz11_3 hfz11_4 hfz11_5 hfz11_6 hfz11_7 hfz11_8
                    try clear hfz14_0 hfz14_1 hfz14_2 hfz14_3 hfz14_4 hfz14_5 hfz14_6 hfz14_7 hfz14_8
                    try clear hfz17_0 hfz17_1 hfz17_2 hfz17_3 hfz17_4 hfz17_5 hfz17_6 hfz17_7 hfz17_8
                    try clear hfz19_0 hfz19_1 hfz19_2 hfz19_3 hfz19_4 hfz19_5 hfz19_6 hfz19_7 hfz19_8
                    try clear hfz32_0 hfz32_1 hfz32_2 hfz32_3 hfz32_4 hfz32_5 hfz32_6 hfz32_7 hfz32_8
                    try clear hfz34_0 hfz34_1 hfz34_2 hfz34_3 hfz34_4 hfz34_5 hfz34_6 hfz34_7 hfz34_8
                    try clear hfz47_0 hfz47_1 hfz47_2 hfz47_3 hfz47_4 hfz47_5 hfz47_6 hfz47_7 hfz47_8
                    try clear hfz50_0 hfz50_1 hfz50_2 hfz50_3 hfz50_4 hfz50_5 hfz50_6 hfz50_7 hfz50_8
                    try clear hfz63_0 hfz63_1 hfz63_2 hfz63_3 hfz63_4 hfz63_5 hfz63_6 hfz63_7 hfz63_8
                    try clear hfz67_0 hfz67_1 hfz67_2 hfz67_3
                    try clear hfz8_0 hfz8_1 hfz8_2 hfz8_3 hfz8_4 hfz8_5 hfz8_6 hfz8_7 hfz8_8
                    try clear hx306_0
                    try clear hx319_0
                    try clear hx320_0
                    try clear p2
                    try clear p3
                    try clear p30
                    try clear p306
                    try clear p319
                    try clear p320
                    try clear p6
                    try clear q3
                    try clear q30
                    try clear q306
                    try clear q319
                    try clear q320
                    obtain ⟨x14_6, rfl, HA, HK6, HO_8, HO_10, BK302, BK325, HB⟩ := hrel
                    cases gk with
                    | zero => exact absurd HA.out (by simp [isobathlaw03_GliderSwarm.l2])
                    | succ k6 =>
                     have H := HA.out
                     clear HA
                     simp only [isobathlaw03_GliderSwarm.l2] at H
                     by_cases c68 : x14_6 < (l2.length : Int)
                     ·rw [if_pos c68] at H
                      have c68b0 : decide (x14_6 < (l2.length : Int)) = true := decide_eq_true c68
                      clear c68
                      by_cases c69 : 0 ≤ x14_6
                      ·rw [if_pos c69] at H
                       have c69b0 : decide (0 ≤ x14_6) = true := decide_eq_true c69
                       clear c69
                       replace H := Option.bind_eq_some_iff.mp H
                       obtain ⟨t327, A700, H⟩ := H
                       replace H : (if 0 ≤ x12_5 then (if x12_5 < (t312.length : Int) then (if t327 > (rd t312 x12_5) then (some false) else (isobathlaw03_GliderSwarm.l2 k6 l2 t308 t312 x12_5 (wrap64 (x14_6 + 1)) a0_0 a0_1 a0_2 a0_3 a0_4 a0_5 a0_6 l0_7 l0_8 t321 t322 t323 t324)) else (none)) else (none)) = some r := H
                       have A70 := Aside0.mk A700
                       clear A700
                       by_cases c71 : 0 ≤ x12_5
                       ·rw [if_pos c71] at H
                        have c71b0 : decide (0 ≤ x12_5) = true := decide_eq_true c71
                        clear c71
                        by_cases c72 : x12_5 < (t312.length : Int)
                        ·rw [if_pos c72] at H
                         have c72b0 : decide (x12_5 < (t312.length : Int)) = true := decide_eq_true c72
                         clear c72
                         by_cases c73 : t327 > (rd t312 x12_5)
                         ·rw [if_pos c73] at H
                          have c73b0 : decide ((rd t312 x12_5) < t327) = true := decide_eq_true c73
                          clear c73
                          have hh_ := Option.some.inj H
                          rw [hr_.out] at hh_
                          cases hh_
                         ·rw [if_neg c73] at H
                          have c73b0 : decide ((rd t312 x12_5) < t327) = false := decide_eq_false c73
                          clear c73
                          have H' := Aside0.mk H
                          clear H
                          try go_wp2
                          replace HO_8 := Aside0.mk (Kd.R_drew HO_8.out)
                          replace HO_10 := Aside0.mk (Kd.R_drew HO_10.out)
                          replace BK302 := Aside0.mk (blk_drew BK302.out)
                          replace BK325 := Aside0.mk (blk_drew BK325.out)
                          replace HB := Aside0.mk (below_drew1 HB.out)
                          have p326 : 0 ≤ (x14_6 : Int) := of_decide_eq_true zq4
                          have q326 : x14_6 < (l2.length : Int) := of_decide_eq_true zq4
                          obtain ⟨ad326, e326, hx326_0, hx326_1, hx326_2, hx326_3⟩ := at_T31 HR2.out x14_6 p326 q326
                          have hw326_3 := hx326_3
                          have hw326_2 := hx326_2
                          have hw326_1 := hx326_1
                          have hw326_0 := hx326_0
                          cases e326
                          replace hx326_0 := (HB.out.cell (World.block_lt_of_cell? w _ hx326_0)).trans hx326_0
                          replace hx326_1 := (HB.out.cell (World.block_lt_of_cell? w _ hx326_1)).trans hx326_1
                          replace hx326_2 := (HB.out.cell (World.block_lt_of_cell? w _ hx326_2)).trans hx326_2
                          replace hx326_3 := (HB.out.cell (World.block_lt_of_cell? w _ hx326_3)).trans hx326_3
                          replace p326 := eq_true p326
                          replace q326 := eq_true q326
                          refine start_ (n := 7) (S := fun w' => w'.cell? ⟨gb325, 0, none⟩ = some (.int .i64 t321) ∧ w'.cell? ⟨gb325, 1, none⟩ = some (.int .i64 t322) ∧ w'.cell? ⟨gb325, 2, none⟩ = some (.int .i64 t323) ∧ w'.cell? ⟨gb325, 3, none⟩ = some (.int .i64 t324) ∧ w'.cell? (ad326.add ((x14_6).toNat * 4)) = some (.int .i64 ((rd_T31 l2 x14_6).f0.f0)) ∧ w'.cell? ⟨(ad326.add ((x14_6).toNat * 4)).block, (ad326.add ((x14_6).toNat * 4)).off + 1, none⟩ = some (.int .i64 ((rd_T31 l2 x14_6).f0.f1)) ∧ w'.cell? ⟨(ad326.add ((x14_6).toNat * 4)).block, (ad326.add ((x14_6).toNat * 4)).off + 2, none⟩ = some (.int .i64 ((rd_T31 l2 x14_6).f1.f0)) ∧ w'.cell? ⟨(ad326.add ((x14_6).toNat * 4)).block, (ad326.add ((x14_6).toNat * 4)).off + 3, none⟩ = some (.int .i64 ((rd_T31 l2 x14_6).f1.f1))) (ds := []) #[false, false, false, false, false, false, false] zq1 rfl rfl (zca4 BK325.out ⟨((HB.out.cell (World.block_lt_of_cell? w _ hw326_0)).trans hw326_0), ((HB.out.cell (World.block_lt_of_cell? w _ hw326_1)).trans hw326_1), ((HB.out.cell (World.block_lt_of_cell? w _ hw326_2)).trans hw326_2), ((HB.out.cell (World.block_lt_of_cell? w _ hw326_3)).trans hw326_3)⟩) (fun hHeld => ?_)
                          generalize wr.drew = w76 at HO_8 HO_10 BK302 BK325 HB hx326_0 hx326_1 hx326_2 hx326_3 hHeld ⊢
                          refine zpz (i := 0) (N := some 119) zq1 ?_
                          refine zpz (i := 1) (N := some 120) zq1 ?_
                          refine zpz (i := 2) (N := some 121) zq1 ?_
                          refine ztz (i := 3) (N := some 122) zq1 hHeld ?_
                          refine ztz (i := 4) (N := some 123) zq1 hHeld ?_
                          refine one_ (i := 5) (N := some 124) #[true, true, true, true, true, true, false] rfl rfl zq1 (by decide) (fun K hK => ?_)
                          refine goes_ Try.func43 zq1 rfl #[.agg #[.int .i64 ((rd_T31 l2 x14_6).f0.f0), .int .i64 ((rd_T31 l2 x14_6).f0.f1), .int .i64 ((rd_T31 l2 x14_6).f1.f0), .int .i64 ((rd_T31 l2 x14_6).f1.f1)], .agg #[.int .i64 t321, .int .i64 t322, .int .i64 t323, .int .i64 t324]] (by rfl) rfl rfl zq7 ?_
                          with_reducible refine (isobathref03_Inside.calls k6 ((rd_T31 l2 x14_6).f0.f0) ((rd_T31 l2 x14_6).f0.f1) ((rd_T31 l2 x14_6).f1.f0) ((rd_T31 l2 x14_6).f1.f1) t321 t322 t323 t324 t327 _ A70.out).mono ?_
                          rintro e w77 ⟨rfl, hb⟩
                          refine ⟨_, rfl, ?_⟩
                          replace HO_8 := zrb HO_8 hb
                          replace HO_10 := zrb HO_10 hb
                          replace BK302 := zbb BK302 hb
                          replace BK325 := zbb BK325 hb
                          replace HB := zbs HB hb
                          (try clear hb)
                          (try clear hb2)
                          (try clear hk)
                          (try clear hi)
                          refine hK.out _ _ (zca4 BK325.out ⟨((HB.out.cell (World.block_lt_of_cell? w _ hw326_0)).trans hw326_0), ((HB.out.cell (World.block_lt_of_cell? w _ hw326_1)).trans hw326_1), ((HB.out.cell (World.block_lt_of_cell? w _ hw326_2)).trans hw326_2), ((HB.out.cell (World.block_lt_of_cell? w _ hw326_3)).trans hw326_3)⟩) (fun hHeld => ?_)
                          clear hK K
                          refine norm_ (by show Act.put _ (some 124) _ = _; simp only [Act.put, List.setIfInBounds_toArray, List.set_cons_zero, List.set_cons_succ, i64_w, i32_w]; rfl) ?_
                          refine zpz (i := 6) (N := some 15) zq1 ?_
                          refine done_ zq1 ?_
                          have p328 : 0 ≤ (x12_5 : Int) := of_decide_eq_true zq4
                          have q328 : x12_5 < (t312.length : Int) := of_decide_eq_true zq4
                          obtain ⟨ad328, e328, hx328_0⟩ := Kd.at_int (Kd.R_reads' HO_10.out).2.2 x12_5 p328 q328
                          obtain rfl : ad319 = ad328 := (by injection e328)
                          replace p328 := eq_true p328
                          replace q328 := eq_true q328
                          try go_wp2
                          go_roundg k6
                          case measure => have := HJ3.out; have := HK2.out; have := HJ30.out; have := HJ43.out; have := HK5.out; have := HK6.out; omega
                          case rel => exact ⟨(wrap64 (x14_6 + 1)), zq2, H', ⟨zq54⟩, ⟨zq53⟩, ⟨zq48⟩, ⟨zbf⟩, ⟨zbf⟩, ⟨zbz⟩⟩
                        ·rw [if_neg c72] at H
                         exact absurd H (by simp)
                       ·rw [if_neg c71] at H
                        exact absurd H (by simp)
                      ·rw [if_neg c69] at H
                       exact absurd H (by simp)
                     ·rw [if_neg c68] at H
                      have c68b0 : decide (x14_6 < (l2.length : Int)) = false := decide_eq_false c68
                      clear c68
                      have H' := Aside0.mk H
                      clear H
                      go_wp2
                      go_roundg k6
                      case measure => have := HJ3.out; have := HK2.out; have := HJ30.out; have := HJ43.out; have := HK5.out; have := HK6.out; omega
                      case rel => exact ⟨(wrap64 (x12_5 + 1)), zq2, H', ⟨zq54⟩, ⟨zq53⟩, ⟨zq48⟩, ⟨zbf⟩, ⟨zbz⟩⟩
                 ·rw [if_neg c54] at H
                  exact absurd H (by simp)
                ·rw [if_neg c53] at H
                 exact absurd H (by simp)
               ·rw [if_neg c52] at H
                have c52b0 : decide (x12_5 < (t308.length : Int)) = false := decide_eq_false c52
                clear c52
                replace H := Option.bind_eq_some_iff.mp H
                obtain ⟨t318, A780, H⟩ := H
                replace H : (some t318) = some r := H
                have A78 := Aside0.mk A780
                clear A780
                obtain rfl := Option.some.inj H
                obtain ⟨Ao79, co79, eo79⟩ := Kd.R_slice HO_8.out
                subst eo79
                go_wp2_with (first | ((with_reducible refine gate_callee (f := 19) rfl ?_); refine goesL_ (some 131) rfl rfl Try.func19 zq1 rfl #[] rfl zq7 ?_; (with_reducible refine (isobathlaw03_Works.calls k5  t318 _ A78.out).mono ?_); rintro e w80 ⟨rfl, hb⟩; refine ⟨_, rfl, ?_⟩; replace HO_8 := zrb HO_8 hb; replace HO_10 := zrb HO_10 hb; replace BK302 := zbb BK302 hb; replace HB := zbs HB hb; (try clear hb); (try clear hb2); (try clear hk); (try clear hi)))
                go_ret
                exact ⟨zq6, zbz⟩

end Go.Proofs.Ytmhaiihjfgfaoaa.Pr
end
