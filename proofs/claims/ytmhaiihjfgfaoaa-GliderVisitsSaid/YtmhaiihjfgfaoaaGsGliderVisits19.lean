/- Part 19 of the proof of GliderVisits: what the functions compute. No condition. -/
import Derived.Test.YtmhaiihjfgfaoaaGsGliderVisits3
import Derived.Test.YtmhaiihjfgfaoaaGsGliderVisits17
import Derived.Test.YtmhaiihjfgfaoaaGsGliderVisits18
section
namespace Go.Proofs.Ytmhaiihjfgfaoaa.Pr
open Go.RowKit Go.Proofs.YtmhaiihjfgfaoaaW.PrintWords Go.Proofs.YtmhaiihjfgfaoaaW.PrintLast Go.Proofs.YtmhaiihjfgfaoaaW.PrintMore
attribute [local go_sem] max2_int min2_int max_two min_two max_four
set_option linter.unusedVariables false
set_option linter.unusedSimpArgs false

/-! ### isobathref03_Visited: function 41 -/
mutual
def isobathref03_Visited.l0 : Nat → List (List (S31)) → Int → Int → Int → Int → Int → Int → Int → Int → List Bool → List (S40) → Option (List Int × Int)
 | 0, _, _, _, _, _, _, _, _, _, _, _ => none
 | k + 1, x1, x6, x658000, x658001, x658002, x658003, x658004, x658005, x658006, x658007, x658008 => if x6 < (x1.length : Int) then (if 0 ≤ x6 then (if ((rd_L11 x1 x6).length : Int) > 64 then (some (([] : List Int), 6)) else (isobathref03_Visited.l0 k x1 (wrap64 (x6 + 1)) x658000 x658001 x658002 x658003 x658004 x658005 x658006 x658007 x658008)) else (none)) else (isobathref03_Visited.l1 k x1 0 x658000 x658001 x658002 x658003 x658004 x658005 x658006 x658007 x658008)
def isobathref03_Visited.l1 : Nat → List (List (S31)) → Int → Int → Int → Int → Int → Int → Int → Int → List Bool → List (S40) → Option (List Int × Int)
 | 0, _, _, _, _, _, _, _, _, _, _, _ => none
 | k + 1, x1, x7, x658000, x658001, x658002, x658003, x658004, x658005, x658006, x658007, x658008 => if x7 < (x1.length : Int) then (if 0 ≤ x7 then ((isobathref03_boxes.f k (rd_L11 x1 x7)).bind fun t662 => (if t662 = 0 then (isobathref03_Visited.l1 k x1 (wrap64 (x7 + 1)) x658000 x658001 x658002 x658003 x658004 x658005 x658006 x658007 x658008) else ((isobathref03_boxes.f k (rd_L11 x1 x7)).bind fun t664 => (some (([] : List Int), t664))))) else (none)) else (isobathref03_Visited.l2 k x1 ([] : List Int) 0 x658000 x658001 x658002 x658003 x658004 x658005 x658006 x658007 x658008)
def isobathref03_Visited.l2 : Nat → List (List (S31)) → List Int → Int → Int → Int → Int → Int → Int → Int → Int → List Bool → List (S40) → Option (List Int × Int)
 | 0, _, _, _, _, _, _, _, _, _, _, _, _ => none
 | k + 1, x1, x8, x9, x658000, x658001, x658002, x658003, x658004, x658005, x658006, x658007, x658008 => if x9 < (wrap64 (x658000 * x658001)) then (isobathref03_Visited.l3 k x1 x8 x9 0 0 x658000 x658001 x658002 x658003 x658004 x658005 x658006 x658007 x658008) else (some (x8, 0))
def isobathref03_Visited.l3 : Nat → List (List (S31)) → List Int → Int → Int → Int → Int → Int → Int → Int → Int → Int → Int → List Bool → List (S40) → Option (List Int × Int)
 | 0, _, _, _, _, _, _, _, _, _, _, _, _, _, _ => none
 | k + 1, x1, x8, x9, x10, x11, x658000, x658001, x658002, x658003, x658004, x658005, x658006, x658007, x658008 => if x11 < (x1.length : Int) then (isobathref03_Visited.l4 k x1 x8 x9 x10 x11 0 x658000 x658001 x658002 x658003 x658004 x658005 x658006 x658007 x658008) else (if x8.length < 17592186044416 then (isobathref03_Visited.l2 k x1 (x8 ++ [x10]) (wrap64 (x9 + 1)) x658000 x658001 x658002 x658003 x658004 x658005 x658006 x658007 x658008) else (none))
def isobathref03_Visited.l4 : Nat → List (List (S31)) → List Int → Int → Int → Int → Int → Int → Int → Int → Int → Int → Int → Int → List Bool → List (S40) → Option (List Int × Int)
 | 0, _, _, _, _, _, _, _, _, _, _, _, _, _, _, _ => none
 | k + 1, x1, x8, x9, x10, x11, x12, x658000, x658001, x658002, x658003, x658004, x658005, x658006, x658007, x658008 => if 0 ≤ x11 then (if x11 < (x1.length : Int) then (if x12 < ((rd_L11 x1 x11).length : Int) then (if 0 ≤ x12 then ((isobathref03_Cell.f x658000 x658001 x658002 x658003 x658004 x658005 x658006 x658007 x658008 x9).bind fun bt671 => ((isobathref03_Inside.f k ((rd_T31 (rd_L11 x1 x11) x12).f0.f0) ((rd_T31 (rd_L11 x1 x11) x12).f0.f1) ((rd_T31 (rd_L11 x1 x11) x12).f1.f0) ((rd_T31 (rd_L11 x1 x11) x12).f1.f1) bt671.1 bt671.2.1 bt671.2.2.1 bt671.2.2.2).bind fun t675 => (isobathref03_Visited.l4 k x1 x8 x9 (mx x10 t675) x11 (wrap64 (x12 + 1)) x658000 x658001 x658002 x658003 x658004 x658005 x658006 x658007 x658008))) else (none)) else (isobathref03_Visited.l3 k x1 x8 x9 x10 (wrap64 (x11 + 1)) x658000 x658001 x658002 x658003 x658004 x658005 x658006 x658007 x658008)) else (none)) else (none)
end
def isobathref03_Visited.f (k : Nat) (a0_0 : Int) (a0_1 : Int) (a0_2 : Int) (a0_3 : Int) (a0_4 : Int) (a0_5 : Int) (a0_6 : Int) (l0_7 : List Bool) (l0_8 : List (S40)) (l1 : List (List (S31))) : Option (List Int × Int) := (isobathref03_CheckSea.f k a0_0 a0_1 a0_2 a0_3 a0_4 a0_5 a0_6 l0_7 l0_8).bind fun t658 => (if t658 = 0 then (if (l1.length : Int) > 8 then (some (([] : List Int), 6)) else (isobathref03_Visited.l0 k l1 0 a0_0 a0_1 a0_2 a0_3 a0_4 a0_5 a0_6 l0_7 l0_8)) else ((isobathref03_CheckSea.f k a0_0 a0_1 a0_2 a0_3 a0_4 a0_5 a0_6 l0_7 l0_8).bind fun t659 => (some (([] : List Int), t659))))
def isobathref03_Visited.T26 : Bool × List (List Nat × List Nat) := (true, [([], []), ([], []), ([], []), ([1, 2], [1, 2]), ([3], [3]), ([], []), ([4, 5], [4, 5]), ([6], [6]), ([], []), ([], []), ([8, 9], [8, 9]), ([7, 10, 10], [7, 10]), ([0, 11], [0, 11]), ([12, 11, 0, 1, 2, 3, 4, 5, 6, 7, 8, 9, 10, 11, 12], [0, 12])])
def isobathref03_Visited.B26 : List Nat := [0, 0, 0, 6, 14, 0, 62, 126, 0, 0, 768, 2046, 4095, 8191]
theorem isobathref03_Visited.tab26 : rtab .any (opsOf Try.f41 26) = isobathref03_Visited.T26 := by kernel_rfl
theorem isobathref03_Visited.bits26 : waitsOk isobathref03_Visited.T26.2 isobathref03_Visited.B26 = true := by kernel_rfl
set_option maxHeartbeats 8000000 in
set_option maxRecDepth 100000 in
theorem isobathref03_Visited.calls (k : Nat) (a0_0 : Int) (a0_1 : Int) (a0_2 : Int) (a0_3 : Int) (a0_4 : Int) (a0_5 : Int) (a0_6 : Int) (A0_7 : Option Addr) (c0_7 : Nat) (l0_7 : List Bool) (A0_8 : Option Addr) (c0_8 : Nat) (l0_8 : List (S40)) (A1 : Option Addr) (c1 : Nat) (l1 : List (List (S31))) (r1 : List Int) (r2 : Int) (w : World) (hr0_7 : Kd.C Kd.bool w A0_7 l0_7.length l0_7) (hc0_7 : l0_7.length ≤ c0_7) (hr0_8 : Kd.C k40 w A0_8 l0_8.length l0_8) (hc0_8 : l0_8.length ≤ c0_8) (hr1 : Kd.C (Kd.slice 31 k31) w A1 l1.length l1) (hc1 : l1.length ≤ c1) (h : isobathref03_Visited.f k a0_0 a0_1 a0_2 a0_3 a0_4 a0_5 a0_6 l0_7 l0_8 l1 = some (r1, r2)) :
  Calls Try.prog 41 #[.agg #[.int .i64 a0_0, .int .i64 a0_1, .int .i64 a0_2, .int .i64 a0_3, .int .i64 a0_4, .int .i64 a0_5, .int .i64 a0_6, .slice A0_7 l0_7.length c0_7, .slice A0_8 l0_8.length c0_8], .slice A1 l1.length c1] w fun e w' => ∃ v0_ : Value, e = .returned (.tuple #[v0_, .int .i64 r2]) ∧ Kd.R (Kd.int .i64) 75 w' w.heap.size (fun _ => True) v0_ r1 ∧ Below w.heap.size w w' := by
 have hu25 := Try.underlying25
 have hu31 := Try.underlying31
 have HR0_7 := Aside0.mk hr0_7
 have HC0_7 := Aside0.mk hc0_7
 clear hr0_7 hc0_7
 have HR0_8 := Aside0.mk hr0_8
 have HC0_8 := Aside0.mk hc0_8
 clear hr0_8 hc0_8
 have HR1 := Aside0.mk hr1
 have HC1 := Aside0.mk hc1
 clear hr1 hc1
 have HB := Aside0.mk (Below.refl w.heap.size w)
 have H : ((isobathref03_CheckSea.f k a0_0 a0_1 a0_2 a0_3 a0_4 a0_5 a0_6 l0_7 l0_8).bind fun t658 => (if t658 = 0 then (if (l1.length : Int) > 8 then (some (([] : List Int), 6)) else (isobathref03_Visited.l0 k l1 0 a0_0 a0_1 a0_2 a0_3 a0_4 a0_5 a0_6 l0_7 l0_8)) else ((isobathref03_CheckSea.f k a0_0 a0_1 a0_2 a0_3 a0_4 a0_5 a0_6 l0_7 l0_8).bind fun t659 => (some (([] : List Int), t659))))) = some (r1, r2) := h
 clear h
 replace H := Option.bind_eq_some_iff.mp H
 obtain ⟨t658, A30, H⟩ := H
 replace H : (if t658 = 0 then (if (l1.length : Int) > 8 then (some (([] : List Int), 6)) else (isobathref03_Visited.l0 k l1 0 a0_0 a0_1 a0_2 a0_3 a0_4 a0_5 a0_6 l0_7 l0_8)) else ((isobathref03_CheckSea.f k a0_0 a0_1 a0_2 a0_3 a0_4 a0_5 a0_6 l0_7 l0_8).bind fun t659 => (some (([] : List Int), t659)))) = some (r1, r2) := H
 have A3 := Aside0.mk A30
 clear A30
 by_cases c4 : t658 = 0
 ·rw [if_pos c4] at H
  have c4b0 : (t658 == 0) = true := beq_iff_eq.mpr c4
  have c4b1 : (t658 != 0) = false := bne_eq_false_iff_eq.mpr c4
  clear c4
  by_cases c5 : (l1.length : Int) > 8
  ·rw [if_pos c5] at H
   have c5b0 : decide (8 < (l1.length : Int)) = true := decide_eq_true c5
   have c5b1 : decide (8 < l1.length) = true := decide_eq_true (by omega)
   clear c5
   simp only [Option.some.injEq, Prod.mk.injEq] at H
   obtain ⟨rfl, rfl⟩ := H
   go_enter Try.func41, Try.ntmps41
   go_wp2_with (first | ((with_reducible refine gate_dst (N := 2) rfl ?_); refine box_event (by rfl) (N := 2) (by rfl) (cs := #[.int .i64 a0_0, .int .i64 a0_1, .int .i64 a0_2, .int .i64 a0_3, .int .i64 a0_4, .int .i64 a0_5, .int .i64 a0_6, .slice A0_7 l0_7.length c0_7, .slice A0_8 l0_8.length c0_8]) (t := 25) zq5 ?_; intro gb657 hg w6 hbox hb; have BK657 := Aside0.mk (hbox); have GW657 := zgs HB hg; have GE657 := zgs HB hg; replace HB := zbs HB hb; clear hb hbox hg; obtain ⟨hcz7_0, hcz7_1, hcz7_2, hcz7_3, hcz7_4, hcz7_5, hcz7_6, hcz7_7, hcz7_8, hfz7_0, hfz7_1, hfz7_2, hfz7_3, hfz7_4, hfz7_5, hfz7_6, hfz7_7, hfz7_8⟩ := zce9 BK657.out) | ((with_reducible refine gate_callee (f := 26) rfl ?_); refine goesL_ (some 14) rfl rfl Try.func26 zq1 rfl #[.agg #[.int .i64 a0_0, .int .i64 a0_1, .int .i64 a0_2, .int .i64 a0_3, .int .i64 a0_4, .int .i64 a0_5, .int .i64 a0_6, .slice A0_7 l0_7.length c0_7, .slice A0_8 l0_8.length c0_8]] rfl zq8 ?_; (with_reducible refine (isobathref03_CheckSea.calls k a0_0 a0_1 a0_2 a0_3 a0_4 a0_5 a0_6 _ _ l0_7 _ _ l0_8 t658 _ ?side1 ?side2 ?side3 ?side4 A3.out).mono ?_); (case side1 => repeat (first | exact (Kd.C_below HR0_7.out HB.out) | (with_reducible refine Kd.C_alloc ?_ _) | (with_reducible refine Kd.C_drewN ?_ _) | (with_reducible refine Kd.C_drew ?_))); (case side2 => exact HC0_7.out); (case side3 => repeat (first | exact (Kd.C_below HR0_8.out HB.out) | (with_reducible refine Kd.C_alloc ?_ _) | (with_reducible refine Kd.C_drewN ?_ _) | (with_reducible refine Kd.C_drew ?_))); (case side4 => exact HC0_8.out); rintro e w8 ⟨rfl, hb⟩; refine ⟨_, rfl, ?_⟩; replace BK657 := zbb BK657 hb; replace HB := zbs HB hb; (try clear hb); (try clear hb2); (try clear hk); (try clear hi)))
   go_ret2
   exact ⟨_, zq6, zq10, zbz⟩
  ·rw [if_neg c5] at H
   have c5b0 : decide (8 < (l1.length : Int)) = false := decide_eq_false c5
   have c5b1 : decide (8 < l1.length) = false := decide_eq_false (by omega)
   clear c5
   have H' := Aside0.mk H
   clear H
   go_enter Try.func41, Try.ntmps41
   go_wp2_with (first | ((with_reducible refine gate_dst (N := 2) rfl ?_); refine box_event (by rfl) (N := 2) (by rfl) (cs := #[.int .i64 a0_0, .int .i64 a0_1, .int .i64 a0_2, .int .i64 a0_3, .int .i64 a0_4, .int .i64 a0_5, .int .i64 a0_6, .slice A0_7 l0_7.length c0_7, .slice A0_8 l0_8.length c0_8]) (t := 25) zq5 ?_; intro gb657 hg w9 hbox hb; have BK657 := Aside0.mk (hbox); have GW657 := zgs HB hg; have GE657 := zgs HB hg; replace HB := zbs HB hb; clear hb hbox hg; obtain ⟨hcz10_0, hcz10_1, hcz10_2, hcz10_3, hcz10_4, hcz10_5, hcz10_6, hcz10_7, hcz10_8, hfz10_0, hfz10_1, hfz10_2, hfz10_3, hfz10_4, hfz10_5, hfz10_6, hfz10_7, hfz10_8⟩ := zce9 BK657.out) | ((with_reducible refine gate_callee (f := 26) rfl ?_); refine goesL_ (some 14) rfl rfl Try.func26 zq1 rfl #[.agg #[.int .i64 a0_0, .int .i64 a0_1, .int .i64 a0_2, .int .i64 a0_3, .int .i64 a0_4, .int .i64 a0_5, .int .i64 a0_6, .slice A0_7 l0_7.length c0_7, .slice A0_8 l0_8.length c0_8]] rfl zq8 ?_; (with_reducible refine (isobathref03_CheckSea.calls k a0_0 a0_1 a0_2 a0_3 a0_4 a0_5 a0_6 _ _ l0_7 _ _ l0_8 t658 _ ?side1 ?side2 ?side3 ?side4 A3.out).mono ?_); (case side1 => repeat (first | exact (Kd.C_below HR0_7.out HB.out) | (with_reducible refine Kd.C_alloc ?_ _) | (with_reducible refine Kd.C_drewN ?_ _) | (with_reducible refine Kd.C_drew ?_))); (case side2 => exact HC0_7.out); (case side3 => repeat (first | exact (Kd.C_below HR0_8.out HB.out) | (with_reducible refine Kd.C_alloc ?_ _) | (with_reducible refine Kd.C_drewN ?_ _) | (with_reducible refine Kd.C_drew ?_))); (case side4 => exact HC0_8.out); rintro e w11 ⟨rfl, hb⟩; refine ⟨_, rfl, ?_⟩; replace BK657 := zbb BK657 hb; replace HB := zbs HB hb; (try clear hb); (try clear hb2); (try clear hk); (try clear hi)))
   go_loopg [6] k (fun kq v6 w' => ∃ (x6_1 : Int), v6 = .int .i64 x6_1 ∧ Aside0 (isobathref03_Visited.l0 kq l1 x6_1 a0_0 a0_1 a0_2 a0_3 a0_4 a0_5 a0_6 l0_7 l0_8 = some (r1, r2)) ∧ Aside0 (kq ≤ k) ∧ Aside0 (w'.heap[gb657]? = some (.cells #[.int .i64 a0_0, .int .i64 a0_1, .int .i64 a0_2, .int .i64 a0_3, .int .i64 a0_4, .int .i64 a0_5, .int .i64 a0_6, (.slice A0_7 l0_7.length c0_7), (.slice A0_8 l0_8.length c0_8)] 25 (0, 0))) ∧ Aside0 (Below w.heap.size w w'))
   case atStart => exact ⟨(0), zq2, H', ⟨Nat.le_refl _⟩, ⟨by (with_reducible repeat (first | refine blk_drewN ?_ _ | refine blk_drew ?_ | refine blk_alloc ?_ _)); exact BK657.out⟩, ⟨zbz⟩⟩
   case round =>
    clear H'
    try clear c1
    try clear c2
    try clear p2
    try clear c4
    try clear c4b0
    try clear c4b1
    try clear c5
    try clear c5b0
    try clear c5b1
    try clear hcz10_0 hcz10_1 hcz10_2 hcz10_3 hcz10_4 hcz10_5 hcz10_6 hcz10_7 hcz10_8
    try clear hcz7_0 hcz7_1 hcz7_2 hcz7_3 hcz7_4 hcz7_5 hcz7_6 hcz7_7 hcz7_8
    try clear hfz10_0 hfz10_1 hfz10_2 hfz10_3 hfz10_4 hfz10_5 hfz10_6 hfz10_7 hfz10_8
    try clear hfz7_0 hfz7_1 hfz7_2 hfz7_3 hfz7_4 hfz7_5 hfz7_6 hfz7_7 hfz7_8
    obtain ⟨x6_1, rfl, HA, HK1, BK657, HB⟩ := hrel
    cases gk with
    | zero => exact absurd HA.out (by simp [isobathref03_Visited.l0])
    | succ k1 =>
     have H := HA.out
     clear HA
     simp only [isobathref03_Visited.l0] at H
     by_cases c12 : x6_1 < (l1.length : Int)
     ·rw [if_pos c12] at H
      have c12b0 : decide (x6_1 < (l1.length : Int)) = true := decide_eq_true c12
      clear c12
      by_cases c13 : 0 ≤ x6_1
      ·rw [if_pos c13] at H
       have c13b0 : decide (0 ≤ x6_1) = true := decide_eq_true c13
       clear c13
       by_cases c14 : ((rd_L11 l1 x6_1).length : Int) > 64
       ·rw [if_pos c14] at H
        have c14b0 : decide (64 < ((rd_L11 l1 x6_1).length : Int)) = true := decide_eq_true c14
        have c14b1 : decide (64 < (rd_L11 l1 x6_1).length) = true := decide_eq_true (by omega)
        clear c14
        simp only [Option.some.injEq, Prod.mk.injEq] at H
        obtain ⟨rfl, rfl⟩ := H
        have p660 : 0 ≤ (x6_1 : Int) := of_decide_eq_true zq4
        have q660 : x6_1 < (l1.length : Int) := of_decide_eq_true zq4
        obtain ⟨ad660, A660_0, c660_0, e660, hx660_0, hl660_0, hi660_0⟩ := at_L11 HR1.out x6_1 p660 q660
        cases e660
        replace hx660_0 := (HB.out.cell (World.block_lt_of_cell? w _ hx660_0)).trans hx660_0
        have HR660_0 := Aside0.mk hi660_0
        have HC660_0 := Aside0.mk hl660_0
        clear hi660_0 hl660_0
        replace p660 := eq_true p660
        replace q660 := eq_true q660
        go_wp2
        go_ret2
        exact ⟨_, zq6, zq10, zbz⟩
       ·rw [if_neg c14] at H
        have c14b0 : decide (64 < ((rd_L11 l1 x6_1).length : Int)) = false := decide_eq_false c14
        have c14b1 : decide (64 < (rd_L11 l1 x6_1).length) = false := decide_eq_false (by omega)
        clear c14
        have H' := Aside0.mk H
        clear H
        have p660 : 0 ≤ (x6_1 : Int) := of_decide_eq_true zq4
        have q660 : x6_1 < (l1.length : Int) := of_decide_eq_true zq4
        obtain ⟨ad660, A660_0, c660_0, e660, hx660_0, hl660_0, hi660_0⟩ := at_L11 HR1.out x6_1 p660 q660
        cases e660
        replace hx660_0 := (HB.out.cell (World.block_lt_of_cell? w _ hx660_0)).trans hx660_0
        have HR660_0 := Aside0.mk hi660_0
        have HC660_0 := Aside0.mk hl660_0
        clear hi660_0 hl660_0
        replace p660 := eq_true p660
        replace q660 := eq_true q660
        go_wp2
        go_roundg k1
        case measure => have := HK1.out; omega
        case rel => exact ⟨(wrap64 (x6_1 + 1)), zq2, H', ⟨zq7⟩, ⟨by (with_reducible repeat (first | refine blk_drewN ?_ _ | refine blk_drew ?_ | refine blk_alloc ?_ _)); exact BK657.out⟩, ⟨zbz⟩⟩
      ·rw [if_neg c13] at H
       exact absurd H (by simp)
     ·rw [if_neg c12] at H
      have c12b0 : decide (x6_1 < (l1.length : Int)) = false := decide_eq_false c12
      clear c12
      have H' := Aside0.mk H
      clear H
      go_wp2
      go_loopg [7] k1 (fun kq v7 w' => ∃ (x7_2 : Int), v7 = .int .i64 x7_2 ∧ Aside0 (isobathref03_Visited.l1 kq l1 x7_2 a0_0 a0_1 a0_2 a0_3 a0_4 a0_5 a0_6 l0_7 l0_8 = some (r1, r2)) ∧ Aside0 (kq ≤ k1) ∧ Aside0 (w'.heap[gb657]? = some (.cells #[.int .i64 a0_0, .int .i64 a0_1, .int .i64 a0_2, .int .i64 a0_3, .int .i64 a0_4, .int .i64 a0_5, .int .i64 a0_6, (.slice A0_7 l0_7.length c0_7), (.slice A0_8 l0_8.length c0_8)] 25 (0, 0))) ∧ Aside0 (Below w.heap.size w w'))
      case atStart => exact ⟨(0), zq2, H', ⟨Nat.le_refl _⟩, ⟨by (with_reducible repeat (first | refine blk_drewN ?_ _ | refine blk_drew ?_ | refine blk_alloc ?_ _)); exact BK657.out⟩, ⟨zbz⟩⟩
      case round =>
       clear H'
       try clear c1
       try clear c2
       try clear p2
       try clear c4
       try clear c4b0
       try clear c4b1
       try clear c5
       try clear c5b0
       try clear c5b1
       try clear c6
       try clear p6
       try clear q6
       try clear hx6
       try clear c12
       try clear c12b0
       try clear c13
       try clear c13b0
       try clear c14
       try clear c14b0
       try clear c14b1
       try clear hcz10_0 hcz10_1 hcz10_2 hcz10_3 hcz10_4 hcz10_5 hcz10_6 hcz10_7 hcz10_8
       try clear hcz7_0 hcz7_1 hcz7_2 hcz7_3 hcz7_4 hcz7_5 hcz7_6 hcz7_7 hcz7_8
       try clear hfz10_0 hfz10_1 hfz10_2 hfz10_3 hfz10_4 hfz10_5 hfz10_6 hfz10_7 hfz10_8
       try clear hfz7_0 hfz7_1 hfz7_2 hfz7_3 hfz7_4 hfz7_5 hfz7_6 hfz7_7 hfz7_8
       try clear hx660_0
       try clear p2
       try clear p660
       try clear q660
       obtain ⟨x7_2, rfl, HA, HK2, BK657, HB⟩ := hrel
       cases gk with
       | zero => exact absurd HA.out (by simp [isobathref03_Visited.l1])
       | succ k2 =>
        have H := HA.out
        clear HA
        simp only [isobathref03_Visited.l1] at H
        by_cases c15 : x7_2 < (l1.length : Int)
        ·rw [if_pos c15] at H
         have c15b0 : decide (x7_2 < (l1.length : Int)) = true := decide_eq_true c15
         clear c15
         by_cases c16 : 0 ≤ x7_2
         ·rw [if_pos c16] at H
          have c16b0 : decide (0 ≤ x7_2) = true := decide_eq_true c16
          clear c16
          replace H := Option.bind_eq_some_iff.mp H
          obtain ⟨t662, A170, H⟩ := H
          replace H : (if t662 = 0 then (isobathref03_Visited.l1 k2 l1 (wrap64 (x7_2 + 1)) a0_0 a0_1 a0_2 a0_3 a0_4 a0_5 a0_6 l0_7 l0_8) else ((isobathref03_boxes.f k2 (rd_L11 l1 x7_2)).bind fun t664 => (some (([] : List Int), t664)))) = some (r1, r2) := H
          have A17 := Aside0.mk A170
          clear A170
          by_cases c18 : t662 = 0
          ·rw [if_pos c18] at H
           have c18b0 : (t662 == 0) = true := beq_iff_eq.mpr c18
           have c18b1 : (t662 != 0) = false := bne_eq_false_iff_eq.mpr c18
           clear c18
           have H' := Aside0.mk H
           clear H
           have p661 : 0 ≤ (x7_2 : Int) := of_decide_eq_true zq4
           have q661 : x7_2 < (l1.length : Int) := of_decide_eq_true zq4
           obtain ⟨ad661, A661_0, c661_0, e661, hx661_0, hl661_0, hi661_0⟩ := at_L11 HR1.out x7_2 p661 q661
           cases e661
           replace hx661_0 := (HB.out.cell (World.block_lt_of_cell? w _ hx661_0)).trans hx661_0
           have HR661_0 := Aside0.mk hi661_0
           have HC661_0 := Aside0.mk hl661_0
           clear hi661_0 hl661_0
           replace p661 := eq_true p661
           replace q661 := eq_true q661
           go_wp2_with (first | ((with_reducible refine gate_callee (f := 90) rfl ?_); refine goesL_ (some 43) rfl rfl Try.func90 zq1 rfl #[.slice A661_0 (rd_L11 l1 x7_2).length c661_0] rfl zq8 ?_; (with_reducible refine (isobathref03_boxes.calls k2 _ _ (rd_L11 l1 x7_2) t662 _ ?side1 ?side2 A17.out).mono ?_); (case side1 => repeat (first | exact (Kd.C_below HR661_0.out HB.out) | (with_reducible refine Kd.C_alloc ?_ _) | (with_reducible refine Kd.C_drewN ?_ _) | (with_reducible refine Kd.C_drew ?_))); (case side2 => exact HC661_0.out); rintro e w19 ⟨rfl, hb⟩; refine ⟨_, rfl, ?_⟩; replace BK657 := zbb BK657 hb; replace HB := zbs HB hb; (try clear hb); (try clear hb2); (try clear hk); (try clear hi)))
           go_roundg k2
           case measure => have := HK1.out; have := HK2.out; omega
           case rel => exact ⟨(wrap64 (x7_2 + 1)), zq2, H', ⟨by have := HK1.out; have := HK2.out; omega⟩, ⟨by (with_reducible repeat (first | refine blk_drewN ?_ _ | refine blk_drew ?_ | refine blk_alloc ?_ _)); exact BK657.out⟩, ⟨zbz⟩⟩
          ·rw [if_neg c18] at H
           have c18b0 : (t662 == 0) = false := beq_eq_false_iff_ne.mpr c18
           have c18b1 : (t662 != 0) = true := bne_iff_ne.mpr c18
           replace H := Option.bind_eq_some_iff.mp H
           obtain ⟨t664, A200, H⟩ := H
           replace H : (some (([] : List Int), t664)) = some (r1, r2) := H
           have A20 := Aside0.mk A200
           clear A200
           simp only [Option.some.injEq, Prod.mk.injEq] at H
           obtain ⟨rfl, rfl⟩ := H
           have p661 : 0 ≤ (x7_2 : Int) := of_decide_eq_true zq4
           have q661 : x7_2 < (l1.length : Int) := of_decide_eq_true zq4
           obtain ⟨ad661, A661_0, c661_0, e661, hx661_0, hl661_0, hi661_0⟩ := at_L11 HR1.out x7_2 p661 q661
           cases e661
           replace hx661_0 := (HB.out.cell (World.block_lt_of_cell? w _ hx661_0)).trans hx661_0
           have HR661_0 := Aside0.mk hi661_0
           have HC661_0 := Aside0.mk hl661_0
           clear hi661_0 hl661_0
           replace p661 := eq_true p661
           replace q661 := eq_true q661
           go_wp2_with (first | ((with_reducible refine gate_callee (f := 90) rfl ?_); refine goesL_ (some 43) rfl rfl Try.func90 zq1 rfl #[.slice A661_0 (rd_L11 l1 x7_2).length c661_0] rfl zq8 ?_; (with_reducible refine (isobathref03_boxes.calls k2 _ _ (rd_L11 l1 x7_2) t662 _ ?side1 ?side2 A17.out).mono ?_); (case side1 => repeat (first | exact (Kd.C_below HR661_0.out HB.out) | (with_reducible refine Kd.C_alloc ?_ _) | (with_reducible refine Kd.C_drewN ?_ _) | (with_reducible refine Kd.C_drew ?_))); (case side2 => exact HC661_0.out); rintro e w21 ⟨rfl, hb⟩; refine ⟨_, rfl, ?_⟩; replace BK657 := zbb BK657 hb; replace HB := zbs HB hb; (try clear hb); (try clear hb2); (try clear hk); (try clear hi); have p663 : 0 ≤ (x7_2 : Int) := of_decide_eq_true zq4; have q663 : x7_2 < (l1.length : Int) := of_decide_eq_true zq4; obtain ⟨ad663, A663_0, c663_0, e663, hx663_0, hl663_0, hi663_0⟩ := at_L11 HR1.out x7_2 p663 q663; obtain rfl : ad661 = ad663 := (by injection e663); replace hx663_0 := (HB.out.cell (World.block_lt_of_cell? w _ hx663_0)).trans hx663_0; have HR663_0 := Aside0.mk hi663_0; have HC663_0 := Aside0.mk hl663_0; clear hi663_0 hl663_0; replace p663 := eq_true p663; replace q663 := eq_true q663) | ((with_reducible refine gate_callee (f := 90) rfl ?_); refine goesL_ (some 49) rfl rfl Try.func90 zq1 rfl #[.slice A663_0 (rd_L11 l1 x7_2).length c663_0] rfl zq8 ?_; (with_reducible refine (isobathref03_boxes.calls k2 _ _ (rd_L11 l1 x7_2) t664 _ ?side1 ?side2 A20.out).mono ?_); (case side1 => repeat (first | exact (Kd.C_below HR663_0.out HB.out) | (with_reducible refine Kd.C_alloc ?_ _) | (with_reducible refine Kd.C_drewN ?_ _) | (with_reducible refine Kd.C_drew ?_))); (case side2 => exact HC663_0.out); rintro e w22 ⟨rfl, hb⟩; refine ⟨_, rfl, ?_⟩; replace BK657 := zbb BK657 hb; replace HB := zbs HB hb; (try clear hb); (try clear hb2); (try clear hk); (try clear hi)))
           go_ret2
           exact ⟨_, zq6, zq10, zbz⟩
         ·rw [if_neg c16] at H
          exact absurd H (by simp)
        ·rw [if_neg c15] at H
         have c15b0 : decide (x7_2 < (l1.length : Int)) = false := decide_eq_false c15
         clear c15
         have H' := Aside0.mk H
         clear H
         go_wp2
         go_loopg [8, 9] k2 (fun kq v8 v9 w' => ∃ (x8_3 : List Int) (x9_3 : Int), v9 = .int .i64 x9_3 ∧ Aside0 (isobathref03_Visited.l2 kq l1 x8_3 x9_3 a0_0 a0_1 a0_2 a0_3 a0_4 a0_5 a0_6 l0_7 l0_8 = some (r1, r2)) ∧ Aside0 (kq ≤ k2) ∧ Aside0 (Kd.R (Kd.int .i64) 75 w' w.heap.size (fun _ => True) v8 x8_3) ∧ Aside0 (w'.heap[gb657]? = some (.cells #[.int .i64 a0_0, .int .i64 a0_1, .int .i64 a0_2, .int .i64 a0_3, .int .i64 a0_4, .int .i64 a0_5, .int .i64 a0_6, (.slice A0_7 l0_7.length c0_7), (.slice A0_8 l0_8.length c0_8)] 25 (0, 0))) ∧ Aside0 (Below w.heap.size w w'))
         case atStart => exact ⟨(([] : List Int)), (0), zq2, H', ⟨Nat.le_refl _⟩, ⟨zq10⟩, ⟨by (with_reducible repeat (first | refine blk_drewN ?_ _ | refine blk_drew ?_ | refine blk_alloc ?_ _)); exact BK657.out⟩, ⟨zbz⟩⟩
         case round =>
          clear H'
          try clear c1
          try clear c2
          try clear p2
          try clear c4
          try clear c4b0
          try clear c4b1
          try clear c5
          try clear c5b0
          try clear c5b1
          try clear c6
          try clear p6
          try clear q6
          try clear hx6
          try clear c9
          try clear c12
          try clear c12b0
          try clear c13
          try clear c13b0
          try clear c14
          try clear c14b0
          try clear c14b1
          try clear c15
          try clear c15b0
          try clear c16
          try clear c16b0
          try clear c18
          try clear c18b0
          try clear c18b1
          try clear hcz10_0 hcz10_1 hcz10_2 hcz10_3 hcz10_4 hcz10_5 hcz10_6 hcz10_7 hcz10_8
          try clear hcz7_0 hcz7_1 hcz7_2 hcz7_3 hcz7_4 hcz7_5 hcz7_6 hcz7_7 hcz7_8
          try clear hfz10_0 hfz10_1 hfz10_2 hfz10_3 hfz10_4 hfz10_5 hfz10_6 hfz10_7 hfz10_8
          try clear hfz7_0 hfz7_1 hfz7_2 hfz7_3 hfz7_4 hfz7_5 hfz7_6 hfz7_7 hfz7_8
          try clear hx660_0
          try clear hx661_0
          try clear hx663_0
          try clear p2
          try clear p6
          try clear p660
          try clear p661
          try clear p663
          try clear q6
          try clear q660
          try clear q661
          try clear q663
          obtain ⟨x8_3, x9_3, rfl, HA, HK3, HO_8, BK657, HB⟩ := hrel
          cases gk with
          | zero => exact absurd HA.out (by simp [isobathref03_Visited.l2])
          | succ k3 =>
           have H := HA.out
           clear HA
           simp only [isobathref03_Visited.l2] at H
           by_cases c23 : x9_3 < (wrap64 (a0_0 * a0_1))
           ·rw [if_pos c23] at H
            have c23b0 : decide (x9_3 < (wrap64 (a0_0 * a0_1))) = true := decide_eq_true c23
            clear c23
            have H' := Aside0.mk H
            clear H
            obtain ⟨hcz24_0, hcz24_1, hcz24_2, hcz24_3, hcz24_4, hcz24_5, hcz24_6, hcz24_7, hcz24_8, hfz24_0, hfz24_1, hfz24_2, hfz24_3, hfz24_4, hfz24_5, hfz24_6, hfz24_7, hfz24_8⟩ := zce9 BK657.out
            go_wp2
            go_loopg [10, 11] k3 (fun kq v10 v11 w' => ∃ (x10_4 : Int) (x11_4 : Int), v10 = .int .i64 x10_4 ∧ v11 = .int .i64 x11_4 ∧ Aside0 (isobathref03_Visited.l3 kq l1 x8_3 x9_3 x10_4 x11_4 a0_0 a0_1 a0_2 a0_3 a0_4 a0_5 a0_6 l0_7 l0_8 = some (r1, r2)) ∧ Aside0 (kq ≤ k3) ∧ Aside0 (Kd.R (Kd.int .i64) 75 w' w.heap.size (fun _ => True) u8 x8_3) ∧ Aside0 (w'.heap[gb657]? = some (.cells #[.int .i64 a0_0, .int .i64 a0_1, .int .i64 a0_2, .int .i64 a0_3, .int .i64 a0_4, .int .i64 a0_5, .int .i64 a0_6, (.slice A0_7 l0_7.length c0_7), (.slice A0_8 l0_8.length c0_8)] 25 (0, 0))) ∧ Aside0 (Below w.heap.size w w'))
            case atStart => exact ⟨(0), (0), zq2, zq2, H', ⟨Nat.le_refl _⟩, ⟨zq52⟩, ⟨by (with_reducible repeat (first | refine blk_drewN ?_ _ | refine blk_drew ?_ | refine blk_alloc ?_ _)); exact BK657.out⟩, ⟨zbz⟩⟩
            case round =>
             clear H'
             try clear c1
             try clear c2
             try clear p2
             try clear c4
             try clear c4b0
             try clear c4b1
             try clear c5
             try clear c5b0
             try clear c5b1
             try clear c6
             try clear p6
             try clear q6
             try clear hx6
             try clear c9
             try clear c12
             try clear c12b0
             try clear c13
             try clear c13b0
             try clear c14
             try clear c14b0
             try clear c14b1
             try clear c15
             try clear c15b0
             try clear c16
             try clear c16b0
             try clear c18
             try clear c18b0
             try clear c18b1
             try clear c23
             try clear c23b0
             try clear hcz10_0 hcz10_1 hcz10_2 hcz10_3 hcz10_4 hcz10_5 hcz10_6 hcz10_7 hcz10_8
             try clear hcz24_0 hcz24_1 hcz24_2 hcz24_3 hcz24_4 hcz24_5 hcz24_6 hcz24_7 hcz24_8
             try clear hcz7_0 hcz7_1 hcz7_2 hcz7_3 hcz7_4 hcz7_5 hcz7_6 hcz7_7 hcz7_8
             try clear hfz10_0 hfz10_1 hfz10_2 hfz10_3 hfz10_4 hfz10_5 hfz10_6 hfz10_7 hfz10_8
             try clear hfz24_0 hfz24_1 hfz24_2 hfz24_3 hfz24_4 hfz24_5 hfz24_6 hfz24_7 hfz24_8
             try clear hfz7_0 hfz7_1 hfz7_2 hfz7_3 hfz7_4 hfz7_5 hfz7_6 hfz7_7 hfz7_8
             try clear hx660_0
             try clear hx661_0
             try clear hx663_0
             try clear p2
             try clear p6
             try clear p660
             try clear p661
             try clear p663
             try clear q6
             try clear q660
             try clear q661
             try clear q663
             obtain ⟨x10_4, x11_4, rfl, rfl, HA, HK4, HO_8, BK657, HB⟩ := hrel
             cases gk with
             | zero => exact absurd HA.out (by simp [isobathref03_Visited.l3])
             | succ k4 =>
              have H := HA.out
              clear HA
              simp only [isobathref03_Visited.l3] at H
              by_cases c25 : x11_4 < (l1.length : Int)
              ·rw [if_pos c25] at H
               have c25b0 : decide (x11_4 < (l1.length : Int)) = true := decide_eq_true c25
               clear c25
               have H' := Aside0.mk H
               clear H
               go_wp2
               go_loopg [10, 12] k4 (fun kq v10 v12 w' => ∃ (x10_5 : Int) (x12_5 : Int), v10 = .int .i64 x10_5 ∧ v12 = .int .i64 x12_5 ∧ Aside0 (isobathref03_Visited.l4 kq l1 x8_3 x9_3 x10_5 x11_4 x12_5 a0_0 a0_1 a0_2 a0_3 a0_4 a0_5 a0_6 l0_7 l0_8 = some (r1, r2)) ∧ Aside0 (kq ≤ k4) ∧ Aside0 (Kd.R (Kd.int .i64) 75 w' w.heap.size (fun _ => True) u8 x8_3) ∧ Aside0 (w'.heap[gb657]? = some (.cells #[.int .i64 a0_0, .int .i64 a0_1, .int .i64 a0_2, .int .i64 a0_3, .int .i64 a0_4, .int .i64 a0_5, .int .i64 a0_6, (.slice A0_7 l0_7.length c0_7), (.slice A0_8 l0_8.length c0_8)] 25 (0, 0))) ∧ Aside0 (Below w.heap.size w w'))
               case atStart => exact ⟨(x10_4), (0), zq2, zq2, H', ⟨Nat.le_refl _⟩, ⟨zq52⟩, ⟨by (with_reducible repeat (first | refine blk_drewN ?_ _ | refine blk_drew ?_ | refine blk_alloc ?_ _)); exact BK657.out⟩, ⟨zbz⟩⟩
               case round =>
                clear H'
                try clear c1
                try clear c2
                try clear p2
                try clear c4
                try clear c4b0
                try clear c4b1
                try clear c5
                try clear c5b0
                try clear c5b1
                try clear c6
                try clear p6
                try clear q6
                try clear hx6
                try clear c9
                try clear c12
                try clear c12b0
                try clear c13
                try clear c13b0
                try clear c14
                try clear c14b0
                try clear c14b1
                try clear c15
                try clear c15b0
                try clear c16
                try clear c16b0
                try clear c18
                try clear c18b0
                try clear c18b1
                try clear c23
                try clear c23b0
                try clear c25
                try clear c25b0
                try clear hcz10_0 hcz10_1 hcz10_2 hcz10_3 hcz10_4 hcz10_5 hcz10_6 hcz10_7 hcz10_8
                try clear hcz24_0 hcz24_1 hcz24_2 hcz24_3 hcz24_4 hcz24_5 hcz24_6 hcz24_7 hcz24_8
                try clear hcz7_0 hcz7_1 hcz7_2 hcz7_3 hcz7_4 hcz7_5 hcz7_6 hcz7_7 hcz7_8
                try clear hfz10_0 hfz10_1 hfz10_2 hfz10_3 hfz10_4 hfz10_5 hfz10_6 hfz10_7 hfz10_8
                try clear hfz24_0 hfz24_1 hfz24_2 hfz24_3 hfz24_4 hfz24_5 hfz24_6 hfz24_7 hfz24_8
                try clear hfz7_0 hfz7_1 hfz7_2 hfz7_3 hfz7_4 hfz7_5 hfz7_6 hfz7_7 hfz7_8
                try clear hx660_0
                try clear hx661_0
                try clear hx663_0
                try clear p2
                try clear p6
                try clear p660
                try clear p661
                try clear p663
                try clear q6
                try clear q660
                try clear q661
                try clear q663
                obtain ⟨x10_5, x12_5, rfl, rfl, HA, HK5, HO_8, BK657, HB⟩ := hrel
                cases gk with
                | zero => exact absurd HA.out (by simp [isobathref03_Visited.l4])
                | succ k5 =>
                 have H := HA.out
                 clear HA
                 simp only [isobathref03_Visited.l4] at H
                 by_cases c26 : 0 ≤ x11_4
                 ·rw [if_pos c26] at H
                  have c26b0 : decide (0 ≤ x11_4) = true := decide_eq_true c26
                  clear c26
                  by_cases c27 : x11_4 < (l1.length : Int)
                  ·rw [if_pos c27] at H
                   have c27b0 : decide (x11_4 < (l1.length : Int)) = true := decide_eq_true c27
                   clear c27
                   by_cases c28 : x12_5 < ((rd_L11 l1 x11_4).length : Int)
                   ·rw [if_pos c28] at H
                    have c28b0 : decide (x12_5 < ((rd_L11 l1 x11_4).length : Int)) = true := decide_eq_true c28
                    clear c28
                    by_cases c29 : 0 ≤ x12_5
                    ·rw [if_pos c29] at H
                     have c29b0 : decide (0 ≤ x12_5) = true := decide_eq_true c29
                     clear c29
                     replace H := Option.bind_eq_some_iff.mp H
                     obtain ⟨⟨t671, t672, t673, t674⟩, A300, H⟩ := H
                     replace H : ((isobathref03_Inside.f k5 ((rd_T31 (rd_L11 l1 x11_4) x12_5).f0.f0) ((rd_T31 (rd_L11 l1 x11_4) x12_5).f0.f1) ((rd_T31 (rd_L11 l1 x11_4) x12_5).f1.f0) ((rd_T31 (rd_L11 l1 x11_4) x12_5).f1.f1) t671 t672 t673 t674).bind fun t675 => (isobathref03_Visited.l4 k5 l1 x8_3 x9_3 (mx x10_5 t675) x11_4 (wrap64 (x12_5 + 1)) a0_0 a0_1 a0_2 a0_3 a0_4 a0_5 a0_6 l0_7 l0_8)) = some (r1, r2) := H
                     have A30 := Aside0.mk A300
                     clear A300
                     replace H := Option.bind_eq_some_iff.mp H
                     obtain ⟨t675, A310, H⟩ := H
                     replace H : (isobathref03_Visited.l4 k5 l1 x8_3 x9_3 (mx x10_5 t675) x11_4 (wrap64 (x12_5 + 1)) a0_0 a0_1 a0_2 a0_3 a0_4 a0_5 a0_6 l0_7 l0_8) = some (r1, r2) := H
                     have A31 := Aside0.mk A310
                     clear A310
                     obtain ⟨ji32, hji32⟩ : ∃ j_ : Int, (mx x10_5 t675) = j_ := ⟨_, rfl⟩
                     replace H : (isobathref03_Visited.l4 k5 l1 x8_3 x9_3 ji32 x11_4 (wrap64 (x12_5 + 1)) a0_0 a0_1 a0_2 a0_3 a0_4 a0_5 a0_6 l0_7 l0_8) = some (r1, r2) := by first | (rw [hji32] at H; exact H) | (simp only [hji32] at H ⊢; exact H)
                     (try rw [hji32] at A30)
                     (try rw [hji32] at A31)
                     have hji32_ : (if x10_5 < t675 then t675 else x10_5) = ji32 := hji32
                     have H' := Aside0.mk H
                     clear H
                     have p668 : 0 ≤ (x11_4 : Int) := of_decide_eq_true zq4
                     have q668 : x11_4 < (l1.length : Int) := of_decide_eq_true zq4
                     obtain ⟨ad668, A668_0, c668_0, e668, hx668_0, hl668_0, hi668_0⟩ := at_L11 HR1.out x11_4 p668 q668
                     cases e668
                     replace hx668_0 := (HB.out.cell (World.block_lt_of_cell? w _ hx668_0)).trans hx668_0
                     have HR668_0 := Aside0.mk hi668_0
                     have HC668_0 := Aside0.mk hl668_0
                     clear hi668_0 hl668_0
                     replace p668 := eq_true p668
                     replace q668 := eq_true q668
                     try go_wp2
                     replace HO_8 := Aside0.mk (Kd.R_drew HO_8.out)
                     replace BK657 := Aside0.mk (blk_drew BK657.out)
                     replace HB := Aside0.mk (below_drew1 HB.out)
                     have p669 : 0 ≤ (x11_4 : Int) := of_decide_eq_true zq4
                     have q669 : x11_4 < (l1.length : Int) := of_decide_eq_true zq4
                     obtain ⟨ad669, A669_0, c669_0, e669, hx669_0, hl669_0, hi669_0⟩ := at_L11 HR1.out x11_4 p669 q669
                     have hw669_0 := hx669_0
                     obtain rfl : ad668 = ad669 := (by injection e669)
                     replace hx669_0 := (HB.out.cell (World.block_lt_of_cell? w _ hx669_0)).trans hx669_0
                     have HR669_0 := Aside0.mk hi669_0
                     have HC669_0 := Aside0.mk hl669_0
                     clear hi669_0 hl669_0
                     replace p669 := eq_true p669
                     replace q669 := eq_true q669
                     have p670 : 0 ≤ (x12_5 : Int) := of_decide_eq_true zq4
                     have q670 : x12_5 < ((rd_L11 l1 x11_4).length : Int) := of_decide_eq_true zq4
                     obtain ⟨ad670, e670, hx670_0, hx670_1, hx670_2, hx670_3⟩ := at_T31 HR669_0.out x12_5 p670 q670
                     have hw670_3 := hx670_3
                     have hw670_2 := hx670_2
                     have hw670_1 := hx670_1
                     have hw670_0 := hx670_0
                     cases e670
                     replace hx670_0 := (HB.out.cell (World.block_lt_of_cell? w _ hx670_0)).trans hx670_0
                     replace hx670_1 := (HB.out.cell (World.block_lt_of_cell? w _ hx670_1)).trans hx670_1
                     replace hx670_2 := (HB.out.cell (World.block_lt_of_cell? w _ hx670_2)).trans hx670_2
                     replace hx670_3 := (HB.out.cell (World.block_lt_of_cell? w _ hx670_3)).trans hx670_3
                     replace p670 := eq_true p670
                     replace q670 := eq_true q670
                     refine start_ (n := 14) (S := fun w' => w'.cell? ⟨gb657, 0, none⟩ = some (.int .i64 a0_0) ∧ w'.cell? ⟨gb657, 1, none⟩ = some (.int .i64 a0_1) ∧ w'.cell? ⟨gb657, 2, none⟩ = some (.int .i64 a0_2) ∧ w'.cell? ⟨gb657, 3, none⟩ = some (.int .i64 a0_3) ∧ w'.cell? ⟨gb657, 4, none⟩ = some (.int .i64 a0_4) ∧ w'.cell? ⟨gb657, 5, none⟩ = some (.int .i64 a0_5) ∧ w'.cell? ⟨gb657, 6, none⟩ = some (.int .i64 a0_6) ∧ w'.cell? ⟨gb657, 7, none⟩ = some (.slice A0_7 l0_7.length c0_7) ∧ w'.cell? ⟨gb657, 8, none⟩ = some (.slice A0_8 l0_8.length c0_8) ∧ w'.cell? (ad668.add (x11_4).toNat) = some (.slice (some ad670) (rd_L11 l1 x11_4).length c669_0) ∧ w'.cell? (ad670.add ((x12_5).toNat * 4)) = some (.int .i64 ((rd_T31 (rd_L11 l1 x11_4) x12_5).f0.f0)) ∧ w'.cell? ⟨(ad670.add ((x12_5).toNat * 4)).block, (ad670.add ((x12_5).toNat * 4)).off + 1, none⟩ = some (.int .i64 ((rd_T31 (rd_L11 l1 x11_4) x12_5).f0.f1)) ∧ w'.cell? ⟨(ad670.add ((x12_5).toNat * 4)).block, (ad670.add ((x12_5).toNat * 4)).off + 2, none⟩ = some (.int .i64 ((rd_T31 (rd_L11 l1 x11_4) x12_5).f1.f0)) ∧ w'.cell? ⟨(ad670.add ((x12_5).toNat * 4)).block, (ad670.add ((x12_5).toNat * 4)).off + 3, none⟩ = some (.int .i64 ((rd_T31 (rd_L11 l1 x11_4) x12_5).f1.f1))) (ds := []) #[false, false, false, false, false, false, false, false, false, false, false, false, false, false] zq1 rfl rfl (zca9 BK657.out ⟨((HB.out.cell (World.block_lt_of_cell? w _ hw669_0)).trans hw669_0), ((HB.out.cell (World.block_lt_of_cell? w _ hw670_0)).trans hw670_0), ((HB.out.cell (World.block_lt_of_cell? w _ hw670_1)).trans hw670_1), ((HB.out.cell (World.block_lt_of_cell? w _ hw670_2)).trans hw670_2), ((HB.out.cell (World.block_lt_of_cell? w _ hw670_3)).trans hw670_3)⟩) (fun hHeld => ?_); refine with_tabW isobathref03_Visited.tab26 isobathref03_Visited.bits26 (fun HT_ HW_ => ?_)
                     generalize wr.drew = w33 at HO_8 BK657 HB HR669_0 hx669_0 hx670_0 hx670_1 hx670_2 hx670_3 hHeld ⊢
                     refine zpz (i := 0) (N := some 74) (any_of HT_.out zq1) ?_
                     refine zpz (i := 1) (N := some 75) (any_of HT_.out zq1) ?_
                     refine zpz (i := 2) (N := some 76) (any_of HT_.out zq1) ?_
                     refine zpz (i := 3) (N := some 77) (any_of HT_.out zq1) ?_
                     refine zpz (i := 5) (N := some 79) (any_of HT_.out zq1) ?_
                     refine zpz (i := 9) (N := some 83) (any_of HT_.out zq1) ?_
                     refine ztz (i := 4) (N := some 78) (take_ofW HT_.out HW_.out zq1) hHeld ?_
                     refine zpz (i := 6) (N := some 80) (any_of HT_.out zq1) ?_
                     refine ztz (i := 7) (N := some 81) (take_ofW HT_.out HW_.out zq1) hHeld ?_
                     refine ztz (i := 8) (N := some 82) (take_ofW HT_.out HW_.out zq1) hHeld ?_
                     refine one_ (i := 10) (N := some 84) #[true, true, true, true, true, true, true, true, true, true, true, false, false, false] rfl rfl (one_of HT_.out zq1) (by decide) (fun K hK => ?_)
                     refine goes_ Try.func42 zq1 rfl #[.agg #[.int .i64 a0_0, .int .i64 a0_1, .int .i64 a0_2, .int .i64 a0_3, .int .i64 a0_4, .int .i64 a0_5, .int .i64 a0_6, .slice A0_7 l0_7.length c0_7, .slice A0_8 l0_8.length c0_8], .int .i64 x9_3] (by rfl) rfl rfl zq8 ?_
                     with_reducible refine (isobathref03_Cell.calls a0_0 a0_1 a0_2 a0_3 a0_4 a0_5 a0_6 _ _ l0_7 _ _ l0_8 x9_3 t671 t672 t673 t674 _ ?side1 ?side2 ?side3 ?side4 A30.out).mono ?_
                     (case side1 => repeat (first | exact (Kd.C_below HR0_7.out HB.out) | (with_reducible refine Kd.C_alloc ?_ _) | (with_reducible refine Kd.C_drewN ?_ _) | (with_reducible refine Kd.C_drew ?_)))
                     (case side2 => exact HC0_7.out)
                     (case side3 => repeat (first | exact (Kd.C_below HR0_8.out HB.out) | (with_reducible refine Kd.C_alloc ?_ _) | (with_reducible refine Kd.C_drewN ?_ _) | (with_reducible refine Kd.C_drew ?_)))
                     (case side4 => exact HC0_8.out)
                     rintro e w34 ⟨rfl, hb⟩
                     refine ⟨_, rfl, ?_⟩
                     replace HO_8 := Aside0.mk (Kd.R_below zq52 hb)
                     replace BK657 := zbb BK657 hb
                     replace HB := zbs HB hb
                     (try clear hb)
                     (try clear hb2)
                     (try clear hk)
                     (try clear hi)
                     refine hK.out _ _ (zca9 BK657.out ⟨((HB.out.cell (World.block_lt_of_cell? w _ hw669_0)).trans hw669_0), ((HB.out.cell (World.block_lt_of_cell? w _ hw670_0)).trans hw670_0), ((HB.out.cell (World.block_lt_of_cell? w _ hw670_1)).trans hw670_1), ((HB.out.cell (World.block_lt_of_cell? w _ hw670_2)).trans hw670_2), ((HB.out.cell (World.block_lt_of_cell? w _ hw670_3)).trans hw670_3)⟩) (fun hHeld => ?_)
                     clear hK K
                     refine norm_ (by show Act.put _ (some 84) _ = _; simp only [Act.put, List.setIfInBounds_toArray, List.set_cons_zero, List.set_cons_succ, i64_w, i32_w]; rfl) ?_
                     refine one_ (i := 11) (N := some 85) #[true, true, true, true, true, true, true, true, true, true, true, true, false, false] rfl rfl (one_of HT_.out zq1) (by decide) (fun K hK => ?_)
                     refine goes_ Try.func43 zq1 rfl #[.agg #[.int .i64 ((rd_T31 (rd_L11 l1 x11_4) x12_5).f0.f0), .int .i64 ((rd_T31 (rd_L11 l1 x11_4) x12_5).f0.f1), .int .i64 ((rd_T31 (rd_L11 l1 x11_4) x12_5).f1.f0), .int .i64 ((rd_T31 (rd_L11 l1 x11_4) x12_5).f1.f1)], .agg #[.int .i64 t671, .int .i64 t672, .int .i64 t673, .int .i64 t674]] (by rfl) rfl rfl zq8 ?_
                     with_reducible refine (isobathref03_Inside.calls k5 ((rd_T31 (rd_L11 l1 x11_4) x12_5).f0.f0) ((rd_T31 (rd_L11 l1 x11_4) x12_5).f0.f1) ((rd_T31 (rd_L11 l1 x11_4) x12_5).f1.f0) ((rd_T31 (rd_L11 l1 x11_4) x12_5).f1.f1) t671 t672 t673 t674 t675 _ A31.out).mono ?_
                     rintro e w35 ⟨rfl, hb⟩
                     refine ⟨_, rfl, ?_⟩
                     replace HO_8 := Aside0.mk (Kd.R_below zq52 hb)
                     replace BK657 := zbb BK657 hb
                     replace HB := zbs HB hb
                     (try clear hb)
                     (try clear hb2)
                     (try clear hk)
                     (try clear hi)
                     refine hK.out _ _ (zca9 BK657.out ⟨((HB.out.cell (World.block_lt_of_cell? w _ hw669_0)).trans hw669_0), ((HB.out.cell (World.block_lt_of_cell? w _ hw670_0)).trans hw670_0), ((HB.out.cell (World.block_lt_of_cell? w _ hw670_1)).trans hw670_1), ((HB.out.cell (World.block_lt_of_cell? w _ hw670_2)).trans hw670_2), ((HB.out.cell (World.block_lt_of_cell? w _ hw670_3)).trans hw670_3)⟩) (fun hHeld => ?_)
                     clear hK K
                     refine norm_ (by show Act.put _ (some 85) _ = _; simp only [Act.put, List.setIfInBounds_toArray, List.set_cons_zero, List.set_cons_succ, i64_w, i32_w]; rfl) ?_
                     refine zpz (i := 12) (N := some 86) (any_of HT_.out zq1) ?_
                     refine zpz (i := 13) (N := some 10) (any_of HT_.out zq1) ?_
                     refine done_ (done_of HT_.out zq1) ?_
                     try go_wp2
                     go_roundg k5
                     case measure => have := HK1.out; have := HK2.out; have := HK3.out; have := HK4.out; have := HK5.out; omega
                     case rel => exact ⟨(ji32), (wrap64 (x12_5 + 1)), (by first | rfl | (simp; done) | (simp only [← hji32] <;> (first | rfl | simp)) | (simp [*]; done)), zq2, H', ⟨by have := HK1.out; have := HK2.out; have := HK3.out; have := HK4.out; have := HK5.out; omega⟩, ⟨zq52⟩, ⟨by (with_reducible repeat (first | refine blk_drewN ?_ _ | refine blk_drew ?_ | refine blk_alloc ?_ _)); exact BK657.out⟩, ⟨zbz⟩⟩
                    ·rw [if_neg c29] at H
                     exact absurd H (by simp)
                   ·rw [if_neg c28] at H
                    have c28b0 : decide (x12_5 < ((rd_L11 l1 x11_4).length : Int)) = false := decide_eq_false c28
                    clear c28
                    have H' := Aside0.mk H
                    clear H
                    have p668 : 0 ≤ (x11_4 : Int) := of_decide_eq_true zq4
                    have q668 : x11_4 < (l1.length : Int) := of_decide_eq_true zq4
                    obtain ⟨ad668, A668_0, c668_0, e668, hx668_0, hl668_0, hi668_0⟩ := at_L11 HR1.out x11_4 p668 q668
                    cases e668
                    replace hx668_0 := (HB.out.cell (World.block_lt_of_cell? w _ hx668_0)).trans hx668_0
                    have HR668_0 := Aside0.mk hi668_0
                    have HC668_0 := Aside0.mk hl668_0
                    clear hi668_0 hl668_0
                    replace p668 := eq_true p668
                    replace q668 := eq_true q668
                    go_wp2
                    go_roundg k5
                    case measure => have := HK1.out; have := HK2.out; have := HK3.out; have := HK4.out; have := HK5.out; omega
                    case rel => exact ⟨(x10_5), (wrap64 (x11_4 + 1)), zq2, zq2, H', ⟨by have := HK1.out; have := HK2.out; have := HK3.out; have := HK4.out; have := HK5.out; omega⟩, ⟨zq52⟩, ⟨by (with_reducible repeat (first | refine blk_drewN ?_ _ | refine blk_drew ?_ | refine blk_alloc ?_ _)); exact BK657.out⟩, ⟨zbz⟩⟩
                  ·rw [if_neg c27] at H
                   exact absurd H (by simp)
                 ·rw [if_neg c26] at H
                  exact absurd H (by simp)
              ·rw [if_neg c25] at H
               have c25b0 : decide (x11_4 < (l1.length : Int)) = false := decide_eq_false c25
               clear c25
               by_cases c36 : x8_3.length < 17592186044416
               ·rw [if_pos c36] at H
                have LMc36 := Aside0.mk c36
                clear c36
                obtain ⟨y665, hy665⟩ : ∃ y_ : List Int, y_ = (x8_3 ++ [x10_4]) := ⟨_, rfl⟩
                replace H : (isobathref03_Visited.l2 k4 l1 y665 (wrap64 (x9_3 + 1)) a0_0 a0_1 a0_2 a0_3 a0_4 a0_5 a0_6 l0_7 l0_8) = some (r1, r2) := by first | (rw [hy665]; with_reducible exact H) | (have H2_ := (Option.bind_some _ _).symm.trans H; rw [hy665]; with_reducible exact H2_) | (have H2_ := (Option.bind_some _ _).symm.trans H; with_reducible exact H2_) | with_reducible exact H | (rw [hy665]; exact H) | exact H
                have Ny665 := Aside0.mk hy665
                clear hy665
                have H' := Aside0.mk H
                clear H
                go_wp2_with (first | ((with_reducible refine gate_builtin (b := .append) (xs := #[.tmp 87, .tmp 89]) rfl ?_); at_builtin; refine Kd.R_append (Kd.int .i64) (w0 := w) w.heap.size rfl (.tmp 87) (.tmp 89) 72 75 (.int .i64 0) 8 rfl Try.underlying72 info75 rfl (by decide) (by omega) u8 x8_3 x10_4 [.int .i64 x10_4] (fun _ => True) (fun _ => False) rfl rfl ?aP (fun _ hk => hk.elim) ?aF ?aO ?aB ?aS ?aL ?_; (case aP => exact rfl); (case aB => exact zbz); (case aF => exact (fun _ _ => trivial)); (case aO => exact zq52); (case aS => exact (below_size zbz)); (case aL => have := LMc36.out; omega); intro v666 w37 ho hb hg hat; rw [← Ny665.out] at ho; have n0_ := Aside0.mk (blk_grown (g := gb657) (o := .cells #[.int .i64 a0_0, .int .i64 a0_1, .int .i64 a0_2, .int .i64 a0_3, .int .i64 a0_4, .int .i64 a0_5, .int .i64 a0_6, .slice A0_7 l0_7.length c0_7, .slice A0_8 l0_8.length c0_8] 25 (0, 0)) (by (with_reducible repeat (first | refine blk_drewN ?_ _ | refine blk_drew ?_ | refine blk_alloc ?_ _)); exact BK657.out) hg (Kd.R_ne HO_8.out BK657.out (by decide))); have n1_ := Aside0.mk (hb); have n2_ := Aside0.mk (ho); clear BK657; clear HB; clear HO_8; have BK657 := n0_; have HB := n1_; have HO667 := n2_; clear n0_ n1_ n2_; clear ho hb hg hat))
                go_roundg k4
                case measure => have := HK1.out; have := HK2.out; have := HK3.out; have := HK4.out; omega
                case rel => exact ⟨(y665), (wrap64 (x9_3 + 1)), zq2, H', ⟨by have := HK1.out; have := HK2.out; have := HK3.out; have := HK4.out; omega⟩, ⟨by (with_reducible repeat (first | apply Kd.R_alloc | apply Kd.R_drewN | apply Kd.R_drew)); exact HO667.out⟩, ⟨by (with_reducible repeat (first | refine blk_drewN ?_ _ | refine blk_drew ?_ | refine blk_alloc ?_ _)); exact BK657.out⟩, ⟨zbz⟩⟩
               ·rw [if_neg c36] at H
                exact absurd H (by simp)
           ·rw [if_neg c23] at H
            have c23b0 : decide (x9_3 < (wrap64 (a0_0 * a0_1))) = false := decide_eq_false c23
            clear c23
            simp only [Option.some.injEq, Prod.mk.injEq] at H
            obtain ⟨rfl, rfl⟩ := H
            obtain ⟨hcz38_0, hcz38_1, hcz38_2, hcz38_3, hcz38_4, hcz38_5, hcz38_6, hcz38_7, hcz38_8, hfz38_0, hfz38_1, hfz38_2, hfz38_3, hfz38_4, hfz38_5, hfz38_6, hfz38_7, hfz38_8⟩ := zce9 BK657.out
            go_wp2
            go_ret2
            exact ⟨_, zq6, zq52, zbz⟩
 ·rw [if_neg c4] at H
  have c4b0 : (t658 == 0) = false := beq_eq_false_iff_ne.mpr c4
  have c4b1 : (t658 != 0) = true := bne_iff_ne.mpr c4
  replace H := Option.bind_eq_some_iff.mp H
  obtain ⟨t659, A390, H⟩ := H
  replace H : (some (([] : List Int), t659)) = some (r1, r2) := H
  have A39 := Aside0.mk A390
  clear A390
  simp only [Option.some.injEq, Prod.mk.injEq] at H
  obtain ⟨rfl, rfl⟩ := H
  go_enter Try.func41, Try.ntmps41
  go_wp2_with (first | ((with_reducible refine gate_dst (N := 2) rfl ?_); refine box_event (by rfl) (N := 2) (by rfl) (cs := #[.int .i64 a0_0, .int .i64 a0_1, .int .i64 a0_2, .int .i64 a0_3, .int .i64 a0_4, .int .i64 a0_5, .int .i64 a0_6, .slice A0_7 l0_7.length c0_7, .slice A0_8 l0_8.length c0_8]) (t := 25) zq5 ?_; intro gb657 hg w40 hbox hb; have BK657 := Aside0.mk (hbox); have GW657 := zgs HB hg; have GE657 := zgs HB hg; replace HB := zbs HB hb; clear hb hbox hg; obtain ⟨hcz41_0, hcz41_1, hcz41_2, hcz41_3, hcz41_4, hcz41_5, hcz41_6, hcz41_7, hcz41_8, hfz41_0, hfz41_1, hfz41_2, hfz41_3, hfz41_4, hfz41_5, hfz41_6, hfz41_7, hfz41_8⟩ := zce9 BK657.out) | ((with_reducible refine gate_callee (f := 26) rfl ?_); refine goesL_ (some 14) rfl rfl Try.func26 zq1 rfl #[.agg #[.int .i64 a0_0, .int .i64 a0_1, .int .i64 a0_2, .int .i64 a0_3, .int .i64 a0_4, .int .i64 a0_5, .int .i64 a0_6, .slice A0_7 l0_7.length c0_7, .slice A0_8 l0_8.length c0_8]] rfl zq8 ?_; (with_reducible refine (isobathref03_CheckSea.calls k a0_0 a0_1 a0_2 a0_3 a0_4 a0_5 a0_6 _ _ l0_7 _ _ l0_8 t658 _ ?side1 ?side2 ?side3 ?side4 A3.out).mono ?_); (case side1 => repeat (first | exact (Kd.C_below HR0_7.out HB.out) | (with_reducible refine Kd.C_alloc ?_ _) | (with_reducible refine Kd.C_drewN ?_ _) | (with_reducible refine Kd.C_drew ?_))); (case side2 => exact HC0_7.out); (case side3 => repeat (first | exact (Kd.C_below HR0_8.out HB.out) | (with_reducible refine Kd.C_alloc ?_ _) | (with_reducible refine Kd.C_drewN ?_ _) | (with_reducible refine Kd.C_drew ?_))); (case side4 => exact HC0_8.out); rintro e w42 ⟨rfl, hb⟩; refine ⟨_, rfl, ?_⟩; replace BK657 := zbb BK657 hb; replace HB := zbs HB hb; (try clear hb); (try clear hb2); (try clear hk); (try clear hi); obtain ⟨hcz43_0, hcz43_1, hcz43_2, hcz43_3, hcz43_4, hcz43_5, hcz43_6, hcz43_7, hcz43_8, hfz43_0, hfz43_1, hfz43_2, hfz43_3, hfz43_4, hfz43_5, hfz43_6, hfz43_7, hfz43_8⟩ := zce9 BK657.out) | ((with_reducible refine gate_callee (f := 26) rfl ?_); refine goesL_ (some 17) rfl rfl Try.func26 zq1 rfl #[.agg #[.int .i64 a0_0, .int .i64 a0_1, .int .i64 a0_2, .int .i64 a0_3, .int .i64 a0_4, .int .i64 a0_5, .int .i64 a0_6, .slice A0_7 l0_7.length c0_7, .slice A0_8 l0_8.length c0_8]] rfl zq8 ?_; (with_reducible refine (isobathref03_CheckSea.calls k a0_0 a0_1 a0_2 a0_3 a0_4 a0_5 a0_6 _ _ l0_7 _ _ l0_8 t659 _ ?side1 ?side2 ?side3 ?side4 A39.out).mono ?_); (case side1 => repeat (first | exact (Kd.C_below HR0_7.out HB.out) | (with_reducible refine Kd.C_alloc ?_ _) | (with_reducible refine Kd.C_drewN ?_ _) | (with_reducible refine Kd.C_drew ?_))); (case side2 => exact HC0_7.out); (case side3 => repeat (first | exact (Kd.C_below HR0_8.out HB.out) | (with_reducible refine Kd.C_alloc ?_ _) | (with_reducible refine Kd.C_drewN ?_ _) | (with_reducible refine Kd.C_drew ?_))); (case side4 => exact HC0_8.out); rintro e w44 ⟨rfl, hb⟩; refine ⟨_, rfl, ?_⟩; replace BK657 := zbb BK657 hb; replace HB := zbs HB hb; (try clear hb); (try clear hb2); (try clear hk); (try clear hi)))
  go_ret2
  exact ⟨_, zq6, zq10, zbz⟩

end Go.Proofs.Ytmhaiihjfgfaoaa.Pr
end
