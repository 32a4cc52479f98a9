/- Part 18 of the proof of TopSearched: what the functions compute. No condition. -/
import Derived.Test.YthglkoddmpicdaaTsTopSearched3
import Derived.Test.YthglkoddmpicdaaTsTopSearched17
import Derived.Test.YthglkoddmpicdaaTsTopSearched13
import Derived.Test.YthglkoddmpicdaaTsTopSearched12
set_option linter.unusedVariables false
set_option linter.unusedSimpArgs false
section
namespace Go.Proofs.Ythglkoddmpicdaa.Pr
open Go.RowKit Go.Proofs.YthglkoddmpicdaaW.PrintWords Go.Proofs.YthglkoddmpicdaaW.PrintLast Go.Proofs.YthglkoddmpicdaaW.PrintMore
attribute [local go_sem] max2_int min2_int max_two min_two max_four
set_option linter.unusedVariables false
set_option linter.unusedSimpArgs false

/-! ### glider_Visited: function 20 -/
mutual
def glider_Visited.j0 : Nat → List (List (S29)) → Bool → Int → Int → Int → Int → Int → Int → Int → List Bool → List (S33) → Option (List Int × Int)
 | 0, _, _, _, _, _, _, _, _, _, _, _ => none
 | k + 1, x1, x30, x193000, x193001, x193002, x193003, x193004, x193005, x193006, x193007, x193008 => if x30 = true then (some (([] : List Int), 6)) else (glider_Visited.l0 k x1 x1 (x1.length : Int) 0 x193000 x193001 x193002 x193003 x193004 x193005 x193006 x193007 x193008)
def glider_Visited.l0 : Nat → List (List (S29)) → List (List (S29)) → Int → Int → Int → Int → Int → Int → Int → Int → Int → List Bool → List (S33) → Option (List Int × Int)
 | 0, _, _, _, _, _, _, _, _, _, _, _, _, _ => none
 | k + 1, x1, x31, x32, x33, x193000, x193001, x193002, x193003, x193004, x193005, x193006, x193007, x193008 => if x33 < x32 then (if 0 ≤ x33 then (if x33 < (x31.length : Int) then ((glider_checkBoxes.f (rd_L9 x31 x33)).bind fun t196 => (if t196 = 0 then (glider_Visited.l0 k x1 x31 x32 (wrap64 (x33 + 1)) x193000 x193001 x193002 x193003 x193004 x193005 x193006 x193007 x193008) else (some (([] : List Int), t196)))) else (none)) else (none)) else (if 0 ≤ (wrap64 (x193000 * x193001)) then (if (wrap64 (x193000 * x193001) : Int).toNat ≤ 35184372088832 then ((some (List.replicate (wrap64 (x193000 * x193001) : Int).toNat 0 : List Int)).bind fun y197 => (glider_Visited.l1 k x1 y197 (y197.length : Int) 0 x193000 x193001 x193002 x193003 x193004 x193005 x193006 x193007 x193008)) else (none)) else (none))
def glider_Visited.l1 : Nat → List (List (S29)) → List Int → Int → Int → Int → Int → Int → Int → Int → Int → Int → List Bool → List (S33) → Option (List Int × Int)
 | 0, _, _, _, _, _, _, _, _, _, _, _, _, _ => none
 | k + 1, x1, x10, x50, x51, x193000, x193001, x193002, x193003, x193004, x193005, x193006, x193007, x193008 => if x51 < x50 then (if x193000 = 0 then (none) else (glider_Visited.l2 k x1 x10 x51 x50 x51 x1 (x1.length : Int) 0 x193000 x193001 x193002 x193003 x193004 x193005 x193006 x193007 x193008 (wrap64 ((Int.tmod x51 x193000) * x193002)) (wrap64 ((wrap64 ((Int.tmod x51 x193000) * x193002)) + x193002)) (wrap64 ((wrap64 (Int.tdiv x51 x193000)) * x193002)) (wrap64 ((wrap64 ((wrap64 (Int.tdiv x51 x193000)) * x193002)) + x193002)))) else (some (x10, 0))
def glider_Visited.l2 : Nat → List (List (S29)) → List Int → Int → Int → Int → List (List (S29)) → Int → Int → Int → Int → Int → Int → Int → Int → Int → List Bool → List (S33) → Int → Int → Int → Int → Option (List Int × Int)
 | 0, _, _, _, _, _, _, _, _, _, _, _, _, _, _, _, _, _, _, _, _, _ => none
 | k + 1, x1, x10, x11, x50, x51, x81, x82, x83, x193000, x193001, x193002, x193003, x193004, x193005, x193006, x193007, x193008, x201000, x201001, x201002, x201003 => if x83 < x82 then (if 0 ≤ x83 then (if x83 < (x81.length : Int) then (glider_Visited.l3 k x1 x10 x11 x50 x51 x81 x82 x83 (rd_L9 x81 x83) ((rd_L9 x81 x83).length : Int) 0 x193000 x193001 x193002 x193003 x193004 x193005 x193006 x193007 x193008 x201000 x201001 x201002 x201003) else (none)) else (none)) else (glider_Visited.l1 k x1 x10 x50 (wrap64 (x51 + 1)) x193000 x193001 x193002 x193003 x193004 x193005 x193006 x193007 x193008)
def glider_Visited.l3 : Nat → List (List (S29)) → List Int → Int → Int → Int → List (List (S29)) → Int → Int → List (S29) → Int → Int → Int → Int → Int → Int → Int → Int → Int → List Bool → List (S33) → Int → Int → Int → Int → Option (List Int × Int)
 | 0, _, _, _, _, _, _, _, _, _, _, _, _, _, _, _, _, _, _, _, _, _, _, _, _ => none
 | k + 1, x1, x10, x11, x50, x51, x81, x82, x83, x87, x88, x89, x193000, x193001, x193002, x193003, x193004, x193005, x193006, x193007, x193008, x201000, x201001, x201002, x201003 => if x89 < x88 then (if 0 ≤ x89 then (if x89 < (x87.length : Int) then (if 0 ≤ x11 then (if x11 < (x10.length : Int) then ((glider_inside.f ((rd_T29 x87 x89).f0.f0) ((rd_T29 x87 x89).f0.f1) ((rd_T29 x87 x89).f1.f0) ((rd_T29 x87 x89).f1.f1) x201000 x201001 x201002 x201003).bind fun t205 => (glider_Visited.l3 k x1 (x10.set (x11 : Int).toNat (mx (rd x10 x11) t205)) x11 x50 x51 x81 x82 x83 x87 x88 (wrap64 (x89 + 1)) x193000 x193001 x193002 x193003 x193004 x193005 x193006 x193007 x193008 x201000 x201001 x201002 x201003)) else (none)) else (none)) else (none)) else (none)) else (glider_Visited.l2 k x1 x10 x11 x50 x51 x81 x82 (wrap64 (x83 + 1)) x193000 x193001 x193002 x193003 x193004 x193005 x193006 x193007 x193008 x201000 x201001 x201002 x201003)
end
def glider_Visited.f (k : Nat) (a0_0 : Int) (a0_1 : Int) (a0_2 : Int) (a0_3 : Int) (a0_4 : Int) (a0_5 : Int) (a0_6 : Int) (l0_7 : List Bool) (l0_8 : List (S33)) (l1 : List (List (S29))) : Option (List Int × Int) := (glider_CheckSea.f a0_0 a0_1 a0_2 a0_3 a0_4 a0_5 a0_6 l0_7 l0_8).bind fun t193 => (if t193 = 0 then (if (l1.length : Int) > 8 then (glider_Visited.j0 k l1 true a0_0 a0_1 a0_2 a0_3 a0_4 a0_5 a0_6 l0_7 l0_8) else ((api_Box_70.f l1).bind fun t194 => (glider_Visited.j0 k l1 t194 a0_0 a0_1 a0_2 a0_3 a0_4 a0_5 a0_6 l0_7 l0_8))) else (some (([] : List Int), t193)))
def glider_Visited.T17 : Bool × List (List Nat × List Nat) := (true, [([], []), ([], []), ([1], [1]), ([0, 2], [0, 2]), ([], []), ([4], [4]), ([3, 5], [3, 5]), ([], []), ([], []), ([8], [8]), ([7, 9], [7, 9]), ([], []), ([11], [11]), ([10, 12], [10, 12]), ([6, 0, 1, 2, 3, 4, 5, 6], [6]), ([13, 14, 0, 1, 2, 3, 4, 5, 6, 7, 8, 9, 10, 11, 12, 13, 14], [13])])
def glider_Visited.B17 : List Nat := [0, 0, 2, 7, 0, 16, 63, 0, 0, 256, 896, 0, 2048, 8064, 127, 32767]
theorem glider_Visited.tab17 : rtab .any (opsOf Try.f20 17) = glider_Visited.T17 := by kernel_rfl
theorem glider_Visited.bits17 : waitsOk glider_Visited.T17.2 glider_Visited.B17 = true := by kernel_rfl
def glider_Visited.T25 : Bool × List (List Nat × List Nat) := (true, [([], []), ([], []), ([], []), ([], []), ([2, 3], [2, 3]), ([4], [4]), ([], []), ([], []), ([6, 7], [6, 7]), ([5, 8], [5, 8]), ([0, 1, 0, 1, 2, 3, 4, 5, 6, 7, 8, 9], [0, 1]), ([10, 9, 8, 0, 1, 2, 3, 4, 5, 6, 7, 8, 9], [9, 10])])
def glider_Visited.B25 : List Nat := [0, 0, 0, 0, 12, 28, 0, 0, 192, 508, 1023, 2047]
theorem glider_Visited.tab25 : rtab .any (opsOf Try.f20 25) = glider_Visited.T25 := by kernel_rfl
theorem glider_Visited.bits25 : waitsOk glider_Visited.T25.2 glider_Visited.B25 = true := by kernel_rfl
set_option maxHeartbeats 8000000 in
set_option maxRecDepth 100000 in
theorem glider_Visited.calls (k : Nat) (a0_0 : Int) (a0_1 : Int) (a0_2 : Int) (a0_3 : Int) (a0_4 : Int) (a0_5 : Int) (a0_6 : Int) (A0_7 : Option Addr) (c0_7 : Nat) (l0_7 : List Bool) (A0_8 : Option Addr) (c0_8 : Nat) (l0_8 : List (S33)) (A1 : Option Addr) (c1 : Nat) (l1 : List (List (S29))) (r1 : List Int) (r2 : Int) (w : World) (hr0_7 : Kd.C Kd.bool w A0_7 l0_7.length l0_7) (hc0_7 : l0_7.length ≤ c0_7) (hr0_8 : Kd.C k33 w A0_8 l0_8.length l0_8) (hc0_8 : l0_8.length ≤ c0_8) (hr1 : Kd.C (Kd.slice 29 k29) w A1 l1.length l1) (hc1 : l1.length ≤ c1) (h : glider_Visited.f k a0_0 a0_1 a0_2 a0_3 a0_4 a0_5 a0_6 l0_7 l0_8 l1 = some (r1, r2)) :
  Calls Try.prog 20 #[.agg #[.int .i64 a0_0, .int .i64 a0_1, .int .i64 a0_2, .int .i64 a0_3, .int .i64 a0_4, .int .i64 a0_5, .int .i64 a0_6, .slice A0_7 l0_7.length c0_7, .slice A0_8 l0_8.length c0_8], .slice A1 l1.length c1] w fun e w' => ∃ v0_ : Value, e = .returned (.tuple #[v0_, .int .i64 r2]) ∧ Kd.R (Kd.int .i64) 46 w' w.heap.size (fun _ => True) v0_ r1 ∧ Below w.heap.size w w' := by
 have hu25 := Try.underlying25
 have hu27 := Try.underlying27
 have hu29 := Try.underlying29
 have HR0_7 := Aside0.mk hr0_7
 have HC0_7 := Aside0.mk hc0_7
 clear hr0_7 hc0_7
 have HR0_8 := Aside0.mk hr0_8
 have HC0_8 := Aside0.mk hc0_8
 clear hr0_8 hc0_8
 have HR1 := Aside0.mk hr1
 have HC1 := Aside0.mk hc1
 clear hr1 hc1
 have HB := Aside0.mk (Below.refl w.heap.size w)
 have H : ((glider_CheckSea.f a0_0 a0_1 a0_2 a0_3 a0_4 a0_5 a0_6 l0_7 l0_8).bind fun t193 => (if t193 = 0 then (if (l1.length : Int) > 8 then (glider_Visited.j0 k l1 true a0_0 a0_1 a0_2 a0_3 a0_4 a0_5 a0_6 l0_7 l0_8) else ((api_Box_70.f l1).bind fun t194 => (glider_Visited.j0 k l1 t194 a0_0 a0_1 a0_2 a0_3 a0_4 a0_5 a0_6 l0_7 l0_8))) else (some (([] : List Int), t193)))) = some (r1, r2) := h
 clear h
 replace H := Option.bind_eq_some_iff.mp H
 obtain ⟨t193, A30, H⟩ := H
 replace H : (if t193 = 0 then (if (l1.length : Int) > 8 then (glider_Visited.j0 k l1 true a0_0 a0_1 a0_2 a0_3 a0_4 a0_5 a0_6 l0_7 l0_8) else ((api_Box_70.f l1).bind fun t194 => (glider_Visited.j0 k l1 t194 a0_0 a0_1 a0_2 a0_3 a0_4 a0_5 a0_6 l0_7 l0_8))) else (some (([] : List Int), t193))) = some (r1, r2) := H
 have A3 := Aside0.mk A30
 clear A30
 by_cases c4 : t193 = 0
 ·rw [if_pos c4] at H
  have c4b0 : (t193 == 0) = true := beq_iff_eq.mpr c4
  have c4b1 : (t193 != 0) = false := bne_eq_false_iff_eq.mpr c4
  clear c4
  have HC5 := Aside0.mk H
  clear H
  go_enter Try.func20, Try.ntmps20
  go_upto_region 4 with (first | ((with_reducible refine gate_dst (N := 2) rfl ?_); refine box_event (by rfl) (N := 2) (by rfl) (cs := #[.int .i64 a0_0, .int .i64 a0_1, .int .i64 a0_2, .int .i64 a0_3, .int .i64 a0_4, .int .i64 a0_5, .int .i64 a0_6, .slice A0_7 l0_7.length c0_7, .slice A0_8 l0_8.length c0_8]) (t := 25) zq1 ?_; intro gb192 hg w6 hbox hb; have BK192 := Aside0.mk (hbox); have GW192 := zgs HB hg; have GE192 := zgs HB hg; replace HB := zbs HB hb; clear hb hbox hg; obtain ⟨hcz7_0, hcz7_1, hcz7_2, hcz7_3, hcz7_4, hcz7_5, hcz7_6, hcz7_7, hcz7_8, hfz7_0, hfz7_1, hfz7_2, hfz7_3, hfz7_4, hfz7_5, hfz7_6, hfz7_7, hfz7_8⟩ := zce9 BK192.out) | ((with_reducible refine gate_callee (f := 50) rfl ?_); refine goesL_ (some 20) rfl rfl Try.func50 zq3 rfl #[.agg #[.int .i64 a0_0, .int .i64 a0_1, .int .i64 a0_2, .int .i64 a0_3, .int .i64 a0_4, .int .i64 a0_5, .int .i64 a0_6, .slice A0_7 l0_7.length c0_7, .slice A0_8 l0_8.length c0_8]] rfl zq8 ?_; (with_reducible refine (glider_CheckSea.calls a0_0 a0_1 a0_2 a0_3 a0_4 a0_5 a0_6 _ _ l0_7 _ _ l0_8 t193 _ ?side1 ?side2 ?side3 ?side4 A3.out).mono ?_); (case side1 => repeat (first | exact (Kd.C_below HR0_7.out HB.out) | (with_reducible refine Kd.C_alloc ?_ _) | (with_reducible refine Kd.C_drewN ?_ _) | (with_reducible refine Kd.C_drew ?_))); (case side2 => exact HC0_7.out); (case side3 => repeat (first | exact (Kd.C_below HR0_8.out HB.out) | (with_reducible refine Kd.C_alloc ?_ _) | (with_reducible refine Kd.C_drewN ?_ _) | (with_reducible refine Kd.C_drew ?_))); (case side4 => exact HC0_8.out); rintro e w8 ⟨rfl, hb⟩; refine ⟨_, rfl, ?_⟩; replace BK192 := zbb BK192 hb; replace HB := zbs HB hb; (try clear hb); (try clear hb2); (try clear hk); (try clear hi)))
  (try simp only [Act.put, List.setIfInBounds_toArray, List.set_cons_zero, List.set_cons_succ])
  go_cut [30] (fun v30 wc => ∃ (kq : Nat) (x30_4 : Bool), v30 = .bool x30_4 ∧ Aside0 (glider_Visited.j0 kq l1 x30_4 a0_0 a0_1 a0_2 a0_3 a0_4 a0_5 a0_6 l0_7 l0_8 = some (r1, r2)) ∧ Aside0 (kq ≤ k) ∧ Aside0 (wc.heap[gb192]? = some (.cells #[.int .i64 a0_0, .int .i64 a0_1, .int .i64 a0_2, .int .i64 a0_3, .int .i64 a0_4, .int .i64 a0_5, .int .i64 a0_6, (.slice A0_7 l0_7.length c0_7), (.slice A0_8 l0_8.length c0_8)] 25 (0, 0))) ∧ Aside0 (Below w.heap.size w wc))
  case first =>
   have H := HC5.out
   clear HC5
   by_cases c9 : (l1.length : Int) > 8
   ·rw [if_pos c9] at H
    have c9b0 : decide (8 < (l1.length : Int)) = true := decide_eq_true c9
    have c9b1 : decide (8 < l1.length) = true := decide_eq_true (by omega)
    clear c9
    (first | rw [c9b0] | (simp only [i64_w, i32_w]; rw [c9b0]) | skip)
    have H' := Aside0.mk H
    clear H
    go_wp2
    go_meet
    case rel => exact ⟨_, (true), zq4, H', ⟨zq39⟩, ⟨zbf⟩, ⟨zbz⟩⟩
   ·rw [if_neg c9] at H
    have c9b0 : decide (8 < (l1.length : Int)) = false := decide_eq_false c9
    have c9b1 : decide (8 < l1.length) = false := decide_eq_false (by omega)
    clear c9
    (first | rw [c9b0] | (simp only [i64_w, i32_w]; rw [c9b0]) | skip)
    replace H := Option.bind_eq_some_iff.mp H
    obtain ⟨t194, A100, H⟩ := H
    replace H : (glider_Visited.j0 k l1 t194 a0_0 a0_1 a0_2 a0_3 a0_4 a0_5 a0_6 l0_7 l0_8) = some (r1, r2) := H
    have A10 := Aside0.mk A100
    clear A100
    have H' := Aside0.mk H
    clear H
    go_wp2_with (first | (go_at_call 70; (with_reducible refine (api_Box_70.calls _ _ l1 t194 _ ?side1 ?side2 A10.out).mono ?_); (case side1 => repeat (first | exact (Kd.C_below HR1.out HB.out) | (with_reducible refine Kd.C_alloc ?_ _) | (with_reducible refine Kd.C_drewN ?_ _) | (with_reducible refine Kd.C_drew ?_))); (case side2 => exact HC1.out); rintro e w11 ⟨rfl, hb⟩; replace BK192 := zbb BK192 hb; replace HB := zbs HB hb; (try clear hb); (try clear hb2); (try clear hk); (try clear hi)))
    go_meet
    case rel => exact ⟨_, (t194), zq4, H', ⟨zq39⟩, ⟨zbf⟩, ⟨zbz⟩⟩
  case rest =>
   clear HC5
   try clear c1
   try clear c2
   try clear p2
   try clear c4
   try clear c4b0
   try clear c4b1
   try clear c5
   try clear c9
   try clear c9b0
   try clear c9b1
   try clear hcz7_0 hcz7_1 hcz7_2 hcz7_3 hcz7_4 hcz7_5 hcz7_6 hcz7_7 hcz7_8 hfz7_0 hfz7_1 hfz7_2 hfz7_3 hfz7_4 hfz7_5 hfz7_6 hfz7_7 hfz7_8
   obtain ⟨kq, x30_4, rfl, HA, HJ4, BK192, HB⟩ := hcut
   cases kq with
   | zero => exact absurd HA.out (by simp [glider_Visited.j0])
   | succ kj4 =>
    have H := HA.out
    clear HA
    simp only [glider_Visited.j0] at H
    by_cases c12 : x30_4 = true
    ·subst c12
     have H1 : (some (([] : List Int), 6)) = some (r1, r2) := by rw [if_pos rfl] at H; exact H
     clear H
     have H := H1
     clear H1
     simp only [Option.some.injEq, Prod.mk.injEq] at H
     obtain ⟨rfl, rfl⟩ := H
     go_wp2
     go_ret2
     exact ⟨_, zq2, zq40, zbz⟩
    ·replace c12 := Bool.eq_false_iff.mpr c12
     subst c12
     have H1 : (glider_Visited.l0 kj4 l1 l1 (l1.length : Int) 0 a0_0 a0_1 a0_2 a0_3 a0_4 a0_5 a0_6 l0_7 l0_8) = some (r1, r2) := by rw [if_neg (show ¬ (false = true) by decide)] at H; exact H
     clear H
     have H := H1
     clear H1
     have H' := Aside0.mk H
     clear H
     go_wp2
     go_loopg [33] kj4 (fun kq v33 w' => ∃ (x33_2 : Int), v33 = .int .i64 x33_2 ∧ Aside0 (glider_Visited.l0 kq l1 l1 (l1.length : Int) x33_2 a0_0 a0_1 a0_2 a0_3 a0_4 a0_5 a0_6 l0_7 l0_8 = some (r1, r2)) ∧ Aside0 (kq ≤ kj4) ∧ Aside0 (w'.heap[gb192]? = some (.cells #[.int .i64 a0_0, .int .i64 a0_1, .int .i64 a0_2, .int .i64 a0_3, .int .i64 a0_4, .int .i64 a0_5, .int .i64 a0_6, (.slice A0_7 l0_7.length c0_7), (.slice A0_8 l0_8.length c0_8)] 25 (0, 0))) ∧ Aside0 (Below w.heap.size w w'))
     case atStart => exact ⟨(0), zq4, H', ⟨Nat.le_refl _⟩, ⟨zbf⟩, ⟨zbz⟩⟩
     case round =>
      clear H'
      try clear c1
      try clear c2
      try clear p2
      try clear c4
      try clear c4b0
      try clear c4b1
      try clear c5
      try clear c9
      try clear c9b0
      try clear c9b1
      try clear c12
      try clear hcz7_0 hcz7_1 hcz7_2 hcz7_3 hcz7_4 hcz7_5 hcz7_6 hcz7_7 hcz7_8 hfz7_0 hfz7_1 hfz7_2 hfz7_3 hfz7_4 hfz7_5 hfz7_6 hfz7_7 hfz7_8
      try clear p2
      obtain ⟨x33_2, rfl, HA, HK2, BK192, HB⟩ := hrel
      cases gk with
      | zero => exact absurd HA.out (by simp [glider_Visited.l0])
      | succ k2 =>
       have H := HA.out
       clear HA
       simp only [glider_Visited.l0] at H
       by_cases c13 : x33_2 < (l1.length : Int)
       ·rw [if_pos c13] at H
        have c13b0 : decide (x33_2 < (l1.length : Int)) = true := decide_eq_true c13
        clear c13
        by_cases c14 : 0 ≤ x33_2
        ·rw [if_pos c14] at H
         have c14b0 : decide (0 ≤ x33_2) = true := decide_eq_true c14
         clear c14
         by_cases c15 : x33_2 < (l1.length : Int)
         ·rw [if_pos c15] at H
          have c15b0 : decide (x33_2 < (l1.length : Int)) = true := decide_eq_true c15
          clear c15
          replace H := Option.bind_eq_some_iff.mp H
          obtain ⟨t196, A160, H⟩ := H
          replace H : (if t196 = 0 then (glider_Visited.l0 k2 l1 l1 (l1.length : Int) (wrap64 (x33_2 + 1)) a0_0 a0_1 a0_2 a0_3 a0_4 a0_5 a0_6 l0_7 l0_8) else (some (([] : List Int), t196))) = some (r1, r2) := H
          have A16 := Aside0.mk A160
          clear A160
          by_cases c17 : t196 = 0
          ·rw [if_pos c17] at H
           have c17b0 : (t196 == 0) = true := beq_iff_eq.mpr c17
           have c17b1 : (t196 != 0) = false := bne_eq_false_iff_eq.mpr c17
           clear c17
           have H' := Aside0.mk H
           clear H
           have p195 : 0 ≤ (x33_2 : Int) := of_decide_eq_true zq5
           have q195 : x33_2 < (l1.length : Int) := of_decide_eq_true zq5
           obtain ⟨ad195, A195_0, c195_0, e195, hx195_0, hl195_0, hi195_0⟩ := at_L9 HR1.out x33_2 p195 q195
           cases e195
           replace hx195_0 := (HB.out.cell (World.block_lt_of_cell? w _ hx195_0)).trans hx195_0
           have HR195_0 := Aside0.mk hi195_0
           have HC195_0 := Aside0.mk hl195_0
           clear hi195_0 hl195_0
           replace p195 := eq_true p195
           replace q195 := eq_true q195
           go_wp2_with (first | ((with_reducible refine gate_callee (f := 64) rfl ?_); refine goesL_ (some 38) rfl rfl Try.func64 zq3 rfl #[.slice A195_0 (rd_L9 l1 x33_2).length c195_0] rfl zq8 ?_; (with_reducible refine (glider_checkBoxes.calls _ _ (rd_L9 l1 x33_2) t196 _ ?side1 ?side2 A16.out).mono ?_); (case side1 => repeat (first | exact (Kd.C_below HR195_0.out HB.out) | (with_reducible refine Kd.C_alloc ?_ _) | (with_reducible refine Kd.C_drewN ?_ _) | (with_reducible refine Kd.C_drew ?_))); (case side2 => exact HC195_0.out); rintro e w18 ⟨rfl, hb⟩; refine ⟨_, rfl, ?_⟩; replace BK192 := zbb BK192 hb; replace HB := zbs HB hb; (try clear hb); (try clear hb2); (try clear hk); (try clear hi)))
           go_roundg k2
           case measure => have := HJ4.out; have := HK2.out; omega
           case rel => exact ⟨(wrap64 (x33_2 + 1)), zq4, H', ⟨by have := HJ4.out; have := HK2.out; omega⟩, ⟨zbf⟩, ⟨zbz⟩⟩
          ·rw [if_neg c17] at H
           have c17b0 : (t196 == 0) = false := beq_eq_false_iff_ne.mpr c17
           have c17b1 : (t196 != 0) = true := bne_iff_ne.mpr c17
           simp only [Option.some.injEq, Prod.mk.injEq] at H
           obtain ⟨rfl, rfl⟩ := H
           have p195 : 0 ≤ (x33_2 : Int) := of_decide_eq_true zq5
           have q195 : x33_2 < (l1.length : Int) := of_decide_eq_true zq5
           obtain ⟨ad195, A195_0, c195_0, e195, hx195_0, hl195_0, hi195_0⟩ := at_L9 HR1.out x33_2 p195 q195
           cases e195
           replace hx195_0 := (HB.out.cell (World.block_lt_of_cell? w _ hx195_0)).trans hx195_0
           have HR195_0 := Aside0.mk hi195_0
           have HC195_0 := Aside0.mk hl195_0
           clear hi195_0 hl195_0
           replace p195 := eq_true p195
           replace q195 := eq_true q195
           go_wp2_with (first | ((with_reducible refine gate_callee (f := 64) rfl ?_); refine goesL_ (some 38) rfl rfl Try.func64 zq3 rfl #[.slice A195_0 (rd_L9 l1 x33_2).length c195_0] rfl zq8 ?_; (with_reducible refine (glider_checkBoxes.calls _ _ (rd_L9 l1 x33_2) t196 _ ?side1 ?side2 A16.out).mono ?_); (case side1 => repeat (first | exact (Kd.C_below HR195_0.out HB.out) | (with_reducible refine Kd.C_alloc ?_ _) | (with_reducible refine Kd.C_drewN ?_ _) | (with_reducible refine Kd.C_drew ?_))); (case side2 => exact HC195_0.out); rintro e w19 ⟨rfl, hb⟩; refine ⟨_, rfl, ?_⟩; replace BK192 := zbb BK192 hb; replace HB := zbs HB hb; (try clear hb); (try clear hb2); (try clear hk); (try clear hi)))
           go_ret2
           exact ⟨_, zq2, zq40, zbz⟩
         ·rw [if_neg c15] at H
          exact absurd H (by simp)
        ·rw [if_neg c14] at H
         exact absurd H (by simp)
       ·rw [if_neg c13] at H
        have c13b0 : decide (x33_2 < (l1.length : Int)) = false := decide_eq_false c13
        clear c13
        obtain ⟨ji20, hji20⟩ : ∃ j_ : Int, (wrap64 (a0_0 * a0_1)) = j_ := ⟨_, rfl⟩
        replace H : (if 0 ≤ (ji20) then (if (ji20 : Int).toNat ≤ 35184372088832 then ((some (List.replicate (ji20 : Int).toNat 0 : List Int)).bind fun y197 => (glider_Visited.l1 k2 l1 y197 (y197.length : Int) 0 a0_0 a0_1 a0_2 a0_3 a0_4 a0_5 a0_6 l0_7 l0_8)) else (none)) else (none)) = some (r1, r2) := by first | (rw [hji20] at H; exact H) | (simp only [hji20] at H ⊢; exact H)
        have hji20w : (IntKind.i64.wrap (a0_0 * a0_1)) = ji20 := (i64_w _).trans hji20
        by_cases c21 : 0 ≤ (ji20)
        ·rw [if_pos c21] at H
         have c21b0 := eq_true c21
         have c21b1 : decide (0 ≤ (ji20)) = true := decide_eq_true c21
         clear c21
         by_cases c22 : (ji20 : Int).toNat ≤ 35184372088832
         ·rw [if_pos c22] at H
          have c22b0 := eq_true c22
          have c22b1 : decide ((ji20 : Int).toNat ≤ 35184372088832) = true := decide_eq_true c22
          clear c22
          obtain ⟨y197, hy197⟩ : ∃ y_ : List Int, y_ = (List.replicate (ji20 : Int).toNat 0) := ⟨_, rfl⟩
          replace H : (glider_Visited.l1 k2 l1 y197 (y197.length : Int) 0 a0_0 a0_1 a0_2 a0_3 a0_4 a0_5 a0_6 l0_7 l0_8) = some (r1, r2) := by first | (rw [hy197]; with_reducible exact H) | (have H2_ := (Option.bind_some _ _).symm.trans H; rw [hy197]; with_reducible exact H2_) | (have H2_ := (Option.bind_some _ _).symm.trans H; with_reducible exact H2_) | with_reducible exact H | (rw [hy197]; exact H) | exact H
          have Ny197 := Aside0.mk hy197
          clear hy197
          have H' := Aside0.mk H
          clear H
          obtain ⟨hcz23_0, hcz23_1, hcz23_2, hcz23_3, hcz23_4, hcz23_5, hcz23_6, hcz23_7, hcz23_8, hfz23_0, hfz23_1, hfz23_2, hfz23_3, hfz23_4, hfz23_5, hfz23_6, hfz23_7, hfz23_8⟩ := zce9 BK192.out
          go_wp2_with (first | ((with_reducible refine gate_dst (N := 48) rfl ?_); refine Kd.R_make (Kd.int .i64) _ 46 rfl (N := 48) rfl 49 _ _ rfl ji20 rfl rfl Try.underlying49 (.int .i64 0) 8 info46 rfl (by decide) (by omega) 0 (ok := fun _ => True) (okp := fun _ => True) rfl (fun _ hk => hk) trivial (of_decide_eq_true zq5) (Nat.le_trans (Nat.mul_le_mul_right _ (of_decide_eq_true zq5 : ji20.toNat ≤ 35184372088832)) (by omega)) (Below.refl _ _) (Nat.le_refl _) ?_; intro v198 w24 ho25 hb hg_ hnew_; clear hg_ hnew_; (first | rw [← Ny197.out] at ho25 | (simp only [Int.reduceToNat] at ho25; rw [← Ny197.out] at ho25)); have HO199 := Aside0.mk (Kd.R_lower ho25 (below_size zbz)); replace BK192 := zbb BK192 hb; replace HB := zbs HB hb; clear hb ho25; obtain ⟨Ao26, co26, eo26⟩ := Kd.R_slice HO199.out; subst eo26))
          go_loopg [51] k2 (fun kq v51 w' => ∃ (x10_3 : List Int) (x51_3 : Int), v51 = .int .i64 x51_3 ∧ Aside0 (glider_Visited.l1 kq l1 x10_3 (y197.length : Int) x51_3 a0_0 a0_1 a0_2 a0_3 a0_4 a0_5 a0_6 l0_7 l0_8 = some (r1, r2)) ∧ Aside0 (kq ≤ k2) ∧ Aside0 (Kd.R (Kd.int .i64) 46 w' w.heap.size (fun _ => True) (.slice Ao26 y197.length co26) x10_3) ∧ Aside0 (w'.heap[gb192]? = some (.cells #[.int .i64 a0_0, .int .i64 a0_1, .int .i64 a0_2, .int .i64 a0_3, .int .i64 a0_4, .int .i64 a0_5, .int .i64 a0_6, (.slice A0_7 l0_7.length c0_7), (.slice A0_8 l0_8.length c0_8)] 25 (0, 0))) ∧ Aside0 (Below w.heap.size w w'))
          case atStart => exact ⟨(y197), (0), zq4, H', ⟨Nat.le_refl _⟩, ⟨by (with_reducible repeat (first | apply Kd.R_alloc | apply Kd.R_drewN | apply Kd.R_drew)); exact HO199.out⟩, ⟨zbf⟩, ⟨zbz⟩⟩
          case round =>
           clear H'
           try clear c1
           try clear p1
           try clear q1
           try clear hx1
           try clear c2
           try clear p2
           try clear c4
           try clear c4b0
           try clear c4b1
           try clear c5
           try clear c6
           try clear p6
           try clear c9
           try clear c9b0
           try clear c9b1
           try clear c12
           try clear c13
           try clear c13b0
           try clear c14
           try clear c14b0
           try clear c15
           try clear c15b0
           try clear c17
           try clear c17b0
           try clear c17b1
           try clear c19
           try clear p19
           try clear q19
           try clear hx19
           try clear c20
           try clear c21
           try clear c21b0
           try clear c21b1
           try clear c22
           try clear c22b0
           try clear c22b1
           try clear hcz23_0 hcz23_1 hcz23_2 hcz23_3 hcz23_4 hcz23_5 hcz23_6 hcz23_7 hcz23_8
           try clear hcz7_0 hcz7_1 hcz7_2 hcz7_3 hcz7_4 hcz7_5 hcz7_6 hcz7_7 hcz7_8
           try clear hfz23_0 hfz23_1 hfz23_2 hfz23_3 hfz23_4 hfz23_5 hfz23_6 hfz23_7 hfz23_8
           try clear hfz7_0 hfz7_1 hfz7_2 hfz7_3 hfz7_4 hfz7_5 hfz7_6 hfz7_7 hfz7_8
           try clear hx195_0
           try clear p195
           try clear p2
           try clear q195
           obtain ⟨x10_3, x51_3, rfl, HA, HK3, HO_10, BK192, HB⟩ := hrel
           have hl10_3 := (Kd.R_reads' HO_10.out).1
           rw [hl10_3] at HO_10
           (try simp only [hl10_3])
           (try simp only [hl10_3] at BK192)
           cases gk with
           | zero => exact absurd HA.out (by simp [glider_Visited.l1])
           | succ k3 =>
            have H := HA.out
            clear HA
            simp only [glider_Visited.l1] at H
            by_cases c27 : x51_3 < (y197.length : Int)
            ·rw [if_pos c27] at H
             have c27b0 : decide (x51_3 < (y197.length : Int)) = true := decide_eq_true c27
             (try simp only [hl10_3] at c27b0)
             clear c27
             by_cases c28 : a0_0 = 0
             ·rw [if_pos c28] at H
              exact absurd H (by simp)
             ·rw [if_neg c28] at H
              have c28b0 : (a0_0 == 0) = false := beq_eq_false_iff_ne.mpr c28
              have c28b1 : (a0_0 != 0) = true := bne_iff_ne.mpr c28
              have H' := Aside0.mk H
              clear H
              try go_wp2
              replace HO_10 := Aside0.mk (Kd.R_drew HO_10.out)
              replace BK192 := Aside0.mk (blk_drew BK192.out)
              replace HB := Aside0.mk (below_drew1 HB.out)
              refine start_ (n := 16) (S := fun w' => w'.cell? ⟨gb192, 0, none⟩ = some (.int .i64 a0_0) ∧ w'.cell? ⟨gb192, 1, none⟩ = some (.int .i64 a0_1) ∧ w'.cell? ⟨gb192, 2, none⟩ = some (.int .i64 a0_2) ∧ w'.cell? ⟨gb192, 3, none⟩ = some (.int .i64 a0_3) ∧ w'.cell? ⟨gb192, 4, none⟩ = some (.int .i64 a0_4) ∧ w'.cell? ⟨gb192, 5, none⟩ = some (.int .i64 a0_5) ∧ w'.cell? ⟨gb192, 6, none⟩ = some (.int .i64 a0_6) ∧ w'.cell? ⟨gb192, 7, none⟩ = some (.slice A0_7 l0_7.length c0_7) ∧ w'.cell? ⟨gb192, 8, none⟩ = some (.slice A0_8 l0_8.length c0_8)) (ds := []) #[false, false, false, false, false, false, false, false, false, false, false, false, false, false, false, false] zq3 rfl rfl (zcs9 BK192.out) (fun hHeld => ?_); refine with_tabW glider_Visited.tab17 glider_Visited.bits17 (fun HT_ HW_ => ?_)
              generalize wr.drew = w29 at HO_10 BK192 HB hHeld ⊢
              refine zpz (i := 0) (N := some 54) (any_of HT_.out zq3) ?_
              refine zpz (i := 1) (N := some 55) (any_of HT_.out zq3) ?_
              refine zpz (i := 4) (N := some 58) (any_of HT_.out zq3) ?_
              refine zpz (i := 7) (N := some 61) (any_of HT_.out zq3) ?_
              refine zpz (i := 8) (N := some 62) (any_of HT_.out zq3) ?_
              refine zpz (i := 11) (N := some 65) (any_of HT_.out zq3) ?_
              refine ztz (i := 2) (N := some 56) (take_ofW HT_.out HW_.out zq3) hHeld ?_
              refine zpz (i := 3) (N := some 57) (any_of HT_.out zq3) ?_
              refine ztz (i := 5) (N := some 59) (take_ofW HT_.out HW_.out zq3) hHeld ?_
              refine zpz (i := 6) (N := some 60) (any_of HT_.out zq3) ?_
              refine zpz (i := 14) (N := some 12) (any_of HT_.out zq3) ?_
              refine ztz (i := 9) (N := some 63) (take_ofW HT_.out HW_.out zq3) hHeld ?_
              refine zpz (i := 10) (N := some 64) (any_of HT_.out zq3) ?_
              refine ztz (i := 12) (N := some 66) (take_ofW HT_.out HW_.out zq3) hHeld ?_
              refine zpz (i := 13) (N := some 67) (any_of HT_.out zq3) ?_
              refine zpz (i := 15) (N := some 13) (any_of HT_.out zq3) ?_
              refine done_ (done_of HT_.out zq3) ?_
              obtain ⟨hcz30_0, hcz30_1, hcz30_2, hcz30_3, hcz30_4, hcz30_5, hcz30_6, hcz30_7, hcz30_8, hfz30_0, hfz30_1, hfz30_2, hfz30_3, hfz30_4, hfz30_5, hfz30_6, hfz30_7, hfz30_8⟩ := zce9 BK192.out
              try go_wp2_with (first | ((with_reducible refine gate_dst (N := 14) rfl ?_); refine box_event (by rfl) (N := 14) (by rfl) (cs := #[.int .i64 0, .int .i64 0, .int .i64 0, .int .i64 0]) (t := 29) zq1 ?_; intro gb200 hg w31 hbox hb; have BK200 := Aside0.mk (hbox); have GW200 := zgs HB hg; have GE200 := zgs HB hg; have NB192_200 := znp BK192 hg; have NB200_192 := znq BK192 hg; replace HO_10 := zrb HO_10 hb; replace BK192 := zbb BK192 hb; replace HB := zbs HB hb; clear hb hbox hg; have hnb32 := NB200_192.out; have hnc32 := NB192_200.out; obtain ⟨hcz33_0, hcz33_1, hcz33_2, hcz33_3, hfz33_0, hfz33_1, hfz33_2, hfz33_3⟩ := zce4 BK200.out))
              go_loopg [83] k3 (fun kq v83 w' => ∃ (x10_4 : List Int) (x83_4 : Int), v83 = .int .i64 x83_4 ∧ Aside0 (glider_Visited.l2 kq l1 x10_4 x51_3 (y197.length : Int) x51_3 l1 (l1.length : Int) x83_4 a0_0 a0_1 a0_2 a0_3 a0_4 a0_5 a0_6 l0_7 l0_8 (wrap64 ((Int.tmod x51_3 a0_0) * a0_2)) (wrap64 ((wrap64 ((Int.tmod x51_3 a0_0) * a0_2)) + a0_2)) (wrap64 ((wrap64 (Int.tdiv x51_3 a0_0)) * a0_2)) (wrap64 ((wrap64 ((wrap64 (Int.tdiv x51_3 a0_0)) * a0_2)) + a0_2)) = some (r1, r2)) ∧ Aside0 (kq ≤ k3) ∧ Aside0 (Kd.R (Kd.int .i64) 46 w' w.heap.size (fun _ => True) (.slice Ao26 x10_3.length co26) x10_4) ∧ Aside0 (w'.heap[gb192]? = some (.cells #[.int .i64 a0_0, .int .i64 a0_1, .int .i64 a0_2, .int .i64 a0_3, .int .i64 a0_4, .int .i64 a0_5, .int .i64 a0_6, (.slice A0_7 l0_7.length c0_7), (.slice A0_8 l0_8.length c0_8)] 25 (0, 0))) ∧ Aside0 (w'.heap[gb200]? = some (.cells #[.int .i64 (wrap64 ((Int.tmod x51_3 a0_0) * a0_2)), .int .i64 (wrap64 ((wrap64 ((Int.tmod x51_3 a0_0) * a0_2)) + a0_2)), .int .i64 (wrap64 ((wrap64 (Int.tdiv x51_3 a0_0)) * a0_2)), .int .i64 (wrap64 ((wrap64 ((wrap64 (Int.tdiv x51_3 a0_0)) * a0_2)) + a0_2))] 29 (0, 0))) ∧ Aside0 (Below w.heap.size w w'))
              case atStart => exact ⟨(x10_3), (0), zq4, H', ⟨Nat.le_refl _⟩, ⟨by (try simp only [hl10_3]); (with_reducible repeat (first | apply Kd.R_alloc | apply Kd.R_drewN | apply Kd.R_drew)); exact Kd.R_mono (Kd.R_far (p := ⟨gb200, 3, none⟩) (Kd.R_far (p := ⟨gb200, 2, none⟩) (Kd.R_far (p := ⟨gb200, 1, none⟩) (Kd.R_far (p := ⟨gb200, 0, none⟩) (Kd.R_types HO_10.out BK200.out (by decide)) (fun _ hk => hk.2) (.int .i64 (wrap64 ((Int.tmod x51_3 a0_0) * a0_2)))) (fun _ hk => hk.2) (.int .i64 (wrap64 ((wrap64 ((Int.tmod x51_3 a0_0) * a0_2)) + a0_2)))) (fun _ hk => hk.2) (.int .i64 (wrap64 ((wrap64 (Int.tdiv x51_3 a0_0)) * a0_2)))) (fun _ hk => hk.2) (.int .i64 (wrap64 ((wrap64 ((wrap64 (Int.tdiv x51_3 a0_0)) * a0_2)) + a0_2)))) (fun _ hk => trivial)⟩, ⟨by (try simp only [hl10_3]); (with_reducible repeat (first | refine blk_drewN ?_ _ | refine blk_drew ?_ | refine blk_alloc ?_ _)); refine blk_far ?_ NB192_200.out _; (with_reducible repeat (first | refine blk_drewN ?_ _ | refine blk_drew ?_ | refine blk_alloc ?_ _)); refine blk_far ?_ NB192_200.out _; (with_reducible repeat (first | refine blk_drewN ?_ _ | refine blk_drew ?_ | refine blk_alloc ?_ _)); refine blk_far ?_ NB192_200.out _; (with_reducible repeat (first | refine blk_drewN ?_ _ | refine blk_drew ?_ | refine blk_alloc ?_ _)); refine blk_far ?_ NB192_200.out _; (with_reducible repeat (first | refine blk_drewN ?_ _ | refine blk_drew ?_ | refine blk_alloc ?_ _)); exact BK192.out⟩, ⟨by (try simp only [hl10_3]); (with_reducible repeat (first | refine blk_drewN ?_ _ | refine blk_drew ?_ | refine blk_alloc ?_ _)); refine blk_put (cs := #[.int .i64 (wrap64 ((Int.tmod x51_3 a0_0) * a0_2)), .int .i64 (wrap64 ((wrap64 ((Int.tmod x51_3 a0_0) * a0_2)) + a0_2)), .int .i64 (wrap64 ((wrap64 (Int.tdiv x51_3 a0_0)) * a0_2)), .int .i64 0]) ?_ 3 _ rfl; (with_reducible repeat (first | refine blk_drewN ?_ _ | refine blk_drew ?_ | refine blk_alloc ?_ _)); refine blk_put (cs := #[.int .i64 (wrap64 ((Int.tmod x51_3 a0_0) * a0_2)), .int .i64 (wrap64 ((wrap64 ((Int.tmod x51_3 a0_0) * a0_2)) + a0_2)), .int .i64 0, .int .i64 0]) ?_ 2 _ rfl; (with_reducible repeat (first | refine blk_drewN ?_ _ | refine blk_drew ?_ | refine blk_alloc ?_ _)); refine blk_put (cs := #[.int .i64 (wrap64 ((Int.tmod x51_3 a0_0) * a0_2)), .int .i64 0, .int .i64 0, .int .i64 0]) ?_ 1 _ rfl; (with_reducible repeat (first | refine blk_drewN ?_ _ | refine blk_drew ?_ | refine blk_alloc ?_ _)); refine blk_put (cs := #[.int .i64 0, .int .i64 0, .int .i64 0, .int .i64 0]) ?_ 0 _ rfl; (with_reducible repeat (first | refine blk_drewN ?_ _ | refine blk_drew ?_ | refine blk_alloc ?_ _)); exact BK200.out⟩, ⟨zbz⟩⟩
              case round =>
               clear H'
               try clear c1
               try clear p1
               try clear q1
               try clear hx1
               try clear c2
               try clear p2
               try clear c3
               try clear c4
               try clear c4b0
               try clear c4b1
               try clear c5
               try clear c6
               try clear p6
               try clear c9
               try clear c9b0
               try clear c9b1
               try clear c12
               try clear c13
               try clear c13b0
               try clear c14
               try clear c14b0
               try clear c15
               try clear c15b0
               try clear c17
               try clear c17b0
               try clear c17b1
               try clear c19
               try clear p19
               try clear q19
               try clear hx19
               try clear c20
               try clear c21
               try clear c21b0
               try clear c21b1
               try clear c22
               try clear c22b0
               try clear c22b1
               try clear c27
               try clear c27b0
               try clear c28
               try clear c28b0
               try clear c28b1
               try clear c32
               try clear hcz23_0 hcz23_1 hcz23_2 hcz23_3 hcz23_4 hcz23_5 hcz23_6 hcz23_7 hcz23_8
               try clear hcz30_0 hcz30_1 hcz30_2 hcz30_3 hcz30_4 hcz30_5 hcz30_6 hcz30_7 hcz30_8
               try clear hcz33_0 hcz33_1 hcz33_2 hcz33_3
               try clear hcz7_0 hcz7_1 hcz7_2 hcz7_3 hcz7_4 hcz7_5 hcz7_6 hcz7_7 hcz7_8
               try clear hfz23_0 hfz23_1 hfz23_2 hfz23_3 hfz23_4 hfz23_5 hfz23_6 hfz23_7 hfz23_8
               try clear hfz30_0 hfz30_1 hfz30_2 hfz30_3 hfz30_4 hfz30_5 hfz30_6 hfz30_7 hfz30_8
               try clear hfz33_0 hfz33_1 hfz33_2 hfz33_3
               try clear hfz7_0 hfz7_1 hfz7_2 hfz7_3 hfz7_4 hfz7_5 hfz7_6 hfz7_7 hfz7_8
               try clear hx195_0
               try clear p1
               try clear p19
               try clear p195
               try clear p2
               try clear p6
               try clear q1
               try clear q19
               try clear q195
               obtain ⟨x10_4, x83_4, rfl, HA, HK4, HO_10, BK192, BK200, HB⟩ := hrel
               have hl10_4 := (Kd.R_reads' HO_10.out).1
               rw [hl10_4] at HO_10
               (try simp only [hl10_4])
               (try simp only [hl10_4] at BK192)
               (try simp only [hl10_4] at BK200)
               cases gk with
               | zero => exact absurd HA.out (by simp [glider_Visited.l2])
               | succ k4 =>
                have H := HA.out
                clear HA
                simp only [glider_Visited.l2] at H
                by_cases c34 : x83_4 < (l1.length : Int)
                ·rw [if_pos c34] at H
                 have c34b0 : decide (x83_4 < (l1.length : Int)) = true := decide_eq_true c34
                 clear c34
                 by_cases c35 : 0 ≤ x83_4
                 ·rw [if_pos c35] at H
                  have c35b0 : decide (0 ≤ x83_4) = true := decide_eq_true c35
                  clear c35
                  by_cases c36 : x83_4 < (l1.length : Int)
                  ·rw [if_pos c36] at H
                   have c36b0 : decide (x83_4 < (l1.length : Int)) = true := decide_eq_true c36
                   clear c36
                   have H' := Aside0.mk H
                   clear H
                   have p201 : 0 ≤ (x83_4 : Int) := of_decide_eq_true zq5
                   have q201 : x83_4 < (l1.length : Int) := of_decide_eq_true zq5
                   obtain ⟨ad201, A201_0, c201_0, e201, hx201_0, hl201_0, hi201_0⟩ := at_L9 HR1.out x83_4 p201 q201
                   cases e201
                   replace hx201_0 := (HB.out.cell (World.block_lt_of_cell? w _ hx201_0)).trans hx201_0
                   have HR201_0 := Aside0.mk hi201_0
                   have HC201_0 := Aside0.mk hl201_0
                   clear hi201_0 hl201_0
                   replace p201 := eq_true p201
                   replace q201 := eq_true q201
                   go_wp2
                   go_loopg [89] k4 (fun kq v89 w' => ∃ (x10_5 : List Int) (x89_5 : Int), v89 = .int .i64 x89_5 ∧ Aside0 (glider_Visited.l3 kq l1 x10_5 x51_3 (y197.length : Int) x51_3 l1 (l1.length : Int) x83_4 (rd_L9 l1 x83_4) ((rd_L9 l1 x83_4).length : Int) x89_5 a0_0 a0_1 a0_2 a0_3 a0_4 a0_5 a0_6 l0_7 l0_8 (wrap64 ((Int.tmod x51_3 a0_0) * a0_2)) (wrap64 ((wrap64 ((Int.tmod x51_3 a0_0) * a0_2)) + a0_2)) (wrap64 ((wrap64 (Int.tdiv x51_3 a0_0)) * a0_2)) (wrap64 ((wrap64 ((wrap64 (Int.tdiv x51_3 a0_0)) * a0_2)) + a0_2)) = some (r1, r2)) ∧ Aside0 (kq ≤ k4) ∧ Aside0 (Kd.R (Kd.int .i64) 46 w' w.heap.size (fun _ => True) (.slice Ao26 x10_4.length co26) x10_5) ∧ Aside0 (w'.heap[gb192]? = some (.cells #[.int .i64 a0_0, .int .i64 a0_1, .int .i64 a0_2, .int .i64 a0_3, .int .i64 a0_4, .int .i64 a0_5, .int .i64 a0_6, (.slice A0_7 l0_7.length c0_7), (.slice A0_8 l0_8.length c0_8)] 25 (0, 0))) ∧ Aside0 (w'.heap[gb200]? = some (.cells #[.int .i64 (wrap64 ((Int.tmod x51_3 a0_0) * a0_2)), .int .i64 (wrap64 ((wrap64 ((Int.tmod x51_3 a0_0) * a0_2)) + a0_2)), .int .i64 (wrap64 ((wrap64 (Int.tdiv x51_3 a0_0)) * a0_2)), .int .i64 (wrap64 ((wrap64 ((wrap64 (Int.tdiv x51_3 a0_0)) * a0_2)) + a0_2))] 29 (0, 0))) ∧ Aside0 (Below w.heap.size w w'))
                   case atStart => exact ⟨(x10_4), (0), zq4, H', ⟨Nat.le_refl _⟩, ⟨zq41⟩, ⟨by (try simp only [hl10_3]); (try simp only [hl10_4]); (with_reducible repeat (first | refine blk_drewN ?_ _ | refine blk_drew ?_ | refine blk_alloc ?_ _)); exact BK192.out⟩, ⟨by (try simp only [hl10_3]); (try simp only [hl10_4]); (with_reducible repeat (first | refine blk_drewN ?_ _ | refine blk_drew ?_ | refine blk_alloc ?_ _)); exact BK200.out⟩, ⟨zbz⟩⟩
                   case round =>
                    clear H'
                    try clear c1
                    try clear p1
                    try clear q1
                    try clear hx1
                    try clear c2
                    try clear p2
                    try clear q2
                    try clear hx2
                    try clear c3
                    try clear c4
                    try clear c4b0
                    try clear c4b1
                    try clear c5
                    try clear c6
                    try clear p6
                    try clear c9
                    try clear c9b0
                    try clear c9b1
                    try clear c12
                    try clear c13
                    try clear c13b0
                    try clear c14
                    try clear c14b0
                    try clear c15
                    try clear c15b0
                    try clear c17
                    try clear c17b0
                    try clear c17b1
                    try clear c19
                    try clear p19
                    try clear q19
                    try clear hx19
                    try clear c20
                    try clear p20
                    try clear q20
                    try clear hx20
                    try clear c21
                    try clear c21b0
                    try clear c21b1
                    try clear c22
                    try clear c22b0
                    try clear c22b1
                    try clear c27
                    try clear c27b0
                    try clear c28
                    try clear c28b0
                    try clear c28b1
                    try clear c32
                    try clear c34
                    try clear c34b0
                    try clear c35
                    try clear c35b0
                    try clear c36
                    try clear c36b0
                    try clear hcz23_0 hcz23_1 hcz23_2 hcz23_3 hcz23_4 hcz23_5 hcz23_6 hcz23_7 hcz23_8
                    try clear hcz30_0 hcz30_1 hcz30_2 hcz30_3 hcz30_4 hcz30_5 hcz30_6 hcz30_7 hcz30_8
                    try clear hcz33_0 hcz33_1 hcz33_2 hcz33_3
                    try clear hcz7_0 hcz7_1 hcz7_2 hcz7_3 hcz7_4 hcz7_5 hcz7_6 hcz7_7 hcz7_8
                    try clear hfz23_0 hfz23_1 hfz23_2 hfz23_3 hfz23_4 hfz23_5 hfz23_6 hfz23_7 hfz23_8
                    try clear hfz30_0 hfz30_1 hfz30_2 hfz30_3 hfz30_4 hfz30_5 hfz30_6 hfz30_7 hfz30_8
                    try clear hfz33_0 hfz33_1 hfz33_2 hfz33_3
                    try clear hfz7_0 hfz7_1 hfz7_2 hfz7_3 hfz7_4 hfz7_5 hfz7_6 hfz7_7 hfz7_8
                    try clear hx195_0
                    try clear hx201_0
                    try clear p1
                    try clear p19
                    try clear p195
                    try clear p2
                    try clear p201
                    try clear p6
                    try clear q1
                    try clear q19
                    try clear q195
                    try clear q201
                    obtain ⟨x10_5, x89_5, rfl, HA, HK5, HO_10, BK192, BK200, HB⟩ := hrel
                    have hl10_5 := (Kd.R_reads' HO_10.out).1
                    rw [hl10_5] at HO_10
                    (try simp only [hl10_5])
                    (try simp only [hl10_5] at BK192)
                    (try simp only [hl10_5] at BK200)
                    cases gk with
                    | zero => exact absurd HA.out (by simp [glider_Visited.l3])
                    | succ k5 =>
                     have H := HA.out
                     clear HA
                     simp only [glider_Visited.l3] at H
                     by_cases c37 : x89_5 < ((rd_L9 l1 x83_4).length : Int)
                     ·rw [if_pos c37] at H
                      have c37b0 : decide (x89_5 < ((rd_L9 l1 x83_4).length : Int)) = true := decide_eq_true c37
                      clear c37
                      by_cases c38 : 0 ≤ x89_5
                      ·rw [if_pos c38] at H
                       have c38b0 : decide (0 ≤ x89_5) = true := decide_eq_true c38
                       clear c38
                       by_cases c39 : x89_5 < ((rd_L9 l1 x83_4).length : Int)
                       ·rw [if_pos c39] at H
                        have c39b0 : decide (x89_5 < ((rd_L9 l1 x83_4).length : Int)) = true := decide_eq_true c39
                        clear c39
                        by_cases c40 : 0 ≤ x51_3
                        ·rw [if_pos c40] at H
                         have c40b0 : decide (0 ≤ x51_3) = true := decide_eq_true c40
                         clear c40
                         by_cases c41 : x51_3 < (x10_5.length : Int)
                         ·rw [if_pos c41] at H
                          have c41b0 : decide (x51_3 < (x10_5.length : Int)) = true := decide_eq_true c41
                          clear c41
                          replace H := Option.bind_eq_some_iff.mp H
                          obtain ⟨t205, A420, H⟩ := H
                          replace H : (glider_Visited.l3 k5 l1 (x10_5.set (x51_3 : Int).toNat (mx (rd x10_5 x51_3) t205)) x51_3 (y197.length : Int) x51_3 l1 (l1.length : Int) x83_4 (rd_L9 l1 x83_4) ((rd_L9 l1 x83_4).length : Int) (wrap64 (x89_5 + 1)) a0_0 a0_1 a0_2 a0_3 a0_4 a0_5 a0_6 l0_7 l0_8 (wrap64 ((Int.tmod x51_3 a0_0) * a0_2)) (wrap64 ((wrap64 ((Int.tmod x51_3 a0_0) * a0_2)) + a0_2)) (wrap64 ((wrap64 (Int.tdiv x51_3 a0_0)) * a0_2)) (wrap64 ((wrap64 ((wrap64 (Int.tdiv x51_3 a0_0)) * a0_2)) + a0_2))) = some (r1, r2) := H
                          have A42 := Aside0.mk A420
                          clear A420
                          obtain ⟨ji43, hji43⟩ : ∃ j_ : Int, (mx (rd x10_5 x51_3) t205) = j_ := ⟨_, rfl⟩
                          replace H : (glider_Visited.l3 k5 l1 (x10_5.set (x51_3 : Int).toNat (ji43)) x51_3 (y197.length : Int) x51_3 l1 (l1.length : Int) x83_4 (rd_L9 l1 x83_4) ((rd_L9 l1 x83_4).length : Int) (wrap64 (x89_5 + 1)) a0_0 a0_1 a0_2 a0_3 a0_4 a0_5 a0_6 l0_7 l0_8 (wrap64 ((Int.tmod x51_3 a0_0) * a0_2)) (wrap64 ((wrap64 ((Int.tmod x51_3 a0_0) * a0_2)) + a0_2)) (wrap64 ((wrap64 (Int.tdiv x51_3 a0_0)) * a0_2)) (wrap64 ((wrap64 ((wrap64 (Int.tdiv x51_3 a0_0)) * a0_2)) + a0_2))) = some (r1, r2) := by first | (rw [hji43] at H; exact H) | (simp only [hji43] at H ⊢; exact H)
                          (try rw [hji43] at A42)
                          have hji43_ : (if (rd x10_5 x51_3) < t205 then t205 else (rd x10_5 x51_3)) = ji43 := hji43
                          obtain ⟨y206, hy206⟩ : ∃ y_ : List Int, y_ = (x10_5.set (x51_3 : Int).toNat (ji43)) := ⟨_, rfl⟩
                          replace H : (glider_Visited.l3 k5 l1 y206 x51_3 (y197.length : Int) x51_3 l1 (l1.length : Int) x83_4 (rd_L9 l1 x83_4) ((rd_L9 l1 x83_4).length : Int) (wrap64 (x89_5 + 1)) a0_0 a0_1 a0_2 a0_3 a0_4 a0_5 a0_6 l0_7 l0_8 (wrap64 ((Int.tmod x51_3 a0_0) * a0_2)) (wrap64 ((wrap64 ((Int.tmod x51_3 a0_0) * a0_2)) + a0_2)) (wrap64 ((wrap64 (Int.tdiv x51_3 a0_0)) * a0_2)) (wrap64 ((wrap64 ((wrap64 (Int.tdiv x51_3 a0_0)) * a0_2)) + a0_2))) = some (r1, r2) := by first | (rw [hy206]; with_reducible exact H) | (have H2_ := (Option.bind_some _ _).symm.trans H; rw [hy206]; with_reducible exact H2_) | (have H2_ := (Option.bind_some _ _).symm.trans H; with_reducible exact H2_) | with_reducible exact H | (rw [hy206]; exact H) | exact H
                          have Ny206 := Aside0.mk hy206
                          clear hy206
                          have H' := Aside0.mk H
                          clear H
                          have p202 : 0 ≤ (x89_5 : Int) := of_decide_eq_true zq5
                          have q202 : x89_5 < ((rd_L9 l1 x83_4).length : Int) := of_decide_eq_true zq5
                          obtain ⟨ad202, e202, hx202_0, hx202_1, hx202_2, hx202_3⟩ := at_T29 HR201_0.out x89_5 p202 q202
                          cases e202
                          replace hx202_0 := (HB.out.cell (World.block_lt_of_cell? w _ hx202_0)).trans hx202_0
                          replace hx202_1 := (HB.out.cell (World.block_lt_of_cell? w _ hx202_1)).trans hx202_1
                          replace hx202_2 := (HB.out.cell (World.block_lt_of_cell? w _ hx202_2)).trans hx202_2
                          replace hx202_3 := (HB.out.cell (World.block_lt_of_cell? w _ hx202_3)).trans hx202_3
                          replace p202 := eq_true p202
                          replace q202 := eq_true q202
                          try go_wp2_with (first | ((with_reducible refine gate_dst (N := 18) rfl ?_); refine box_event (by rfl) (N := 18) (by rfl) (cs := #[.int .i64 0, .int .i64 0, .int .i64 0, .int .i64 0]) (t := 29) zq1 ?_; intro gb203 hg w45 hbox hb; have BK203 := Aside0.mk (hbox); have GW203 := zgs HB hg; have GE203 := zgs HB hg; have NB192_203 := znp BK192 hg; have NB203_192 := znq BK192 hg; have NB200_203 := znp BK200 hg; have NB203_200 := znq BK200 hg; replace HO_10 := zrb HO_10 hb; replace BK192 := zbb BK192 hb; replace BK200 := zbb BK200 hb; replace HB := zbs HB hb; clear hb hbox hg; have hnb46 := NB203_192.out; have hnc46 := NB192_203.out; have hnb47 := NB203_200.out; have hnc47 := NB200_203.out; obtain ⟨hcz48_0, hcz48_1, hcz48_2, hcz48_3, hfz48_0, hfz48_1, hfz48_2, hfz48_3⟩ := zce4 BK203.out))
                          have n0_ : Aside0 (Kd.R (Kd.int .i64) 46 ((((w45.setCell ⟨gb203, 0, none⟩ (.int .i64 ((rd_T29 (rd_L9 l1 x83_4) x89_5).f0.f0))).setCell ⟨gb203, 1, none⟩ (.int .i64 ((rd_T29 (rd_L9 l1 x83_4) x89_5).f0.f1))).setCell ⟨gb203, 2, none⟩ (.int .i64 ((rd_T29 (rd_L9 l1 x83_4) x89_5).f1.f0))).setCell ⟨gb203, 3, none⟩ (.int .i64 ((rd_T29 (rd_L9 l1 x83_4) x89_5).f1.f1))) w.heap.size (fun _ => True) (.slice Ao26 x10_5.length co26) x10_5) := ⟨by (with_reducible repeat (first | apply Kd.R_alloc | apply Kd.R_drewN | apply Kd.R_drew)); exact Kd.R_mono (Kd.R_far (p := ⟨gb203, 3, none⟩) (Kd.R_far (p := ⟨gb203, 2, none⟩) (Kd.R_far (p := ⟨gb203, 1, none⟩) (Kd.R_far (p := ⟨gb203, 0, none⟩) (Kd.R_types HO_10.out BK203.out (by decide)) (fun _ hk => hk.2) (.int .i64 ((rd_T29 (rd_L9 l1 x83_4) x89_5).f0.f0))) (fun _ hk => hk.2) (.int .i64 ((rd_T29 (rd_L9 l1 x83_4) x89_5).f0.f1))) (fun _ hk => hk.2) (.int .i64 ((rd_T29 (rd_L9 l1 x83_4) x89_5).f1.f0))) (fun _ hk => hk.2) (.int .i64 ((rd_T29 (rd_L9 l1 x83_4) x89_5).f1.f1))) (fun _ hk => trivial)⟩
                          have n1_ : Aside0 (((((w45.setCell ⟨gb203, 0, none⟩ (.int .i64 ((rd_T29 (rd_L9 l1 x83_4) x89_5).f0.f0))).setCell ⟨gb203, 1, none⟩ (.int .i64 ((rd_T29 (rd_L9 l1 x83_4) x89_5).f0.f1))).setCell ⟨gb203, 2, none⟩ (.int .i64 ((rd_T29 (rd_L9 l1 x83_4) x89_5).f1.f0))).setCell ⟨gb203, 3, none⟩ (.int .i64 ((rd_T29 (rd_L9 l1 x83_4) x89_5).f1.f1))).heap[gb192]? = some (.cells #[.int .i64 a0_0, .int .i64 a0_1, .int .i64 a0_2, .int .i64 a0_3, .int .i64 a0_4, .int .i64 a0_5, .int .i64 a0_6, .slice A0_7 l0_7.length c0_7, .slice A0_8 l0_8.length c0_8] 25 (0, 0))) := ⟨zbf⟩
                          have n2_ : Aside0 (((((w45.setCell ⟨gb203, 0, none⟩ (.int .i64 ((rd_T29 (rd_L9 l1 x83_4) x89_5).f0.f0))).setCell ⟨gb203, 1, none⟩ (.int .i64 ((rd_T29 (rd_L9 l1 x83_4) x89_5).f0.f1))).setCell ⟨gb203, 2, none⟩ (.int .i64 ((rd_T29 (rd_L9 l1 x83_4) x89_5).f1.f0))).setCell ⟨gb203, 3, none⟩ (.int .i64 ((rd_T29 (rd_L9 l1 x83_4) x89_5).f1.f1))).heap[gb200]? = some (.cells #[.int .i64 (wrap64 ((Int.tmod x51_3 a0_0) * a0_2)), .int .i64 (wrap64 ((wrap64 ((Int.tmod x51_3 a0_0) * a0_2)) + a0_2)), .int .i64 (wrap64 ((wrap64 (Int.tdiv x51_3 a0_0)) * a0_2)), .int .i64 (wrap64 ((wrap64 ((wrap64 (Int.tdiv x51_3 a0_0)) * a0_2)) + a0_2))] 29 (0, 0))) := ⟨zbf⟩
                          have n3_ : Aside0 (((((w45.setCell ⟨gb203, 0, none⟩ (.int .i64 ((rd_T29 (rd_L9 l1 x83_4) x89_5).f0.f0))).setCell ⟨gb203, 1, none⟩ (.int .i64 ((rd_T29 (rd_L9 l1 x83_4) x89_5).f0.f1))).setCell ⟨gb203, 2, none⟩ (.int .i64 ((rd_T29 (rd_L9 l1 x83_4) x89_5).f1.f0))).setCell ⟨gb203, 3, none⟩ (.int .i64 ((rd_T29 (rd_L9 l1 x83_4) x89_5).f1.f1))).heap[gb203]? = some (.cells #[.int .i64 ((rd_T29 (rd_L9 l1 x83_4) x89_5).f0.f0), .int .i64 ((rd_T29 (rd_L9 l1 x83_4) x89_5).f0.f1), .int .i64 ((rd_T29 (rd_L9 l1 x83_4) x89_5).f1.f0), .int .i64 ((rd_T29 (rd_L9 l1 x83_4) x89_5).f1.f1)] 29 (0, 0))) := ⟨by (with_reducible repeat (first | refine blk_drewN ?_ _ | refine blk_drew ?_ | refine blk_alloc ?_ _)); refine blk_put (cs := #[.int .i64 ((rd_T29 (rd_L9 l1 x83_4) x89_5).f0.f0), .int .i64 ((rd_T29 (rd_L9 l1 x83_4) x89_5).f0.f1), .int .i64 ((rd_T29 (rd_L9 l1 x83_4) x89_5).f1.f0), .int .i64 0]) ?_ 3 _ rfl; (with_reducible repeat (first | refine blk_drewN ?_ _ | refine blk_drew ?_ | refine blk_alloc ?_ _)); refine blk_put (cs := #[.int .i64 ((rd_T29 (rd_L9 l1 x83_4) x89_5).f0.f0), .int .i64 ((rd_T29 (rd_L9 l1 x83_4) x89_5).f0.f1), .int .i64 0, .int .i64 0]) ?_ 2 _ rfl; (with_reducible repeat (first | refine blk_drewN ?_ _ | refine blk_drew ?_ | refine blk_alloc ?_ _)); refine blk_put (cs := #[.int .i64 ((rd_T29 (rd_L9 l1 x83_4) x89_5).f0.f0), .int .i64 0, .int .i64 0, .int .i64 0]) ?_ 1 _ rfl; (with_reducible repeat (first | refine blk_drewN ?_ _ | refine blk_drew ?_ | refine blk_alloc ?_ _)); refine blk_put (cs := #[.int .i64 0, .int .i64 0, .int .i64 0, .int .i64 0]) ?_ 0 _ rfl; (with_reducible repeat (first | refine blk_drewN ?_ _ | refine blk_drew ?_ | refine blk_alloc ?_ _)); exact BK203.out⟩
                          have n4_ : Aside0 (Below w.heap.size w ((((w45.setCell ⟨gb203, 0, none⟩ (.int .i64 ((rd_T29 (rd_L9 l1 x83_4) x89_5).f0.f0))).setCell ⟨gb203, 1, none⟩ (.int .i64 ((rd_T29 (rd_L9 l1 x83_4) x89_5).f0.f1))).setCell ⟨gb203, 2, none⟩ (.int .i64 ((rd_T29 (rd_L9 l1 x83_4) x89_5).f1.f0))).setCell ⟨gb203, 3, none⟩ (.int .i64 ((rd_T29 (rd_L9 l1 x83_4) x89_5).f1.f1)))) := ⟨zbz⟩
                          (try clear HO_10)
                          (try clear BK192)
                          (try clear BK200)
                          (try clear BK203)
                          (try clear HB)
                          generalize ((((w45.setCell ⟨gb203, 0, none⟩ (.int .i64 ((rd_T29 (rd_L9 l1 x83_4) x89_5).f0.f0))).setCell ⟨gb203, 1, none⟩ (.int .i64 ((rd_T29 (rd_L9 l1 x83_4) x89_5).f0.f1))).setCell ⟨gb203, 2, none⟩ (.int .i64 ((rd_T29 (rd_L9 l1 x83_4) x89_5).f1.f0))).setCell ⟨gb203, 3, none⟩ (.int .i64 ((rd_T29 (rd_L9 l1 x83_4) x89_5).f1.f1))) = w49 at n0_ n1_ n2_ n3_ n4_ ⊢
                          have HO_10 := n0_
                          have BK192 := n1_
                          have BK200 := n2_
                          have BK203 := n3_
                          have HB := n4_
                          clear n0_ n1_ n2_ n3_ n4_
                          replace HO_10 := Aside0.mk (Kd.R_drew HO_10.out)
                          replace BK192 := Aside0.mk (blk_drew BK192.out)
                          replace BK200 := Aside0.mk (blk_drew BK200.out)
                          replace BK203 := Aside0.mk (blk_drew BK203.out)
                          replace HB := Aside0.mk (below_drew1 HB.out)
                          have p204 : 0 ≤ (x51_3 : Int) := of_decide_eq_true zq5
                          have q204 : x51_3 < (x10_5.length : Int) := of_decide_eq_true zq5
                          obtain ⟨ad204, e204, hx204_0⟩ := Kd.at_int (Kd.R_reads' HO_10.out).2.2 x51_3 p204 q204
                          cases e204
                          replace p204 := eq_true p204
                          replace q204 := eq_true q204
                          refine start_ (n := 12) (S := fun w' => w'.cell? ⟨gb203, 0, none⟩ = some (.int .i64 ((rd_T29 (rd_L9 l1 x83_4) x89_5).f0.f0)) ∧ w'.cell? ⟨gb203, 1, none⟩ = some (.int .i64 ((rd_T29 (rd_L9 l1 x83_4) x89_5).f0.f1)) ∧ w'.cell? ⟨gb203, 2, none⟩ = some (.int .i64 ((rd_T29 (rd_L9 l1 x83_4) x89_5).f1.f0)) ∧ w'.cell? ⟨gb203, 3, none⟩ = some (.int .i64 ((rd_T29 (rd_L9 l1 x83_4) x89_5).f1.f1)) ∧ w'.cell? ⟨gb200, 0, none⟩ = some (.int .i64 (wrap64 ((Int.tmod x51_3 a0_0) * a0_2))) ∧ w'.cell? ⟨gb200, 1, none⟩ = some (.int .i64 (wrap64 ((wrap64 ((Int.tmod x51_3 a0_0) * a0_2)) + a0_2))) ∧ w'.cell? ⟨gb200, 2, none⟩ = some (.int .i64 (wrap64 ((wrap64 (Int.tdiv x51_3 a0_0)) * a0_2))) ∧ w'.cell? ⟨gb200, 3, none⟩ = some (.int .i64 (wrap64 ((wrap64 ((wrap64 (Int.tdiv x51_3 a0_0)) * a0_2)) + a0_2))) ∧ w'.cell? (ad204.add (x51_3).toNat) = some (.int .i64 (rd x10_5 x51_3))) (ds := [11]) #[false, false, false, false, false, false, false, false, false, false, false, false] zq3 rfl rfl (zca4 BK203.out (zca4 BK200.out hx204_0)) (fun hHeld => ?_); refine with_tabW glider_Visited.tab25 glider_Visited.bits25 (fun HT_ HW_ => ?_)
                          generalize w49.drew = w50 at HO_10 BK192 BK200 BK203 HB hx204_0 hHeld ⊢
                          refine zpz (i := 0) (N := some 93) (any_of HT_.out zq3) ?_
                          refine zpz (i := 1) (N := some 94) (any_of HT_.out zq3) ?_
                          refine zpz (i := 2) (N := some 95) (any_of HT_.out zq3) ?_
                          refine zpz (i := 3) (N := some 96) (any_of HT_.out zq3) ?_
                          refine zpz (i := 4) (N := some 97) (any_of HT_.out zq3) ?_
                          refine ztz (i := 5) (N := some 98) (take_ofW HT_.out HW_.out zq3) hHeld ?_
                          refine ztz (i := 6) (N := some 99) (take_ofW HT_.out HW_.out zq3) hHeld ?_
                          refine ztz (i := 7) (N := some 100) (take_ofW HT_.out HW_.out zq3) hHeld ?_
                          refine one_ (i := 8) (N := some 101) #[true, true, true, true, true, true, true, true, true, false, false, false] rfl rfl (one_of HT_.out zq3) (by decide) (fun K hK => ?_)
                          refine goes_ Try.func72 zq3 rfl #[.agg #[.int .i64 ((rd_T29 (rd_L9 l1 x83_4) x89_5).f0.f0), .int .i64 ((rd_T29 (rd_L9 l1 x83_4) x89_5).f0.f1), .int .i64 ((rd_T29 (rd_L9 l1 x83_4) x89_5).f1.f0), .int .i64 ((rd_T29 (rd_L9 l1 x83_4) x89_5).f1.f1)], .agg #[.int .i64 (wrap64 ((Int.tmod x51_3 a0_0) * a0_2)), .int .i64 (wrap64 ((wrap64 ((Int.tmod x51_3 a0_0) * a0_2)) + a0_2)), .int .i64 (wrap64 ((wrap64 (Int.tdiv x51_3 a0_0)) * a0_2)), .int .i64 (wrap64 ((wrap64 ((wrap64 (Int.tdiv x51_3 a0_0)) * a0_2)) + a0_2))]] (by rfl) rfl rfl zq8 ?_
                          with_reducible refine (glider_inside.calls ((rd_T29 (rd_L9 l1 x83_4) x89_5).f0.f0) ((rd_T29 (rd_L9 l1 x83_4) x89_5).f0.f1) ((rd_T29 (rd_L9 l1 x83_4) x89_5).f1.f0) ((rd_T29 (rd_L9 l1 x83_4) x89_5).f1.f1) (wrap64 ((Int.tmod x51_3 a0_0) * a0_2)) (wrap64 ((wrap64 ((Int.tmod x51_3 a0_0) * a0_2)) + a0_2)) (wrap64 ((wrap64 (Int.tdiv x51_3 a0_0)) * a0_2)) (wrap64 ((wrap64 ((wrap64 (Int.tdiv x51_3 a0_0)) * a0_2)) + a0_2)) t205 _ A42.out).mono ?_
                          rintro e w51 ⟨rfl, hb⟩
                          have HS8_ := (hb.cell (World.block_lt_of_cell? _ _ (hHeld.2.2.2.2.2.2.2.2))).trans (hHeld.2.2.2.2.2.2.2.2)
                          refine ⟨_, rfl, ?_⟩
                          replace HO_10 := zrb HO_10 hb
                          replace BK192 := zbb BK192 hb
                          replace BK200 := zbb BK200 hb
                          replace BK203 := zbb BK203 hb
                          replace HB := zbs HB hb
                          (try clear hb)
                          (try clear hb2)
                          (try clear hk)
                          (try clear hi)
                          have p44 : 0 ≤ (x51_3 : Int) := of_decide_eq_true zq5
                          have q44 : (x51_3 : Int) < ((x10_5.length : Int) : Int) := of_decide_eq_true zq5
                          obtain ⟨go44, co44, eo44, gb44, gl44, cl44, HG44⟩ := Kd.R_form HO_10.out (by omega)
                          (first | cases eo44 | (injection eo44 with ea_ en_ ec_; (first | subst ea_ | (injection ea_ with ea_; subst ea_)); subst ec_; clear en_))
                          have GB44 := Aside0.mk gb44
                          have GG44 := Aside0.mk HG44
                          clear gb44 gl44 HG44
                          (first | simp only [add_plain] at hx204_0 | skip)
                          obtain ⟨hx44_0, hf44_0⟩ := Kd.R_celln 0 HO_10.out (x51_3 : Int) p44 q44
                          replace p44 := eq_true p44
                          replace q44 := eq_true q44
                          have HP52 := Kd.R_putn HO_10.out (x51_3 : Int) ji43
                          rw [← Ny206.out] at HP52
                          have HQ52 := Aside0.mk HP52
                          clear HP52
                          refine hK.out _ _ (zca4 BK203.out (zca4 BK200.out HS8_)) (fun hHeld => ?_)
                          clear hK K
                          refine norm_ (by show Act.put _ (some 101) _ = _; simp only [Act.put, List.setIfInBounds_toArray, List.set_cons_zero, List.set_cons_succ, i64_w, i32_w]; rfl) ?_
                          refine zpz (i := 9) (N := some 102) (any_of HT_.out zq3) ?_
                          refine zpz (i := 10) (N := some 103) (any_of HT_.out zq3) ?_
                          refine last_ (i := 11) (N := none) #[true, true, true, true, true, true, true, true, true, true, true, true] rfl rfl (one_of HT_.out zq3) (by decide) (fun K hK => ?_)
                          refine skip_ (w1 := ?_) (by rfl) rfl ?_ ?_
                          rotate_left
                          ·go_simp
                           rfl
                          refine hK.out _ _ ?_
                          clear hK K
                          refine done_ (done_of HT_.out zq3) ?_
                          try go_wp2
                          (try simp only [← hl10_5])
                          go_roundg k5
                          case measure => have := HJ4.out; have := HK2.out; have := HK3.out; have := HK4.out; have := HK5.out; omega
                          case rel => exact ⟨(y206), (wrap64 (x89_5 + 1)), zq4, H', ⟨by have := HJ4.out; have := HK2.out; have := HK3.out; have := HK4.out; have := HK5.out; omega⟩, ⟨by (try simp only [hl10_3]); (try simp only [hl10_4]); (try simp only [hl10_5]); (with_reducible repeat (first | apply Kd.R_alloc | apply Kd.R_drewN | apply Kd.R_drew)); exact HQ52.out⟩, ⟨by (try simp only [hl10_3]); (try simp only [hl10_4]); (try simp only [hl10_5]); (with_reducible repeat (first | refine blk_drewN ?_ _ | refine blk_drew ?_ | refine blk_alloc ?_ _)); refine blk_far ?_ (by have h_ := Kd.R_ne HO_10.out BK192.out (by decide); intro e_; exact h_ (by rw [e_]; rfl)) _; (with_reducible repeat (first | refine blk_drewN ?_ _ | refine blk_drew ?_ | refine blk_alloc ?_ _)); exact BK192.out⟩, ⟨by (try simp only [hl10_3]); (try simp only [hl10_4]); (try simp only [hl10_5]); (with_reducible repeat (first | refine blk_drewN ?_ _ | refine blk_drew ?_ | refine blk_alloc ?_ _)); refine blk_far ?_ (by have h_ := Kd.R_ne HO_10.out BK200.out (by decide); intro e_; exact h_ (by rw [e_]; rfl)) _; (with_reducible repeat (first | refine blk_drewN ?_ _ | refine blk_drew ?_ | refine blk_alloc ?_ _)); exact BK200.out⟩, ⟨zbz⟩⟩
                         ·rw [if_neg c41] at H
                          exact absurd H (by simp)
                        ·rw [if_neg c40] at H
                         exact absurd H (by simp)
                       ·rw [if_neg c39] at H
                        exact absurd H (by simp)
                      ·rw [if_neg c38] at H
                       exact absurd H (by simp)
                     ·rw [if_neg c37] at H
                      have c37b0 : decide (x89_5 < ((rd_L9 l1 x83_4).length : Int)) = false := decide_eq_false c37
                      clear c37
                      have H' := Aside0.mk H
                      clear H
                      go_wp2
                      (try simp only [← hl10_4, ← hl10_5])
                      go_roundg k5
                      case measure => have := HJ4.out; have := HK2.out; have := HK3.out; have := HK4.out; have := HK5.out; omega
                      case rel => exact ⟨(x10_5), (wrap64 (x83_4 + 1)), zq4, H', ⟨by have := HJ4.out; have := HK2.out; have := HK3.out; have := HK4.out; have := HK5.out; omega⟩, ⟨by (try simp only [hl10_3]); (try simp only [hl10_4]); (try simp only [hl10_5]); (with_reducible repeat (first | apply Kd.R_alloc | apply Kd.R_drewN | apply Kd.R_drew)); exact HO_10.out⟩, ⟨by (try simp only [hl10_3]); (try simp only [hl10_4]); (try simp only [hl10_5]); (with_reducible repeat (first | refine blk_drewN ?_ _ | refine blk_drew ?_ | refine blk_alloc ?_ _)); exact BK192.out⟩, ⟨by (try simp only [hl10_3]); (try simp only [hl10_4]); (try simp only [hl10_5]); (with_reducible repeat (first | refine blk_drewN ?_ _ | refine blk_drew ?_ | refine blk_alloc ?_ _)); exact BK200.out⟩, ⟨zbz⟩⟩
                  ·rw [if_neg c36] at H
                   exact absurd H (by simp)
                 ·rw [if_neg c35] at H
                  exact absurd H (by simp)
                ·rw [if_neg c34] at H
                 have c34b0 : decide (x83_4 < (l1.length : Int)) = false := decide_eq_false c34
                 clear c34
                 have H' := Aside0.mk H
                 clear H
                 go_wp2
                 (try simp only [← hl10_3, ← hl10_4])
                 go_roundg k4
                 case measure => have := HJ4.out; have := HK2.out; have := HK3.out; have := HK4.out; omega
                 case rel => exact ⟨(x10_4), (wrap64 (x51_3 + 1)), zq4, H', ⟨by have := HJ4.out; have := HK2.out; have := HK3.out; have := HK4.out; omega⟩, ⟨zq41⟩, ⟨by (try simp only [hl10_3]); (try simp only [hl10_4]); (with_reducible repeat (first | refine blk_drewN ?_ _ | refine blk_drew ?_ | refine blk_alloc ?_ _)); exact BK192.out⟩, ⟨zbz⟩⟩
            ·rw [if_neg c27] at H
             have c27b0 : decide (x51_3 < (y197.length : Int)) = false := decide_eq_false c27
             (try simp only [hl10_3] at c27b0); (try simp only [hl10_4] at c27b0); (try simp only [hl10_5] at c27b0)
             clear c27
             simp only [Option.some.injEq, Prod.mk.injEq] at H
             obtain ⟨rfl, rfl⟩ := H
             go_wp2
             go_ret2
             exact ⟨_, by first | rfl | (simp [errW_none, errW_some] <;> rfl) | (simp only [← hji20]; first | rfl | (simp [errW_none, errW_some] <;> rfl)) | (simp [*, errW_none, errW_some] <;> rfl), by (with_reducible repeat (first | apply Kd.R_alloc | apply Kd.R_drewN | apply Kd.R_drew)); exact HO_10.out, zbz⟩
         ·rw [if_neg c22] at H
          exact absurd H (by simp)
        ·rw [if_neg c21] at H
         exact absurd H (by simp)
 ·rw [if_neg c4] at H
  have c4b0 : (t193 == 0) = false := beq_eq_false_iff_ne.mpr c4
  have c4b1 : (t193 != 0) = true := bne_iff_ne.mpr c4
  simp only [Option.some.injEq, Prod.mk.injEq] at H
  obtain ⟨rfl, rfl⟩ := H
  go_enter Try.func20, Try.ntmps20
  go_wp2_with (first | ((with_reducible refine gate_dst (N := 2) rfl ?_); refine box_event (by rfl) (N := 2) (by rfl) (cs := #[.int .i64 a0_0, .int .i64 a0_1, .int .i64 a0_2, .int .i64 a0_3, .int .i64 a0_4, .int .i64 a0_5, .int .i64 a0_6, .slice A0_7 l0_7.length c0_7, .slice A0_8 l0_8.length c0_8]) (t := 25) zq1 ?_; intro gb192 hg w53 hbox hb; have BK192 := Aside0.mk (hbox); have GW192 := zgs HB hg; have GE192 := zgs HB hg; replace HB := zbs HB hb; clear hb hbox hg; obtain ⟨hcz54_0, hcz54_1, hcz54_2, hcz54_3, hcz54_4, hcz54_5, hcz54_6, hcz54_7, hcz54_8, hfz54_0, hfz54_1, hfz54_2, hfz54_3, hfz54_4, hfz54_5, hfz54_6, hfz54_7, hfz54_8⟩ := zce9 BK192.out) | ((with_reducible refine gate_callee (f := 50) rfl ?_); refine goesL_ (some 20) rfl rfl Try.func50 zq3 rfl #[.agg #[.int .i64 a0_0, .int .i64 a0_1, .int .i64 a0_2, .int .i64 a0_3, .int .i64 a0_4, .int .i64 a0_5, .int .i64 a0_6, .slice A0_7 l0_7.length c0_7, .slice A0_8 l0_8.length c0_8]] rfl zq8 ?_; (with_reducible refine (glider_CheckSea.calls a0_0 a0_1 a0_2 a0_3 a0_4 a0_5 a0_6 _ _ l0_7 _ _ l0_8 t193 _ ?side1 ?side2 ?side3 ?side4 A3.out).mono ?_); (case side1 => repeat (first | exact (Kd.C_below HR0_7.out HB.out) | (with_reducible refine Kd.C_alloc ?_ _) | (with_reducible refine Kd.C_drewN ?_ _) | (with_reducible refine Kd.C_drew ?_))); (case side2 => exact HC0_7.out); (case side3 => repeat (first | exact (Kd.C_below HR0_8.out HB.out) | (with_reducible refine Kd.C_alloc ?_ _) | (with_reducible refine Kd.C_drewN ?_ _) | (with_reducible refine Kd.C_drew ?_))); (case side4 => exact HC0_8.out); rintro e w55 ⟨rfl, hb⟩; refine ⟨_, rfl, ?_⟩; replace BK192 := zbb BK192 hb; replace HB := zbs HB hb; (try clear hb); (try clear hb2); (try clear hk); (try clear hi)))
  go_ret2
  exact ⟨_, zq2, zq40, zbz⟩

end Go.Proofs.Ythglkoddmpicdaa.Pr
end
