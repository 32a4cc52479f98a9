/- Part 10 of the proof of TopInside: what the functions compute. No condition. -/
import Derived.Test.YthglkoddmpicdaaTiTopInside3
import Derived.Test.YthglkoddmpicdaaTiTopInside9
set_option linter.unusedVariables false
set_option linter.unusedSimpArgs false
section
namespace Go.Proofs.Ythglkoddmpicdaa.Pr
open Go.RowKit Go.Proofs.YthglkoddmpicdaaW.PrintWords Go.Proofs.YthglkoddmpicdaaW.PrintLast Go.Proofs.YthglkoddmpicdaaW.PrintMore
attribute [local go_sem] max2_int min2_int max_two min_two max_four
set_option linter.unusedVariables false
set_option linter.unusedSimpArgs false

/-! ### isobathref03_CheckSea: function 21 -/
mutual
def isobathref03_CheckSea.j0 : Nat → Bool → Int → Int → Int → Int → Int → Int → Int → List Bool → List (S33) → Option (Int)
 | 0, _, _, _, _, _, _, _, _, _, _ => none
 | k + 1, x71, x162000, x162001, x162002, x162003, x162004, x162005, x162006, x162007, x162008 => if x71 = true then (some 2) else (if (x162007.length : Int) = (wrap64 (x162000 * x162001)) then (isobathref03_CheckSea.j1 k ((x162008.length : Int) != (wrap64 ((wrap64 ((wrap64 (x162004 * x162005)) * x162000)) * x162001))) x162000 x162001 x162002 x162003 x162004 x162005 x162006 x162007 x162008) else (isobathref03_CheckSea.j1 k true x162000 x162001 x162002 x162003 x162004 x162005 x162006 x162007 x162008))
def isobathref03_CheckSea.j1 : Nat → Bool → Int → Int → Int → Int → Int → Int → Int → List Bool → List (S33) → Option (Int)
 | 0, _, _, _, _, _, _, _, _, _, _ => none
 | k + 1, x97, x162000, x162001, x162002, x162003, x162004, x162005, x162006, x162007, x162008 => if x97 = true then (some 2) else (isobathref03_CheckSea.l0 k 0 x162000 x162001 x162002 x162003 x162004 x162005 x162006 x162007 x162008)
def isobathref03_CheckSea.l0 : Nat → Int → Int → Int → Int → Int → Int → Int → Int → List Bool → List (S33) → Option (Int)
 | 0, _, _, _, _, _, _, _, _, _, _ => none
 | k + 1, x3, x162000, x162001, x162002, x162003, x162004, x162005, x162006, x162007, x162008 => if x3 < (x162008.length : Int) then (if 0 ≤ x3 then ((isobathref03_bounded.f ((rd_T33 x162008 x3).f0.f0) ((rd_T33 x162008 x3).f0.f1) (wrap64 (-x162006)) x162006).bind fun t163 => (if t163 = true then ((isobathref03_bounded.f ((rd_T33 x162008 x3).f1.f0) ((rd_T33 x162008 x3).f1.f1) (wrap64 (-x162006)) x162006).bind fun t165 => (if t165 = true then (isobathref03_CheckSea.l0 k (wrap64 (x3 + 1)) x162000 x162001 x162002 x162003 x162004 x162005 x162006 x162007 x162008) else (some 2))) else (some 2))) else (none)) else (some 0)
end
def isobathref03_CheckSea.f (k : Nat) (a0_0 : Int) (a0_1 : Int) (a0_2 : Int) (a0_3 : Int) (a0_4 : Int) (a0_5 : Int) (a0_6 : Int) (l0_7 : List Bool) (l0_8 : List (S33)) : Option (Int) := if a0_0 < 1 then (isobathref03_CheckSea.j0 k true a0_0 a0_1 a0_2 a0_3 a0_4 a0_5 a0_6 l0_7 l0_8) else (if a0_0 > 12 then (isobathref03_CheckSea.j0 k true a0_0 a0_1 a0_2 a0_3 a0_4 a0_5 a0_6 l0_7 l0_8) else (if a0_1 < 1 then (isobathref03_CheckSea.j0 k true a0_0 a0_1 a0_2 a0_3 a0_4 a0_5 a0_6 l0_7 l0_8) else (if a0_1 > 12 then (isobathref03_CheckSea.j0 k true a0_0 a0_1 a0_2 a0_3 a0_4 a0_5 a0_6 l0_7 l0_8) else (if a0_2 < 100 then (isobathref03_CheckSea.j0 k true a0_0 a0_1 a0_2 a0_3 a0_4 a0_5 a0_6 l0_7 l0_8) else (if a0_2 > 65536 then (isobathref03_CheckSea.j0 k true a0_0 a0_1 a0_2 a0_3 a0_4 a0_5 a0_6 l0_7 l0_8) else (if a0_3 < 1 then (isobathref03_CheckSea.j0 k true a0_0 a0_1 a0_2 a0_3 a0_4 a0_5 a0_6 l0_7 l0_8) else (if a0_3 > 1048576 then (isobathref03_CheckSea.j0 k true a0_0 a0_1 a0_2 a0_3 a0_4 a0_5 a0_6 l0_7 l0_8) else (if a0_4 < 1 then (isobathref03_CheckSea.j0 k true a0_0 a0_1 a0_2 a0_3 a0_4 a0_5 a0_6 l0_7 l0_8) else (if a0_4 > 16 then (isobathref03_CheckSea.j0 k true a0_0 a0_1 a0_2 a0_3 a0_4 a0_5 a0_6 l0_7 l0_8) else (if a0_5 < 1 then (isobathref03_CheckSea.j0 k true a0_0 a0_1 a0_2 a0_3 a0_4 a0_5 a0_6 l0_7 l0_8) else (if a0_5 > 3 then (isobathref03_CheckSea.j0 k true a0_0 a0_1 a0_2 a0_3 a0_4 a0_5 a0_6 l0_7 l0_8) else (if a0_6 < 0 then (isobathref03_CheckSea.j0 k true a0_0 a0_1 a0_2 a0_3 a0_4 a0_5 a0_6 l0_7 l0_8) else (isobathref03_CheckSea.j0 k (decide (a0_6 > 5000)) a0_0 a0_1 a0_2 a0_3 a0_4 a0_5 a0_6 l0_7 l0_8)))))))))))))
def isobathref03_CheckSea.T8 : Bool × List (List Nat × List Nat) := (true, [([], []), ([0], [0]), ([], []), ([1, 2], [1, 2]), ([3], [3]), ([4], [4]), ([], []), ([6], [6]), ([7], [7]), ([], []), ([9], [9]), ([5, 8, 10], [5, 8, 10]), ([11], [11]), ([12, 11], [12]), ([13], [13]), ([14, 13], [13, 14]), ([13], [13]), ([15, 16, 13], [13, 15, 16]), ([17, 13], [13, 17]), ([18, 13], [13, 18]), ([13], [13]), ([20, 13], [13, 20]), ([21, 13], [13, 21]), ([13], [13]), ([23, 13], [13, 23]), ([19, 22, 24, 13, 13], [13, 19, 22, 24]), ([25, 13], [13, 25]), ([13, 26], [13, 26])])
def isobathref03_CheckSea.B8 : List Nat := [0, 1, 0, 7, 15, 31, 0, 64, 192, 0, 512, 2047, 4095, 8191, 16383, 32767, 16383, 131071, 262143, 524287, 16383, 1064959, 3162111, 16383, 8404991, 33554431, 67108863, 134217727]
theorem isobathref03_CheckSea.tab8 : rtab .any (opsOf Try.f21 8) = isobathref03_CheckSea.T8 := by kernel_rfl
theorem isobathref03_CheckSea.bits8 : waitsOk isobathref03_CheckSea.T8.2 isobathref03_CheckSea.B8 = true := by kernel_rfl
set_option maxHeartbeats 8000000 in
set_option maxRecDepth 100000 in
theorem isobathref03_CheckSea.calls (k : Nat) (a0_0 : Int) (a0_1 : Int) (a0_2 : Int) (a0_3 : Int) (a0_4 : Int) (a0_5 : Int) (a0_6 : Int) (A0_7 : Option Addr) (c0_7 : Nat) (l0_7 : List Bool) (A0_8 : Option Addr) (c0_8 : Nat) (l0_8 : List (S33)) (r : Int) (w : World) (hr0_7 : Kd.C Kd.bool w A0_7 l0_7.length l0_7) (hc0_7 : l0_7.length ≤ c0_7) (hr0_8 : Kd.C k33 w A0_8 l0_8.length l0_8) (hc0_8 : l0_8.length ≤ c0_8) (h : isobathref03_CheckSea.f k a0_0 a0_1 a0_2 a0_3 a0_4 a0_5 a0_6 l0_7 l0_8 = some r) :
  Calls Try.prog 21 #[.agg #[.int .i64 a0_0, .int .i64 a0_1, .int .i64 a0_2, .int .i64 a0_3, .int .i64 a0_4, .int .i64 a0_5, .int .i64 a0_6, .slice A0_7 l0_7.length c0_7, .slice A0_8 l0_8.length c0_8]] w fun e w' => e = .returned (.int .i64 r) ∧ Below w.heap.size w w' := by
 have hu25 := Try.underlying25
 have hu27 := Try.underlying27
 have HR0_7 := Aside0.mk hr0_7
 have HC0_7 := Aside0.mk hc0_7
 clear hr0_7 hc0_7
 have HR0_8 := Aside0.mk hr0_8
 have HC0_8 := Aside0.mk hc0_8
 clear hr0_8 hc0_8
 have HB := Aside0.mk (Below.refl w.heap.size w)
 have H : (if a0_0 < 1 then (isobathref03_CheckSea.j0 k true a0_0 a0_1 a0_2 a0_3 a0_4 a0_5 a0_6 l0_7 l0_8) else (if a0_0 > 12 then (isobathref03_CheckSea.j0 k true a0_0 a0_1 a0_2 a0_3 a0_4 a0_5 a0_6 l0_7 l0_8) else (if a0_1 < 1 then (isobathref03_CheckSea.j0 k true a0_0 a0_1 a0_2 a0_3 a0_4 a0_5 a0_6 l0_7 l0_8) else (if a0_1 > 12 then (isobathref03_CheckSea.j0 k true a0_0 a0_1 a0_2 a0_3 a0_4 a0_5 a0_6 l0_7 l0_8) else (if a0_2 < 100 then (isobathref03_CheckSea.j0 k true a0_0 a0_1 a0_2 a0_3 a0_4 a0_5 a0_6 l0_7 l0_8) else (if a0_2 > 65536 then (isobathref03_CheckSea.j0 k true a0_0 a0_1 a0_2 a0_3 a0_4 a0_5 a0_6 l0_7 l0_8) else (if a0_3 < 1 then (isobathref03_CheckSea.j0 k true a0_0 a0_1 a0_2 a0_3 a0_4 a0_5 a0_6 l0_7 l0_8) else (if a0_3 > 1048576 then (isobathref03_CheckSea.j0 k true a0_0 a0_1 a0_2 a0_3 a0_4 a0_5 a0_6 l0_7 l0_8) else (if a0_4 < 1 then (isobathref03_CheckSea.j0 k true a0_0 a0_1 a0_2 a0_3 a0_4 a0_5 a0_6 l0_7 l0_8) else (if a0_4 > 16 then (isobathref03_CheckSea.j0 k true a0_0 a0_1 a0_2 a0_3 a0_4 a0_5 a0_6 l0_7 l0_8) else (if a0_5 < 1 then (isobathref03_CheckSea.j0 k true a0_0 a0_1 a0_2 a0_3 a0_4 a0_5 a0_6 l0_7 l0_8) else (if a0_5 > 3 then (isobathref03_CheckSea.j0 k true a0_0 a0_1 a0_2 a0_3 a0_4 a0_5 a0_6 l0_7 l0_8) else (if a0_6 < 0 then (isobathref03_CheckSea.j0 k true a0_0 a0_1 a0_2 a0_3 a0_4 a0_5 a0_6 l0_7 l0_8) else (isobathref03_CheckSea.j0 k (decide (a0_6 > 5000)) a0_0 a0_1 a0_2 a0_3 a0_4 a0_5 a0_6 l0_7 l0_8)))))))))))))) = some r := h
 clear h
 have HC2 := Aside0.mk H
 clear H
 go_enter Try.func21, Try.ntmps21
 go_upto_region 1 with (first | ((with_reducible refine gate_dst (N := 1) rfl ?_); (try (refine gate_guard (by rfl) ?_; dsimp only)); refine box_event (by rfl) (N := 1) (by rfl) (cs := #[.int .i64 a0_0, .int .i64 a0_1, .int .i64 a0_2, .int .i64 a0_3, .int .i64 a0_4, .int .i64 a0_5, .int .i64 a0_6, .slice A0_7 l0_7.length c0_7, .slice A0_8 l0_8.length c0_8]) (t := 25) zq0 ?_; intro gb161 hg w3 hbox hb; have BK161 := Aside0.mk (hbox); have GW161 := zgs HB hg; have GE161 := zgs HB hg; replace HB := zbs HB hb; clear hb hbox hg))
 (try simp only [Act.put, List.setIfInBounds_toArray, List.set_cons_zero, List.set_cons_succ])
 go_cut [71] (fun v71 wc => ∃ (kq : Nat) (x71_1 : Bool), v71 = .bool x71_1 ∧ Aside0 (isobathref03_CheckSea.j0 kq x71_1 a0_0 a0_1 a0_2 a0_3 a0_4 a0_5 a0_6 l0_7 l0_8 = some r) ∧ Aside0 (kq ≤ k) ∧ Aside0 (wc.heap[gb161]? = some (.cells #[.int .i64 a0_0, .int .i64 a0_1, .int .i64 a0_2, .int .i64 a0_3, .int .i64 a0_4, .int .i64 a0_5, .int .i64 a0_6, (.slice A0_7 l0_7.length c0_7), (.slice A0_8 l0_8.length c0_8)] 25 (0, 0))) ∧ Aside0 (Below w.heap.size w wc))
 case first =>
  have H := HC2.out
  clear HC2
  by_cases c4 : a0_0 < 1
  ·rw [if_pos c4] at H
   have c4b0 : decide (a0_0 < 1) = true := decide_eq_true c4
   clear c4
   (first | rw [c4b0] | (simp only [i64_w, i32_w]; rw [c4b0]) | skip)
   have H' := Aside0.mk H
   clear H
   obtain ⟨hcz5_0, hcz5_1, hcz5_2, hcz5_3, hcz5_4, hcz5_5, hcz5_6, hcz5_7, hcz5_8, hfz5_0, hfz5_1, hfz5_2, hfz5_3, hfz5_4, hfz5_5, hfz5_6, hfz5_7, hfz5_8⟩ := zce9 BK161.out
   go_wp2
   go_meet
   case rel => exact ⟨_, (true), zq3, H', ⟨zq22⟩, ⟨zbf⟩, ⟨zbz⟩⟩
  ·rw [if_neg c4] at H
   have c4b0 : decide (a0_0 < 1) = false := decide_eq_false c4
   clear c4
   (first | rw [c4b0] | (simp only [i64_w, i32_w]; rw [c4b0]) | skip)
   by_cases c6 : a0_0 > 12
   ·rw [if_pos c6] at H
    have c6b0 : decide (12 < a0_0) = true := decide_eq_true c6
    clear c6
    have H' := Aside0.mk H
    clear H
    obtain ⟨hcz7_0, hcz7_1, hcz7_2, hcz7_3, hcz7_4, hcz7_5, hcz7_6, hcz7_7, hcz7_8, hfz7_0, hfz7_1, hfz7_2, hfz7_3, hfz7_4, hfz7_5, hfz7_6, hfz7_7, hfz7_8⟩ := zce9 BK161.out
    go_wp2
    go_meet
    case rel => exact ⟨_, (true), zq3, H', ⟨zq22⟩, ⟨zbf⟩, ⟨zbz⟩⟩
   ·rw [if_neg c6] at H
    have c6b0 : decide (12 < a0_0) = false := decide_eq_false c6
    clear c6
    by_cases c8 : a0_1 < 1
    ·rw [if_pos c8] at H
     have c8b0 : decide (a0_1 < 1) = true := decide_eq_true c8
     clear c8
     have H' := Aside0.mk H
     clear H
     obtain ⟨hcz9_0, hcz9_1, hcz9_2, hcz9_3, hcz9_4, hcz9_5, hcz9_6, hcz9_7, hcz9_8, hfz9_0, hfz9_1, hfz9_2, hfz9_3, hfz9_4, hfz9_5, hfz9_6, hfz9_7, hfz9_8⟩ := zce9 BK161.out
     go_wp2
     go_meet
     case rel => exact ⟨_, (true), zq3, H', ⟨zq22⟩, ⟨zbf⟩, ⟨zbz⟩⟩
    ·rw [if_neg c8] at H
     have c8b0 : decide (a0_1 < 1) = false := decide_eq_false c8
     clear c8
     by_cases c10 : a0_1 > 12
     ·rw [if_pos c10] at H
      have c10b0 : decide (12 < a0_1) = true := decide_eq_true c10
      clear c10
      have H' := Aside0.mk H
      clear H
      obtain ⟨hcz11_0, hcz11_1, hcz11_2, hcz11_3, hcz11_4, hcz11_5, hcz11_6, hcz11_7, hcz11_8, hfz11_0, hfz11_1, hfz11_2, hfz11_3, hfz11_4, hfz11_5, hfz11_6, hfz11_7, hfz11_8⟩ := zce9 BK161.out
      go_wp2
      go_meet
      case rel => exact ⟨_, (true), zq3, H', ⟨zq22⟩, ⟨zbf⟩, ⟨zbz⟩⟩
     ·rw [if_neg c10] at H
      have c10b0 : decide (12 < a0_1) = false := decide_eq_false c10
      clear c10
      by_cases c12 : a0_2 < 100
      ·rw [if_pos c12] at H
       have c12b0 : decide (a0_2 < 100) = true := decide_eq_true c12
       clear c12
       have H' := Aside0.mk H
       clear H
       obtain ⟨hcz13_0, hcz13_1, hcz13_2, hcz13_3, hcz13_4, hcz13_5, hcz13_6, hcz13_7, hcz13_8, hfz13_0, hfz13_1, hfz13_2, hfz13_3, hfz13_4, hfz13_5, hfz13_6, hfz13_7, hfz13_8⟩ := zce9 BK161.out
       go_wp2
       go_meet
       case rel => exact ⟨_, (true), zq3, H', ⟨zq22⟩, ⟨zbf⟩, ⟨zbz⟩⟩
      ·rw [if_neg c12] at H
       have c12b0 : decide (a0_2 < 100) = false := decide_eq_false c12
       clear c12
       by_cases c14 : a0_2 > 65536
       ·rw [if_pos c14] at H
        have c14b0 : decide (65536 < a0_2) = true := decide_eq_true c14
        clear c14
        have H' := Aside0.mk H
        clear H
        obtain ⟨hcz15_0, hcz15_1, hcz15_2, hcz15_3, hcz15_4, hcz15_5, hcz15_6, hcz15_7, hcz15_8, hfz15_0, hfz15_1, hfz15_2, hfz15_3, hfz15_4, hfz15_5, hfz15_6, hfz15_7, hfz15_8⟩ := zce9 BK161.out
        go_wp2
        go_meet
        case rel => exact ⟨_, (true), zq3, H', ⟨zq22⟩, ⟨zbf⟩, ⟨zbz⟩⟩
       ·rw [if_neg c14] at H
        have c14b0 : decide (65536 < a0_2) = false := decide_eq_false c14
        clear c14
        by_cases c16 : a0_3 < 1
        ·rw [if_pos c16] at H
         have c16b0 : decide (a0_3 < 1) = true := decide_eq_true c16
         clear c16
         have H' := Aside0.mk H
         clear H
         obtain ⟨hcz17_0, hcz17_1, hcz17_2, hcz17_3, hcz17_4, hcz17_5, hcz17_6, hcz17_7, hcz17_8, hfz17_0, hfz17_1, hfz17_2, hfz17_3, hfz17_4, hfz17_5, hfz17_6, hfz17_7, hfz17_8⟩ := zce9 BK161.out
         go_wp2
         go_meet
         case rel => exact ⟨_, (true), zq3, H', ⟨zq22⟩, ⟨zbf⟩, ⟨zbz⟩⟩
        ·rw [if_neg c16] at H
         have c16b0 : decide (a0_3 < 1) = false := decide_eq_false c16
         clear c16
         by_cases c18 : a0_3 > 1048576
         ·rw [if_pos c18] at H
          have c18b0 : decide (1048576 < a0_3) = true := decide_eq_true c18
          clear c18
          have H' := Aside0.mk H
          clear H
          obtain ⟨hcz19_0, hcz19_1, hcz19_2, hcz19_3, hcz19_4, hcz19_5, hcz19_6, hcz19_7, hcz19_8, hfz19_0, hfz19_1, hfz19_2, hfz19_3, hfz19_4, hfz19_5, hfz19_6, hfz19_7, hfz19_8⟩ := zce9 BK161.out
          go_wp2
          go_meet
          case rel => exact ⟨_, (true), zq3, H', ⟨zq22⟩, ⟨zbf⟩, ⟨zbz⟩⟩
         ·rw [if_neg c18] at H
          have c18b0 : decide (1048576 < a0_3) = false := decide_eq_false c18
          clear c18
          by_cases c20 : a0_4 < 1
          ·rw [if_pos c20] at H
           have c20b0 : decide (a0_4 < 1) = true := decide_eq_true c20
           clear c20
           have H' := Aside0.mk H
           clear H
           obtain ⟨hcz21_0, hcz21_1, hcz21_2, hcz21_3, hcz21_4, hcz21_5, hcz21_6, hcz21_7, hcz21_8, hfz21_0, hfz21_1, hfz21_2, hfz21_3, hfz21_4, hfz21_5, hfz21_6, hfz21_7, hfz21_8⟩ := zce9 BK161.out
           go_wp2
           go_meet
           case rel => exact ⟨_, (true), zq3, H', ⟨zq22⟩, ⟨zbf⟩, ⟨zbz⟩⟩
          ·rw [if_neg c20] at H
           have c20b0 : decide (a0_4 < 1) = false := decide_eq_false c20
           clear c20
           by_cases c22 : a0_4 > 16
           ·rw [if_pos c22] at H
            have c22b0 : decide (16 < a0_4) = true := decide_eq_true c22
            clear c22
            have H' := Aside0.mk H
            clear H
            obtain ⟨hcz23_0, hcz23_1, hcz23_2, hcz23_3, hcz23_4, hcz23_5, hcz23_6, hcz23_7, hcz23_8, hfz23_0, hfz23_1, hfz23_2, hfz23_3, hfz23_4, hfz23_5, hfz23_6, hfz23_7, hfz23_8⟩ := zce9 BK161.out
            go_wp2
            go_meet
            case rel => exact ⟨_, (true), zq3, H', ⟨zq22⟩, ⟨zbf⟩, ⟨zbz⟩⟩
           ·rw [if_neg c22] at H
            have c22b0 : decide (16 < a0_4) = false := decide_eq_false c22
            clear c22
            by_cases c24 : a0_5 < 1
            ·rw [if_pos c24] at H
             have c24b0 : decide (a0_5 < 1) = true := decide_eq_true c24
             clear c24
             have H' := Aside0.mk H
             clear H
             obtain ⟨hcz25_0, hcz25_1, hcz25_2, hcz25_3, hcz25_4, hcz25_5, hcz25_6, hcz25_7, hcz25_8, hfz25_0, hfz25_1, hfz25_2, hfz25_3, hfz25_4, hfz25_5, hfz25_6, hfz25_7, hfz25_8⟩ := zce9 BK161.out
             go_wp2
             go_meet
             case rel => exact ⟨_, (true), zq3, H', ⟨zq22⟩, ⟨zbf⟩, ⟨zbz⟩⟩
            ·rw [if_neg c24] at H
             have c24b0 : decide (a0_5 < 1) = false := decide_eq_false c24
             clear c24
             by_cases c26 : a0_5 > 3
             ·rw [if_pos c26] at H
              have c26b0 : decide (3 < a0_5) = true := decide_eq_true c26
              clear c26
              have H' := Aside0.mk H
              clear H
              obtain ⟨hcz27_0, hcz27_1, hcz27_2, hcz27_3, hcz27_4, hcz27_5, hcz27_6, hcz27_7, hcz27_8, hfz27_0, hfz27_1, hfz27_2, hfz27_3, hfz27_4, hfz27_5, hfz27_6, hfz27_7, hfz27_8⟩ := zce9 BK161.out
              go_wp2
              go_meet
              case rel => exact ⟨_, (true), zq3, H', ⟨zq22⟩, ⟨zbf⟩, ⟨zbz⟩⟩
             ·rw [if_neg c26] at H
              have c26b0 : decide (3 < a0_5) = false := decide_eq_false c26
              clear c26
              by_cases c28 : a0_6 < 0
              ·rw [if_pos c28] at H
               have c28b0 : decide (a0_6 < 0) = true := decide_eq_true c28
               clear c28
               have H' := Aside0.mk H
               clear H
               obtain ⟨hcz29_0, hcz29_1, hcz29_2, hcz29_3, hcz29_4, hcz29_5, hcz29_6, hcz29_7, hcz29_8, hfz29_0, hfz29_1, hfz29_2, hfz29_3, hfz29_4, hfz29_5, hfz29_6, hfz29_7, hfz29_8⟩ := zce9 BK161.out
               go_wp2
               go_meet
               case rel => exact ⟨_, (true), zq3, H', ⟨zq22⟩, ⟨zbf⟩, ⟨zbz⟩⟩
              ·rw [if_neg c28] at H
               have c28b0 : decide (a0_6 < 0) = false := decide_eq_false c28
               clear c28
               have H' := Aside0.mk H
               clear H
               obtain ⟨hcz30_0, hcz30_1, hcz30_2, hcz30_3, hcz30_4, hcz30_5, hcz30_6, hcz30_7, hcz30_8, hfz30_0, hfz30_1, hfz30_2, hfz30_3, hfz30_4, hfz30_5, hfz30_6, hfz30_7, hfz30_8⟩ := zce9 BK161.out
               go_wp2
               go_meet
               case rel => exact ⟨_, (decide (a0_6 > 5000)), zq3, H', ⟨zq22⟩, ⟨zbf⟩, ⟨zbz⟩⟩
 case rest =>
  clear HC2
  try clear c1
  try clear c2
  try clear p2
  try clear c4
  try clear c4b0
  try clear c6
  try clear c6b0
  try clear c8
  try clear c8b0
  try clear c10
  try clear c10b0
  try clear c12
  try clear c12b0
  try clear c14
  try clear c14b0
  try clear c16
  try clear c16b0
  try clear c18
  try clear c18b0
  try clear c20
  try clear c20b0
  try clear c21
  try clear c22
  try clear c22b0
  try clear c24
  try clear c24b0
  try clear c26
  try clear c26b0
  try clear c28
  try clear c28b0
  try clear hcz11_0 hcz11_1 hcz11_2 hcz11_3 hcz11_4 hcz11_5 hcz11_6 hcz11_7 hcz11_8
  try clear hcz13_0 hcz13_1 hcz13_2 hcz13_3 hcz13_4 hcz13_5 hcz13_6 hcz13_7 hcz13_8
  try clear hcz15_0 hcz15_1 hcz15_2 hcz15_3 hcz15_4 hcz15_5 hcz15_6 hcz15_7 hcz15_8
  try clear hcz17_0 hcz17_1 hcz17_2 hcz17_3 hcz17_4 hcz17_5 hcz17_6 hcz17_7 hcz17_8
  try clear hcz19_0 hcz19_1 hcz19_2 hcz19_3 hcz19_4 hcz19_5 hcz19_6 hcz19_7 hcz19_8
  try clear hcz21_0 hcz21_1 hcz21_2 hcz21_3 hcz21_4 hcz21_5 hcz21_6 hcz21_7 hcz21_8
  try clear hcz23_0 hcz23_1 hcz23_2 hcz23_3 hcz23_4 hcz23_5 hcz23_6 hcz23_7 hcz23_8
  try clear hcz25_0 hcz25_1 hcz25_2 hcz25_3 hcz25_4 hcz25_5 hcz25_6 hcz25_7 hcz25_8
  try clear hcz27_0 hcz27_1 hcz27_2 hcz27_3 hcz27_4 hcz27_5 hcz27_6 hcz27_7 hcz27_8
  try clear hcz29_0 hcz29_1 hcz29_2 hcz29_3 hcz29_4 hcz29_5 hcz29_6 hcz29_7 hcz29_8
  try clear hcz30_0 hcz30_1 hcz30_2 hcz30_3 hcz30_4 hcz30_5 hcz30_6 hcz30_7 hcz30_8
  try clear hcz5_0 hcz5_1 hcz5_2 hcz5_3 hcz5_4 hcz5_5 hcz5_6 hcz5_7 hcz5_8
  try clear hcz7_0 hcz7_1 hcz7_2 hcz7_3 hcz7_4 hcz7_5 hcz7_6 hcz7_7 hcz7_8
  try clear hcz9_0 hcz9_1 hcz9_2 hcz9_3 hcz9_4 hcz9_5 hcz9_6 hcz9_7 hcz9_8
  try clear hfz11_0 hfz11_1 hfz11_2 hfz11_3 hfz11_4 hfz11_5 hfz11_6 hfz11_7 hfz11_8
  try clear hfz13_0 hfz13_1 hfz13_2 hfz13_3 hfz13_4 hfz13_5 hfz13_6 hfz13_7 hfz13_8
  try clear hfz15_0 hfz15_1 hfz15_2 hfz15_3 hfz15_4 hfz15_5 hfz15_6 hfz15_7 hfz15_8
  try clear hfz17_0 hfz17_1 hfz17_2 hfz17_3 hfz17_4 hfz17_5 hfz17_6 hfz17_7 hfz17_8
  try clear hfz19_0 hfz19_1 hfz19_2 hfz19_3 hfz19_4 hfz19_5 hfz19_6 hfz19_7 hfz19_8
  try clear hfz21_0 hfz21_1 hfz21_2 hfz21_3 hfz21_4 hfz21_5 hfz21_6 hfz21_7 hfz21_8
  try clear hfz23_0 hfz23_1 hfz23_2 hfz23_3 hfz23_4 hfz23_5 hfz23_6 hfz23_7 hfz23_8
  try clear hfz25_0 hfz25_1 hfz25_2 hfz25_3 hfz25_4 hfz25_5 hfz25_6 hfz25_7 hfz25_8
  try clear hfz27_0 hfz27_1 hfz27_2 hfz27_3 hfz27_4 hfz27_5 hfz27_6 hfz27_7 hfz27_8
  try clear hfz29_0 hfz29_1 hfz29_2 hfz29_3 hfz29_4 hfz29_5 hfz29_6 hfz29_7 hfz29_8
  try clear hfz30_0 hfz30_1 hfz30_2 hfz30_3 hfz30_4 hfz30_5 hfz30_6 hfz30_7 hfz30_8
  try clear hfz5_0 hfz5_1 hfz5_2 hfz5_3 hfz5_4 hfz5_5 hfz5_6 hfz5_7 hfz5_8
  try clear hfz7_0 hfz7_1 hfz7_2 hfz7_3 hfz7_4 hfz7_5 hfz7_6 hfz7_7 hfz7_8
  try clear hfz9_0 hfz9_1 hfz9_2 hfz9_3 hfz9_4 hfz9_5 hfz9_6 hfz9_7 hfz9_8
  obtain ⟨kq, x71_1, rfl, HA, HJ1, BK161, HB⟩ := hcut
  cases kq with
  | zero => exact absurd HA.out (by simp [isobathref03_CheckSea.j0])
  | succ kj1 =>
   have H := HA.out
   clear HA
   simp only [isobathref03_CheckSea.j0] at H
   by_cases c31 : x71_1 = true
   ·subst c31
    have H1 : (some 2) = some r := by rw [if_pos rfl] at H; exact H
    clear H
    have H := H1
    clear H1
    obtain rfl := Option.some.inj H
    go_wp2
    go_ret
    exact ⟨zq1, zbz⟩
   ·replace c31 := Bool.eq_false_iff.mpr c31
    subst c31
    have H1 : (if (l0_7.length : Int) = (wrap64 (a0_0 * a0_1)) then (isobathref03_CheckSea.j1 kj1 ((l0_8.length : Int) != (wrap64 ((wrap64 ((wrap64 (a0_4 * a0_5)) * a0_0)) * a0_1))) a0_0 a0_1 a0_2 a0_3 a0_4 a0_5 a0_6 l0_7 l0_8) else (isobathref03_CheckSea.j1 kj1 true a0_0 a0_1 a0_2 a0_3 a0_4 a0_5 a0_6 l0_7 l0_8)) = some r := by rw [if_neg (show ¬ (false = true) by decide)] at H; exact H
    clear H
    have H := H1
    clear H1
    have HC32 := Aside0.mk H
    clear H
    go_upto_region 3 with (fail)
    go_cut [97] (fun v97 wc => ∃ (kq : Nat) (x97_31 : Bool), v97 = .bool x97_31 ∧ Aside0 (isobathref03_CheckSea.j1 kq x97_31 a0_0 a0_1 a0_2 a0_3 a0_4 a0_5 a0_6 l0_7 l0_8 = some r) ∧ Aside0 (kq ≤ kj1) ∧ Aside0 (wc.heap[gb161]? = some (.cells #[.int .i64 a0_0, .int .i64 a0_1, .int .i64 a0_2, .int .i64 a0_3, .int .i64 a0_4, .int .i64 a0_5, .int .i64 a0_6, (.slice A0_7 l0_7.length c0_7), (.slice A0_8 l0_8.length c0_8)] 25 (0, 0))) ∧ Aside0 (Below w.heap.size w wc))
    case first =>
     have H := HC32.out
     clear HC32
     by_cases c33 : (l0_7.length : Int) = (wrap64 (a0_0 * a0_1))
     ·rw [if_pos c33] at H
      have c33b0 : ((l0_7.length : Int) == (wrap64 (a0_0 * a0_1))) = true := beq_iff_eq.mpr c33
      have c33b1 : ((l0_7.length : Int) != (wrap64 (a0_0 * a0_1))) = false := bne_eq_false_iff_eq.mpr c33
      clear c33
      (first | rw [c33b0] | (simp only [i64_w, i32_w]; rw [c33b0]) | skip)
      have H' := Aside0.mk H
      clear H
      obtain ⟨hcz34_0, hcz34_1, hcz34_2, hcz34_3, hcz34_4, hcz34_5, hcz34_6, hcz34_7, hcz34_8, hfz34_0, hfz34_1, hfz34_2, hfz34_3, hfz34_4, hfz34_5, hfz34_6, hfz34_7, hfz34_8⟩ := zce9 BK161.out
      go_wp2
      go_meet
      case rel => exact ⟨_, (((l0_8.length : Int) != (wrap64 ((wrap64 ((wrap64 (a0_4 * a0_5)) * a0_0)) * a0_1)))), zq3, H', ⟨by have := HJ1.out; first | omega | exact Nat.le_refl _⟩, ⟨zbf⟩, ⟨zbz⟩⟩
     ·rw [if_neg c33] at H
      have c33b0 : ((l0_7.length : Int) == (wrap64 (a0_0 * a0_1))) = false := beq_eq_false_iff_ne.mpr c33
      have c33b1 : ((l0_7.length : Int) != (wrap64 (a0_0 * a0_1))) = true := bne_iff_ne.mpr c33
      (first | rw [c33b0] | (simp only [i64_w, i32_w]; rw [c33b0]) | skip)
      have H' := Aside0.mk H
      clear H
      obtain ⟨hcz35_0, hcz35_1, hcz35_2, hcz35_3, hcz35_4, hcz35_5, hcz35_6, hcz35_7, hcz35_8, hfz35_0, hfz35_1, hfz35_2, hfz35_3, hfz35_4, hfz35_5, hfz35_6, hfz35_7, hfz35_8⟩ := zce9 BK161.out
      go_wp2
      go_meet
      case rel => exact ⟨_, (true), zq3, H', ⟨by have := HJ1.out; first | omega | exact Nat.le_refl _⟩, ⟨zbf⟩, ⟨zbz⟩⟩
    case rest =>
     clear HC32
     try clear c1
     try clear c2
     try clear p2
     try clear c3
     try clear c4
     try clear c4b0
     try clear c6
     try clear c6b0
     try clear p6
     try clear c8
     try clear c8b0
     try clear c10
     try clear c10b0
     try clear c12
     try clear c12b0
     try clear c14
     try clear c14b0
     try clear c16
     try clear c16b0
     try clear c18
     try clear c18b0
     try clear c20
     try clear c20b0
     try clear c21
     try clear c22
     try clear c22b0
     try clear c24
     try clear c24b0
     try clear c26
     try clear c26b0
     try clear c28
     try clear c28b0
     try clear c31
     try clear c33
     try clear c33b0
     try clear c33b1
     try clear hcz11_0 hcz11_1 hcz11_2 hcz11_3 hcz11_4 hcz11_5 hcz11_6 hcz11_7 hcz11_8
     try clear hcz13_0 hcz13_1 hcz13_2 hcz13_3 hcz13_4 hcz13_5 hcz13_6 hcz13_7 hcz13_8
     try clear hcz15_0 hcz15_1 hcz15_2 hcz15_3 hcz15_4 hcz15_5 hcz15_6 hcz15_7 hcz15_8
     try clear hcz17_0 hcz17_1 hcz17_2 hcz17_3 hcz17_4 hcz17_5 hcz17_6 hcz17_7 hcz17_8
     try clear hcz19_0 hcz19_1 hcz19_2 hcz19_3 hcz19_4 hcz19_5 hcz19_6 hcz19_7 hcz19_8
     try clear hcz21_0 hcz21_1 hcz21_2 hcz21_3 hcz21_4 hcz21_5 hcz21_6 hcz21_7 hcz21_8
     try clear hcz23_0 hcz23_1 hcz23_2 hcz23_3 hcz23_4 hcz23_5 hcz23_6 hcz23_7 hcz23_8
     try clear hcz25_0 hcz25_1 hcz25_2 hcz25_3 hcz25_4 hcz25_5 hcz25_6 hcz25_7 hcz25_8
     try clear hcz27_0 hcz27_1 hcz27_2 hcz27_3 hcz27_4 hcz27_5 hcz27_6 hcz27_7 hcz27_8
     try clear hcz29_0 hcz29_1 hcz29_2 hcz29_3 hcz29_4 hcz29_5 hcz29_6 hcz29_7 hcz29_8
     try clear hcz30_0 hcz30_1 hcz30_2 hcz30_3 hcz30_4 hcz30_5 hcz30_6 hcz30_7 hcz30_8
     try clear hcz34_0 hcz34_1 hcz34_2 hcz34_3 hcz34_4 hcz34_5 hcz34_6 hcz34_7 hcz34_8
     try clear hcz35_0 hcz35_1 hcz35_2 hcz35_3 hcz35_4 hcz35_5 hcz35_6 hcz35_7 hcz35_8
     try clear hcz5_0 hcz5_1 hcz5_2 hcz5_3 hcz5_4 hcz5_5 hcz5_6 hcz5_7 hcz5_8
     try clear hcz7_0 hcz7_1 hcz7_2 hcz7_3 hcz7_4 hcz7_5 hcz7_6 hcz7_7 hcz7_8
     try clear hcz9_0 hcz9_1 hcz9_2 hcz9_3 hcz9_4 hcz9_5 hcz9_6 hcz9_7 hcz9_8
     try clear hfz11_0 hfz11_1 hfz11_2 hfz11_3 hfz11_4 hfz11_5 hfz11_6 hfz11_7 hfz11_8
     try clear hfz13_0 hfz13_1 hfz13_2 hfz13_3 hfz13_4 hfz13_5 hfz13_6 hfz13_7 hfz13_8
     try clear hfz15_0 hfz15_1 hfz15_2 hfz15_3 hfz15_4 hfz15_5 hfz15_6 hfz15_7 hfz15_8
     try clear hfz17_0 hfz17_1 hfz17_2 hfz17_3 hfz17_4 hfz17_5 hfz17_6 hfz17_7 hfz17_8
     try clear hfz19_0 hfz19_1 hfz19_2 hfz19_3 hfz19_4 hfz19_5 hfz19_6 hfz19_7 hfz19_8
     try clear hfz21_0 hfz21_1 hfz21_2 hfz21_3 hfz21_4 hfz21_5 hfz21_6 hfz21_7 hfz21_8
     try clear hfz23_0 hfz23_1 hfz23_2 hfz23_3 hfz23_4 hfz23_5 hfz23_6 hfz23_7 hfz23_8
     try clear hfz25_0 hfz25_1 hfz25_2 hfz25_3 hfz25_4 hfz25_5 hfz25_6 hfz25_7 hfz25_8
     try clear hfz27_0 hfz27_1 hfz27_2 hfz27_3 hfz27_4 hfz27_5 hfz27_6 hfz27_7 hfz27_8
     try clear hfz29_0 hfz29_1 hfz29_2 hfz29_3 hfz29_4 hfz29_5 hfz29_6 hfz29_7 hfz29_8
     try clear hfz30_0 hfz30_1 hfz30_2 hfz30_3 hfz30_4 hfz30_5 hfz30_6 hfz30_7 hfz30_8
     try clear hfz34_0 hfz34_1 hfz34_2 hfz34_3 hfz34_4 hfz34_5 hfz34_6 hfz34_7 hfz34_8
     try clear hfz35_0 hfz35_1 hfz35_2 hfz35_3 hfz35_4 hfz35_5 hfz35_6 hfz35_7 hfz35_8
     try clear hfz5_0 hfz5_1 hfz5_2 hfz5_3 hfz5_4 hfz5_5 hfz5_6 hfz5_7 hfz5_8
     try clear hfz7_0 hfz7_1 hfz7_2 hfz7_3 hfz7_4 hfz7_5 hfz7_6 hfz7_7 hfz7_8
     try clear hfz9_0 hfz9_1 hfz9_2 hfz9_3 hfz9_4 hfz9_5 hfz9_6 hfz9_7 hfz9_8
     try clear p2
     obtain ⟨kq, x97_31, rfl, HA, HJ31, BK161, HB⟩ := hcut
     cases kq with
     | zero => exact absurd HA.out (by simp [isobathref03_CheckSea.j1])
     | succ kj31 =>
      have H := HA.out
      clear HA
      simp only [isobathref03_CheckSea.j1] at H
      by_cases c36 : x97_31 = true
      ·subst c36
       have H1 : (some 2) = some r := by rw [if_pos rfl] at H; exact H
       clear H
       have H := H1
       clear H1
       obtain rfl := Option.some.inj H
       go_wp2
       go_ret
       exact ⟨zq1, zbz⟩
      ·replace c36 := Bool.eq_false_iff.mpr c36
       subst c36
       have H1 : (isobathref03_CheckSea.l0 kj31 0 a0_0 a0_1 a0_2 a0_3 a0_4 a0_5 a0_6 l0_7 l0_8) = some r := by rw [if_neg (show ¬ (false = true) by decide)] at H; exact H
       clear H
       have H := H1
       clear H1
       have H' := Aside0.mk H
       clear H
       go_wp2
       go_loopg [3] kj31 (fun kq v3 w' => ∃ (x3_3 : Int), v3 = .int .i64 x3_3 ∧ Aside0 (isobathref03_CheckSea.l0 kq x3_3 a0_0 a0_1 a0_2 a0_3 a0_4 a0_5 a0_6 l0_7 l0_8 = some r) ∧ Aside0 (kq ≤ kj31) ∧ Aside0 (w'.heap[gb161]? = some (.cells #[.int .i64 a0_0, .int .i64 a0_1, .int .i64 a0_2, .int .i64 a0_3, .int .i64 a0_4, .int .i64 a0_5, .int .i64 a0_6, (.slice A0_7 l0_7.length c0_7), (.slice A0_8 l0_8.length c0_8)] 25 (0, 0))) ∧ Aside0 (Below w.heap.size w w'))
       case atStart => exact ⟨(0), zq3, H', ⟨Nat.le_refl _⟩, ⟨zbf⟩, ⟨zbz⟩⟩
       case round =>
        clear H'
        try clear c1
        try clear c2
        try clear p2
        try clear c3
        try clear c4
        try clear c4b0
        try clear c6
        try clear c6b0
        try clear p6
        try clear c8
        try clear c8b0
        try clear c10
        try clear c10b0
        try clear c12
        try clear c12b0
        try clear c14
        try clear c14b0
        try clear c16
        try clear c16b0
        try clear c18
        try clear c18b0
        try clear c20
        try clear c20b0
        try clear c21
        try clear c22
        try clear c22b0
        try clear c24
        try clear c24b0
        try clear c26
        try clear c26b0
        try clear c28
        try clear c28b0
        try clear c31
        try clear c33
        try clear c33b0
        try clear c33b1
        try clear c36
        try clear hcz11_0 hcz11_1 hcz11_2 hcz11_3 hcz11_4 hcz11_5 hcz11_6 hcz11_7 hcz11_8
        try clear hcz13_0 hcz13_1 hcz13_2 hcz13_3 hcz13_4 hcz13_5 hcz13_6 hcz13_7 hcz13_8
        try clear hcz15_0 hcz15_1 hcz15_2 hcz15_3 hcz15_4 hcz15_5 hcz15_6 hcz15_7 hcz15_8
        try clear hcz17_0 hcz17_1 hcz17_2 hcz17_3 hcz17_4 hcz17_5 hcz17_6 hcz17_7 hcz17_8
        try clear hcz19_0 hcz19_1 hcz19_2 hcz19_3 hcz19_4 hcz19_5 hcz19_6 hcz19_7 hcz19_8
        try clear hcz21_0 hcz21_1 hcz21_2 hcz21_3 hcz21_4 hcz21_5 hcz21_6 hcz21_7 hcz21_8
        try clear hcz23_0 hcz23_1 hcz23_2 hcz23_3 hcz23_4 hcz23_5 hcz23_6 hcz23_7 hcz23_8
        try clear hcz25_0 hcz25_1 hcz25_2 hcz25_3 hcz25_4 hcz25_5 hcz25_6 hcz25_7 hcz25_8
        try clear hcz27_0 hcz27_1 hcz27_2 hcz27_3 hcz27_4 hcz27_5 hcz27_6 hcz27_7 hcz27_8
        try clear hcz29_0 hcz29_1 hcz29_2 hcz29_3 hcz29_4 hcz29_5 hcz29_6 hcz29_7 hcz29_8
        try clear hcz30_0 hcz30_1 hcz30_2 hcz30_3 hcz30_4 hcz30_5 hcz30_6 hcz30_7 hcz30_8
        try clear hcz34_0 hcz34_1 hcz34_2 hcz34_3 hcz34_4 hcz34_5 hcz34_6 hcz34_7 hcz34_8
        try clear hcz35_0 hcz35_1 hcz35_2 hcz35_3 hcz35_4 hcz35_5 hcz35_6 hcz35_7 hcz35_8
        try clear hcz5_0 hcz5_1 hcz5_2 hcz5_3 hcz5_4 hcz5_5 hcz5_6 hcz5_7 hcz5_8
        try clear hcz7_0 hcz7_1 hcz7_2 hcz7_3 hcz7_4 hcz7_5 hcz7_6 hcz7_7 hcz7_8
        try clear hcz9_0 hcz9_1 hcz9_2 hcz9_3 hcz9_4 hcz9_5 hcz9_6 hcz9_7 hcz9_8
        try clear hfz11_0 hfz11_1 hfz11_2 hfz11_3 hfz11_4 hfz11_5 hfz11_6 hfz11_7 hfz11_8
        try clear hfz13_0 hfz13_1 hfz13_2 hfz13_3 hfz13_4 hfz13_5 hfz13_6 hfz13_7 hfz13_8
        try clear hfz15_0 hfz15_1 hfz15_2 hfz15_3 hfz15_4 hfz15_5 hfz15_6 hfz15_7 hfz15_8
        try clear hfz17_0 hfz17_1 hfz17_2 hfz17_3 hfz17_4 hfz17_5 hfz17_6 hfz17_7 hfz17_8
        try clear hfz19_0 hfz19_1 hfz19_2 hfz19_3 hfz19_4 hfz19_5 hfz19_6 hfz19_7 hfz19_8
        try clear hfz21_0 hfz21_1 hfz21_2 hfz21_3 hfz21_4 hfz21_5 hfz21_6 hfz21_7 hfz21_8
        try clear hfz23_0 hfz23_1 hfz23_2 hfz23_3 hfz23_4 hfz23_5 hfz23_6 hfz23_7 hfz23_8
        try clear hfz25_0 hfz25_1 hfz25_2 hfz25_3 hfz25_4 hfz25_5 hfz25_6 hfz25_7 hfz25_8
        try clear hfz27_0 hfz27_1 hfz27_2 hfz27_3 hfz27_4 hfz27_5 hfz27_6 hfz27_7 hfz27_8
        try clear hfz29_0 hfz29_1 hfz29_2 hfz29_3 hfz29_4 hfz29_5 hfz29_6 hfz29_7 hfz29_8
        try clear hfz30_0 hfz30_1 hfz30_2 hfz30_3 hfz30_4 hfz30_5 hfz30_6 hfz30_7 hfz30_8
        try clear hfz34_0 hfz34_1 hfz34_2 hfz34_3 hfz34_4 hfz34_5 hfz34_6 hfz34_7 hfz34_8
        try clear hfz35_0 hfz35_1 hfz35_2 hfz35_3 hfz35_4 hfz35_5 hfz35_6 hfz35_7 hfz35_8
        try clear hfz5_0 hfz5_1 hfz5_2 hfz5_3 hfz5_4 hfz5_5 hfz5_6 hfz5_7 hfz5_8
        try clear hfz7_0 hfz7_1 hfz7_2 hfz7_3 hfz7_4 hfz7_5 hfz7_6 hfz7_7 hfz7_8
        try clear hfz9_0 hfz9_1 hfz9_2 hfz9_3 hfz9_4 hfz9_5 hfz9_6 hfz9_7 hfz9_8
        try clear p2
        try clear p6
        obtain ⟨x3_3, rfl, HA, HK3, BK161, HB⟩ := hrel
        cases gk with
        | zero => exact absurd HA.out (by simp [isobathref03_CheckSea.l0])
        | succ k3 =>
         have H := HA.out
         clear HA
         simp only [isobathref03_CheckSea.l0] at H
         by_cases c37 : x3_3 < (l0_8.length : Int)
         ·rw [if_pos c37] at H
          have c37b0 : decide (x3_3 < (l0_8.length : Int)) = true := decide_eq_true c37
          clear c37
          by_cases c38 : 0 ≤ x3_3
          ·rw [if_pos c38] at H
           have c38b0 : decide (0 ≤ x3_3) = true := decide_eq_true c38
           clear c38
           replace H := Option.bind_eq_some_iff.mp H
           obtain ⟨t163, A390, H⟩ := H
           replace H : (if t163 = true then ((isobathref03_bounded.f ((rd_T33 l0_8 x3_3).f1.f0) ((rd_T33 l0_8 x3_3).f1.f1) (wrap64 (-a0_6)) a0_6).bind fun t165 => (if t165 = true then (isobathref03_CheckSea.l0 k3 (wrap64 (x3_3 + 1)) a0_0 a0_1 a0_2 a0_3 a0_4 a0_5 a0_6 l0_7 l0_8) else (some 2))) else (some 2)) = some r := H
           have A39 := Aside0.mk A390
           clear A390
           by_cases c40 : t163 = true
           ·subst c40
            have H1 : ((isobathref03_bounded.f ((rd_T33 l0_8 x3_3).f1.f0) ((rd_T33 l0_8 x3_3).f1.f1) (wrap64 (-a0_6)) a0_6).bind fun t165 => (if t165 = true then (isobathref03_CheckSea.l0 k3 (wrap64 (x3_3 + 1)) a0_0 a0_1 a0_2 a0_3 a0_4 a0_5 a0_6 l0_7 l0_8) else (some 2))) = some r := by rw [if_pos rfl] at H; exact H
            clear H
            have H := H1
            clear H1
            replace H := Option.bind_eq_some_iff.mp H
            obtain ⟨t165, A410, H⟩ := H
            replace H : (if t165 = true then (isobathref03_CheckSea.l0 k3 (wrap64 (x3_3 + 1)) a0_0 a0_1 a0_2 a0_3 a0_4 a0_5 a0_6 l0_7 l0_8) else (some 2)) = some r := H
            have A41 := Aside0.mk A410
            clear A410
            by_cases c42 : t165 = true
            ·subst c42
             have H1 : (isobathref03_CheckSea.l0 k3 (wrap64 (x3_3 + 1)) a0_0 a0_1 a0_2 a0_3 a0_4 a0_5 a0_6 l0_7 l0_8) = some r := by rw [if_pos rfl] at H; exact H
             clear H
             have H := H1
             clear H1
             have H' := Aside0.mk H
             clear H
             obtain ⟨hcz43_0, hcz43_1, hcz43_2, hcz43_3, hcz43_4, hcz43_5, hcz43_6, hcz43_7, hcz43_8, hfz43_0, hfz43_1, hfz43_2, hfz43_3, hfz43_4, hfz43_5, hfz43_6, hfz43_7, hfz43_8⟩ := zce9 BK161.out
             try go_wp2
             replace BK161 := Aside0.mk (blk_drew BK161.out)
             replace HB := Aside0.mk (below_drew1 HB.out)
             have p162 : 0 ≤ (x3_3 : Int) := of_decide_eq_true zq4
             have q162 : x3_3 < (l0_8.length : Int) := of_decide_eq_true zq4
             obtain ⟨ad162, e162, hx162_0, hx162_1, hx162_2, hx162_3⟩ := at_T33 HR0_8.out x3_3 p162 q162
             have hw162_3 := hx162_3
             have hw162_2 := hx162_2
             have hw162_1 := hx162_1
             have hw162_0 := hx162_0
             cases e162
             replace hx162_0 := (HB.out.cell (World.block_lt_of_cell? w _ hx162_0)).trans hx162_0
             replace hx162_1 := (HB.out.cell (World.block_lt_of_cell? w _ hx162_1)).trans hx162_1
             replace hx162_2 := (HB.out.cell (World.block_lt_of_cell? w _ hx162_2)).trans hx162_2
             replace hx162_3 := (HB.out.cell (World.block_lt_of_cell? w _ hx162_3)).trans hx162_3
             replace p162 := eq_true p162
             replace q162 := eq_true q162
             have p164 : 0 ≤ (x3_3 : Int) := of_decide_eq_true zq4
             have q164 : x3_3 < (l0_8.length : Int) := of_decide_eq_true zq4
             obtain ⟨ad164, e164, hx164_0, hx164_1, hx164_2, hx164_3⟩ := at_T33 HR0_8.out x3_3 p164 q164
             have hw164_3 := hx164_3
             have hw164_2 := hx164_2
             have hw164_1 := hx164_1
             have hw164_0 := hx164_0
             obtain rfl : ad162 = ad164 := (by injection e164)
             replace hx164_0 := (HB.out.cell (World.block_lt_of_cell? w _ hx164_0)).trans hx164_0
             replace hx164_1 := (HB.out.cell (World.block_lt_of_cell? w _ hx164_1)).trans hx164_1
             replace hx164_2 := (HB.out.cell (World.block_lt_of_cell? w _ hx164_2)).trans hx164_2
             replace hx164_3 := (HB.out.cell (World.block_lt_of_cell? w _ hx164_3)).trans hx164_3
             replace p164 := eq_true p164
             replace q164 := eq_true q164
             refine start_ (n := 28) (S := fun w' => w'.cell? ⟨gb161, 0, none⟩ = some (.int .i64 a0_0) ∧ w'.cell? ⟨gb161, 1, none⟩ = some (.int .i64 a0_1) ∧ w'.cell? ⟨gb161, 2, none⟩ = some (.int .i64 a0_2) ∧ w'.cell? ⟨gb161, 3, none⟩ = some (.int .i64 a0_3) ∧ w'.cell? ⟨gb161, 4, none⟩ = some (.int .i64 a0_4) ∧ w'.cell? ⟨gb161, 5, none⟩ = some (.int .i64 a0_5) ∧ w'.cell? ⟨gb161, 6, none⟩ = some (.int .i64 a0_6) ∧ w'.cell? ⟨gb161, 7, none⟩ = some (.slice A0_7 l0_7.length c0_7) ∧ w'.cell? ⟨gb161, 8, none⟩ = some (.slice (some ad162) l0_8.length c0_8) ∧ w'.cell? (ad162.add ((x3_3).toNat * 4)) = some (.int .i64 ((rd_T33 l0_8 x3_3).f0.f0)) ∧ w'.cell? ⟨(ad162.add ((x3_3).toNat * 4)).block, (ad162.add ((x3_3).toNat * 4)).off + 1, none⟩ = some (.int .i64 ((rd_T33 l0_8 x3_3).f0.f1)) ∧ w'.cell? ⟨(ad162.add ((x3_3).toNat * 4)).block, (ad162.add ((x3_3).toNat * 4)).off + 2, none⟩ = some (.int .i64 ((rd_T33 l0_8 x3_3).f1.f0)) ∧ w'.cell? ⟨(ad162.add ((x3_3).toNat * 4)).block, (ad162.add ((x3_3).toNat * 4)).off + 3, none⟩ = some (.int .i64 ((rd_T33 l0_8 x3_3).f1.f1)) ∧ w'.cell? (ad162.add ((x3_3).toNat * 4)) = some (.int .i64 ((rd_T33 l0_8 x3_3).f0.f0)) ∧ w'.cell? ⟨(ad162.add ((x3_3).toNat * 4)).block, (ad162.add ((x3_3).toNat * 4)).off + 1, none⟩ = some (.int .i64 ((rd_T33 l0_8 x3_3).f0.f1)) ∧ w'.cell? ⟨(ad162.add ((x3_3).toNat * 4)).block, (ad162.add ((x3_3).toNat * 4)).off + 2, none⟩ = some (.int .i64 ((rd_T33 l0_8 x3_3).f1.f0)) ∧ w'.cell? ⟨(ad162.add ((x3_3).toNat * 4)).block, (ad162.add ((x3_3).toNat * 4)).off + 3, none⟩ = some (.int .i64 ((rd_T33 l0_8 x3_3).f1.f1))) (ds := []) #[false, false, false, false, false, false, false, false, false, false, false, false, false, false, false, false, false, false, false, false, false, false, false, false, false, false, false, false] zq2 rfl rfl (zca9 BK161.out ⟨((HB.out.cell (World.block_lt_of_cell? w _ hw162_0)).trans hw162_0), ((HB.out.cell (World.block_lt_of_cell? w _ hw162_1)).trans hw162_1), ((HB.out.cell (World.block_lt_of_cell? w _ hw162_2)).trans hw162_2), ((HB.out.cell (World.block_lt_of_cell? w _ hw162_3)).trans hw162_3), ((HB.out.cell (World.block_lt_of_cell? w _ hw164_0)).trans hw164_0), ((HB.out.cell (World.block_lt_of_cell? w _ hw164_1)).trans hw164_1), ((HB.out.cell (World.block_lt_of_cell? w _ hw164_2)).trans hw164_2), ((HB.out.cell (World.block_lt_of_cell? w _ hw164_3)).trans hw164_3)⟩) (fun hHeld => ?_); refine with_tabW isobathref03_CheckSea.tab8 isobathref03_CheckSea.bits8 (fun HT_ HW_ => ?_)
             generalize wr.drew = w44 at BK161 HB hx162_0 hx162_1 hx162_2 hx162_3 hx164_0 hx164_1 hx164_2 hx164_3 hHeld ⊢
             refine zpz (i := 0) (N := some 105) (any_of HT_.out zq2) ?_
             refine zpz (i := 2) (N := some 107) (any_of HT_.out zq2) ?_
             refine zpz (i := 6) (N := some 111) (any_of HT_.out zq2) ?_
             refine zpz (i := 9) (N := some 114) (any_of HT_.out zq2) ?_
             refine ztz (i := 1) (N := some 106) (take_ofW HT_.out HW_.out zq2) hHeld ?_
             refine zpz (i := 3) (N := some 108) (any_of HT_.out zq2) ?_
             refine zpz (i := 4) (N := some 109) (any_of HT_.out zq2) ?_
             refine ztz (i := 5) (N := some 110) (take_ofW HT_.out HW_.out zq2) hHeld ?_
             refine ztz (i := 7) (N := some 112) (take_ofW HT_.out HW_.out zq2) hHeld ?_
             refine zpz (i := 8) (N := some 113) (any_of HT_.out zq2) ?_
             refine ztz (i := 10) (N := some 115) (take_ofW HT_.out HW_.out zq2) hHeld ?_
             refine one_ (i := 11) (N := some 116) #[true, true, true, true, true, true, true, true, true, true, true, true, false, false, false, false, false, false, false, false, false, false, false, false, false, false, false, false] rfl rfl (one_of HT_.out zq2) (by decide) (fun K hK => ?_)
             refine goes_ Try.func73 zq2 rfl #[.agg #[.int .i64 ((rd_T33 l0_8 x3_3).f0.f0), .int .i64 ((rd_T33 l0_8 x3_3).f0.f1)], .int .i64 (wrap64 (-a0_6)), .int .i64 a0_6] (by rfl) rfl rfl zq6 ?_
             with_reducible refine (isobathref03_bounded.calls ((rd_T33 l0_8 x3_3).f0.f0) ((rd_T33 l0_8 x3_3).f0.f1) (wrap64 (-a0_6)) a0_6 true _ A39.out).mono ?_
             rintro e w45 ⟨rfl, hb⟩
             refine ⟨_, rfl, ?_⟩
             replace BK161 := zbb BK161 hb
             replace HB := zbs HB hb
             (try clear hb)
             (try clear hb2)
             (try clear hk)
             (try clear hi)
             refine hK.out _ _ (zca9 BK161.out ⟨((HB.out.cell (World.block_lt_of_cell? w _ hw162_0)).trans hw162_0), ((HB.out.cell (World.block_lt_of_cell? w _ hw162_1)).trans hw162_1), ((HB.out.cell (World.block_lt_of_cell? w _ hw162_2)).trans hw162_2), ((HB.out.cell (World.block_lt_of_cell? w _ hw162_3)).trans hw162_3), ((HB.out.cell (World.block_lt_of_cell? w _ hw164_0)).trans hw164_0), ((HB.out.cell (World.block_lt_of_cell? w _ hw164_1)).trans hw164_1), ((HB.out.cell (World.block_lt_of_cell? w _ hw164_2)).trans hw164_2), ((HB.out.cell (World.block_lt_of_cell? w _ hw164_3)).trans hw164_3)⟩) (fun hHeld => ?_)
             clear hK K
             refine norm_ zq23 ?_
             refine zpz (i := 12) (N := some 117) (any_of HT_.out zq2) ?_
             refine zpz (i := 13) (N := some 118) (any_of HT_.out zq2) ?_
             refine zpz (i := 14) (N := some 119) (any_of HT_.out zq2) ?_
             refine zpz (i := 16) (N := some 121) (any_of HT_.out zq2) ?_
             refine zpz (i := 20) (N := some 125) (any_of HT_.out zq2) ?_
             refine zpz (i := 23) (N := some 128) (any_of HT_.out zq2) ?_
             refine ztz (i := 15) (N := some 120) (take_ofW HT_.out HW_.out zq2) hHeld ?_
             refine zpz (i := 17) (N := some 122) (any_of HT_.out zq2) ?_
             refine zpz (i := 18) (N := some 123) (any_of HT_.out zq2) ?_
             refine ztz (i := 19) (N := some 124) (take_ofW HT_.out HW_.out zq2) hHeld ?_
             refine ztz (i := 21) (N := some 126) (take_ofW HT_.out HW_.out zq2) hHeld ?_
             refine zpz (i := 22) (N := some 127) (any_of HT_.out zq2) ?_
             refine ztz (i := 24) (N := some 129) (take_ofW HT_.out HW_.out zq2) hHeld ?_
             refine one_ (i := 25) (N := some 130) #[true, true, true, true, true, true, true, true, true, true, true, true, true, true, true, true, true, true, true, true, true, true, true, true, true, true, false, false] rfl rfl (one_of HT_.out zq2) (by decide) (fun K hK => ?_)
             refine goes_ Try.func73 zq2 rfl #[.agg #[.int .i64 ((rd_T33 l0_8 x3_3).f1.f0), .int .i64 ((rd_T33 l0_8 x3_3).f1.f1)], .int .i64 (wrap64 (-a0_6)), .int .i64 a0_6] (by rfl) rfl rfl zq6 ?_
             with_reducible refine (isobathref03_bounded.calls ((rd_T33 l0_8 x3_3).f1.f0) ((rd_T33 l0_8 x3_3).f1.f1) (wrap64 (-a0_6)) a0_6 true _ A41.out).mono ?_
             rintro e w46 ⟨rfl, hb⟩
             refine ⟨_, rfl, ?_⟩
             replace BK161 := zbb BK161 hb
             replace HB := zbs HB hb
             (try clear hb)
             (try clear hb2)
             (try clear hk)
             (try clear hi)
             refine hK.out _ _ (zca9 BK161.out ⟨((HB.out.cell (World.block_lt_of_cell? w _ hw162_0)).trans hw162_0), ((HB.out.cell (World.block_lt_of_cell? w _ hw162_1)).trans hw162_1), ((HB.out.cell (World.block_lt_of_cell? w _ hw162_2)).trans hw162_2), ((HB.out.cell (World.block_lt_of_cell? w _ hw162_3)).trans hw162_3), ((HB.out.cell (World.block_lt_of_cell? w _ hw164_0)).trans hw164_0), ((HB.out.cell (World.block_lt_of_cell? w _ hw164_1)).trans hw164_1), ((HB.out.cell (World.block_lt_of_cell? w _ hw164_2)).trans hw164_2), ((HB.out.cell (World.block_lt_of_cell? w _ hw164_3)).trans hw164_3)⟩) (fun hHeld => ?_)
             clear hK K
             refine norm_ zq24 ?_
             refine zpz (i := 26) (N := some 131) (any_of HT_.out zq2) ?_
             refine zpz (i := 27) (N := some 132) (any_of HT_.out zq2) ?_
             refine done_ (done_of HT_.out zq2) ?_
             try go_wp2
             go_roundg k3
             case measure => have := HJ1.out; have := HJ31.out; have := HK3.out; omega
             case rel => exact ⟨(wrap64 (x3_3 + 1)), zq3, H', ⟨by have := HJ1.out; have := HJ31.out; have := HK3.out; omega⟩, ⟨zbf⟩, ⟨zbz⟩⟩
            ·replace c42 := Bool.eq_false_iff.mpr c42
             subst c42
             have H1 : (some 2) = some r := by rw [if_neg (show ¬ (false = true) by decide)] at H; exact H
             clear H
             have H := H1
             clear H1
             obtain rfl := Option.some.inj H
             obtain ⟨hcz47_0, hcz47_1, hcz47_2, hcz47_3, hcz47_4, hcz47_5, hcz47_6, hcz47_7, hcz47_8, hfz47_0, hfz47_1, hfz47_2, hfz47_3, hfz47_4, hfz47_5, hfz47_6, hfz47_7, hfz47_8⟩ := zce9 BK161.out
             try go_wp2
             replace BK161 := Aside0.mk (blk_drew BK161.out)
             replace HB := Aside0.mk (below_drew1 HB.out)
             have p162 : 0 ≤ (x3_3 : Int) := of_decide_eq_true zq4
             have q162 : x3_3 < (l0_8.length : Int) := of_decide_eq_true zq4
             obtain ⟨ad162, e162, hx162_0, hx162_1, hx162_2, hx162_3⟩ := at_T33 HR0_8.out x3_3 p162 q162
             have hw162_3 := hx162_3
             have hw162_2 := hx162_2
             have hw162_1 := hx162_1
             have hw162_0 := hx162_0
             cases e162
             replace hx162_0 := (HB.out.cell (World.block_lt_of_cell? w _ hx162_0)).trans hx162_0
             replace hx162_1 := (HB.out.cell (World.block_lt_of_cell? w _ hx162_1)).trans hx162_1
             replace hx162_2 := (HB.out.cell (World.block_lt_of_cell? w _ hx162_2)).trans hx162_2
             replace hx162_3 := (HB.out.cell (World.block_lt_of_cell? w _ hx162_3)).trans hx162_3
             replace p162 := eq_true p162
             replace q162 := eq_true q162
             have p164 : 0 ≤ (x3_3 : Int) := of_decide_eq_true zq4
             have q164 : x3_3 < (l0_8.length : Int) := of_decide_eq_true zq4
             obtain ⟨ad164, e164, hx164_0, hx164_1, hx164_2, hx164_3⟩ := at_T33 HR0_8.out x3_3 p164 q164
             have hw164_3 := hx164_3
             have hw164_2 := hx164_2
             have hw164_1 := hx164_1
             have hw164_0 := hx164_0
             obtain rfl : ad162 = ad164 := (by injection e164)
             replace hx164_0 := (HB.out.cell (World.block_lt_of_cell? w _ hx164_0)).trans hx164_0
             replace hx164_1 := (HB.out.cell (World.block_lt_of_cell? w _ hx164_1)).trans hx164_1
             replace hx164_2 := (HB.out.cell (World.block_lt_of_cell? w _ hx164_2)).trans hx164_2
             replace hx164_3 := (HB.out.cell (World.block_lt_of_cell? w _ hx164_3)).trans hx164_3
             replace p164 := eq_true p164
             replace q164 := eq_true q164
             refine start_ (n := 28) (S := fun w' => w'.cell? ⟨gb161, 0, none⟩ = some (.int .i64 a0_0) ∧ w'.cell? ⟨gb161, 1, none⟩ = some (.int .i64 a0_1) ∧ w'.cell? ⟨gb161, 2, none⟩ = some (.int .i64 a0_2) ∧ w'.cell? ⟨gb161, 3, none⟩ = some (.int .i64 a0_3) ∧ w'.cell? ⟨gb161, 4, none⟩ = some (.int .i64 a0_4) ∧ w'.cell? ⟨gb161, 5, none⟩ = some (.int .i64 a0_5) ∧ w'.cell? ⟨gb161, 6, none⟩ = some (.int .i64 a0_6) ∧ w'.cell? ⟨gb161, 7, none⟩ = some (.slice A0_7 l0_7.length c0_7) ∧ w'.cell? ⟨gb161, 8, none⟩ = some (.slice (some ad162) l0_8.length c0_8) ∧ w'.cell? (ad162.add ((x3_3).toNat * 4)) = some (.int .i64 ((rd_T33 l0_8 x3_3).f0.f0)) ∧ w'.cell? ⟨(ad162.add ((x3_3).toNat * 4)).block, (ad162.add ((x3_3).toNat * 4)).off + 1, none⟩ = some (.int .i64 ((rd_T33 l0_8 x3_3).f0.f1)) ∧ w'.cell? ⟨(ad162.add ((x3_3).toNat * 4)).block, (ad162.add ((x3_3).toNat * 4)).off + 2, none⟩ = some (.int .i64 ((rd_T33 l0_8 x3_3).f1.f0)) ∧ w'.cell? ⟨(ad162.add ((x3_3).toNat * 4)).block, (ad162.add ((x3_3).toNat * 4)).off + 3, none⟩ = some (.int .i64 ((rd_T33 l0_8 x3_3).f1.f1)) ∧ w'.cell? (ad162.add ((x3_3).toNat * 4)) = some (.int .i64 ((rd_T33 l0_8 x3_3).f0.f0)) ∧ w'.cell? ⟨(ad162.add ((x3_3).toNat * 4)).block, (ad162.add ((x3_3).toNat * 4)).off + 1, none⟩ = some (.int .i64 ((rd_T33 l0_8 x3_3).f0.f1)) ∧ w'.cell? ⟨(ad162.add ((x3_3).toNat * 4)).block, (ad162.add ((x3_3).toNat * 4)).off + 2, none⟩ = some (.int .i64 ((rd_T33 l0_8 x3_3).f1.f0)) ∧ w'.cell? ⟨(ad162.add ((x3_3).toNat * 4)).block, (ad162.add ((x3_3).toNat * 4)).off + 3, none⟩ = some (.int .i64 ((rd_T33 l0_8 x3_3).f1.f1))) (ds := []) #[false, false, false, false, false, false, false, false, false, false, false, false, false, false, false, false, false, false, false, false, false, false, false, false, false, false, false, false] zq2 rfl rfl (zca9 BK161.out ⟨((HB.out.cell (World.block_lt_of_cell? w _ hw162_0)).trans hw162_0), ((HB.out.cell (World.block_lt_of_cell? w _ hw162_1)).trans hw162_1), ((HB.out.cell (World.block_lt_of_cell? w _ hw162_2)).trans hw162_2), ((HB.out.cell (World.block_lt_of_cell? w _ hw162_3)).trans hw162_3), ((HB.out.cell (World.block_lt_of_cell? w _ hw164_0)).trans hw164_0), ((HB.out.cell (World.block_lt_of_cell? w _ hw164_1)).trans hw164_1), ((HB.out.cell (World.block_lt_of_cell? w _ hw164_2)).trans hw164_2), ((HB.out.cell (World.block_lt_of_cell? w _ hw164_3)).trans hw164_3)⟩) (fun hHeld => ?_); refine with_tabW isobathref03_CheckSea.tab8 isobathref03_CheckSea.bits8 (fun HT_ HW_ => ?_)
             generalize wr.drew = w48 at BK161 HB hx162_0 hx162_1 hx162_2 hx162_3 hx164_0 hx164_1 hx164_2 hx164_3 hHeld ⊢
             refine zpz (i := 0) (N := some 105) (any_of HT_.out zq2) ?_
             refine zpz (i := 2) (N := some 107) (any_of HT_.out zq2) ?_
             refine zpz (i := 6) (N := some 111) (any_of HT_.out zq2) ?_
             refine zpz (i := 9) (N := some 114) (any_of HT_.out zq2) ?_
             refine ztz (i := 1) (N := some 106) (take_ofW HT_.out HW_.out zq2) hHeld ?_
             refine zpz (i := 3) (N := some 108) (any_of HT_.out zq2) ?_
             refine zpz (i := 4) (N := some 109) (any_of HT_.out zq2) ?_
             refine ztz (i := 5) (N := some 110) (take_ofW HT_.out HW_.out zq2) hHeld ?_
             refine ztz (i := 7) (N := some 112) (take_ofW HT_.out HW_.out zq2) hHeld ?_
             refine zpz (i := 8) (N := some 113) (any_of HT_.out zq2) ?_
             refine ztz (i := 10) (N := some 115) (take_ofW HT_.out HW_.out zq2) hHeld ?_
             refine one_ (i := 11) (N := some 116) #[true, true, true, true, true, true, true, true, true, true, true, true, false, false, false, false, false, false, false, false, false, false, false, false, false, false, false, false] rfl rfl (one_of HT_.out zq2) (by decide) (fun K hK => ?_)
             refine goes_ Try.func73 zq2 rfl #[.agg #[.int .i64 ((rd_T33 l0_8 x3_3).f0.f0), .int .i64 ((rd_T33 l0_8 x3_3).f0.f1)], .int .i64 (wrap64 (-a0_6)), .int .i64 a0_6] (by rfl) rfl rfl zq6 ?_
             with_reducible refine (isobathref03_bounded.calls ((rd_T33 l0_8 x3_3).f0.f0) ((rd_T33 l0_8 x3_3).f0.f1) (wrap64 (-a0_6)) a0_6 true _ A39.out).mono ?_
             rintro e w49 ⟨rfl, hb⟩
             refine ⟨_, rfl, ?_⟩
             replace BK161 := zbb BK161 hb
             replace HB := zbs HB hb
             (try clear hb)
             (try clear hb2)
             (try clear hk)
             (try clear hi)
             refine hK.out _ _ (zca9 BK161.out ⟨((HB.out.cell (World.block_lt_of_cell? w _ hw162_0)).trans hw162_0), ((HB.out.cell (World.block_lt_of_cell? w _ hw162_1)).trans hw162_1), ((HB.out.cell (World.block_lt_of_cell? w _ hw162_2)).trans hw162_2), ((HB.out.cell (World.block_lt_of_cell? w _ hw162_3)).trans hw162_3), ((HB.out.cell (World.block_lt_of_cell? w _ hw164_0)).trans hw164_0), ((HB.out.cell (World.block_lt_of_cell? w _ hw164_1)).trans hw164_1), ((HB.out.cell (World.block_lt_of_cell? w _ hw164_2)).trans hw164_2), ((HB.out.cell (World.block_lt_of_cell? w _ hw164_3)).trans hw164_3)⟩) (fun hHeld => ?_)
             clear hK K
             refine norm_ zq23 ?_
             refine zpz (i := 12) (N := some 117) (any_of HT_.out zq2) ?_
             refine zpz (i := 13) (N := some 118) (any_of HT_.out zq2) ?_
             refine zpz (i := 14) (N := some 119) (any_of HT_.out zq2) ?_
             refine zpz (i := 16) (N := some 121) (any_of HT_.out zq2) ?_
             refine zpz (i := 20) (N := some 125) (any_of HT_.out zq2) ?_
             refine zpz (i := 23) (N := some 128) (any_of HT_.out zq2) ?_
             refine ztz (i := 15) (N := some 120) (take_ofW HT_.out HW_.out zq2) hHeld ?_
             refine zpz (i := 17) (N := some 122) (any_of HT_.out zq2) ?_
             refine zpz (i := 18) (N := some 123) (any_of HT_.out zq2) ?_
             refine ztz (i := 19) (N := some 124) (take_ofW HT_.out HW_.out zq2) hHeld ?_
             refine ztz (i := 21) (N := some 126) (take_ofW HT_.out HW_.out zq2) hHeld ?_
             refine zpz (i := 22) (N := some 127) (any_of HT_.out zq2) ?_
             refine ztz (i := 24) (N := some 129) (take_ofW HT_.out HW_.out zq2) hHeld ?_
             refine one_ (i := 25) (N := some 130) #[true, true, true, true, true, true, true, true, true, true, true, true, true, true, true, true, true, true, true, true, true, true, true, true, true, true, false, false] rfl rfl (one_of HT_.out zq2) (by decide) (fun K hK => ?_)
             refine goes_ Try.func73 zq2 rfl #[.agg #[.int .i64 ((rd_T33 l0_8 x3_3).f1.f0), .int .i64 ((rd_T33 l0_8 x3_3).f1.f1)], .int .i64 (wrap64 (-a0_6)), .int .i64 a0_6] (by rfl) rfl rfl zq6 ?_
             with_reducible refine (isobathref03_bounded.calls ((rd_T33 l0_8 x3_3).f1.f0) ((rd_T33 l0_8 x3_3).f1.f1) (wrap64 (-a0_6)) a0_6 false _ A41.out).mono ?_
             rintro e w50 ⟨rfl, hb⟩
             refine ⟨_, rfl, ?_⟩
             replace BK161 := zbb BK161 hb
             replace HB := zbs HB hb
             (try clear hb)
             (try clear hb2)
             (try clear hk)
             (try clear hi)
             refine hK.out _ _ (zca9 BK161.out ⟨((HB.out.cell (World.block_lt_of_cell? w _ hw162_0)).trans hw162_0), ((HB.out.cell (World.block_lt_of_cell? w _ hw162_1)).trans hw162_1), ((HB.out.cell (World.block_lt_of_cell? w _ hw162_2)).trans hw162_2), ((HB.out.cell (World.block_lt_of_cell? w _ hw162_3)).trans hw162_3), ((HB.out.cell (World.block_lt_of_cell? w _ hw164_0)).trans hw164_0), ((HB.out.cell (World.block_lt_of_cell? w _ hw164_1)).trans hw164_1), ((HB.out.cell (World.block_lt_of_cell? w _ hw164_2)).trans hw164_2), ((HB.out.cell (World.block_lt_of_cell? w _ hw164_3)).trans hw164_3)⟩) (fun hHeld => ?_)
             clear hK K
             refine norm_ zq24 ?_
             refine zpz (i := 26) (N := some 131) (any_of HT_.out zq2) ?_
             refine zpz (i := 27) (N := some 132) (any_of HT_.out zq2) ?_
             refine done_ (done_of HT_.out zq2) ?_
             try go_wp2
             go_ret
             exact ⟨zq1, zbz⟩
           ·replace c40 := Bool.eq_false_iff.mpr c40
            subst c40
            have H1 : (some 2) = some r := by rw [if_neg (show ¬ (false = true) by decide)] at H; exact H
            clear H
            have H := H1
            clear H1
            obtain rfl := Option.some.inj H
            obtain ⟨hcz51_0, hcz51_1, hcz51_2, hcz51_3, hcz51_4, hcz51_5, hcz51_6, hcz51_7, hcz51_8, hfz51_0, hfz51_1, hfz51_2, hfz51_3, hfz51_4, hfz51_5, hfz51_6, hfz51_7, hfz51_8⟩ := zce9 BK161.out
            try go_wp2
            replace BK161 := Aside0.mk (blk_drew BK161.out)
            replace HB := Aside0.mk (below_drew1 HB.out)
            have p162 : 0 ≤ (x3_3 : Int) := of_decide_eq_true zq4
            have q162 : x3_3 < (l0_8.length : Int) := of_decide_eq_true zq4
            obtain ⟨ad162, e162, hx162_0, hx162_1, hx162_2, hx162_3⟩ := at_T33 HR0_8.out x3_3 p162 q162
            have hw162_3 := hx162_3
            have hw162_2 := hx162_2
            have hw162_1 := hx162_1
            have hw162_0 := hx162_0
            cases e162
            replace hx162_0 := (HB.out.cell (World.block_lt_of_cell? w _ hx162_0)).trans hx162_0
            replace hx162_1 := (HB.out.cell (World.block_lt_of_cell? w _ hx162_1)).trans hx162_1
            replace hx162_2 := (HB.out.cell (World.block_lt_of_cell? w _ hx162_2)).trans hx162_2
            replace hx162_3 := (HB.out.cell (World.block_lt_of_cell? w _ hx162_3)).trans hx162_3
            replace p162 := eq_true p162
            replace q162 := eq_true q162
            refine start_ (n := 28) (S := fun w' => w'.cell? ⟨gb161, 0, none⟩ = some (.int .i64 a0_0) ∧ w'.cell? ⟨gb161, 1, none⟩ = some (.int .i64 a0_1) ∧ w'.cell? ⟨gb161, 2, none⟩ = some (.int .i64 a0_2) ∧ w'.cell? ⟨gb161, 3, none⟩ = some (.int .i64 a0_3) ∧ w'.cell? ⟨gb161, 4, none⟩ = some (.int .i64 a0_4) ∧ w'.cell? ⟨gb161, 5, none⟩ = some (.int .i64 a0_5) ∧ w'.cell? ⟨gb161, 6, none⟩ = some (.int .i64 a0_6) ∧ w'.cell? ⟨gb161, 7, none⟩ = some (.slice A0_7 l0_7.length c0_7) ∧ w'.cell? ⟨gb161, 8, none⟩ = some (.slice (some ad162) l0_8.length c0_8) ∧ w'.cell? (ad162.add ((x3_3).toNat * 4)) = some (.int .i64 ((rd_T33 l0_8 x3_3).f0.f0)) ∧ w'.cell? ⟨(ad162.add ((x3_3).toNat * 4)).block, (ad162.add ((x3_3).toNat * 4)).off + 1, none⟩ = some (.int .i64 ((rd_T33 l0_8 x3_3).f0.f1)) ∧ w'.cell? ⟨(ad162.add ((x3_3).toNat * 4)).block, (ad162.add ((x3_3).toNat * 4)).off + 2, none⟩ = some (.int .i64 ((rd_T33 l0_8 x3_3).f1.f0)) ∧ w'.cell? ⟨(ad162.add ((x3_3).toNat * 4)).block, (ad162.add ((x3_3).toNat * 4)).off + 3, none⟩ = some (.int .i64 ((rd_T33 l0_8 x3_3).f1.f1))) (ds := []) #[false, false, false, false, false, false, false, false, false, false, false, false, false, false, false, false, false, false, false, false, false, false, false, false, false, false, false, false] zq2 rfl rfl (zca9 BK161.out ⟨((HB.out.cell (World.block_lt_of_cell? w _ hw162_0)).trans hw162_0), ((HB.out.cell (World.block_lt_of_cell? w _ hw162_1)).trans hw162_1), ((HB.out.cell (World.block_lt_of_cell? w _ hw162_2)).trans hw162_2), ((HB.out.cell (World.block_lt_of_cell? w _ hw162_3)).trans hw162_3)⟩) (fun hHeld => ?_); refine with_tabW isobathref03_CheckSea.tab8 isobathref03_CheckSea.bits8 (fun HT_ HW_ => ?_)
            generalize wr.drew = w52 at BK161 HB hx162_0 hx162_1 hx162_2 hx162_3 hHeld ⊢
            refine zpz (i := 0) (N := some 105) (any_of HT_.out zq2) ?_
            refine zpz (i := 2) (N := some 107) (any_of HT_.out zq2) ?_
            refine zpz (i := 6) (N := some 111) (any_of HT_.out zq2) ?_
            refine zpz (i := 9) (N := some 114) (any_of HT_.out zq2) ?_
            refine ztz (i := 1) (N := some 106) (take_ofW HT_.out HW_.out zq2) hHeld ?_
            refine zpz (i := 3) (N := some 108) (any_of HT_.out zq2) ?_
            refine zpz (i := 4) (N := some 109) (any_of HT_.out zq2) ?_
            refine ztz (i := 5) (N := some 110) (take_ofW HT_.out HW_.out zq2) hHeld ?_
            refine ztz (i := 7) (N := some 112) (take_ofW HT_.out HW_.out zq2) hHeld ?_
            refine zpz (i := 8) (N := some 113) (any_of HT_.out zq2) ?_
            refine ztz (i := 10) (N := some 115) (take_ofW HT_.out HW_.out zq2) hHeld ?_
            refine one_ (i := 11) (N := some 116) #[true, true, true, true, true, true, true, true, true, true, true, true, false, false, false, false, false, false, false, false, false, false, false, false, false, false, false, false] rfl rfl (one_of HT_.out zq2) (by decide) (fun K hK => ?_)
            refine goes_ Try.func73 zq2 rfl #[.agg #[.int .i64 ((rd_T33 l0_8 x3_3).f0.f0), .int .i64 ((rd_T33 l0_8 x3_3).f0.f1)], .int .i64 (wrap64 (-a0_6)), .int .i64 a0_6] (by rfl) rfl rfl zq6 ?_
            with_reducible refine (isobathref03_bounded.calls ((rd_T33 l0_8 x3_3).f0.f0) ((rd_T33 l0_8 x3_3).f0.f1) (wrap64 (-a0_6)) a0_6 false _ A39.out).mono ?_
            rintro e w53 ⟨rfl, hb⟩
            refine ⟨_, rfl, ?_⟩
            replace BK161 := zbb BK161 hb
            replace HB := zbs HB hb
            (try clear hb)
            (try clear hb2)
            (try clear hk)
            (try clear hi)
            refine hK.out _ _ (zca9 BK161.out ⟨((HB.out.cell (World.block_lt_of_cell? w _ hw162_0)).trans hw162_0), ((HB.out.cell (World.block_lt_of_cell? w _ hw162_1)).trans hw162_1), ((HB.out.cell (World.block_lt_of_cell? w _ hw162_2)).trans hw162_2), ((HB.out.cell (World.block_lt_of_cell? w _ hw162_3)).trans hw162_3)⟩) (fun hHeld => ?_)
            clear hK K
            refine norm_ zq23 ?_
            refine zpz (i := 12) (N := some 117) (any_of HT_.out zq2) ?_
            refine zpz (i := 13) (N := some 118) (any_of HT_.out zq2) ?_
            refine pure_ (i := 14) (N := some 119) (v := undef) (a' := ?_) #[true, true, true, true, true, true, true, true, true, true, true, true, true, true, true, false, false, false, false, false, false, false, false, false, false, false, false, false] rfl rfl (any_of HT_.out zq2) (fun _ _ _ h => h) (Or.inr ⟨by rfl, rfl⟩) ?_ ?_
            rotate_left
            ·simp only [Act.put, List.setIfInBounds_toArray, List.set_cons_zero, List.set_cons_succ, i64_w, i32_w]
             rfl
            refine pure_ (i := 15) (N := some 120) (v := undef) (a' := ?_) #[true, true, true, true, true, true, true, true, true, true, true, true, true, true, true, true, false, false, false, false, false, false, false, false, false, false, false, false] rfl rfl (any_of HT_.out zq2) (fun _ _ _ h => h) (Or.inr ⟨by rfl, rfl⟩) ?_ ?_
            rotate_left
            ·simp only [Act.put, List.setIfInBounds_toArray, List.set_cons_zero, List.set_cons_succ, i64_w, i32_w]
             rfl
            refine pure_ (i := 16) (N := some 121) (v := undef) (a' := ?_) #[true, true, true, true, true, true, true, true, true, true, true, true, true, true, true, true, true, false, false, false, false, false, false, false, false, false, false, false] rfl rfl (any_of HT_.out zq2) (fun _ _ _ h => h) (Or.inr ⟨by rfl, rfl⟩) ?_ ?_
            rotate_left
            ·simp only [Act.put, List.setIfInBounds_toArray, List.set_cons_zero, List.set_cons_succ, i64_w, i32_w]
             rfl
            refine pure_ (i := 17) (N := some 122) (v := undef) (a' := ?_) #[true, true, true, true, true, true, true, true, true, true, true, true, true, true, true, true, true, true, false, false, false, false, false, false, false, false, false, false] rfl rfl (any_of HT_.out zq2) (fun _ _ _ h => h) (Or.inr ⟨by rfl, rfl⟩) ?_ ?_
            rotate_left
            ·simp only [Act.put, List.setIfInBounds_toArray, List.set_cons_zero, List.set_cons_succ, i64_w, i32_w]
             rfl
            refine pure_ (i := 18) (N := some 123) (v := undef) (a' := ?_) #[true, true, true, true, true, true, true, true, true, true, true, true, true, true, true, true, true, true, true, false, false, false, false, false, false, false, false, false] rfl rfl (any_of HT_.out zq2) (fun _ _ _ h => h) (Or.inr ⟨by rfl, rfl⟩) ?_ ?_
            rotate_left
            ·simp only [Act.put, List.setIfInBounds_toArray, List.set_cons_zero, List.set_cons_succ, i64_w, i32_w]
             rfl
            refine pure_ (i := 19) (N := some 124) (v := undef) (a' := ?_) #[true, true, true, true, true, true, true, true, true, true, true, true, true, true, true, true, true, true, true, true, false, false, false, false, false, false, false, false] rfl rfl (any_of HT_.out zq2) (fun _ _ _ h => h) (Or.inr ⟨by rfl, rfl⟩) ?_ ?_
            rotate_left
            ·simp only [Act.put, List.setIfInBounds_toArray, List.set_cons_zero, List.set_cons_succ, i64_w, i32_w]
             rfl
            refine pure_ (i := 20) (N := some 125) (v := undef) (a' := ?_) #[true, true, true, true, true, true, true, true, true, true, true, true, true, true, true, true, true, true, true, true, true, false, false, false, false, false, false, false] rfl rfl (any_of HT_.out zq2) (fun _ _ _ h => h) (Or.inr ⟨by rfl, rfl⟩) ?_ ?_
            rotate_left
            ·simp only [Act.put, List.setIfInBounds_toArray, List.set_cons_zero, List.set_cons_succ, i64_w, i32_w]
             rfl
            refine pure_ (i := 21) (N := some 126) (v := undef) (a' := ?_) #[true, true, true, true, true, true, true, true, true, true, true, true, true, true, true, true, true, true, true, true, true, true, false, false, false, false, false, false] rfl rfl (any_of HT_.out zq2) (fun _ _ _ h => h) (Or.inr ⟨by rfl, rfl⟩) ?_ ?_
            rotate_left
            ·simp only [Act.put, List.setIfInBounds_toArray, List.set_cons_zero, List.set_cons_succ, i64_w, i32_w]
             rfl
            refine pure_ (i := 22) (N := some 127) (v := undef) (a' := ?_) #[true, true, true, true, true, true, true, true, true, true, true, true, true, true, true, true, true, true, true, true, true, true, true, false, false, false, false, false] rfl rfl (any_of HT_.out zq2) (fun _ _ _ h => h) (Or.inr ⟨by rfl, rfl⟩) ?_ ?_
            rotate_left
            ·simp only [Act.put, List.setIfInBounds_toArray, List.set_cons_zero, List.set_cons_succ, i64_w, i32_w]
             rfl
            refine pure_ (i := 23) (N := some 128) (v := undef) (a' := ?_) #[true, true, true, true, true, true, true, true, true, true, true, true, true, true, true, true, true, true, true, true, true, true, true, true, false, false, false, false] rfl rfl (any_of HT_.out zq2) (fun _ _ _ h => h) (Or.inr ⟨by rfl, rfl⟩) ?_ ?_
            rotate_left
            ·simp only [Act.put, List.setIfInBounds_toArray, List.set_cons_zero, List.set_cons_succ, i64_w, i32_w]
             rfl
            refine pure_ (i := 24) (N := some 129) (v := undef) (a' := ?_) #[true, true, true, true, true, true, true, true, true, true, true, true, true, true, true, true, true, true, true, true, true, true, true, true, true, false, false, false] rfl rfl (any_of HT_.out zq2) (fun _ _ _ h => h) (Or.inr ⟨by rfl, rfl⟩) ?_ ?_
            rotate_left
            ·simp only [Act.put, List.setIfInBounds_toArray, List.set_cons_zero, List.set_cons_succ, i64_w, i32_w]
             rfl
            refine pure_ (i := 25) (N := some 130) (v := undef) (a' := ?_) #[true, true, true, true, true, true, true, true, true, true, true, true, true, true, true, true, true, true, true, true, true, true, true, true, true, true, false, false] rfl rfl (any_of HT_.out zq2) (fun _ _ _ h => h) (Or.inr ⟨by rfl, rfl⟩) ?_ ?_
            rotate_left
            ·simp only [Act.put, List.setIfInBounds_toArray, List.set_cons_zero, List.set_cons_succ, i64_w, i32_w]
             rfl
            refine pure_ (i := 26) (N := some 131) (v := undef) (a' := ?_) #[true, true, true, true, true, true, true, true, true, true, true, true, true, true, true, true, true, true, true, true, true, true, true, true, true, true, true, false] rfl rfl (any_of HT_.out zq2) (fun _ _ _ h => h) (Or.inr ⟨by rfl, rfl⟩) ?_ ?_
            rotate_left
            ·simp only [Act.put, List.setIfInBounds_toArray, List.set_cons_zero, List.set_cons_succ, i64_w, i32_w]
             rfl
            refine zpz (i := 27) (N := some 132) (any_of HT_.out zq2) ?_
            refine done_ (done_of HT_.out zq2) ?_
            try go_wp2
            go_ret
            exact ⟨zq1, zbz⟩
          ·rw [if_neg c38] at H
           exact absurd H (by simp)
         ·rw [if_neg c37] at H
          have c37b0 : decide (x3_3 < (l0_8.length : Int)) = false := decide_eq_false c37
          clear c37
          obtain rfl := Option.some.inj H
          obtain ⟨hcz54_0, hcz54_1, hcz54_2, hcz54_3, hcz54_4, hcz54_5, hcz54_6, hcz54_7, hcz54_8, hfz54_0, hfz54_1, hfz54_2, hfz54_3, hfz54_4, hfz54_5, hfz54_6, hfz54_7, hfz54_8⟩ := zce9 BK161.out
          go_wp2
          go_ret
          exact ⟨zq1, zbz⟩

end Go.Proofs.Ythglkoddmpicdaa.Pr
end
