/- Part 17 of the proof of GliderDives: what the functions compute. No condition. -/
import Derived.Test.YtmhaiihjfgfaoaaGtGliderDives3
section
namespace Go.Proofs.Ytmhaiihjfgfaoaa.Pr
open Go.RowKit Go.Proofs.YtmhaiihjfgfaoaaW.PrintWords Go.Proofs.YtmhaiihjfgfaoaaW.PrintLast Go.Proofs.YtmhaiihjfgfaoaaW.PrintMore
attribute [local go_sem] max2_int min2_int max_two min_two max_four
set_option linter.unusedVariables false
set_option linter.unusedSimpArgs false

/-! ### isobathref03_courses: function 81 -/
def isobathref03_courses.l0 : Nat → List (S33) → Int → Int → Option (Int)
 | 0, _, _, _ => none
 | k + 1, x0, x1, x5 => if x5 < (x0.length : Int) then (if 0 ≤ x5 then (if ((rd_T33 x0 x5).f0) < 0 then (some 2) else (if ((rd_T33 x0 x5).f0) > 8 then (some 2) else (if ((rd_T33 x0 x5).f1) < 0 then (some 2) else (if x1 ≥ 0 then (if ((rd_T33 x0 x5).f1) ≥ x1 then (some 2) else (isobathref03_courses.l0 k x0 x1 (wrap64 (x5 + 1)))) else (isobathref03_courses.l0 k x0 x1 (wrap64 (x5 + 1))))))) else (none)) else (some 0)
def isobathref03_courses.f (k : Nat) (l0 : List (S33)) (a1 : Int) : Option (Int) := if (l0.length : Int) > 64 then (some 6) else (isobathref03_courses.l0 k l0 a1 0)
set_option maxHeartbeats 8000000 in
set_option maxRecDepth 100000 in
theorem isobathref03_courses.calls (k : Nat) (A0 : Option Addr) (c0 : Nat) (l0 : List (S33)) (a1 : Int) (r : Int) (w : World) (hr0 : Kd.C k33 w A0 l0.length l0) (hc0 : l0.length ≤ c0) (h : isobathref03_courses.f k l0 a1 = some r) :
  Calls Try.prog 81 #[.slice A0 l0.length c0, .int .i64 a1] w fun e w' => e = .returned (.int .i64 r) ∧ Drawn0 w w' := by
 have HR0 := Aside0.mk hr0
 have HC0 := Aside0.mk hc0
 clear hr0 hc0
 have H : (if (l0.length : Int) > 64 then (some 6) else (isobathref03_courses.l0 k l0 a1 0)) = some r := h
 clear h
 by_cases c3 : (l0.length : Int) > 64
 ·rw [if_pos c3] at H
  have c3b0 : decide (64 < (l0.length : Int)) = true := decide_eq_true c3
  have c3b1 : decide (64 < l0.length) = true := decide_eq_true (by omega)
  clear c3
  obtain rfl := Option.some.inj H
  go_enter Try.func81, Try.ntmps81
  go_wp2
  go_ret
  exact ⟨zq2, zq3⟩
 ·rw [if_neg c3] at H
  have c3b0 : decide (64 < (l0.length : Int)) = false := decide_eq_false c3
  have c3b1 : decide (64 < l0.length) = false := decide_eq_false (by omega)
  clear c3
  have H' := Aside0.mk H
  clear H
  go_enter Try.func81, Try.ntmps81
  go_wp2
  go_loopg [5] k (fun kq v5 w' => ∃ (x5_1 : Int), v5 = .int .i64 x5_1 ∧ Aside0 (isobathref03_courses.l0 kq l0 a1 x5_1 = some r) ∧ Aside0 (kq ≤ k) ∧ Drawn0 w w')
  case atStart => exact ⟨(0), zq2, H', ⟨Nat.le_refl _⟩, zq3⟩
  case round =>
   clear H'
   try clear p2
   try clear c3
   try clear c3b0
   try clear c3b1
   obtain ⟨x5_1, rfl, HA, HK1, ⟨m1, rfl⟩⟩ := hrel
   cases gk with
   | zero => exact absurd HA.out (by simp [isobathref03_courses.l0])
   | succ k1 =>
    have H := HA.out
    clear HA
    simp only [isobathref03_courses.l0] at H
    by_cases c4 : x5_1 < (l0.length : Int)
    ·rw [if_pos c4] at H
     have c4b0 : decide (x5_1 < (l0.length : Int)) = true := decide_eq_true c4
     clear c4
     by_cases c5 : 0 ≤ x5_1
     ·rw [if_pos c5] at H
      have c5b0 : decide (0 ≤ x5_1) = true := decide_eq_true c5
      clear c5
      by_cases c6 : ((rd_T33 l0 x5_1).f0) < 0
      ·rw [if_pos c6] at H
       have c6b0 : decide (((rd_T33 l0 x5_1).f0) < 0) = true := decide_eq_true c6
       clear c6
       obtain rfl := Option.some.inj H
       have p398 : 0 ≤ (x5_1 : Int) := of_decide_eq_true zq4
       have q398 : x5_1 < (l0.length : Int) := of_decide_eq_true zq4
       obtain ⟨ad398, e398, hx398_0, hx398_1⟩ := at_T33 HR0.out x5_1 p398 q398
       cases e398
       replace p398 := eq_true p398
       replace q398 := eq_true q398
       go_wp2
       go_ret
       exact ⟨zq2, zq3⟩
      ·rw [if_neg c6] at H
       have c6b0 : decide (((rd_T33 l0 x5_1).f0) < 0) = false := decide_eq_false c6
       clear c6
       by_cases c7 : ((rd_T33 l0 x5_1).f0) > 8
       ·rw [if_pos c7] at H
        have c7b0 : decide (8 < ((rd_T33 l0 x5_1).f0)) = true := decide_eq_true c7
        clear c7
        obtain rfl := Option.some.inj H
        have p398 : 0 ≤ (x5_1 : Int) := of_decide_eq_true zq4
        have q398 : x5_1 < (l0.length : Int) := of_decide_eq_true zq4
        obtain ⟨ad398, e398, hx398_0, hx398_1⟩ := at_T33 HR0.out x5_1 p398 q398
        cases e398
        replace p398 := eq_true p398
        replace q398 := eq_true q398
        have p399 : 0 ≤ (x5_1 : Int) := of_decide_eq_true zq4
        have q399 : x5_1 < (l0.length : Int) := of_decide_eq_true zq4
        obtain ⟨ad399, e399, hx399_0, hx399_1⟩ := at_T33 HR0.out x5_1 p399 q399
        obtain rfl : ad398 = ad399 := (by injection e399)
        replace p399 := eq_true p399
        replace q399 := eq_true q399
        go_wp2
        go_ret
        exact ⟨zq2, zq3⟩
       ·rw [if_neg c7] at H
        have c7b0 : decide (8 < ((rd_T33 l0 x5_1).f0)) = false := decide_eq_false c7
        clear c7
        by_cases c8 : ((rd_T33 l0 x5_1).f1) < 0
        ·rw [if_pos c8] at H
         have c8b0 : decide (((rd_T33 l0 x5_1).f1) < 0) = true := decide_eq_true c8
         clear c8
         obtain rfl := Option.some.inj H
         have p398 : 0 ≤ (x5_1 : Int) := of_decide_eq_true zq4
         have q398 : x5_1 < (l0.length : Int) := of_decide_eq_true zq4
         obtain ⟨ad398, e398, hx398_0, hx398_1⟩ := at_T33 HR0.out x5_1 p398 q398
         cases e398
         replace p398 := eq_true p398
         replace q398 := eq_true q398
         have p399 : 0 ≤ (x5_1 : Int) := of_decide_eq_true zq4
         have q399 : x5_1 < (l0.length : Int) := of_decide_eq_true zq4
         obtain ⟨ad399, e399, hx399_0, hx399_1⟩ := at_T33 HR0.out x5_1 p399 q399
         obtain rfl : ad398 = ad399 := (by injection e399)
         replace p399 := eq_true p399
         replace q399 := eq_true q399
         have p400 : 0 ≤ (x5_1 : Int) := of_decide_eq_true zq4
         have q400 : x5_1 < (l0.length : Int) := of_decide_eq_true zq4
         obtain ⟨ad400, e400, hx400_0, hx400_1⟩ := at_T33 HR0.out x5_1 p400 q400
         obtain rfl : ad398 = ad400 := (by injection e400)
         replace p400 := eq_true p400
         replace q400 := eq_true q400
         go_wp2
         go_ret
         exact ⟨zq2, zq3⟩
        ·rw [if_neg c8] at H
         have c8b0 : decide (((rd_T33 l0 x5_1).f1) < 0) = false := decide_eq_false c8
         clear c8
         by_cases c9 : a1 ≥ 0
         ·rw [if_pos c9] at H
          have c9b0 : decide (0 ≤ a1) = true := decide_eq_true c9
          clear c9
          by_cases c10 : ((rd_T33 l0 x5_1).f1) ≥ a1
          ·rw [if_pos c10] at H
           have c10b0 : decide (a1 ≤ ((rd_T33 l0 x5_1).f1)) = true := decide_eq_true c10
           clear c10
           obtain rfl := Option.some.inj H
           have p398 : 0 ≤ (x5_1 : Int) := of_decide_eq_true zq4
           have q398 : x5_1 < (l0.length : Int) := of_decide_eq_true zq4
           obtain ⟨ad398, e398, hx398_0, hx398_1⟩ := at_T33 HR0.out x5_1 p398 q398
           cases e398
           replace p398 := eq_true p398
           replace q398 := eq_true q398
           have p399 : 0 ≤ (x5_1 : Int) := of_decide_eq_true zq4
           have q399 : x5_1 < (l0.length : Int) := of_decide_eq_true zq4
           obtain ⟨ad399, e399, hx399_0, hx399_1⟩ := at_T33 HR0.out x5_1 p399 q399
           obtain rfl : ad398 = ad399 := (by injection e399)
           replace p399 := eq_true p399
           replace q399 := eq_true q399
           have p400 : 0 ≤ (x5_1 : Int) := of_decide_eq_true zq4
           have q400 : x5_1 < (l0.length : Int) := of_decide_eq_true zq4
           obtain ⟨ad400, e400, hx400_0, hx400_1⟩ := at_T33 HR0.out x5_1 p400 q400
           obtain rfl : ad398 = ad400 := (by injection e400)
           replace p400 := eq_true p400
           replace q400 := eq_true q400
           have p401 : 0 ≤ (x5_1 : Int) := of_decide_eq_true zq4
           have q401 : x5_1 < (l0.length : Int) := of_decide_eq_true zq4
           obtain ⟨ad401, e401, hx401_0, hx401_1⟩ := at_T33 HR0.out x5_1 p401 q401
           obtain rfl : ad398 = ad401 := (by injection e401)
           replace p401 := eq_true p401
           replace q401 := eq_true q401
           go_wp2
           go_ret
           exact ⟨zq2, zq3⟩
          ·rw [if_neg c10] at H
           have c10b0 : decide (a1 ≤ ((rd_T33 l0 x5_1).f1)) = false := decide_eq_false c10
           clear c10
           have H' := Aside0.mk H
           clear H
           have p398 : 0 ≤ (x5_1 : Int) := of_decide_eq_true zq4
           have q398 : x5_1 < (l0.length : Int) := of_decide_eq_true zq4
           obtain ⟨ad398, e398, hx398_0, hx398_1⟩ := at_T33 HR0.out x5_1 p398 q398
           cases e398
           replace p398 := eq_true p398
           replace q398 := eq_true q398
           have p399 : 0 ≤ (x5_1 : Int) := of_decide_eq_true zq4
           have q399 : x5_1 < (l0.length : Int) := of_decide_eq_true zq4
           obtain ⟨ad399, e399, hx399_0, hx399_1⟩ := at_T33 HR0.out x5_1 p399 q399
           obtain rfl : ad398 = ad399 := (by injection e399)
           replace p399 := eq_true p399
           replace q399 := eq_true q399
           have p400 : 0 ≤ (x5_1 : Int) := of_decide_eq_true zq4
           have q400 : x5_1 < (l0.length : Int) := of_decide_eq_true zq4
           obtain ⟨ad400, e400, hx400_0, hx400_1⟩ := at_T33 HR0.out x5_1 p400 q400
           obtain rfl : ad398 = ad400 := (by injection e400)
           replace p400 := eq_true p400
           replace q400 := eq_true q400
           have p401 : 0 ≤ (x5_1 : Int) := of_decide_eq_true zq4
           have q401 : x5_1 < (l0.length : Int) := of_decide_eq_true zq4
           obtain ⟨ad401, e401, hx401_0, hx401_1⟩ := at_T33 HR0.out x5_1 p401 q401
           obtain rfl : ad398 = ad401 := (by injection e401)
           replace p401 := eq_true p401
           replace q401 := eq_true q401
           go_wp2
           go_roundg k1
           case measure => have := HK1.out; omega
           case rel => exact ⟨(wrap64 (x5_1 + 1)), zq2, H', ⟨zq7⟩, zq3⟩
         ·rw [if_neg c9] at H
          have c9b0 : decide (0 ≤ a1) = false := decide_eq_false c9
          clear c9
          have H' := Aside0.mk H
          clear H
          have p398 : 0 ≤ (x5_1 : Int) := of_decide_eq_true zq4
          have q398 : x5_1 < (l0.length : Int) := of_decide_eq_true zq4
          obtain ⟨ad398, e398, hx398_0, hx398_1⟩ := at_T33 HR0.out x5_1 p398 q398
          cases e398
          replace p398 := eq_true p398
          replace q398 := eq_true q398
          have p399 : 0 ≤ (x5_1 : Int) := of_decide_eq_true zq4
          have q399 : x5_1 < (l0.length : Int) := of_decide_eq_true zq4
          obtain ⟨ad399, e399, hx399_0, hx399_1⟩ := at_T33 HR0.out x5_1 p399 q399
          obtain rfl : ad398 = ad399 := (by injection e399)
          replace p399 := eq_true p399
          replace q399 := eq_true q399
          have p400 : 0 ≤ (x5_1 : Int) := of_decide_eq_true zq4
          have q400 : x5_1 < (l0.length : Int) := of_decide_eq_true zq4
          obtain ⟨ad400, e400, hx400_0, hx400_1⟩ := at_T33 HR0.out x5_1 p400 q400
          obtain rfl : ad398 = ad400 := (by injection e400)
          replace p400 := eq_true p400
          replace q400 := eq_true q400
          go_wp2
          go_roundg k1
          case measure => have := HK1.out; omega
          case rel => exact ⟨(wrap64 (x5_1 + 1)), zq2, H', ⟨zq7⟩, zq3⟩
     ·rw [if_neg c5] at H
      exact absurd H (by simp)
    ·rw [if_neg c4] at H
     have c4b0 : decide (x5_1 < (l0.length : Int)) = false := decide_eq_false c4
     clear c4
     obtain rfl := Option.some.inj H
     go_wp2
     go_ret
     exact ⟨zq2, zq3⟩

end Go.Proofs.Ytmhaiihjfgfaoaa.Pr
end
section
namespace Go.Proofs.Ytmhaiihjfgfaoaa.Pr
open Go.RowKit Go.Proofs.YtmhaiihjfgfaoaaW.PrintWords Go.Proofs.YtmhaiihjfgfaoaaW.PrintLast Go.Proofs.YtmhaiihjfgfaoaaW.PrintMore
attribute [local go_sem] max2_int min2_int max_two min_two max_four
set_option linter.unusedVariables false
set_option linter.unusedSimpArgs false

/-! ### isobathref01_Down: function 140 -/
def isobathref01_Down.f : Nat → Int → Int → Option (Int)
 | 0, _, _ => none
 | k + 1, a0, a1 => if a1 < 0 then ((isobathref01_Down.f k (wrap64 (-a0)) (wrap64 (-a1))).bind fun t402 => (some t402)) else (if a1 = 0 then (none) else (if (Int.tmod a0 a1) < 0 then (some (wrap64 ((wrap64 (Int.tdiv a0 a1)) - 1))) else (some (wrap64 (Int.tdiv a0 a1)))))
set_option maxHeartbeats 8000000 in
set_option maxRecDepth 100000 in
theorem isobathref01_Down.calls (k : Nat) : ∀ (a0 : Int) (a1 : Int) (r : Int) (w : World) (h : isobathref01_Down.f k a0 a1 = some r),
  Calls Try.prog 140 #[.int .i64 a0, .int .i64 a1] w fun e w' => e = .returned (.int .i64 r) ∧ Drawn0 w w' := by
 induction k using Nat.strongRecOn with
 | _ k ih =>
 intro a0 a1 r w h
 cases k with
 | zero => exact absurd h (by simp [isobathref01_Down.f])
 | succ k =>
 simp only [isobathref01_Down.f] at h
 have H : (if a1 < 0 then ((isobathref01_Down.f k (wrap64 (-a0)) (wrap64 (-a1))).bind fun t402 => (some t402)) else (if a1 = 0 then (none) else (if (Int.tmod a0 a1) < 0 then (some (wrap64 ((wrap64 (Int.tdiv a0 a1)) - 1))) else (some (wrap64 (Int.tdiv a0 a1)))))) = some r := h
 clear h
 by_cases c3 : a1 < 0
 ·rw [if_pos c3] at H
  have c3b0 : decide (a1 < 0) = true := decide_eq_true c3
  clear c3
  replace H := Option.bind_eq_some_iff.mp H
  obtain ⟨t402, A40, H⟩ := H
  replace H : (some t402) = some r := H
  have A4 := Aside0.mk A40
  clear A40
  obtain rfl := Option.some.inj H
  go_enter Try.func140, Try.ntmps140
  go_wp2_with (first | ((with_reducible refine gate_callee (f := 140) rfl ?_); refine goesL_ (some 12) rfl rfl Try.func140 zq1 rfl #[.int .i64 (wrap64 (-a0)), .int .i64 (wrap64 (-a1))] rfl zq8 ?_; (with_reducible refine (ih k (by omega) (wrap64 (-a0)) (wrap64 (-a1)) t402 _ A4.out).mono ?_); rintro e w' ⟨rfl, ⟨nd, rfl⟩⟩; refine ⟨_, rfl, ?_⟩))
  go_ret
  exact ⟨zq2, zq3⟩
 ·rw [if_neg c3] at H
  have c3b0 : decide (a1 < 0) = false := decide_eq_false c3
  clear c3
  by_cases c5 : a1 = 0
  ·rw [if_pos c5] at H
   exact absurd H (by simp)
  ·rw [if_neg c5] at H
   have c5b0 : (a1 == 0) = false := beq_eq_false_iff_ne.mpr c5
   have c5b1 : (a1 != 0) = true := bne_iff_ne.mpr c5
   by_cases c6 : (Int.tmod a0 a1) < 0
   ·rw [if_pos c6] at H
    have c6b0 : decide ((Int.tmod a0 a1) < 0) = true := decide_eq_true c6
    clear c6
    obtain rfl := Option.some.inj H
    go_enter Try.func140, Try.ntmps140
    go_wp2
    go_ret
    exact ⟨zq2, zq3⟩
   ·rw [if_neg c6] at H
    have c6b0 : decide ((Int.tmod a0 a1) < 0) = false := decide_eq_false c6
    clear c6
    obtain rfl := Option.some.inj H
    go_enter Try.func140, Try.ntmps140
    go_wp2
    go_ret
    exact ⟨zq2, zq3⟩

end Go.Proofs.Ytmhaiihjfgfaoaa.Pr
end
section
namespace Go.Proofs.Ytmhaiihjfgfaoaa.Pr
open Go.RowKit Go.Proofs.YtmhaiihjfgfaoaaW.PrintWords Go.Proofs.YtmhaiihjfgfaoaaW.PrintLast Go.Proofs.YtmhaiihjfgfaoaaW.PrintMore
attribute [local go_sem] max2_int min2_int max_two min_two max_four
set_option linter.unusedVariables false
set_option linter.unusedSimpArgs false

/-! ### isobathref01_Up: function 139 -/
def isobathref01_Up.f (k : Nat) (a0 : Int) (a1 : Int) : Option (Int) := (isobathref01_Down.f k (wrap64 (-a0)) a1).bind fun t403 => (some (wrap64 (-t403)))
set_option maxHeartbeats 8000000 in
set_option maxRecDepth 100000 in
theorem isobathref01_Up.calls (k : Nat) (a0 : Int) (a1 : Int) (r : Int) (w : World) (h : isobathref01_Up.f k a0 a1 = some r) :
  Calls Try.prog 139 #[.int .i64 a0, .int .i64 a1] w fun e w' => e = .returned (.int .i64 r) ∧ Drawn0 w w' := by
 have H : ((isobathref01_Down.f k (wrap64 (-a0)) a1).bind fun t403 => (some (wrap64 (-t403)))) = some r := h
 clear h
 replace H := Option.bind_eq_some_iff.mp H
 obtain ⟨t403, A30, H⟩ := H
 replace H : (some (wrap64 (-t403))) = some r := H
 have A3 := Aside0.mk A30
 clear A30
 obtain rfl := Option.some.inj H
 go_enter Try.func139, Try.ntmps139
 go_wp2_with (first | ((with_reducible refine gate_callee (f := 140) rfl ?_); refine goesL_ (some 8) rfl rfl Try.func140 zq1 rfl #[.int .i64 (wrap64 (-a0)), .int .i64 a1] rfl zq8 ?_; (with_reducible refine (isobathref01_Down.calls k (wrap64 (-a0)) a1 t403 _ A3.out).mono ?_); rintro e w' ⟨rfl, ⟨nd, rfl⟩⟩; refine ⟨_, rfl, ?_⟩))
 go_ret
 exact ⟨zq2, zq3⟩

end Go.Proofs.Ytmhaiihjfgfaoaa.Pr
end
section
namespace Go.Proofs.Ytmhaiihjfgfaoaa.Pr
open Go.RowKit Go.Proofs.YtmhaiihjfgfaoaaW.PrintWords Go.Proofs.YtmhaiihjfgfaoaaW.PrintLast Go.Proofs.YtmhaiihjfgfaoaaW.PrintMore
attribute [local go_sem] max2_int min2_int max_two min_two max_four
set_option linter.unusedVariables false
set_option linter.unusedSimpArgs false

/-! ### isobathref03_Grown: function 133 -/
def isobathref03_Grown.f (k : Nat) (a0_0 : Int) (a0_1 : Int) (a0_2 : Int) (a0_3 : Int) (a0_4 : Int) (a0_5 : Int) (a0_6 : Int) (l0_7 : List Bool) (l0_8 : List (S40)) (a1_0 : Int) (a1_1 : Int) (a1_2 : Int) (a1_3 : Int) (a1_4 : Int) (a1_5 : Int) (a1_6 : Int) (a2_0 : Int) (a2_1 : Int) (a2_2 : Int) (a2_3 : Int) : Option (Int × Int × Int × Int) := (isobathref01_Up.f k (wrap64 ((wrap64 (a1_0 + a0_6)) * a1_1)) 1000).bind fun t408 => (some (wrap64 (a2_0 - t408), wrap64 (a2_1 + t408), wrap64 (a2_2 - t408), wrap64 (a2_3 + t408)))
set_option maxHeartbeats 8000000 in
set_option maxRecDepth 100000 in
theorem isobathref03_Grown.calls (k : Nat) (a0_0 : Int) (a0_1 : Int) (a0_2 : Int) (a0_3 : Int) (a0_4 : Int) (a0_5 : Int) (a0_6 : Int) (A0_7 : Option Addr) (c0_7 : Nat) (l0_7 : List Bool) (A0_8 : Option Addr) (c0_8 : Nat) (l0_8 : List (S40)) (a1_0 : Int) (a1_1 : Int) (a1_2 : Int) (a1_3 : Int) (a1_4 : Int) (a1_5 : Int) (a1_6 : Int) (a2_0 : Int) (a2_1 : Int) (a2_2 : Int) (a2_3 : Int) (r1 : Int) (r2 : Int) (r3 : Int) (r4 : Int) (w : World) (hr0_7 : Kd.C Kd.bool w A0_7 l0_7.length l0_7) (hc0_7 : l0_7.length ≤ c0_7) (hr0_8 : Kd.C k40 w A0_8 l0_8.length l0_8) (hc0_8 : l0_8.length ≤ c0_8) (h : isobathref03_Grown.f k a0_0 a0_1 a0_2 a0_3 a0_4 a0_5 a0_6 l0_7 l0_8 a1_0 a1_1 a1_2 a1_3 a1_4 a1_5 a1_6 a2_0 a2_1 a2_2 a2_3 = some (r1, r2, r3, r4)) :
  Calls Try.prog 133 #[.agg #[.int .i64 a0_0, .int .i64 a0_1, .int .i64 a0_2, .int .i64 a0_3, .int .i64 a0_4, .int .i64 a0_5, .int .i64 a0_6, .slice A0_7 l0_7.length c0_7, .slice A0_8 l0_8.length c0_8], .agg #[.int .i64 a1_0, .int .i64 a1_1, .int .i64 a1_2, .int .i64 a1_3, .int .i64 a1_4, .int .i64 a1_5, .int .i64 a1_6], .agg #[.int .i64 a2_0, .int .i64 a2_1, .int .i64 a2_2, .int .i64 a2_3]] w fun e w' => e = .returned (.agg #[.int .i64 r1, .int .i64 r2, .int .i64 r3, .int .i64 r4]) ∧ Below w.heap.size w w' := by
 have hu25 := Try.underlying25
 have hu29 := Try.underlying29
 have hu31 := Try.underlying31
 have hu27 := Try.underlying27
 have HR0_7 := Aside0.mk hr0_7
 have HC0_7 := Aside0.mk hc0_7
 clear hr0_7 hc0_7
 have HR0_8 := Aside0.mk hr0_8
 have HC0_8 := Aside0.mk hc0_8
 clear hr0_8 hc0_8
 have HB := Aside0.mk (Below.refl w.heap.size w)
 have H : ((isobathref01_Up.f k (wrap64 ((wrap64 (a1_0 + a0_6)) * a1_1)) 1000).bind fun t408 => (some (wrap64 (a2_0 - t408), wrap64 (a2_1 + t408), wrap64 (a2_2 - t408), wrap64 (a2_3 + t408)))) = some (r1, r2, r3, r4) := h
 clear h
 replace H := Option.bind_eq_some_iff.mp H
 obtain ⟨t408, A40, H⟩ := H
 replace H : (some (wrap64 (a2_0 - t408), wrap64 (a2_1 + t408), wrap64 (a2_2 - t408), wrap64 (a2_3 + t408))) = some (r1, r2, r3, r4) := H
 have A4 := Aside0.mk A40
 clear A40
 simp only [Option.some.injEq, Prod.mk.injEq] at H
 obtain ⟨rfl, rfl, rfl, rfl⟩ := H
 go_enter Try.func133, Try.ntmps133
 go_wp2_with (first | ((with_reducible refine gate_dst (N := 3) rfl ?_); refine box_event (by rfl) (N := 3) (by rfl) (cs := #[.int .i64 a0_0, .int .i64 a0_1, .int .i64 a0_2, .int .i64 a0_3, .int .i64 a0_4, .int .i64 a0_5, .int .i64 a0_6, .slice A0_7 l0_7.length c0_7, .slice A0_8 l0_8.length c0_8]) (t := 25) zq5 ?_; intro gb404 hg w5 hbox hb; have BK404 := Aside0.mk (hbox); have GW404 := zgs HB hg; have GE404 := zgs HB hg; replace HB := zbs HB hb; clear hb hbox hg) | ((with_reducible refine gate_dst (N := 4) rfl ?_); refine box_event (by rfl) (N := 4) (by rfl) (cs := #[.int .i64 a1_0, .int .i64 a1_1, .int .i64 a1_2, .int .i64 a1_3, .int .i64 a1_4, .int .i64 a1_5, .int .i64 a1_6]) (t := 29) zq5 ?_; intro gb405 hg w6 hbox hb; have BK405 := Aside0.mk (hbox); have GW405 := zgs HB hg; have GE405 := zgs HB hg; have NB404_405 := znp BK404 hg; have NB405_404 := znq BK404 hg; replace BK404 := zbb BK404 hb; replace HB := zbs HB hb; clear hb hbox hg) | ((with_reducible refine gate_dst (N := 5) rfl ?_); refine box_event (by rfl) (N := 5) (by rfl) (cs := #[.int .i64 a2_0, .int .i64 a2_1, .int .i64 a2_2, .int .i64 a2_3]) (t := 31) zq5 ?_; intro gb406 hg w7 hbox hb; have BK406 := Aside0.mk (hbox); have GW406 := zgs HB hg; have GE406 := zgs HB hg; have NB404_406 := znp BK404 hg; have NB406_404 := znq BK404 hg; have NB405_406 := znp BK405 hg; have NB406_405 := znq BK405 hg; replace BK404 := zbb BK404 hb; replace BK405 := zbb BK405 hb; replace HB := zbs HB hb; clear hb hbox hg) | ((with_reducible refine gate_dst (N := 6) rfl ?_); refine box_event (by rfl) (N := 6) (by rfl) (cs := #[.int .i64 0, .int .i64 0, .int .i64 0, .int .i64 0]) (t := 31) zq5 ?_; intro gb407 hg w8 hbox hb; have BK407 := Aside0.mk (hbox); have GW407 := zgs HB hg; have GE407 := zgs HB hg; have NB404_407 := znp BK404 hg; have NB407_404 := znq BK404 hg; have NB405_407 := znp BK405 hg; have NB407_405 := znq BK405 hg; have NB406_407 := znp BK406 hg; have NB407_406 := znq BK406 hg; replace BK404 := zbb BK404 hb; replace BK405 := zbb BK405 hb; replace BK406 := zbb BK406 hb; replace HB := zbs HB hb; clear hb hbox hg; have hnb9 := NB405_404.out; have hnc9 := NB404_405.out; have hnb10 := NB405_406.out; have hnc10 := NB406_405.out; have hnb11 := NB405_407.out; have hnc11 := NB407_405.out; obtain ⟨hcz12_0, hcz12_1, hcz12_2, hcz12_3, hcz12_4, hcz12_5, hcz12_6, hfz12_0, hfz12_1, hfz12_2, hfz12_3, hfz12_4, hfz12_5, hfz12_6⟩ := zce7 BK405.out; have hnb13 := NB404_406.out; have hnc13 := NB406_404.out; have hnb14 := NB404_407.out; have hnc14 := NB407_404.out; obtain ⟨hcz15_0, hcz15_1, hcz15_2, hcz15_3, hcz15_4, hcz15_5, hcz15_6, hcz15_7, hcz15_8, hfz15_0, hfz15_1, hfz15_2, hfz15_3, hfz15_4, hfz15_5, hfz15_6, hfz15_7, hfz15_8⟩ := zce9 BK404.out) | ((with_reducible refine gate_callee (f := 139) rfl ?_); refine goesL_ (some 16) rfl rfl Try.func139 zq1 rfl #[.int .i64 (wrap64 ((wrap64 (a1_0 + a0_6)) * a1_1)), .int .i64 1000] rfl zq8 ?_; (with_reducible refine (isobathref01_Up.calls k (wrap64 ((wrap64 (a1_0 + a0_6)) * a1_1)) 1000 t408 _ A4.out).mono ?_); rintro e w' ⟨rfl, ⟨nd, rfl⟩⟩; refine ⟨_, rfl, ?_⟩; (try (rw [drewN_self w8]; generalize hq_ : World.drewN w8 _ = w8; have n0_ : Aside0 (w8.heap[gb404]? = some (.cells #[.int .i64 a0_0, .int .i64 a0_1, .int .i64 a0_2, .int .i64 a0_3, .int .i64 a0_4, .int .i64 a0_5, .int .i64 a0_6, .slice A0_7 l0_7.length c0_7, .slice A0_8 l0_8.length c0_8] 25 (0, 0))) := ⟨by rw [← hq_]; exact (by (with_reducible repeat (first | refine blk_drewN ?_ _ | refine blk_drew ?_ | refine blk_alloc ?_ _)); exact BK404.out)⟩; have n1_ : Aside0 (w8.heap[gb405]? = some (.cells #[.int .i64 a1_0, .int .i64 a1_1, .int .i64 a1_2, .int .i64 a1_3, .int .i64 a1_4, .int .i64 a1_5, .int .i64 a1_6] 29 (0, 0))) := ⟨by rw [← hq_]; exact (by (with_reducible repeat (first | refine blk_drewN ?_ _ | refine blk_drew ?_ | refine blk_alloc ?_ _)); exact BK405.out)⟩; have n2_ : Aside0 (w8.heap[gb406]? = some (.cells #[.int .i64 a2_0, .int .i64 a2_1, .int .i64 a2_2, .int .i64 a2_3] 31 (0, 0))) := ⟨by rw [← hq_]; exact (by (with_reducible repeat (first | refine blk_drewN ?_ _ | refine blk_drew ?_ | refine blk_alloc ?_ _)); exact BK406.out)⟩; have n3_ : Aside0 (w8.heap[gb407]? = some (.cells #[.int .i64 0, .int .i64 0, .int .i64 0, .int .i64 0] 31 (0, 0))) := ⟨by rw [← hq_]; exact (by (with_reducible repeat (first | refine blk_drewN ?_ _ | refine blk_drew ?_ | refine blk_alloc ?_ _)); exact BK407.out)⟩; have n4_ : Aside0 (Below w.heap.size w w8) := ⟨by rw [← hq_]; exact zbz⟩; clear BK404 BK405 BK406 BK407 HB hq_; have BK404 := n0_; have BK405 := n1_; have BK406 := n2_; have BK407 := n3_; have HB := n4_; clear n0_ n1_ n2_ n3_ n4_)); have hnb16 := NB406_407.out; have hnc16 := NB407_406.out; obtain ⟨hcz17_0, hcz17_1, hcz17_2, hcz17_3, hfz17_0, hfz17_1, hfz17_2, hfz17_3⟩ := zce4 BK406.out; obtain ⟨hcz18_0, hcz18_1, hcz18_2, hcz18_3, hfz18_0, hfz18_1, hfz18_2, hfz18_3⟩ := zce4 BK407.out))
 refine bodyPost_ret (results_cell_row rfl _ _ gb407 31 #[.int .i64 (wrap64 (a2_0 - t408)), .int .i64 (wrap64 (a2_1 + t408)), .int .i64 (wrap64 (a2_2 - t408)), .int .i64 (wrap64 (a2_3 + t408))] (0, 0) _ rfl (by (with_reducible repeat (first | refine blk_drewN ?_ _ | refine blk_drew ?_ | refine blk_alloc ?_ _)); refine blk_put (cs := #[.int .i64 (wrap64 (a2_0 - t408)), .int .i64 (wrap64 (a2_1 + t408)), .int .i64 (wrap64 (a2_2 - t408)), .int .i64 0]) ?_ 3 _ rfl; (with_reducible repeat (first | refine blk_drewN ?_ _ | refine blk_drew ?_ | refine blk_alloc ?_ _)); refine blk_put (cs := #[.int .i64 (wrap64 (a2_0 - t408)), .int .i64 (wrap64 (a2_1 + t408)), .int .i64 0, .int .i64 0]) ?_ 2 _ rfl; (with_reducible repeat (first | refine blk_drewN ?_ _ | refine blk_drew ?_ | refine blk_alloc ?_ _)); refine blk_put (cs := #[.int .i64 (wrap64 (a2_0 - t408)), .int .i64 0, .int .i64 0, .int .i64 0]) ?_ 1 _ rfl; (with_reducible repeat (first | refine blk_drewN ?_ _ | refine blk_drew ?_ | refine blk_alloc ?_ _)); refine blk_put (cs := #[.int .i64 0, .int .i64 0, .int .i64 0, .int .i64 0]) ?_ 0 _ rfl; (with_reducible repeat (first | refine blk_drewN ?_ _ | refine blk_drew ?_ | refine blk_alloc ?_ _)); exact BK407.out) Try.underlying31 rfl zq1) rfl ?_
 exact ⟨zq6, zbz⟩

end Go.Proofs.Ytmhaiihjfgfaoaa.Pr
end
section
namespace Go.Proofs.Ytmhaiihjfgfaoaa.Pr
open Go.RowKit Go.Proofs.YtmhaiihjfgfaoaaW.PrintWords Go.Proofs.YtmhaiihjfgfaoaaW.PrintLast Go.Proofs.YtmhaiihjfgfaoaaW.PrintMore
attribute [local go_sem] max2_int min2_int max_two min_two max_four
set_option linter.unusedVariables false
set_option linter.unusedSimpArgs false

/-! ### isobathref03_inSea: function 71 -/
def isobathref03_inSea.f (a0_0 : Int) (a0_1 : Int) (a0_2 : Int) (a0_3 : Int) (a0_4 : Int) (a0_5 : Int) (a0_6 : Int) (l0_7 : List Bool) (l0_8 : List (S40)) (a1_0 : Int) (a1_1 : Int) (a1_2 : Int) (a1_3 : Int) : Option (Bool) := if a1_0 ≥ 0 then (if a1_1 ≤ (wrap64 (a0_0 * a0_2)) then (if a1_2 ≥ 0 then (some (decide (a1_3 ≤ (wrap64 (a0_1 * a0_2))))) else (some false)) else (some false)) else (some false)
set_option maxHeartbeats 8000000 in
set_option maxRecDepth 100000 in
theorem isobathref03_inSea.calls (a0_0 : Int) (a0_1 : Int) (a0_2 : Int) (a0_3 : Int) (a0_4 : Int) (a0_5 : Int) (a0_6 : Int) (A0_7 : Option Addr) (c0_7 : Nat) (l0_7 : List Bool) (A0_8 : Option Addr) (c0_8 : Nat) (l0_8 : List (S40)) (a1_0 : Int) (a1_1 : Int) (a1_2 : Int) (a1_3 : Int) (r : Bool) (w : World) (hr0_7 : Kd.C Kd.bool w A0_7 l0_7.length l0_7) (hc0_7 : l0_7.length ≤ c0_7) (hr0_8 : Kd.C k40 w A0_8 l0_8.length l0_8) (hc0_8 : l0_8.length ≤ c0_8) (h : isobathref03_inSea.f a0_0 a0_1 a0_2 a0_3 a0_4 a0_5 a0_6 l0_7 l0_8 a1_0 a1_1 a1_2 a1_3 = some r) :
  Calls Try.prog 71 #[.agg #[.int .i64 a0_0, .int .i64 a0_1, .int .i64 a0_2, .int .i64 a0_3, .int .i64 a0_4, .int .i64 a0_5, .int .i64 a0_6, .slice A0_7 l0_7.length c0_7, .slice A0_8 l0_8.length c0_8], .agg #[.int .i64 a1_0, .int .i64 a1_1, .int .i64 a1_2, .int .i64 a1_3]] w fun e w' => e = .returned (.bool r) ∧ Below w.heap.size w w' := by
 have hu25 := Try.underlying25
 have hu31 := Try.underlying31
 have HR0_7 := Aside0.mk hr0_7
 have HC0_7 := Aside0.mk hc0_7
 clear hr0_7 hc0_7
 have HR0_8 := Aside0.mk hr0_8
 have HC0_8 := Aside0.mk hc0_8
 clear hr0_8 hc0_8
 have HB := Aside0.mk (Below.refl w.heap.size w)
 have H : (if a1_0 ≥ 0 then (if a1_1 ≤ (wrap64 (a0_0 * a0_2)) then (if a1_2 ≥ 0 then (some (decide (a1_3 ≤ (wrap64 (a0_1 * a0_2))))) else (some false)) else (some false)) else (some false)) = some r := h
 clear h
 by_cases c3 : a1_0 ≥ 0
 ·rw [if_pos c3] at H
  have c3b0 : decide (0 ≤ a1_0) = true := decide_eq_true c3
  clear c3
  by_cases c4 : a1_1 ≤ (wrap64 (a0_0 * a0_2))
  ·rw [if_pos c4] at H
   have c4b0 : decide (a1_1 ≤ (wrap64 (a0_0 * a0_2))) = true := decide_eq_true c4
   clear c4
   by_cases c5 : a1_2 ≥ 0
   ·rw [if_pos c5] at H
    have c5b0 : decide (0 ≤ a1_2) = true := decide_eq_true c5
    clear c5
    obtain rfl := Option.some.inj H
    go_enter Try.func71, Try.ntmps71
    go_wp2_with (first | ((with_reducible refine gate_dst (N := 2) rfl ?_); refine box_event (by rfl) (N := 2) (by rfl) (cs := #[.int .i64 a0_0, .int .i64 a0_1, .int .i64 a0_2, .int .i64 a0_3, .int .i64 a0_4, .int .i64 a0_5, .int .i64 a0_6, .slice A0_7 l0_7.length c0_7, .slice A0_8 l0_8.length c0_8]) (t := 25) zq5 ?_; intro gb328 hg w6 hbox hb; have BK328 := Aside0.mk (hbox); have GW328 := zgs HB hg; have GE328 := zgs HB hg; replace HB := zbs HB hb; clear hb hbox hg) | ((with_reducible refine gate_dst (N := 3) rfl ?_); refine box_event (by rfl) (N := 3) (by rfl) (cs := #[.int .i64 a1_0, .int .i64 a1_1, .int .i64 a1_2, .int .i64 a1_3]) (t := 31) zq5 ?_; intro gb329 hg w7 hbox hb; have BK329 := Aside0.mk (hbox); have GW329 := zgs HB hg; have GE329 := zgs HB hg; have NB328_329 := znp BK328 hg; have NB329_328 := znq BK328 hg; replace BK328 := zbb BK328 hb; replace HB := zbs HB hb; clear hb hbox hg; have hnb8 := NB329_328.out; have hnc8 := NB328_329.out; obtain ⟨hcz9_0, hcz9_1, hcz9_2, hcz9_3, hfz9_0, hfz9_1, hfz9_2, hfz9_3⟩ := zce4 BK329.out; obtain ⟨hcz10_0, hcz10_1, hcz10_2, hcz10_3, hcz10_4, hcz10_5, hcz10_6, hcz10_7, hcz10_8, hfz10_0, hfz10_1, hfz10_2, hfz10_3, hfz10_4, hfz10_5, hfz10_6, hfz10_7, hfz10_8⟩ := zce9 BK328.out))
    go_ret
    exact ⟨zq6, zbz⟩
   ·rw [if_neg c5] at H
    have c5b0 : decide (0 ≤ a1_2) = false := decide_eq_false c5
    clear c5
    obtain rfl := Option.some.inj H
    go_enter Try.func71, Try.ntmps71
    go_wp2_with (first | ((with_reducible refine gate_dst (N := 2) rfl ?_); refine box_event (by rfl) (N := 2) (by rfl) (cs := #[.int .i64 a0_0, .int .i64 a0_1, .int .i64 a0_2, .int .i64 a0_3, .int .i64 a0_4, .int .i64 a0_5, .int .i64 a0_6, .slice A0_7 l0_7.length c0_7, .slice A0_8 l0_8.length c0_8]) (t := 25) zq5 ?_; intro gb328 hg w11 hbox hb; have BK328 := Aside0.mk (hbox); have GW328 := zgs HB hg; have GE328 := zgs HB hg; replace HB := zbs HB hb; clear hb hbox hg) | ((with_reducible refine gate_dst (N := 3) rfl ?_); refine box_event (by rfl) (N := 3) (by rfl) (cs := #[.int .i64 a1_0, .int .i64 a1_1, .int .i64 a1_2, .int .i64 a1_3]) (t := 31) zq5 ?_; intro gb329 hg w12 hbox hb; have BK329 := Aside0.mk (hbox); have GW329 := zgs HB hg; have GE329 := zgs HB hg; have NB328_329 := znp BK328 hg; have NB329_328 := znq BK328 hg; replace BK328 := zbb BK328 hb; replace HB := zbs HB hb; clear hb hbox hg; have hnb13 := NB329_328.out; have hnc13 := NB328_329.out; obtain ⟨hcz14_0, hcz14_1, hcz14_2, hcz14_3, hfz14_0, hfz14_1, hfz14_2, hfz14_3⟩ := zce4 BK329.out; obtain ⟨hcz15_0, hcz15_1, hcz15_2, hcz15_3, hcz15_4, hcz15_5, hcz15_6, hcz15_7, hcz15_8, hfz15_0, hfz15_1, hfz15_2, hfz15_3, hfz15_4, hfz15_5, hfz15_6, hfz15_7, hfz15_8⟩ := zce9 BK328.out))
    go_ret
    exact ⟨zq6, zbz⟩
  ·rw [if_neg c4] at H
   have c4b0 : decide (a1_1 ≤ (wrap64 (a0_0 * a0_2))) = false := decide_eq_false c4
   clear c4
   obtain rfl := Option.some.inj H
   go_enter Try.func71, Try.ntmps71
   go_wp2_with (first | ((with_reducible refine gate_dst (N := 2) rfl ?_); refine box_event (by rfl) (N := 2) (by rfl) (cs := #[.int .i64 a0_0, .int .i64 a0_1, .int .i64 a0_2, .int .i64 a0_3, .int .i64 a0_4, .int .i64 a0_5, .int .i64 a0_6, .slice A0_7 l0_7.length c0_7, .slice A0_8 l0_8.length c0_8]) (t := 25) zq5 ?_; intro gb328 hg w16 hbox hb; have BK328 := Aside0.mk (hbox); have GW328 := zgs HB hg; have GE328 := zgs HB hg; replace HB := zbs HB hb; clear hb hbox hg) | ((with_reducible refine gate_dst (N := 3) rfl ?_); refine box_event (by rfl) (N := 3) (by rfl) (cs := #[.int .i64 a1_0, .int .i64 a1_1, .int .i64 a1_2, .int .i64 a1_3]) (t := 31) zq5 ?_; intro gb329 hg w17 hbox hb; have BK329 := Aside0.mk (hbox); have GW329 := zgs HB hg; have GE329 := zgs HB hg; have NB328_329 := znp BK328 hg; have NB329_328 := znq BK328 hg; replace BK328 := zbb BK328 hb; replace HB := zbs HB hb; clear hb hbox hg; have hnb18 := NB329_328.out; have hnc18 := NB328_329.out; obtain ⟨hcz19_0, hcz19_1, hcz19_2, hcz19_3, hfz19_0, hfz19_1, hfz19_2, hfz19_3⟩ := zce4 BK329.out; obtain ⟨hcz20_0, hcz20_1, hcz20_2, hcz20_3, hcz20_4, hcz20_5, hcz20_6, hcz20_7, hcz20_8, hfz20_0, hfz20_1, hfz20_2, hfz20_3, hfz20_4, hfz20_5, hfz20_6, hfz20_7, hfz20_8⟩ := zce9 BK328.out))
   go_ret
   exact ⟨zq6, zbz⟩
 ·rw [if_neg c3] at H
  have c3b0 : decide (0 ≤ a1_0) = false := decide_eq_false c3
  clear c3
  obtain rfl := Option.some.inj H
  go_enter Try.func71, Try.ntmps71
  go_wp2_with (first | ((with_reducible refine gate_dst (N := 2) rfl ?_); refine box_event (by rfl) (N := 2) (by rfl) (cs := #[.int .i64 a0_0, .int .i64 a0_1, .int .i64 a0_2, .int .i64 a0_3, .int .i64 a0_4, .int .i64 a0_5, .int .i64 a0_6, .slice A0_7 l0_7.length c0_7, .slice A0_8 l0_8.length c0_8]) (t := 25) zq5 ?_; intro gb328 hg w21 hbox hb; have BK328 := Aside0.mk (hbox); have GW328 := zgs HB hg; have GE328 := zgs HB hg; replace HB := zbs HB hb; clear hb hbox hg) | ((with_reducible refine gate_dst (N := 3) rfl ?_); refine box_event (by rfl) (N := 3) (by rfl) (cs := #[.int .i64 a1_0, .int .i64 a1_1, .int .i64 a1_2, .int .i64 a1_3]) (t := 31) zq5 ?_; intro gb329 hg w22 hbox hb; have BK329 := Aside0.mk (hbox); have GW329 := zgs HB hg; have GE329 := zgs HB hg; have NB328_329 := znp BK328 hg; have NB329_328 := znq BK328 hg; replace BK328 := zbb BK328 hb; replace HB := zbs HB hb; clear hb hbox hg; have hnb23 := NB329_328.out; have hnc23 := NB328_329.out; obtain ⟨hcz24_0, hcz24_1, hcz24_2, hcz24_3, hfz24_0, hfz24_1, hfz24_2, hfz24_3⟩ := zce4 BK329.out))
  go_ret
  exact ⟨zq6, zbz⟩

end Go.Proofs.Ytmhaiihjfgfaoaa.Pr
end
section
namespace Go.Proofs.Ytmhaiihjfgfaoaa.Pr
open Go.RowKit Go.Proofs.YtmhaiihjfgfaoaaW.PrintWords Go.Proofs.YtmhaiihjfgfaoaaW.PrintLast Go.Proofs.YtmhaiihjfgfaoaaW.PrintMore
attribute [local go_sem] max2_int min2_int max_two min_two max_four
set_option linter.unusedVariables false
set_option linter.unusedSimpArgs false

/-! ### isobathref03_inTime: function 72 -/
def isobathref03_inTime.f (a0_0 : Int) (a0_1 : Int) (a0_2 : Int) (a0_3 : Int) (a0_4 : Int) (a0_5 : Int) (a0_6 : Int) (l0_7 : List Bool) (l0_8 : List (S40)) (a1 : Int) (a2 : Int) : Option (Bool) := if a1 ≥ 0 then (some (decide (a2 ≤ (wrap64 (a0_4 * a0_3))))) else (some false)
set_option maxHeartbeats 8000000 in
set_option maxRecDepth 100000 in
theorem isobathref03_inTime.calls (a0_0 : Int) (a0_1 : Int) (a0_2 : Int) (a0_3 : Int) (a0_4 : Int) (a0_5 : Int) (a0_6 : Int) (A0_7 : Option Addr) (c0_7 : Nat) (l0_7 : List Bool) (A0_8 : Option Addr) (c0_8 : Nat) (l0_8 : List (S40)) (a1 : Int) (a2 : Int) (r : Bool) (w : World) (hr0_7 : Kd.C Kd.bool w A0_7 l0_7.length l0_7) (hc0_7 : l0_7.length ≤ c0_7) (hr0_8 : Kd.C k40 w A0_8 l0_8.length l0_8) (hc0_8 : l0_8.length ≤ c0_8) (h : isobathref03_inTime.f a0_0 a0_1 a0_2 a0_3 a0_4 a0_5 a0_6 l0_7 l0_8 a1 a2 = some r) :
  Calls Try.prog 72 #[.agg #[.int .i64 a0_0, .int .i64 a0_1, .int .i64 a0_2, .int .i64 a0_3, .int .i64 a0_4, .int .i64 a0_5, .int .i64 a0_6, .slice A0_7 l0_7.length c0_7, .slice A0_8 l0_8.length c0_8], .int .i64 a1, .int .i64 a2] w fun e w' => e = .returned (.bool r) ∧ Below w.heap.size w w' := by
 have hu25 := Try.underlying25
 have HR0_7 := Aside0.mk hr0_7
 have HC0_7 := Aside0.mk hc0_7
 clear hr0_7 hc0_7
 have HR0_8 := Aside0.mk hr0_8
 have HC0_8 := Aside0.mk hc0_8
 clear hr0_8 hc0_8
 have HB := Aside0.mk (Below.refl w.heap.size w)
 have H : (if a1 ≥ 0 then (some (decide (a2 ≤ (wrap64 (a0_4 * a0_3))))) else (some false)) = some r := h
 clear h
 by_cases c4 : a1 ≥ 0
 ·rw [if_pos c4] at H
  have c4b0 : decide (0 ≤ a1) = true := decide_eq_true c4
  clear c4
  obtain rfl := Option.some.inj H
  go_enter Try.func72, Try.ntmps72
  go_wp2_with (first | ((with_reducible refine gate_dst (N := 3) rfl ?_); refine box_event (by rfl) (N := 3) (by rfl) (cs := #[.int .i64 a0_0, .int .i64 a0_1, .int .i64 a0_2, .int .i64 a0_3, .int .i64 a0_4, .int .i64 a0_5, .int .i64 a0_6, .slice A0_7 l0_7.length c0_7, .slice A0_8 l0_8.length c0_8]) (t := 25) zq5 ?_; intro gb330 hg w5 hbox hb; have BK330 := Aside0.mk (hbox); have GW330 := zgs HB hg; have GE330 := zgs HB hg; replace HB := zbs HB hb; clear hb hbox hg; obtain ⟨hcz6_0, hcz6_1, hcz6_2, hcz6_3, hcz6_4, hcz6_5, hcz6_6, hcz6_7, hcz6_8, hfz6_0, hfz6_1, hfz6_2, hfz6_3, hfz6_4, hfz6_5, hfz6_6, hfz6_7, hfz6_8⟩ := zce9 BK330.out))
  go_ret
  exact ⟨zq6, zbz⟩
 ·rw [if_neg c4] at H
  have c4b0 : decide (0 ≤ a1) = false := decide_eq_false c4
  clear c4
  obtain rfl := Option.some.inj H
  go_enter Try.func72, Try.ntmps72
  go_wp2_with (first | ((with_reducible refine gate_dst (N := 3) rfl ?_); refine box_event (by rfl) (N := 3) (by rfl) (cs := #[.int .i64 a0_0, .int .i64 a0_1, .int .i64 a0_2, .int .i64 a0_3, .int .i64 a0_4, .int .i64 a0_5, .int .i64 a0_6, .slice A0_7 l0_7.length c0_7, .slice A0_8 l0_8.length c0_8]) (t := 25) zq5 ?_; intro gb330 hg w7 hbox hb; have BK330 := Aside0.mk (hbox); have GW330 := zgs HB hg; have GE330 := zgs HB hg; replace HB := zbs HB hb; clear hb hbox hg))
  go_ret
  exact ⟨zq6, zbz⟩

end Go.Proofs.Ytmhaiihjfgfaoaa.Pr
end
