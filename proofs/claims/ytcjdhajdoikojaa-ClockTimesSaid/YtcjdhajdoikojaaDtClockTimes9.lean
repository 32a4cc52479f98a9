/- Part 9 of the proof of ClockTimes: what the functions compute. No condition. -/
import Derived.SizedLaws
import Derived.ChangeSlices
import Derived.Deep.Slices
import Derived.ChangeArms
import Derived.DataReads
import Derived.WideShapes
import Derived.KernelRfl
import Derived.Test.YtcjdhajdoikojaaDtClockTimes1
import Derived.Test.YtcjdhajdoikojaaDtClockTimes5
import Derived.Test.YtcjdhajdoikojaaDtClockTimes8
import Derived.Test.YtcjdhajdoikojaaDtClockTimes7
import Derived.Test.YtcjdhajdoikojaaDtClockTimes6
section
-- PRINTED by print.py (a twelfth state) out of the translation. Not trusted: Lean checks it.
namespace Go.Proofs.Ytcjdhajdoikojaa.Pr
open Go.RowKit Go.Proofs.YtcjdhajdoikojaaW.PrintWords Go.Proofs.YtcjdhajdoikojaaW.PrintLast Go.Proofs.YtcjdhajdoikojaaW.PrintMore
attribute [local go_sem] max2_int min2_int max_two min_two
set_option linter.unusedVariables false
set_option linter.unusedSimpArgs false

attribute [local go_sem high] eqA35
/-! ### isobathlaw05_ClockTimes: function 9 -/
mutual
def isobathlaw05_ClockTimes.j0 : Nat → List (S30) → List (S41) → Bool → Option (Bool)
  | 0, _, _, _ => none
  | k + 1, x0, x1, x30 => if x30 = true then ((isobathlaw05_Works.f).bind fun t474 => (some t474)) else (isobathlaw05_ClockTimes.l0 k x0 x1 0)
def isobathlaw05_ClockTimes.l0 : Nat → List (S30) → List (S41) → Int → Option (Bool)
  | 0, _, _, _ => none
  | k + 1, x0, x1, x5 => if x5 < (x1.length : Int) then (isobathlaw05_ClockTimes.j2 k x0 x1 x5 (decide (x5 < 20))) else (isobathlaw05_ClockTimes.j2 k x0 x1 x5 false)
def isobathlaw05_ClockTimes.j2 : Nat → List (S30) → List (S41) → Int → Bool → Option (Bool)
  | 0, _, _, _, _ => none
  | k + 1, x0, x1, x5, x39 => if x39 = true then (if 0 ≤ x5 then (if x5 < (x1.length : Int) then ((clock_Time.f x0 ((rd_T41 x1 x5).f0) ((rd_T41 x1 x5).f1)).bind fun bt476 => ((isobathref05_Time.f k x0 ((rd_T41 x1 x5).f0) ((rd_T41 x1 x5).f1)).bind fun bt481 => (if (!(bt476.1 == bt481.1) || (!(bt476.2.1 == bt481.2.1))) = true then (some false) else (if bt476.2.2 = bt481.2.2 then (isobathlaw05_ClockTimes.l0 k x0 x1 (wrap64 (x5 + 1))) else (some false))))) else (none)) else (none)) else ((clock_Times.f x0 x1).bind fun bt485 => ((isobathref05_Times.f k x0 x1).bind fun bt489 => ((clock_CheckHouse.f x0).bind fun t493 => ((isobathref05_CheckHouse.f k x0).bind fun t494 => (if t493 = t494 then ((isobathlaw05_same.f k bt485.1 bt489.1).bind fun t495 => (if t495 = true then (if bt485.2 = bt489.2 then ((isobathlaw05_Works.f).bind fun t496 => (some t496)) else (some false)) else (some false))) else (some false))))))
end
def isobathlaw05_ClockTimes.f (k : Nat) (l0 : List (S30)) (l1 : List (S41)) : Option (Bool) := (isobathlaw05_great.f k l0).bind fun t473 => (if t473 = true then (isobathlaw05_ClockTimes.j0 k l0 l1 true) else (if (l1.length : Int) > 20 then (if (l1.length : Int) ≤ 128 then (isobathlaw05_ClockTimes.j0 k l0 l1 true) else (isobathlaw05_ClockTimes.j0 k l0 l1 (decide ((l1.length : Int) > 140)))) else (isobathlaw05_ClockTimes.j0 k l0 l1 (decide ((l1.length : Int) > 140)))))
set_option maxHeartbeats 8000000 in
set_option maxRecDepth 100000 in
theorem isobathlaw05_ClockTimes.calls (k : Nat) (A0 : Option Addr) (c0 : Nat) (l0 : List (S30)) (A1 : Option Addr) (c1 : Nat) (l1 : List (S41)) (r : Bool) (w : World) (hr0 : Kd.C k30 w A0 l0.length l0) (hc0 : l0.length ≤ c0) (hr1 : Kd.C k41 w A1 l1.length l1) (hc1 : l1.length ≤ c1) (h : isobathlaw05_ClockTimes.f k l0 l1 = some r) (hr_ : Aside0 (r = true)) :
    Calls Try.prog 9 #[.slice A0 l0.length c0, .slice A1 l1.length c1] w fun e w' => e = .returned (.bool r) ∧ Below w.heap.size w w' := by
  have hu41 := Try.underlying41
  have hu35 := Try.underlying35
  have HR0 := Aside0.mk hr0
  have HC0 := Aside0.mk hc0
  clear hr0 hc0
  have HR1 := Aside0.mk hr1
  have HC1 := Aside0.mk hc1
  clear hr1 hc1
  have HB := Aside0.mk (Below.refl w.heap.size w)
  have H : ((isobathlaw05_great.f k l0).bind fun t473 => (if t473 = true then (isobathlaw05_ClockTimes.j0 k l0 l1 true) else (if (l1.length : Int) > 20 then (if (l1.length : Int) ≤ 128 then (isobathlaw05_ClockTimes.j0 k l0 l1 true) else (isobathlaw05_ClockTimes.j0 k l0 l1 (decide ((l1.length : Int) > 140)))) else (isobathlaw05_ClockTimes.j0 k l0 l1 (decide ((l1.length : Int) > 140)))))) = some r := h
  clear h
  have HC3 := Aside0.mk H
  clear H
  go_enter Try.func9, Try.ntmps9
  go_upto_region 1 with (fail)
  go_cut [30] (fun v30 wc => ∃ (kq : Nat) (x30_2 : Bool), v30 = .bool x30_2 ∧ Aside0 (isobathlaw05_ClockTimes.j0 kq l0 l1 x30_2 = some r) ∧ Aside0 (kq ≤ k) ∧ Aside0 (Below w.heap.size w wc))
  case first =>
    have H := HC3.out
    clear HC3
    replace H := Option.bind_eq_some_iff.mp H
    obtain ⟨t473, A40, H⟩ := H
    replace H : (if t473 = true then (isobathlaw05_ClockTimes.j0 k l0 l1 true) else (if (l1.length : Int) > 20 then (if (l1.length : Int) ≤ 128 then (isobathlaw05_ClockTimes.j0 k l0 l1 true) else (isobathlaw05_ClockTimes.j0 k l0 l1 (decide ((l1.length : Int) > 140)))) else (isobathlaw05_ClockTimes.j0 k l0 l1 (decide ((l1.length : Int) > 140))))) = some r := H
    have A4 := Aside0.mk A40
    clear A40
    by_cases c5 : t473 = true
    · subst c5
      have H1 : (isobathlaw05_ClockTimes.j0 k l0 l1 true) = some r := by rw [if_pos rfl] at H; exact H
      clear H
      have H := H1
      clear H1
      have H' := Aside0.mk H
      clear H
      go_wp2_with (first | ((with_reducible refine gate_callee (f := 34) rfl ?_); refine goesL_ (some 15) rfl rfl Try.func34 (by kernel_rfl) rfl #[.slice A0 l0.length c0] rfl (by (try simp only [List.map_toArray, List.map_cons, List.map_nil]); first | done | rfl | (simp only [List.length_drop, List.length_take]; rfl)) ?_; (with_reducible refine (isobathlaw05_great.calls k _ _ l0 true _ ?side1 ?side2 A4.out).mono ?_); (case side1 => repeat (first | exact (Kd.C_below HR0.out HB.out) | (with_reducible refine Kd.C_alloc ?_ _) | (with_reducible refine Kd.C_drewN ?_ _) | (with_reducible refine Kd.C_drew ?_))); (case side2 => exact HC0.out); rintro e w6 ⟨rfl, hb⟩; refine ⟨_, rfl, ?_⟩; have n0_ := Aside0.mk (below_step (by repeat (first | (with_reducible first | exact HB.out | apply below_alloc | apply pw_below_drewN | apply below_drew1) | exact HB.out)) hb); clear HB; have HB := n0_; clear n0_; (try clear hb); (try clear hb2); (try clear hk); (try clear hi)))
      go_meet
      case rel => exact ⟨_, (true), (by first | rfl | (simp; done) | (simp [*]; done)), H', ⟨by first | omega | exact Nat.le_refl _⟩, ⟨by repeat (first | (with_reducible first | exact HB.out | apply below_alloc | apply pw_below_drewN | apply below_drew1) | exact HB.out)⟩⟩
    · replace c5 := Bool.eq_false_iff.mpr c5
      subst c5
      have H1 : (if (l1.length : Int) > 20 then (if (l1.length : Int) ≤ 128 then (isobathlaw05_ClockTimes.j0 k l0 l1 true) else (isobathlaw05_ClockTimes.j0 k l0 l1 (decide ((l1.length : Int) > 140)))) else (isobathlaw05_ClockTimes.j0 k l0 l1 (decide ((l1.length : Int) > 140)))) = some r := by rw [if_neg (show ¬ (false = true) by decide)] at H; exact H
      clear H
      have H := H1
      clear H1
      by_cases c7 : (l1.length : Int) > 20
      · rw [if_pos c7] at H
        have c7b0 : decide (20 < (l1.length : Int)) = true := decide_eq_true c7
        have c7b1 : decide (20 < l1.length) = true := decide_eq_true (by omega)
        clear c7
        (first | rw [c7b0] | (simp only [i64_w, i32_w]; rw [c7b0]) | skip)
        by_cases c8 : (l1.length : Int) ≤ 128
        · rw [if_pos c8] at H
          have c8b0 : decide ((l1.length : Int) ≤ 128) = true := decide_eq_true c8
          have c8b1 : decide (l1.length ≤ 128) = true := decide_eq_true (by omega)
          clear c8
          have H' := Aside0.mk H
          clear H
          go_wp2_with (first | ((with_reducible refine gate_callee (f := 34) rfl ?_); refine goesL_ (some 15) rfl rfl Try.func34 (by kernel_rfl) rfl #[.slice A0 l0.length c0] rfl (by (try simp only [List.map_toArray, List.map_cons, List.map_nil]); first | done | rfl | (simp only [List.length_drop, List.length_take]; rfl)) ?_; (with_reducible refine (isobathlaw05_great.calls k _ _ l0 false _ ?side1 ?side2 A4.out).mono ?_); (case side1 => repeat (first | exact (Kd.C_below HR0.out HB.out) | (with_reducible refine Kd.C_alloc ?_ _) | (with_reducible refine Kd.C_drewN ?_ _) | (with_reducible refine Kd.C_drew ?_))); (case side2 => exact HC0.out); rintro e w9 ⟨rfl, hb⟩; refine ⟨_, rfl, ?_⟩; have n0_ := Aside0.mk (below_step (by repeat (first | (with_reducible first | exact HB.out | apply below_alloc | apply pw_below_drewN | apply below_drew1) | exact HB.out)) hb); clear HB; have HB := n0_; clear n0_; (try clear hb); (try clear hb2); (try clear hk); (try clear hi)))
          go_meet
          case rel => exact ⟨_, (true), (by first | rfl | (simp; done) | (simp [*]; done)), H', ⟨by first | omega | exact Nat.le_refl _⟩, ⟨by repeat (first | (with_reducible first | exact HB.out | apply below_alloc | apply pw_below_drewN | apply below_drew1) | exact HB.out)⟩⟩
        · rw [if_neg c8] at H
          have c8b0 : decide ((l1.length : Int) ≤ 128) = false := decide_eq_false c8
          have c8b1 : decide (l1.length ≤ 128) = false := decide_eq_false (by omega)
          clear c8
          have H' := Aside0.mk H
          clear H
          go_wp2_with (first | ((with_reducible refine gate_callee (f := 34) rfl ?_); refine goesL_ (some 15) rfl rfl Try.func34 (by kernel_rfl) rfl #[.slice A0 l0.length c0] rfl (by (try simp only [List.map_toArray, List.map_cons, List.map_nil]); first | done | rfl | (simp only [List.length_drop, List.length_take]; rfl)) ?_; (with_reducible refine (isobathlaw05_great.calls k _ _ l0 false _ ?side1 ?side2 A4.out).mono ?_); (case side1 => repeat (first | exact (Kd.C_below HR0.out HB.out) | (with_reducible refine Kd.C_alloc ?_ _) | (with_reducible refine Kd.C_drewN ?_ _) | (with_reducible refine Kd.C_drew ?_))); (case side2 => exact HC0.out); rintro e w10 ⟨rfl, hb⟩; refine ⟨_, rfl, ?_⟩; have n0_ := Aside0.mk (below_step (by repeat (first | (with_reducible first | exact HB.out | apply below_alloc | apply pw_below_drewN | apply below_drew1) | exact HB.out)) hb); clear HB; have HB := n0_; clear n0_; (try clear hb); (try clear hb2); (try clear hk); (try clear hi)))
          go_meet
          case rel => exact ⟨_, (decide ((l1.length : Int) > 140)), (by first | rfl | (simp; done) | (simp [*]; done)), H', ⟨by first | omega | exact Nat.le_refl _⟩, ⟨by repeat (first | (with_reducible first | exact HB.out | apply below_alloc | apply pw_below_drewN | apply below_drew1) | exact HB.out)⟩⟩
      · rw [if_neg c7] at H
        have c7b0 : decide (20 < (l1.length : Int)) = false := decide_eq_false c7
        have c7b1 : decide (20 < l1.length) = false := decide_eq_false (by omega)
        clear c7
        (first | rw [c7b0] | (simp only [i64_w, i32_w]; rw [c7b0]) | skip)
        have H' := Aside0.mk H
        clear H
        go_wp2_with (first | ((with_reducible refine gate_callee (f := 34) rfl ?_); refine goesL_ (some 15) rfl rfl Try.func34 (by kernel_rfl) rfl #[.slice A0 l0.length c0] rfl (by (try simp only [List.map_toArray, List.map_cons, List.map_nil]); first | done | rfl | (simp only [List.length_drop, List.length_take]; rfl)) ?_; (with_reducible refine (isobathlaw05_great.calls k _ _ l0 false _ ?side1 ?side2 A4.out).mono ?_); (case side1 => repeat (first | exact (Kd.C_below HR0.out HB.out) | (with_reducible refine Kd.C_alloc ?_ _) | (with_reducible refine Kd.C_drewN ?_ _) | (with_reducible refine Kd.C_drew ?_))); (case side2 => exact HC0.out); rintro e w11 ⟨rfl, hb⟩; refine ⟨_, rfl, ?_⟩; have n0_ := Aside0.mk (below_step (by repeat (first | (with_reducible first | exact HB.out | apply below_alloc | apply pw_below_drewN | apply below_drew1) | exact HB.out)) hb); clear HB; have HB := n0_; clear n0_; (try clear hb); (try clear hb2); (try clear hk); (try clear hi)))
        go_meet
        case rel => exact ⟨_, (decide ((l1.length : Int) > 140)), (by first | rfl | (simp; done) | (simp [*]; done)), H', ⟨by first | omega | exact Nat.le_refl _⟩, ⟨by repeat (first | (with_reducible first | exact HB.out | apply below_alloc | apply pw_below_drewN | apply below_drew1) | exact HB.out)⟩⟩
  case rest =>
    clear HC3
    try clear c1
    try clear p2
    try clear c3
    try clear c5
    try clear c7
    try clear c7b0
    try clear c7b1
    try clear c8
    try clear c8b0
    try clear c8b1
    try clear c9
    obtain ⟨kq, x30_2, rfl, HA, HJ2, HB⟩ := hcut
    cases kq with
    | zero => exact absurd HA.out (by simp [isobathlaw05_ClockTimes.j0])
    | succ kj2 =>
      have H := HA.out
      clear HA
      simp only [isobathlaw05_ClockTimes.j0] at H
      by_cases c12 : x30_2 = true
      · subst c12
        have H1 : ((isobathlaw05_Works.f).bind fun t474 => (some t474)) = some r := by rw [if_pos rfl] at H; exact H
        clear H
        have H := H1
        clear H1
        replace H := Option.bind_eq_some_iff.mp H
        obtain ⟨t474, A130, H⟩ := H
        replace H : (some t474) = some r := H
        have A13 := Aside0.mk A130
        clear A130
        obtain rfl := Option.some.inj H
        go_wp2_with (first | ((with_reducible refine gate_callee (f := 16) rfl ?_); refine goesL_ (some 31) rfl rfl Try.func16 (by kernel_rfl) rfl #[] rfl (by (try simp only [List.map_toArray, List.map_cons, List.map_nil]); first | done | rfl | (simp only [List.length_drop, List.length_take]; rfl)) ?_; (with_reducible refine (isobathlaw05_Works.calls  t474 _ A13.out).mono ?_); rintro e w14 ⟨rfl, hb⟩; refine ⟨_, rfl, ?_⟩; have n0_ := Aside0.mk (below_step (by repeat (first | (with_reducible first | exact HB.out | apply below_alloc | apply pw_below_drewN | apply below_drew1) | exact HB.out)) hb); clear HB; have HB := n0_; clear n0_; (try clear hb); (try clear hb2); (try clear hk); (try clear hi)))
        go_ret
        exact ⟨by first | rfl | (simp [errW_none, errW_some] <;> rfl) | (simp [*, errW_none, errW_some] <;> rfl), by repeat (first | (with_reducible first | exact HB.out | apply below_alloc | apply pw_below_drewN | apply below_drew1) | exact HB.out)⟩
      · replace c12 := Bool.eq_false_iff.mpr c12
        subst c12
        have H1 : (isobathlaw05_ClockTimes.l0 kj2 l0 l1 0) = some r := by rw [if_neg (show ¬ (false = true) by decide)] at H; exact H
        clear H
        have H := H1
        clear H1
        have H' := Aside0.mk H
        clear H
        go_wp2
        go_loopg [5] kj2 (fun kq v5 w' => ∃ (x5_2 : Int), v5 = .int .i64 x5_2 ∧ Aside0 (isobathlaw05_ClockTimes.l0 kq l0 l1 x5_2 = some r) ∧ Aside0 (kq ≤ kj2) ∧ Aside0 (Below w.heap.size w w'))
        case atStart => exact ⟨(0), (by first | rfl | (simp; done) | (simp [*]; done)), H', ⟨Nat.le_refl _⟩, ⟨by repeat (first | (with_reducible first | exact HB.out | apply below_alloc | apply pw_below_drewN | apply below_drew1) | exact HB.out)⟩⟩
        case round =>
          clear H'
          try clear c1
          try clear p2
          try clear c3
          try clear c5
          try clear c7
          try clear c7b0
          try clear c7b1
          try clear c8
          try clear c8b0
          try clear c8b1
          try clear c9
          try clear c12
          try clear p2
          obtain ⟨x5_2, rfl, HA, HK2, HB⟩ := hrel
          cases gk with
          | zero => exact absurd HA.out (by simp [isobathlaw05_ClockTimes.l0])
          | succ k2 =>
            have H := HA.out
            clear HA
            simp only [isobathlaw05_ClockTimes.l0] at H
            have HC15 := Aside0.mk H
            clear H
            go_upto_region 4 with (fail)
            go_cut [39] (fun v39 wc => ∃ (kq : Nat) (x39_14 : Bool), v39 = .bool x39_14 ∧ Aside0 (isobathlaw05_ClockTimes.j2 kq l0 l1 x5_2 x39_14 = some r) ∧ Aside0 (kq ≤ k2) ∧ Aside0 (Below w.heap.size w wc))
            case first =>
              have H := HC15.out
              clear HC15
              by_cases c16 : x5_2 < (l1.length : Int)
              · rw [if_pos c16] at H
                have c16b0 : decide (x5_2 < (l1.length : Int)) = true := decide_eq_true c16
                clear c16
                (first | rw [c16b0] | (simp only [i64_w, i32_w]; rw [c16b0]) | skip)
                have H' := Aside0.mk H
                clear H
                go_wp2
                go_meet
                case rel => exact ⟨_, (decide (x5_2 < 20)), (by first | rfl | (simp; done) | (simp [*]; done)), H', ⟨by have := HJ2.out; have := HK2.out; first | omega | exact Nat.le_refl _⟩, ⟨by repeat (first | (with_reducible first | exact HB.out | apply below_alloc | apply pw_below_drewN | apply below_drew1) | exact HB.out)⟩⟩
              · rw [if_neg c16] at H
                have c16b0 : decide (x5_2 < (l1.length : Int)) = false := decide_eq_false c16
                clear c16
                (first | rw [c16b0] | (simp only [i64_w, i32_w]; rw [c16b0]) | skip)
                have H' := Aside0.mk H
                clear H
                go_wp2
                go_meet
                case rel => exact ⟨_, (false), (by first | rfl | (simp; done) | (simp [*]; done)), H', ⟨by have := HJ2.out; have := HK2.out; first | omega | exact Nat.le_refl _⟩, ⟨by repeat (first | (with_reducible first | exact HB.out | apply below_alloc | apply pw_below_drewN | apply below_drew1) | exact HB.out)⟩⟩
            case rest =>
              clear HC15
              try clear c1
              try clear p2
              try clear c3
              try clear c5
              try clear c7
              try clear c7b0
              try clear c7b1
              try clear c8
              try clear c8b0
              try clear c8b1
              try clear c9
              try clear c12
              try clear c16
              try clear c16b0
              try clear p2
              obtain ⟨kq, x39_14, rfl, HA, HJ14, HB⟩ := hcut
              cases kq with
              | zero => exact absurd HA.out (by simp [isobathlaw05_ClockTimes.j2])
              | succ kj14 =>
                have H := HA.out
                clear HA
                simp only [isobathlaw05_ClockTimes.j2] at H
                by_cases c17 : x39_14 = true
                · subst c17
                  have H1 : (if 0 ≤ x5_2 then (if x5_2 < (l1.length : Int) then ((clock_Time.f l0 ((rd_T41 l1 x5_2).f0) ((rd_T41 l1 x5_2).f1)).bind fun bt476 => ((isobathref05_Time.f kj14 l0 ((rd_T41 l1 x5_2).f0) ((rd_T41 l1 x5_2).f1)).bind fun bt481 => (if (!(bt476.1 == bt481.1) || (!(bt476.2.1 == bt481.2.1))) = true then (some false) else (if bt476.2.2 = bt481.2.2 then (isobathlaw05_ClockTimes.l0 kj14 l0 l1 (wrap64 (x5_2 + 1))) else (some false))))) else (none)) else (none)) = some r := by rw [if_pos rfl] at H; exact H
                  clear H
                  have H := H1
                  clear H1
                  by_cases c18 : 0 ≤ x5_2
                  · rw [if_pos c18] at H
                    have c18b0 : decide (0 ≤ x5_2) = true := decide_eq_true c18
                    clear c18
                    by_cases c19 : x5_2 < (l1.length : Int)
                    · rw [if_pos c19] at H
                      have c19b0 : decide (x5_2 < (l1.length : Int)) = true := decide_eq_true c19
                      clear c19
                      replace H := Option.bind_eq_some_iff.mp H
                      obtain ⟨⟨t476, t477, t478⟩, A200, H⟩ := H
                      replace H : ((isobathref05_Time.f kj14 l0 ((rd_T41 l1 x5_2).f0) ((rd_T41 l1 x5_2).f1)).bind fun bt481 => (if (!(t476 == bt481.1) || (!(t477 == bt481.2.1))) = true then (some false) else (if t478 = bt481.2.2 then (isobathlaw05_ClockTimes.l0 kj14 l0 l1 (wrap64 (x5_2 + 1))) else (some false)))) = some r := H
                      have A20 := Aside0.mk A200
                      clear A200
                      replace H := Option.bind_eq_some_iff.mp H
                      obtain ⟨⟨t481, t482, t483⟩, A210, H⟩ := H
                      replace H : (if (!(t476 == t481) || (!(t477 == t482))) = true then (some false) else (if t478 = t483 then (isobathlaw05_ClockTimes.l0 kj14 l0 l1 (wrap64 (x5_2 + 1))) else (some false))) = some r := H
                      have A21 := Aside0.mk A210
                      clear A210
                      by_cases c22 : (!(t476 == t481) || (!(t477 == t482))) = true
                      · rw [if_pos c22] at H
                        have c22b0 : (!(t476 == t481) || (!(t477 == t482))) = true := c22
                        clear c22
                        have hh_ := Option.some.inj H
                        rw [hr_.out] at hh_
                        cases hh_
                      · rw [if_neg c22] at H
                        have c22b0 : (!(t476 == t481) || (!(t477 == t482))) = false := by simpa using c22
                        clear c22
                        by_cases c31 : t478 = t483
                        · rw [if_pos c31] at H
                          have c31b0 : (t478 == t483) = true := beq_iff_eq.mpr c31
                          have c31b1 : (t478 != t483) = false := bne_eq_false_iff_eq.mpr c31
                          clear c31
                          have H' := Aside0.mk H
                          clear H
                          have p475 : 0 ≤ (x5_2 : Int) := of_decide_eq_true (by first | (with_reducible assumption) | assumption)
                          have q475 : x5_2 < (l1.length : Int) := of_decide_eq_true (by first | (with_reducible assumption) | assumption)
                          obtain ⟨ad475, e475, hx475_0, hx475_1⟩ := at_T41 HR1.out x5_2 p475 q475
                          cases e475
                          replace hx475_0 := (HB.out.cell (World.block_lt_of_cell? w _ hx475_0)).trans hx475_0
                          replace hx475_1 := (HB.out.cell (World.block_lt_of_cell? w _ hx475_1)).trans hx475_1
                          replace p475 := eq_true p475
                          replace q475 := eq_true q475
                          go_wp2_with (first | ((with_reducible refine gate_callee (f := 17) rfl ?_); refine goesL_ (some 48) rfl rfl Try.func17 (by kernel_rfl) rfl #[.slice A0 l0.length c0, .agg #[.int .i64 ((rd_T41 l1 x5_2).f0), .int .i64 ((rd_T41 l1 x5_2).f1)]] rfl (by (try simp only [List.map_toArray, List.map_cons, List.map_nil]); first | done | rfl | (simp only [List.length_drop, List.length_take]; rfl)) ?_; (with_reducible refine (clock_Time.calls _ _ l0 ((rd_T41 l1 x5_2).f0) ((rd_T41 l1 x5_2).f1) t476 t477 t478 _ ?side1 ?side2 A20.out).mono ?_); (case side1 => repeat (first | exact (Kd.C_below HR0.out HB.out) | (with_reducible refine Kd.C_alloc ?_ _) | (with_reducible refine Kd.C_drewN ?_ _) | (with_reducible refine Kd.C_drew ?_))); (case side2 => exact HC0.out); rintro e w32 ⟨rfl, hb⟩; refine ⟨_, rfl, ?_⟩; have n0_ := Aside0.mk (below_step (by repeat (first | (with_reducible first | exact HB.out | apply below_alloc | apply pw_below_drewN | apply below_drew1) | exact HB.out)) hb); clear HB; have HB := n0_; clear n0_; (try clear hb); (try clear hb2); (try clear hk); (try clear hi)) | ((with_reducible refine gate_dst (N := 6) rfl ?_); (try (refine gate_guard (by rfl) ?_; dsimp only)); refine box_event ?hg (N := 6) ?hd (cs := #[.int .i64 0, .int .i64 0]) (t := 35) ?hr ?_; (case hd => rfl); (case hg => rfl); (case hr => first | (go_simp; done) | (go_simp; rfl)); intro gb479 hg w33 hbox hb; have n0_ := Aside0.mk (below_step (by repeat (first | (with_reducible first | exact HB.out | apply below_alloc | apply pw_below_drewN | apply below_drew1) | exact HB.out)) hb); have n1_ := Aside0.mk (hbox); have n2_ := Aside0.mk ((by rw [hg]; exact (below_size (by repeat (first | (with_reducible first | exact HB.out | apply below_alloc | apply pw_below_drewN | apply below_drew1) | exact HB.out))) : w.heap.size ≤ gb479)); have n3_ := Aside0.mk ((by rw [hg]; exact (below_size (by repeat (first | (with_reducible first | exact HB.out | apply below_alloc | apply pw_below_drewN | apply below_drew1) | exact HB.out))) : w.heap.size ≤ gb479)); clear HB; have HB := n0_; have BK479 := n1_; have GW479 := n2_; have GE479 := n3_; clear n0_ n1_ n2_ n3_; clear hb hbox hg; have hcz34_0 : w33.cell? ⟨gb479, 0, none⟩ = some (.int .i64 0) := (blk_cell BK479.out 0).trans rfl; have hcz34_1 : w33.cell? ⟨gb479, 1, none⟩ = some (.int .i64 0) := (blk_cell BK479.out 1).trans rfl; have hfz34_0 := blk_frozen BK479.out 0; have hfz34_1 := blk_frozen BK479.out 1; have p480 : 0 ≤ (x5_2 : Int) := of_decide_eq_true (by first | (with_reducible assumption) | assumption); have q480 : x5_2 < (l1.length : Int) := of_decide_eq_true (by first | (with_reducible assumption) | assumption); obtain ⟨ad480, e480, hx480_0, hx480_1⟩ := at_T41 HR1.out x5_2 p480 q480; obtain rfl : ad475 = ad480 := (by injection e480); have hn480_0 : ad475.block ≠ gb479 := Nat.ne_of_lt (Nat.lt_of_lt_of_le (by have := World.block_lt_of_cell? _ _ hx480_0; first | rwa [add_block] at this | exact this) GW479.out); have hn480_1 : ad475.block ≠ gb479 := Nat.ne_of_lt (Nat.lt_of_lt_of_le (by have := World.block_lt_of_cell? _ _ hx480_0; first | rwa [add_block] at this | exact this) GW479.out); replace hx480_0 := (HB.out.cell (World.block_lt_of_cell? w _ hx480_0)).trans hx480_0; replace hx480_1 := (HB.out.cell (World.block_lt_of_cell? w _ hx480_1)).trans hx480_1; replace hx480_0 := (cell_far (p := ⟨gb479, 0, none⟩) (by first | (rw [add_block]; exact hn480_0) | (show (Addr.add _ _).block ≠ _; rw [add_block]; exact hn480_0) | exact hn480_0) (.int .i64 t476)).trans hx480_0; replace hx480_1 := (cell_far (p := ⟨gb479, 0, none⟩) (by first | (rw [add_block]; exact hn480_0) | (show (Addr.add _ _).block ≠ _; rw [add_block]; exact hn480_0) | exact hn480_0) (.int .i64 t476)).trans hx480_1; replace hx480_0 := (cell_far (p := ⟨gb479, 1, none⟩) (by first | (rw [add_block]; exact hn480_1) | (show (Addr.add _ _).block ≠ _; rw [add_block]; exact hn480_1) | exact hn480_1) (.int .i64 t477)).trans hx480_0; replace hx480_1 := (cell_far (p := ⟨gb479, 1, none⟩) (by first | (rw [add_block]; exact hn480_1) | (show (Addr.add _ _).block ≠ _; rw [add_block]; exact hn480_1) | exact hn480_1) (.int .i64 t477)).trans hx480_1; clear hn480_0; clear hn480_1; replace p480 := eq_true p480; replace q480 := eq_true q480) | ((with_reducible refine gate_callee (f := 35) rfl ?_); refine goesL_ (some 57) rfl rfl Try.func35 (by kernel_rfl) rfl #[.slice A0 l0.length c0, .agg #[.int .i64 ((rd_T41 l1 x5_2).f0), .int .i64 ((rd_T41 l1 x5_2).f1)]] rfl (by (try simp only [List.map_toArray, List.map_cons, List.map_nil]); first | done | rfl | (simp only [List.length_drop, List.length_take]; rfl)) ?_; (with_reducible refine (isobathref05_Time.calls kj14 _ _ l0 ((rd_T41 l1 x5_2).f0) ((rd_T41 l1 x5_2).f1) t481 t482 t483 _ ?side1 ?side2 A21.out).mono ?_); (case side1 => exact Kd.C_below HR0.out (by repeat (first | (with_reducible first | exact HB.out | apply below_alloc | apply pw_below_drewN | apply below_drew1 | refine below_set ?_ GE479.out) | exact HB.out))); (case side2 => exact HC0.out); rintro e w35 ⟨rfl, hb⟩; refine ⟨_, rfl, ?_⟩; have n0_ := Aside0.mk (blk_below (g := gb479) (o := .cells #[.int .i64 t476, .int .i64 t477] 35 (0, 0)) (by (with_reducible repeat (first | refine blk_drewN ?_ _ | refine blk_drew ?_ | refine blk_alloc ?_ _)); refine blk_put (cs := #[.int .i64 t476, .int .i64 0]) ?_ 1 _ rfl; (with_reducible repeat (first | refine blk_drewN ?_ _ | refine blk_drew ?_ | refine blk_alloc ?_ _)); refine blk_put (cs := #[.int .i64 0, .int .i64 0]) ?_ 0 _ rfl; (with_reducible repeat (first | refine blk_drewN ?_ _ | refine blk_drew ?_ | refine blk_alloc ?_ _)); exact BK479.out) hb); have n1_ := Aside0.mk (below_step (by repeat (first | (with_reducible first | exact HB.out | apply below_alloc | apply pw_below_drewN | apply below_drew1 | refine below_set ?_ GE479.out) | exact HB.out)) hb); clear BK479; clear HB; have BK479 := n0_; have HB := n1_; clear n0_ n1_; (try clear hb); (try clear hb2); (try clear hk); (try clear hi)) | ((with_reducible refine gate_dst (N := 8) rfl ?_); (try (refine gate_guard (by rfl) ?_; dsimp only)); refine box_event ?hg (N := 8) ?hd (cs := #[.int .i64 0, .int .i64 0]) (t := 35) ?hr ?_; (case hd => rfl); (case hg => rfl); (case hr => first | (go_simp; done) | (go_simp; rfl)); intro gb484 hg w36 hbox hb; have n0_ := Aside0.mk (blk_below (g := gb479) (o := .cells #[.int .i64 t476, .int .i64 t477] 35 (0, 0)) (by (with_reducible repeat (first | refine blk_drewN ?_ _ | refine blk_drew ?_ | refine blk_alloc ?_ _)); exact BK479.out) hb); have n1_ := Aside0.mk (below_step (by repeat (first | (with_reducible first | exact HB.out | apply below_alloc | apply pw_below_drewN | apply below_drew1 | refine below_set ?_ GE479.out) | exact HB.out)) hb); have n2_ := Aside0.mk (hbox); have n3_ := Aside0.mk ((by rw [hg]; exact (below_size (by repeat (first | (with_reducible first | exact HB.out | apply below_alloc | apply pw_below_drewN | apply below_drew1 | refine below_set ?_ GE479.out) | exact HB.out))) : w.heap.size ≤ gb484)); have n4_ := Aside0.mk ((by rw [hg]; exact (below_size (by repeat (first | (with_reducible first | exact HB.out | apply below_alloc | apply pw_below_drewN | apply below_drew1 | refine below_set ?_ GE479.out) | exact HB.out))) : w.heap.size ≤ gb484)); have n5_ := Aside0.mk ((by rw [hg]; exact Nat.ne_of_lt (blk_lt (g := gb479) (o := .cells #[.int .i64 t476, .int .i64 t477] 35 (0, 0)) (by (with_reducible repeat (first | refine blk_drewN ?_ _ | refine blk_drew ?_ | refine blk_alloc ?_ _)); exact BK479.out)) : gb479 ≠ gb484)); have n6_ := Aside0.mk ((by rw [hg]; exact Nat.ne_of_gt (blk_lt (g := gb479) (o := .cells #[.int .i64 t476, .int .i64 t477] 35 (0, 0)) (by (with_reducible repeat (first | refine blk_drewN ?_ _ | refine blk_drew ?_ | refine blk_alloc ?_ _)); exact BK479.out)) : gb484 ≠ gb479)); clear BK479; clear HB; have BK479 := n0_; have HB := n1_; have BK484 := n2_; have GW484 := n3_; have GE484 := n4_; have NB479_484 := n5_; have NB484_479 := n6_; clear n0_ n1_ n2_ n3_ n4_ n5_ n6_; clear hb hbox hg; have hnb37 := NB484_479.out; have hnc37 := NB479_484.out; have hcz38_0 : w36.cell? ⟨gb484, 0, none⟩ = some (.int .i64 0) := (blk_cell BK484.out 0).trans rfl; have hcz38_1 : w36.cell? ⟨gb484, 1, none⟩ = some (.int .i64 0) := (blk_cell BK484.out 1).trans rfl; have hfz38_0 := blk_frozen BK484.out 0; have hfz38_1 := blk_frozen BK484.out 1; have hcz39_0 : w36.cell? ⟨gb479, 0, none⟩ = some (.int .i64 t476) := (blk_cell BK479.out 0).trans rfl; have hcz39_1 : w36.cell? ⟨gb479, 1, none⟩ = some (.int .i64 t477) := (blk_cell BK479.out 1).trans rfl; have hfz39_0 := blk_frozen BK479.out 0; have hfz39_1 := blk_frozen BK479.out 1))
                          go_roundg kj14
                          case measure => have := HJ2.out; have := HK2.out; have := HJ14.out; omega
                          case rel => exact ⟨(wrap64 (x5_2 + 1)), (by first | rfl | (simp; done) | (simp [*]; done)), H', ⟨by have := HJ2.out; have := HK2.out; have := HJ14.out; omega⟩, ⟨by repeat (first | (with_reducible first | exact HB.out | apply below_alloc | apply pw_below_drewN | apply below_drew1 | refine below_set ?_ GE479.out | refine below_set ?_ GE484.out) | exact HB.out)⟩⟩
                        · rw [if_neg c31] at H
                          have c31b0 : (t478 == t483) = false := beq_eq_false_iff_ne.mpr c31
                          have c31b1 : (t478 != t483) = true := bne_iff_ne.mpr c31
                          have hh_ := Option.some.inj H
                          rw [hr_.out] at hh_
                          cases hh_
                    · rw [if_neg c19] at H
                      exact absurd H (by simp)
                  · rw [if_neg c18] at H
                    exact absurd H (by simp)
                · replace c17 := Bool.eq_false_iff.mpr c17
                  subst c17
                  have H1 : ((clock_Times.f l0 l1).bind fun bt485 => ((isobathref05_Times.f kj14 l0 l1).bind fun bt489 => ((clock_CheckHouse.f l0).bind fun t493 => ((isobathref05_CheckHouse.f kj14 l0).bind fun t494 => (if t493 = t494 then ((isobathlaw05_same.f kj14 bt485.1 bt489.1).bind fun t495 => (if t495 = true then (if bt485.2 = bt489.2 then ((isobathlaw05_Works.f).bind fun t496 => (some t496)) else (some false)) else (some false))) else (some false)))))) = some r := by rw [if_neg (show ¬ (false = true) by decide)] at H; exact H
                  clear H
                  have H := H1
                  clear H1
                  replace H := Option.bind_eq_some_iff.mp H
                  obtain ⟨⟨t485, t486⟩, A480, H⟩ := H
                  replace H : ((isobathref05_Times.f kj14 l0 l1).bind fun bt489 => ((clock_CheckHouse.f l0).bind fun t493 => ((isobathref05_CheckHouse.f kj14 l0).bind fun t494 => (if t493 = t494 then ((isobathlaw05_same.f kj14 t485 bt489.1).bind fun t495 => (if t495 = true then (if t486 = bt489.2 then ((isobathlaw05_Works.f).bind fun t496 => (some t496)) else (some false)) else (some false))) else (some false))))) = some r := H
                  have A48 := Aside0.mk A480
                  clear A480
                  replace H := Option.bind_eq_some_iff.mp H
                  obtain ⟨⟨t489, t490⟩, A490, H⟩ := H
                  replace H : ((clock_CheckHouse.f l0).bind fun t493 => ((isobathref05_CheckHouse.f kj14 l0).bind fun t494 => (if t493 = t494 then ((isobathlaw05_same.f kj14 t485 t489).bind fun t495 => (if t495 = true then (if t486 = t490 then ((isobathlaw05_Works.f).bind fun t496 => (some t496)) else (some false)) else (some false))) else (some false)))) = some r := H
                  have A49 := Aside0.mk A490
                  clear A490
                  replace H := Option.bind_eq_some_iff.mp H
                  obtain ⟨t493, A500, H⟩ := H
                  replace H : ((isobathref05_CheckHouse.f kj14 l0).bind fun t494 => (if t493 = t494 then ((isobathlaw05_same.f kj14 t485 t489).bind fun t495 => (if t495 = true then (if t486 = t490 then ((isobathlaw05_Works.f).bind fun t496 => (some t496)) else (some false)) else (some false))) else (some false))) = some r := H
                  have A50 := Aside0.mk A500
                  clear A500
                  replace H := Option.bind_eq_some_iff.mp H
                  obtain ⟨t494, A510, H⟩ := H
                  replace H : (if t493 = t494 then ((isobathlaw05_same.f kj14 t485 t489).bind fun t495 => (if t495 = true then (if t486 = t490 then ((isobathlaw05_Works.f).bind fun t496 => (some t496)) else (some false)) else (some false))) else (some false)) = some r := H
                  have A51 := Aside0.mk A510
                  clear A510
                  by_cases c52 : t493 = t494
                  · rw [if_pos c52] at H
                    have c52b0 : (t493 == t494) = true := beq_iff_eq.mpr c52
                    have c52b1 : (t493 != t494) = false := bne_eq_false_iff_eq.mpr c52
                    clear c52
                    replace H := Option.bind_eq_some_iff.mp H
                    obtain ⟨t495, A530, H⟩ := H
                    replace H : (if t495 = true then (if t486 = t490 then ((isobathlaw05_Works.f).bind fun t496 => (some t496)) else (some false)) else (some false)) = some r := H
                    have A53 := Aside0.mk A530
                    clear A530
                    by_cases c54 : t495 = true
                    · subst c54
                      have H1 : (if t486 = t490 then ((isobathlaw05_Works.f).bind fun t496 => (some t496)) else (some false)) = some r := by rw [if_pos rfl] at H; exact H
                      clear H
                      have H := H1
                      clear H1
                      by_cases c55 : t486 = t490
                      · rw [if_pos c55] at H
                        have c55b0 : (t486 == t490) = true := beq_iff_eq.mpr c55
                        have c55b1 : (t486 != t490) = false := bne_eq_false_iff_eq.mpr c55
                        clear c55
                        replace H := Option.bind_eq_some_iff.mp H
                        obtain ⟨t496, A560, H⟩ := H
                        replace H : (some t496) = some r := H
                        have A56 := Aside0.mk A560
                        clear A560
                        obtain rfl := Option.some.inj H
                        go_wp2_with (first | ((with_reducible refine gate_callee (f := 36) rfl ?_); refine goesL_ (some 71) rfl rfl Try.func36 (by kernel_rfl) rfl #[.slice A0 l0.length c0, .slice A1 l1.length c1] rfl (by (try simp only [List.map_toArray, List.map_cons, List.map_nil]); first | done | rfl | (simp only [List.length_drop, List.length_take]; rfl)) ?_; (with_reducible refine (clock_Times.calls _ _ l0 _ _ l1 t485 t486 _ ?side1 ?side2 ?side3 ?side4 A48.out).mono ?_); (case side1 => repeat (first | exact (Kd.C_below HR0.out HB.out) | (with_reducible refine Kd.C_alloc ?_ _) | (with_reducible refine Kd.C_drewN ?_ _) | (with_reducible refine Kd.C_drew ?_))); (case side2 => exact HC0.out); (case side3 => repeat (first | exact (Kd.C_below HR1.out HB.out) | (with_reducible refine Kd.C_alloc ?_ _) | (with_reducible refine Kd.C_drewN ?_ _) | (with_reducible refine Kd.C_drew ?_))); (case side4 => exact HC1.out); rintro e w57 ⟨v487, rfl, ho0, hb⟩; refine ⟨_, rfl, ?_⟩; have n0_ := Aside0.mk (Kd.R_lower ho0 (below_size (by repeat (first | (with_reducible first | exact HB.out | apply below_alloc | apply pw_below_drewN | apply below_drew1) | exact HB.out)))); have n1_ := Aside0.mk (below_step (by repeat (first | (with_reducible first | exact HB.out | apply below_alloc | apply pw_below_drewN | apply below_drew1) | exact HB.out)) hb); clear HB; have HO488 := n0_; have HB := n1_; clear n0_ n1_; (try clear hb); (try clear hb2); (try clear hk); (try clear hi); (try clear ho0)) | ((with_reducible refine gate_callee (f := 37) rfl ?_); refine goesL_ (some 77) rfl rfl Try.func37 (by kernel_rfl) rfl #[.slice A0 l0.length c0, .slice A1 l1.length c1] rfl (by (try simp only [List.map_toArray, List.map_cons, List.map_nil]); first | done | rfl | (simp only [List.length_drop, List.length_take]; rfl)) ?_; (with_reducible refine (isobathref05_Times.calls kj14 _ _ l0 _ _ l1 t489 t490 _ ?side1 ?side2 ?side3 ?side4 A49.out).mono ?_); (case side1 => repeat (first | exact (Kd.C_below HR0.out HB.out) | (with_reducible refine Kd.C_alloc ?_ _) | (with_reducible refine Kd.C_drewN ?_ _) | (with_reducible refine Kd.C_drew ?_))); (case side2 => exact HC0.out); (case side3 => repeat (first | exact (Kd.C_below HR1.out HB.out) | (with_reducible refine Kd.C_alloc ?_ _) | (with_reducible refine Kd.C_drewN ?_ _) | (with_reducible refine Kd.C_drew ?_))); (case side4 => exact HC1.out); rintro e w58 ⟨v491, rfl, ho0, hb⟩; refine ⟨_, rfl, ?_⟩; have n0_ := Aside0.mk (Kd.R_elder' (by (with_reducible repeat (first | apply Kd.R_alloc | apply Kd.R_drewN | apply Kd.R_drew)); exact HO488.out) (Kd.R_base ho0) hb); have n1_ := Aside0.mk (Kd.R_lower (Kd.R_new' ho0 (Kd.R_lt (by (with_reducible repeat (first | apply Kd.R_alloc | apply Kd.R_drewN | apply Kd.R_drew)); exact HO488.out))) (below_size (by repeat (first | (with_reducible first | exact HB.out | apply below_alloc | apply pw_below_drewN | apply below_drew1) | exact HB.out)))); have n2_ := Aside0.mk (below_step (by repeat (first | (with_reducible first | exact HB.out | apply below_alloc | apply pw_below_drewN | apply below_drew1) | exact HB.out)) hb); clear HO488; clear HB; have HO488 := n0_; have HO492 := n1_; have HB := n2_; clear n0_ n1_ n2_; (try clear hb); (try clear hb2); (try clear hk); (try clear hi); (try clear ho0)) | ((with_reducible refine gate_callee (f := 38) rfl ?_); refine goesL_ (some 81) rfl rfl Try.func38 (by kernel_rfl) rfl #[.slice A0 l0.length c0] rfl (by (try simp only [List.map_toArray, List.map_cons, List.map_nil]); first | done | rfl | (simp only [List.length_drop, List.length_take]; rfl)) ?_; (with_reducible refine (clock_CheckHouse.calls _ _ l0 t493 _ ?side1 ?side2 A50.out).mono ?_); (case side1 => repeat (first | exact (Kd.C_below HR0.out HB.out) | (with_reducible refine Kd.C_alloc ?_ _) | (with_reducible refine Kd.C_drewN ?_ _) | (with_reducible refine Kd.C_drew ?_))); (case side2 => exact HC0.out); rintro e w59 ⟨rfl, hb⟩; refine ⟨_, rfl, ?_⟩; have n0_ := Aside0.mk (Kd.R_below (by (with_reducible repeat (first | apply Kd.R_alloc | apply Kd.R_drewN | apply Kd.R_drew)); exact HO488.out) hb); have n1_ := Aside0.mk (Kd.R_below (by (with_reducible repeat (first | apply Kd.R_alloc | apply Kd.R_drewN | apply Kd.R_drew)); exact HO492.out) hb); have n2_ := Aside0.mk (below_step (by repeat (first | (with_reducible first | exact HB.out | apply below_alloc | apply pw_below_drewN | apply below_drew1) | exact HB.out)) hb); clear HO488; clear HO492; clear HB; have HO488 := n0_; have HO492 := n1_; have HB := n2_; clear n0_ n1_ n2_; (try clear hb); (try clear hb2); (try clear hk); (try clear hi)) | ((with_reducible refine gate_callee (f := 39) rfl ?_); refine goesL_ (some 83) rfl rfl Try.func39 (by kernel_rfl) rfl #[.slice A0 l0.length c0] rfl (by (try simp only [List.map_toArray, List.map_cons, List.map_nil]); first | done | rfl | (simp only [List.length_drop, List.length_take]; rfl)) ?_; (with_reducible refine (isobathref05_CheckHouse.calls kj14 _ _ l0 t494 _ ?side1 ?side2 A51.out).mono ?_); (case side1 => repeat (first | exact (Kd.C_below HR0.out HB.out) | (with_reducible refine Kd.C_alloc ?_ _) | (with_reducible refine Kd.C_drewN ?_ _) | (with_reducible refine Kd.C_drew ?_))); (case side2 => exact HC0.out); rintro e w60 ⟨rfl, hb⟩; refine ⟨_, rfl, ?_⟩; have n0_ := Aside0.mk (Kd.R_below (by (with_reducible repeat (first | apply Kd.R_alloc | apply Kd.R_drewN | apply Kd.R_drew)); exact HO488.out) hb); have n1_ := Aside0.mk (Kd.R_below (by (with_reducible repeat (first | apply Kd.R_alloc | apply Kd.R_drewN | apply Kd.R_drew)); exact HO492.out) hb); have n2_ := Aside0.mk (below_step (by repeat (first | (with_reducible first | exact HB.out | apply below_alloc | apply pw_below_drewN | apply below_drew1) | exact HB.out)) hb); clear HO488; clear HO492; clear HB; have HO488 := n0_; have HO492 := n1_; have HB := n2_; clear n0_ n1_ n2_; (try clear hb); (try clear hb2); (try clear hk); (try clear hi); obtain ⟨Ao61, co61, eo61⟩ := Kd.R_slice HO488.out; subst eo61; obtain ⟨Ao62, co62, eo62⟩ := Kd.R_slice HO492.out; subst eo62) | (go_at_call 40; (with_reducible refine (isobathlaw05_same.calls kj14 _ _ t485 _ _ t489 true _ ?side1 ?side2 ?side3 ?side4 A53.out).mono ?_); (case side1 => repeat (first | exact (Kd.R_reads' HO488.out).2.2 | (with_reducible refine Kd.C_alloc ?_ _) | (with_reducible refine Kd.C_drewN ?_ _) | (with_reducible refine Kd.C_drew ?_))); (case side2 => exact (Kd.R_reads' HO488.out).2.1); (case side3 => repeat (first | exact (Kd.R_reads' HO492.out).2.2 | (with_reducible refine Kd.C_alloc ?_ _) | (with_reducible refine Kd.C_drewN ?_ _) | (with_reducible refine Kd.C_drew ?_))); (case side4 => exact (Kd.R_reads' HO492.out).2.1); rintro e w' ⟨rfl, ⟨nd, rfl⟩⟩) | (go_at_call 16; (with_reducible refine (isobathlaw05_Works.calls  t496 _ A56.out).mono ?_); rintro e w63 ⟨rfl, hb⟩; have n0_ := Aside0.mk (Kd.R_below (by (with_reducible repeat (first | apply Kd.R_alloc | apply Kd.R_drewN | apply Kd.R_drew)); exact HO488.out) hb); have n1_ := Aside0.mk (Kd.R_below (by (with_reducible repeat (first | apply Kd.R_alloc | apply Kd.R_drewN | apply Kd.R_drew)); exact HO492.out) hb); have n2_ := Aside0.mk (below_step (by repeat (first | (with_reducible first | exact HB.out | apply below_alloc | apply pw_below_drewN | apply below_drew1) | exact HB.out)) hb); clear HO488; clear HO492; clear HB; have HO488 := n0_; have HO492 := n1_; have HB := n2_; clear n0_ n1_ n2_; (try clear hb); (try clear hb2); (try clear hk); (try clear hi)))
                        go_ret
                        exact ⟨by first | rfl | (simp [errW_none, errW_some] <;> rfl) | (simp [*, errW_none, errW_some] <;> rfl), by repeat (first | (with_reducible first | exact HB.out | apply below_alloc | apply pw_below_drewN | apply below_drew1) | exact HB.out)⟩
                      · rw [if_neg c55] at H
                        have c55b0 : (t486 == t490) = false := beq_eq_false_iff_ne.mpr c55
                        have c55b1 : (t486 != t490) = true := bne_iff_ne.mpr c55
                        have hh_ := Option.some.inj H
                        rw [hr_.out] at hh_
                        cases hh_
                    · replace c54 := Bool.eq_false_iff.mpr c54
                      subst c54
                      have H1 : (some false) = some r := by rw [if_neg (show ¬ (false = true) by decide)] at H; exact H
                      clear H
                      have H := H1
                      clear H1
                      have hh_ := Option.some.inj H
                      rw [hr_.out] at hh_
                      cases hh_
                  · rw [if_neg c52] at H
                    have c52b0 : (t493 == t494) = false := beq_eq_false_iff_ne.mpr c52
                    have c52b1 : (t493 != t494) = true := bne_iff_ne.mpr c52
                    have hh_ := Option.some.inj H
                    rw [hr_.out] at hh_
                    cases hh_

end Go.Proofs.Ytcjdhajdoikojaa.Pr
end
section
-- PRINTED BY print.sh 35421559b90ae4d0a3588c463048766b98c2df88dd9212a6774a882060cdf62d: not written by this session
-- PRINTED WORDS (module Derived/Print/Sized.lean): go-gate-2's, for the rows of laws over slices: an AI agent of Go's test side, Tue Nov 17 2026; no person has read it. Lean checks it.
namespace Go.Proofs.YtcjdhajdoikojaaW.PrintWords
open Go.ChangeShapes Go.WideShapes
end Go.Proofs.YtcjdhajdoikojaaW.PrintWords
end
section
/- What is read of an argument of a law: a datum of a type reads as a value of its kind; its whole numbers are of their kind, and its slices are within the reach. No condition. -/
namespace Go.Proofs.YtcjdhajdoikojaaW.Opens
open Go.RowKit Go.Proofs.YtcjdhajdoikojaaW.PrintWords Go.Deep Go.ChangeShapes Go.WideShapes
set_option linter.unusedVariables false
section
variable {H : Type} {enc : TypeId × Value → H} {P : Program}

/-- A datum of type t reads as a value of the kind K of which G holds. -/
def Opens {α : Type} (enc : TypeId × Value → H) (P : Program) (t : TypeId) (K : Kd α) (G : α → Prop) : Prop :=
  ∀ (w : World) (fuel : Nat) (cs : List Value) (x : DataW H × List MemPlace), DataW.trod enc P w 0 (fun _ => true) true fuel t cs = some x → (DataW.weights P t x.1).all (· ≤ reachBytes) = true → ∃ y, K.K w y cs ∧ G y

theorem Opens.int {t : TypeId} {k : IntKind} (hu : P.underlying t = some (.int k)) : Opens enc P t (Kd.int k) (fun n => (Lit.int k n).wf = true) := by
  intro w fuel cs x h _
  cases fuel with
  | zero => simp [DataW.trod] at h
  | succ n =>
    unfold DataW.trod at h
    rw [hu] at h
    split at h <;> simp_all
    obtain ⟨⟨rfl, hw⟩, _⟩ := h
    rename_i n _ _
    exact ⟨_, rfl, hw⟩
/-- The fields from offset off on. -/
def OpensFs {α : Type} (enc : TypeId × Value → H) (P : Program) (off : Nat) (fs : List Field) (K : Kd α) (G : α → Prop) : Prop :=
  ∀ (w : World) (fuel : Nat) (cs : List Value) (xs : List (DataW H × List MemPlace)), cs.length = off + K.sz → xs.length = fs.length →
    (∀ (i : Nat) (f : Field), fs[i]? = some f → DataW.trod enc P w 0 (fun _ => true) true fuel f.type ((cs.drop f.offset).take (P.cellsOf f.type)) = xs[i]?) →
    (DataW.weightsEach P (fs.map (·.type)) (xs.map (·.1))).all (· ≤ reachBytes) = true → ∃ y, K.K w y (cs.drop off) ∧ G y

theorem OpensFs.one {α : Type} {off : Nat} {f : Field} {K : Kd α} {G : α → Prop} (hoff : f.offset = off) (hsz : P.cellsOf f.type = K.sz) (h : Opens enc P f.type K G) : OpensFs enc P off [f] K G := by
  intro w fuel cs xs hl hx hi hw
  obtain ⟨x, rfl⟩ : ∃ x, xs = [x] := by
    match xs, hx with
    | [x], _ => exact ⟨x, rfl⟩
  have h1 := hi 0 f rfl
  rw [hoff, hsz, List.take_of_length_le (by simp; omega)] at h1
  exact h w fuel _ x h1 (by simpa [DataW.weightsEach] using hw)
theorem OpensFs.cons {α β : Type} {off : Nat} {f : Field} {fs : List Field} {K : Kd α} {G : α → Prop} {K' : Kd β} {G' : β → Prop} (hoff : f.offset = off) (hsz : P.cellsOf f.type = K.sz) (h : Opens enc P f.type K G) (h' : OpensFs enc P (off + K.sz) fs K' G') :
    OpensFs enc P off (f :: fs) (Kd.pair K K') (fun y => G y.1 ∧ G' y.2) := by
  intro w fuel cs xs hl hx hi hw
  obtain ⟨x, xs', rfl⟩ : ∃ x xs', xs = x :: xs' := by
    match xs, hx with
    | x :: xs', _ => exact ⟨x, xs', rfl⟩
  have hl2 : cs.length = off + (K.sz + K'.sz) := hl
  have h1 := hi 0 f rfl
  rw [hoff, hsz] at h1
  simp only [List.map_cons, DataW.weightsEach, List.all_append, Bool.and_eq_true] at hw
  obtain ⟨y, hy, gy⟩ := h w fuel _ x h1 hw.1
  obtain ⟨y', hy', gy'⟩ := h' w fuel cs xs' (by omega) (by simpa using hx) (fun i g hg => by simpa using hi (i + 1) g (by simpa using hg)) hw.2
  refine ⟨(y, y'), ⟨_, _, ?_, hy, hy'⟩, gy, gy'⟩
  rw [← List.drop_drop, List.take_append_drop]
theorem Opens.struct {α β : Type} {t : TypeId} {fs : Array Field} {K : Kd α} {G : α → Prop} {f : β → α} (g : α → β) (hu : P.underlying t = some (.struct fs)) (hsz : P.cellsOf t = K.sz) (hg : ∀ y, f (g y) = y) (h : OpensFs enc P 0 fs.toList K G) :
    Opens enc P t (Kd.iso K f) (fun z => G (f z)) := by
  intro w fuel cs x hx hw
  obtain ⟨xs, n, rfl, rfl, hl, hxl, hi⟩ := DataW.trod_struct hu hx
  obtain ⟨y, hy, gy⟩ := h w n cs xs (by omega) (by simpa using hxl) (fun i f hf => hi i f (by simpa using hf)) (by simpa [DataW.weights, hu] using hw)
  refine ⟨g y, ?_, by show G (f (g y)); rw [hg]; exact gy⟩
  show K.K w (f (g y)) cs
  rw [hg]
  simpa using hy

theorem list_of_lt {α : Type} {Q : Nat → α → Prop} : ∀ (n : Nat), (∀ i, i < n → ∃ y, Q i y) → ∃ ys : List α, ys.length = n ∧ ∀ i y, ys[i]? = some y → Q i y
  | 0, _ => ⟨[], rfl, fun i y h => by simp at h⟩
  | n + 1, h => by
    obtain ⟨ys, hl, hq⟩ := list_of_lt n (fun i hi => h i (by omega))
    obtain ⟨y, hy⟩ := h n (by omega)
    refine ⟨ys ++ [y], by simp [hl], fun i z hz => ?_⟩
    rw [List.getElem?_append] at hz
    split at hz
    · exact hq i z hz
    · rename_i hi
      obtain rfl : i = n := by
        have := (List.getElem?_eq_some_iff.1 hz).1
        simp at this
        omega
      simp [hl] at hz
      exact hz ▸ hy
theorem weightsAll_mem {e : TypeId} : ∀ {ds : List (DataW H)} {d : DataW H}, (DataW.weightsAll P e ds).all (· ≤ reachBytes) = true → d ∈ ds → (DataW.weights P e d).all (· ≤ reachBytes) = true
  | [], _, _, h => by cases h
  | a :: r, d, hw, h => by
    simp only [DataW.weightsAll, List.all_append, Bool.and_eq_true] at hw
    rcases List.mem_cons.1 h with rfl | h
    · exact hw.1
    · exact weightsAll_mem hw.2 h
theorem Opens.slice {α : Type} {t e : TypeId} (e' : Nat) {K : Kd α} {G : α → Prop} (hu : P.underlying t = some (.slice e)) (hsz : P.cellsOf e = K.sz) (h : Opens enc P e K G) :
    Opens enc P t (Kd.slice e' K) (fun ys => (∀ y ∈ ys, G y) ∧ ys.length * P.bytesOf e ≤ reachBytes) := by
  intro w fuel cs x hx hw
  rcases open_slice hu hx with ⟨rfl, rfl⟩ | ⟨a, len, cap, m, n, D, Pl, rfl, hb, hl, hm, hmm, rfl, hi⟩
  · exact ⟨[], ⟨none, 0, rfl, by simp, ⟨rfl, by simp, fun h => by simp at h⟩⟩, by simp, by simp⟩
  · have hmc : m = cap := by simpa using hmm
    subst hmc
    simp only [DataW.weights, hu, List.all_cons, List.all_append, Bool.and_eq_true, decide_eq_true_eq, List.length_map, List.length_range] at hw
    obtain ⟨ys, hyl, hys⟩ := list_of_lt (Q := fun i y => (∃ cs', w.cells? 0 (a.add (i * P.cellsOf e)) (P.cellsOf e) = some cs' ∧ K.K w y cs') ∧ G y) len (fun i hil => by
      obtain ⟨cs', hc, ht⟩ := hi i (by omega)
      obtain ⟨y, hy, gy⟩ := h w n cs' _ ht (weightsAll_mem hw.2.1 (List.mem_map.2 ⟨i, List.mem_range.2 hil, rfl⟩))
      exact ⟨y, ⟨cs', hc, hy⟩, gy⟩)
    refine ⟨ys, ⟨some a, m, by rw [hyl], by omega, hyl.trans hyl.symm |>.trans (by rfl), ?_, fun _ => ⟨a, rfl, fun j p hj => ?_⟩⟩, fun y hy => ?_, ?_⟩
    · unfold maxLen at hm
      omega
    · obtain ⟨⟨cs', hc, hk⟩, _⟩ := hys j p hj
      obtain ⟨_, hcl, hcell⟩ := World.cells?_some hc
      refine ⟨cs', by rw [hcl, hsz], hk, fun i u hu' => ?_⟩
      have hlt := (List.getElem?_eq_some_iff.1 hu').1
      rw [← Go.Deep.add_add, ← hsz, hcell i (by omega), hu']
    · obtain ⟨j, hj⟩ := List.getElem?_of_mem hy
      exact (hys j y hj).2
    · refine Nat.le_trans (Nat.mul_le_mul_right _ (show ys.length ≤ len + (m - len) by omega)) hw.1
/-- An argument of a law. -/
theorem Opens.arg {α : Type} {t : TypeId} {K : Kd α} {G : α → Prop} (h : Opens enc P t K G) {w : World} {v : Value} {d : DataW H} {p : List MemPlace} (ht : DataW.Trod enc P w 0 (fun _ => true) true t v d p)
    {ts : List TypeId} {ds : List (DataW H)} (hsz : (DataW.weightsEach P ts ds).all (· ≤ reachBytes) = true) {j : Nat} (hj : ts[j]? = some t) (hd : ds[j]? = some d) : ∃ y, K.K w y v.cells.toList ∧ G y := by
  obtain ⟨fuel, hf⟩ := ht
  exact h w fuel _ _ hf (List.all_eq_true.2 fun n hn => List.all_eq_true.1 hsz _ (DataW.weights_mem_each hj hd n hn))
end
end Go.Proofs.YtcjdhajdoikojaaW.Opens
end
section
/- What is known of the arguments of the laws. -/
namespace Go.Proofs.Ytcjdhajdoikojaa.Good
open Go.RowKit Go.Proofs.YtcjdhajdoikojaaW.PrintWords Go.Proofs.YtcjdhajdoikojaaW.PrintLast Go.Proofs.YtcjdhajdoikojaaW.PrintMore Go.Proofs.Ytcjdhajdoikojaa.Pr Go.Proofs.YtcjdhajdoikojaaW.Opens
set_option linter.unusedVariables false
def W35 (x : S35) : Prop := (Lit.int .i64 x.f0).wf = true ∧ (Lit.int .i64 x.f1).wf = true
theorem opens35 {H : Type} {enc : TypeId × Value → H} : Opens enc Try.prog 35 k35 W35 := Opens.struct (fun p => ⟨p.1, p.2⟩) Try.underlying35 (by kernel_rfl) (fun _ => rfl) (OpensFs.cons rfl (by kernel_rfl) (Opens.int Try.underlying2) (OpensFs.one rfl (by kernel_rfl) (Opens.int Try.underlying2)))
def W46 (x : S46) : Prop := (Lit.int .i64 x.f0).wf = true ∧ (Lit.int .i64 x.f1).wf = true ∧ (Lit.int .i64 x.f2).wf = true ∧ (Lit.int .i64 x.f3).wf = true ∧ W35 x.f4 ∧ W35 x.f5
theorem opens46 {H : Type} {enc : TypeId × Value → H} : Opens enc Try.prog 46 k46 W46 := Opens.struct (fun p => ⟨p.1, p.2.1, p.2.2.1, p.2.2.2.1, p.2.2.2.2.1, p.2.2.2.2.2⟩) Try.underlying46 (by kernel_rfl) (fun _ => rfl) (OpensFs.cons rfl (by kernel_rfl) (Opens.int Try.underlying2) (OpensFs.cons rfl (by kernel_rfl) (Opens.int Try.underlying2) (OpensFs.cons rfl (by kernel_rfl) (Opens.int Try.underlying2) (OpensFs.cons rfl (by kernel_rfl) (Opens.int Try.underlying2) (OpensFs.cons rfl (by kernel_rfl) opens35 (OpensFs.one rfl (by kernel_rfl) opens35))))))
def W30 (x : S30) : Prop := (Lit.int .i64 x.f0).wf = true ∧ (Lit.int .i64 x.f1).wf = true ∧ ((∀ y ∈ x.f2, W46 y) ∧ x.f2.length * Try.prog.bytesOf 46 ≤ reachBytes)
theorem opens30 {H : Type} {enc : TypeId × Value → H} : Opens enc Try.prog 30 k30 W30 := Opens.struct (fun p => ⟨p.1, p.2.1, p.2.2⟩) Try.underlying30 (by kernel_rfl) (fun _ => rfl) (OpensFs.cons rfl (by kernel_rfl) (Opens.int Try.underlying3) (OpensFs.cons rfl (by kernel_rfl) (Opens.int Try.underlying2) (OpensFs.one rfl (by kernel_rfl) (Opens.slice 46 Try.underlying28 (by kernel_rfl) opens46))))
def W41 (x : S41) : Prop := (Lit.int .i64 x.f0).wf = true ∧ (Lit.int .i64 x.f1).wf = true
theorem opens41 {H : Type} {enc : TypeId × Value → H} : Opens enc Try.prog 41 k41 W41 := Opens.struct (fun p => ⟨p.1, p.2⟩) Try.underlying41 (by kernel_rfl) (fun _ => rfl) (OpensFs.cons rfl (by kernel_rfl) (Opens.int Try.underlying3) (OpensFs.one rfl (by kernel_rfl) (Opens.int Try.underlying2)))
end Go.Proofs.Ytcjdhajdoikojaa.Good
end
section
/- The arithmetic of clocks: no number leaves its range, so what is computed is what is meant. -/
namespace Go.Proofs.Ytcjdhajdoikojaa.Clk
open Go.RowKit Go.Proofs.YtcjdhajdoikojaaW.PrintWords Go.Proofs.YtcjdhajdoikojaaW.PrintMore Go.Proofs.Ytcjdhajdoikojaa.Pr

theorem wrap_id {n : Int} (h0 : -9223372036854775808 ≤ n) (h1 : n ≤ 9223372036854775807) : wrap64 n = n := by
  unfold wrap64
  omega
theorem mx_max (a b : Int) : mx a b = max a b := by
  unfold mx
  split <;> omega
theorem mn_min (a b : Int) : mn a b = min a b := by
  unfold mn
  split <;> omega
/-- The growth for a difference that is not negative. -/
def gro (rate d : Int) : Int := rate * (d / 1000000000) + (rate * (d % 1000000000) + 999999999) / 1000000000
theorem mul_bound {a b A B : Int} (h0 : 0 ≤ a) (h1 : a ≤ A) (h2 : 0 ≤ b) (h3 : b ≤ B) : 0 ≤ a * b ∧ a * b ≤ A * B :=
  ⟨Int.mul_nonneg h0 h2, Int.mul_le_mul h1 h3 h2 (Int.le_trans h0 h1)⟩
theorem gro_range {rate d : Int} (hr0 : 0 ≤ rate) (hr1 : rate ≤ 1000000) (hd0 : 0 ≤ d) (hd1 : d ≤ 2251799813685248) : 0 ≤ gro rate d ∧ gro rate d ≤ 2251801000000 := by
  unfold gro
  have h1 := mul_bound hr0 hr1 (show 0 ≤ d / 1000000000 by omega) (show d / 1000000000 ≤ 2251799 by omega)
  have h2 := mul_bound hr0 hr1 (show 0 ≤ d % 1000000000 by omega) (show d % 1000000000 ≤ 999999999 by omega)
  generalize rate * (d / 1000000000) = x at *
  generalize rate * (d % 1000000000) = y at *
  omega
theorem growI_eq {rate d : Int} (hr0 : 0 ≤ rate) (hr1 : rate ≤ 1000000) (hd0 : -2251799813685248 ≤ d) (hd1 : d ≤ 2251799813685248) : growI rate d = gro rate (max d (-d)) := by
  unfold growI clock_growth.f
  rw [Option.getD_some, wrap_id (n := -d) (by omega) (by omega), mx_max]
  have hm0 : 0 ≤ max d (-d) := by omega
  have hm1 : max d (-d) ≤ 2251799813685248 := by omega
  generalize max d (-d) = m at *
  have h1 := mul_bound hr0 hr1 (show 0 ≤ m / 1000000000 by omega) (show m / 1000000000 ≤ 2251799 by omega)
  have h2 := mul_bound hr0 hr1 (show 0 ≤ m % 1000000000 by omega) (show m % 1000000000 ≤ 999999999 by omega)
  have e1 : Int.tdiv m 1000000000 = m / 1000000000 := Int.tdiv_eq_ediv_of_nonneg hm0
  have e2 : Int.tmod m 1000000000 = m % 1000000000 := Int.tmod_eq_emod_of_nonneg hm0
  rw [e1, e2, wrap_id (n := m / 1000000000) (by omega) (by omega)]
  unfold gro
  generalize rate * (m / 1000000000) = x at *
  generalize rate * (m % 1000000000) = y at *
  rw [wrap_id (n := x) (by omega) (by omega), wrap_id (n := y) (by omega) (by omega), wrap_id (n := y + 1000000000) (by omega) (by omega), wrap_id (n := y + 1000000000 - 1) (by omega) (by omega)]
  have e3 : Int.tdiv (y + 1000000000 - 1) 1000000000 = (y + 1000000000 - 1) / 1000000000 := Int.tdiv_eq_ediv_of_nonneg (by omega)
  rw [e3, show y + 1000000000 - 1 = y + 999999999 by omega, wrap_id (n := (y + 999999999) / 1000000000) (by omega) (by omega), wrap_id (by omega) (by omega)]

/-- An anchor whose numbers are in their ranges. -/
def VA (a : S105) : Prop := 0 ≤ a.f1 ∧ a.f1 ≤ 1125899906842624 ∧ -1073741824 ≤ a.f0.f0 ∧ a.f0.f0 ≤ a.f0.f1 ∧ a.f0.f1 ≤ 1073741824
theorem okS_iff {lo hi : Int} : okS lo hi = true ↔ lo ≤ hi ∧ -1073741824 ≤ lo ∧ hi ≤ 1073741824 := by
  unfold okS
  simp only [Bool.not_eq_true', Bool.or_eq_false_iff, decide_eq_false_iff_not]
  omega
theorem va_anchor {rate : Int} {x : S46} (h : okE rate x = true) : VA (anchorI rate x) := by
  have hb := okE_back h
  unfold okE at h
  simp only [Bool.and_eq_true, okS_iff] at h
  exact ⟨hb.1, hb.2, h.2.2.1, h.2.1, h.2.2.2⟩
theorem faceE_rate {par rate : Int} {xs : List S46} (h : faceE par rate xs = 0) : -1 ≤ par ∧ 0 ≤ rate ∧ rate ≤ 1000000 := by
  unfold faceE at h
  by_cases hl : xs.length < 1 ∨ xs.length > 64
  · rw [if_pos hl] at h
    cases h
  rw [if_neg hl] at h
  by_cases hp : par < -1 ∨ rate < 0 ∨ rate > 1000000
  · rw [if_pos hp] at h
    cases h
  omega
theorem va_all {par rate : Int} {xs : List S46} (h : faceE par rate xs = 0) : ∀ a ∈ xs.map (anchorI rate), VA a := by
  intro a ha
  obtain ⟨x, hx, rfl⟩ := List.mem_map.1 ha
  exact va_anchor ((faceE_one h).2 x hx)
/-- The difference of two readings, without its sign. -/
def dis (s t : Int) : Int := max (t - s) (-(t - s))
theorem seenI_eq {rate t : Int} {a : S105} (hr0 : 0 ≤ rate) (hr1 : rate ≤ 1000000) (ha : VA a) (ht0 : -1125899906842624 ≤ t) (ht1 : t ≤ 2251799813685248) :
    seenI rate a t = ⟨a.f0.f0 - gro rate (dis a.f1 t), a.f0.f1 + gro rate (dis a.f1 t)⟩ := by
  obtain ⟨h1, h2, h3, h4, h5⟩ := ha
  unfold seenI shiftI
  rw [wrap_id (n := t - a.f1) (by omega) (by omega), growI_eq hr0 hr1 (by omega) (by omega), show max (t - a.f1) (-(t - a.f1)) = dis a.f1 t from rfl]
  have hg := gro_range hr0 hr1 (d := dis a.f1 t) (by unfold dis; omega) (by unfold dis; omega)
  generalize gro rate (dis a.f1 t) = g at *
  rw [Int.add_zero, Int.add_zero, wrap_id (n := a.f0.f0) (by omega) (by omega), wrap_id (n := a.f0.f1) (by omega) (by omega), wrap_id (n := a.f0.f0 - g) (by omega) (by omega), wrap_id (n := a.f0.f1 + g) (by omega) (by omega)]
theorem meetF_two {x y : S35} (h1 : -9223372036854775808 ≤ x.f0) (h2 : x.f1 ≤ 9223372036854775807) : meetF [x, y] = (max x.f0 y.f0, min x.f1 y.f1) := by
  unfold meetF
  simp only [List.foldl_cons, List.foldl_nil, mx_max, mn_min]
  rw [show max (-9223372036854775808) x.f0 = x.f0 by omega, show min (9223372036854775807) x.f1 = x.f1 by omega]
/-- Two anchors are apart. -/
def apartA (rate : Int) (a b : S105) : Bool := decide (b.f0.f1 + gro rate (dis a.f1 b.f1) < a.f0.f0) || decide (a.f0.f1 + gro rate (dis a.f1 b.f1) < b.f0.f0)
theorem conI_eq {rate i k : Int} {ys : List S105} (hr0 : 0 ≤ rate) (hr1 : rate ≤ 1000000) (hne : i ≠ k) (hi : VA (rd_T105 ys i)) (hk : VA (rd_T105 ys k)) : conI rate ys i k = apartA rate (rd_T105 ys i) (rd_T105 ys k) := by
  unfold conI
  rw [if_neg hne]
  generalize rd_T105 ys i = a at *
  generalize rd_T105 ys k = b at *
  obtain ⟨b1, b2, b3, b4, b5⟩ := hk
  rw [seenI_eq hr0 hr1 hi (by omega) (by omega)]
  obtain ⟨a1, a2, a3, a4, a5⟩ := hi
  unfold apartA
  have hg := gro_range hr0 hr1 (d := dis a.f1 b.f1) (by unfold dis; omega) (by unfold dis; omega)
  generalize gro rate (dis a.f1 b.f1) = g at *
  rw [meetF_two (by show _ ≤ a.f0.f0 - g; omega) (by show a.f0.f1 + g ≤ _; omega)]
  dsimp only
  rw [Bool.eq_iff_iff]
  simp only [Bool.not_eq_true', decide_eq_false_iff_not, Bool.or_eq_true, decide_eq_true_eq]
  omega
/-- What the pair that is found says. -/
theorem mem_pairsL {n : Nat} {p : Int × Int} : p ∈ pairsL n ↔ 0 ≤ p.1 ∧ p.1 < p.2 ∧ p.2 < (n : Int) := by
  unfold pairsL
  rw [List.mem_flatMap]
  constructor
  · rintro ⟨k, hk, hp⟩
    obtain ⟨i, hi, rfl⟩ := List.mem_map.1 hp
    have := List.mem_range.1 hk
    have := List.mem_range.1 hi
    dsimp only
    omega
  · rintro ⟨h0, h1, h2⟩
    refine ⟨p.2.toNat, List.mem_range.2 (by omega), List.mem_map.2 ⟨p.1.toNat, List.mem_range.2 (by omega), ?_⟩⟩
    ext
    · dsimp only; omega
    · dsimp only; omega
theorem findCon_some {rate : Int} {ys : List S105} {p : Int × Int} (h : findCon rate ys = some p) : (0 ≤ p.1 ∧ p.1 < p.2 ∧ p.2 < (ys.length : Int)) ∧ conI rate ys p.1 p.2 = true := by
  unfold findCon at h
  have h2 := List.find?_some h
  exact ⟨mem_pairsL.1 (List.mem_of_find?_eq_some h), h2⟩
end Go.Proofs.Ytcjdhajdoikojaa.Clk
end
section
/- How the offset of a clock changes with the reading: behind the last exchange it becomes no narrower; halving finds the first reading. -/
namespace Go.Proofs.Ytcjdhajdoikojaa.Clk
open Go.RowKit Go.Proofs.YtcjdhajdoikojaaW.PrintWords Go.Proofs.YtcjdhajdoikojaaW.PrintMore Go.Proofs.Ytcjdhajdoikojaa.Pr

/-- The common part of spans that are given by their ends. -/
def meetU {α : Type} (lo hi : α → Int) (o : Int × Int) (l : List α) : Int × Int := l.foldl (fun o a => (max o.1 (lo a), min o.2 (hi a))) o
theorem meetU_range {α : Type} {lo hi : α → Int} {A B : Int} : ∀ (l : List α) (o : Int × Int), A ≤ o.1 → o.1 ≤ B → A ≤ o.2 → o.2 ≤ B → (∀ a ∈ l, (A ≤ lo a ∧ lo a ≤ B) ∧ (A ≤ hi a ∧ hi a ≤ B)) → (A ≤ (meetU lo hi o l).1 ∧ (meetU lo hi o l).1 ≤ B) ∧ (A ≤ (meetU lo hi o l).2 ∧ (meetU lo hi o l).2 ≤ B)
  | [], o, h1, h2, h3, h4, _ => ⟨⟨h1, h2⟩, h3, h4⟩
  | a :: l, o, h1, h2, h3, h4, h => by
    have ha := h a List.mem_cons_self
    exact meetU_range l _ (by dsimp only; omega) (by dsimp only; omega) (by dsimp only; omega) (by dsimp only; omega) (fun b hb => h b (List.mem_cons_of_mem _ hb))
/-- The ends of an anchor that is seen at a reading. -/
def loA (rate t : Int) (a : S105) : Int := a.f0.f0 - gro rate (dis a.f1 t)
def hiA (rate t : Int) (a : S105) : Int := a.f0.f1 + gro rate (dis a.f1 t)
def top : Int × Int := (-9223372036854775808, 9223372036854775807)
theorem foldl_meetU {rate t : Int} (hr0 : 0 ≤ rate) (hr1 : rate ≤ 1000000) (ht0 : -1125899906842624 ≤ t) (ht1 : t ≤ 2251799813685248) : ∀ (ys : List S105) (o : Int × Int), (∀ a ∈ ys, VA a) → (ys.map fun a => seenI rate a t).foldl (fun o a => (mx o.1 a.f0, mn o.2 a.f1)) o = meetU (loA rate t) (hiA rate t) o ys
  | [], _, _ => rfl
  | a :: l, o, h => by
    rw [List.map_cons, List.foldl_cons, seenI_eq hr0 hr1 (h a List.mem_cons_self) ht0 ht1, mx_max, mn_min]
    exact foldl_meetU hr0 hr1 ht0 ht1 l _ (fun b hb => h b (List.mem_cons_of_mem _ hb))
theorem atI_eq {rate t : Int} {ys : List S105} (hr0 : 0 ≤ rate) (hr1 : rate ≤ 1000000) (ht0 : -1125899906842624 ≤ t) (ht1 : t ≤ 2251799813685248) (hv : ∀ a ∈ ys, VA a) : atI rate ys t = meetU (loA rate t) (hiA rate t) top ys := foldl_meetU hr0 hr1 ht0 ht1 ys _ hv
theorem ends_range {rate t : Int} {a : S105} (hr0 : 0 ≤ rate) (hr1 : rate ≤ 1000000) (ht0 : -1125899906842624 ≤ t) (ht1 : t ≤ 2251799813685248) (ha : VA a) : (-2260000000000 ≤ loA rate t a ∧ loA rate t a ≤ 2260000000000) ∧ (-2260000000000 ≤ hiA rate t a ∧ hiA rate t a ≤ 2260000000000) := by
  obtain ⟨h1, h2, h3, h4, h5⟩ := ha
  have hg := gro_range hr0 hr1 (d := dis a.f1 t) (by unfold dis; omega) (by unfold dis; omega)
  unfold loA hiA
  omega
theorem atI_range {rate t : Int} {ys : List S105} (hr0 : 0 ≤ rate) (hr1 : rate ≤ 1000000) (ht0 : -1125899906842624 ≤ t) (ht1 : t ≤ 2251799813685248) (hv : ∀ a ∈ ys, VA a) (h1 : 1 ≤ ys.length) : (-2260000000000 ≤ (atI rate ys t).1 ∧ (atI rate ys t).1 ≤ 2260000000000) ∧ (-2260000000000 ≤ (atI rate ys t).2 ∧ (atI rate ys t).2 ≤ 2260000000000) := by
  rw [atI_eq hr0 hr1 ht0 ht1 hv]
  cases ys with
  | nil => simp at h1
  | cons a l =>
    have ha := ends_range hr0 hr1 ht0 ht1 (hv a List.mem_cons_self)
    exact meetU_range l _ (by show _ ≤ max (-9223372036854775808) _; omega) (by show max (-9223372036854775808) _ ≤ _; omega) (by show _ ≤ min 9223372036854775807 _; omega) (by show min 9223372036854775807 _ ≤ _; omega) (fun b hb => ends_range hr0 hr1 ht0 ht1 (hv b (List.mem_cons_of_mem _ hb)))
end Go.Proofs.Ytcjdhajdoikojaa.Clk
end
section
/- Valid exchanges and their offsets, in clean numbers. -/
namespace Go.Proofs.Ytcjdhajdoikojaa.Clk
open Go.RowKit Go.Proofs.YtcjdhajdoikojaaW.PrintWords Go.Proofs.YtcjdhajdoikojaaW.PrintMore Go.Proofs.Ytcjdhajdoikojaa.Pr

theorem okT_iff {t : Int} : okT t = true ↔ 0 ≤ t ∧ t ≤ 1125899906842624 := by
  unfold okT
  simp only [Bool.and_eq_true, decide_eq_true_eq]
theorem okX_iff {x : S46} : okX x = true ↔ (0 ≤ x.f0 ∧ x.f0 ≤ x.f3 ∧ x.f3 ≤ 1125899906842624) ∧ (0 ≤ x.f1 ∧ x.f1 ≤ x.f2 ∧ x.f2 ≤ 1125899906842624) ∧ (0 ≤ x.f4.f0 ∧ x.f4.f0 ≤ x.f4.f1 ∧ x.f4.f1 ≤ 1073741824) ∧ (0 ≤ x.f5.f0 ∧ x.f5.f0 ≤ x.f5.f1 ∧ x.f5.f1 ≤ 1073741824) := by
  unfold okX
  simp only [Bool.and_eq_true, okT_iff, okS_iff, Bool.not_eq_true', decide_eq_false_iff_not]
  omega
/-- The offset by an exchange, in clean numbers. -/
def offC (rate : Int) (x : S46) : Int × Int :=
  (max (x.f1 - x.f0 - x.f4.f1 - gro rate (x.f3 - x.f0)) (x.f2 - x.f3 + x.f5.f0), min (x.f1 - x.f0 - x.f4.f0 + gro rate (x.f3 - x.f0)) (x.f2 - x.f3 + x.f5.f1))
theorem offsetI_eq {rate : Int} {x : S46} (hr0 : 0 ≤ rate) (hr1 : rate ≤ 1000000) (h : okX x = true) : offsetI x rate = offC rate x := by
  obtain ⟨⟨a1, a2, a3⟩, ⟨b1, b2, b3⟩, ⟨c1, c2, c3⟩, d1, d2, d3⟩ := okX_iff.1 h
  unfold offsetI forthI homeI shiftI offC
  rw [wrap_id (n := x.f3 - x.f0) (by omega) (by omega), growI_eq hr0 hr1 (by omega) (by omega), show max (x.f3 - x.f0) (-(x.f3 - x.f0)) = x.f3 - x.f0 by omega]
  have hg := gro_range hr0 hr1 (d := x.f3 - x.f0) (by omega) (by omega)
  generalize gro rate (x.f3 - x.f0) = g at *
  simp (disch := omega) only [wrap_id]
  rw [meetF_two (by dsimp only; omega) (by dsimp only; omega)]
  dsimp only
  ext
  · dsimp only; omega
  · dsimp only; omega
theorem rd_lt {xs : List S46} {i : Nat} (h : i < xs.length) : rd_T46 xs (i : Int) = xs[i] := by
  unfold rd_T46
  rw [List.getD_eq_getElem?_getD, Int.toNat_natCast, List.getElem?_eq_getElem h]
  rfl
/-- Which exchanges are valid for a clock of a rate, in clean numbers. -/
theorem okE_iff {rate : Int} {x : S46} (hr0 : 0 ≤ rate) (hr1 : rate ≤ 1000000) : okE rate x = true ↔ okX x = true ∧ okS (offC rate x).1 (offC rate x).2 = true := by
  unfold okE
  simp only [Bool.and_eq_true, decide_eq_true_eq]
  constructor
  · rintro ⟨⟨h1, h2⟩, h3⟩
    rw [offsetI_eq hr0 hr1 h1] at h3
    exact ⟨h1, h3⟩
  · rintro ⟨h1, h3⟩
    rw [offsetI_eq hr0 hr1 h1]
    exact ⟨⟨h1, (okS_iff.1 h3).1⟩, h3⟩
/-- What is known of a valid clock's anchors. -/
theorem anchor_eq {rate : Int} {x : S46} (hr0 : 0 ≤ rate) (hr1 : rate ≤ 1000000) (h : okX x = true) : anchorI rate x = ⟨⟨(offC rate x).1, (offC rate x).2⟩, x.f3⟩ := by
  unfold anchorI
  rw [offsetI_eq hr0 hr1 h]
theorem faceE_all {par rate : Int} {xs : List S46} (h : faceE par rate xs = 0) : ∀ x ∈ xs, okE rate x = true := by
  have hr := faceE_rate h
  have hl := faceE_len h
  have h1 := (faceE_one h).1
  unfold faceE at h
  rw [if_neg (by omega), if_neg (by omega)] at h
  by_cases ha : xs.all (okE rate) = true
  · exact List.all_eq_true.1 ha
  · rw [if_neg ha] at h
    cases h
end Go.Proofs.Ytcjdhajdoikojaa.Clk
end
section
-- PRINTED by print.py (a twelfth state) out of the translation. Not trusted: Lean checks it.
namespace Go.Proofs.Ytcjdhajdoikojaa.Pr
open Go.RowKit Go.Proofs.YtcjdhajdoikojaaW.PrintWords Go.Proofs.YtcjdhajdoikojaaW.PrintLast Go.Proofs.YtcjdhajdoikojaaW.PrintMore
attribute [local go_sem] max2_int min2_int max_two min_two
set_option linter.unusedVariables false
set_option linter.unusedSimpArgs false

/-! ### isobathref05_Offset: function 28 -/
end Go.Proofs.Ytcjdhajdoikojaa.Pr
end
section
/- What the document's answer computes about clocks: the same, in clean numbers. -/
namespace Go.Proofs.Ytcjdhajdoikojaa.Clk
open Go.RowKit Go.Proofs.YtcjdhajdoikojaaW.PrintWords Go.Proofs.YtcjdhajdoikojaaW.PrintMore Go.Proofs.Ytcjdhajdoikojaa.Pr

theorem ref_isTime (t : Int) : isobathref05_isTime.f t = some (okT t) := by
  unfold isobathref05_isTime.f okT
  by_cases h : t ≥ 0
  · rw [if_pos h, show decide (0 ≤ t) = true from decide_eq_true h, Bool.true_and]
  · rw [if_neg h, show decide (0 ≤ t) = false from decide_eq_false h, Bool.false_and]
theorem ref_within (a lo hi : Int) : isobathref01_Within.f a lo hi = some (decide (lo ≤ a) && decide (a ≤ hi)) := by
  unfold isobathref01_Within.f
  by_cases h : a ≥ lo
  · rw [if_pos h, show decide (lo ≤ a) = true from decide_eq_true h, Bool.true_and]
  · rw [if_neg h, show decide (lo ≤ a) = false from decide_eq_false h, Bool.false_and]
theorem ref_valid (lo hi : Int) : isobathref01_Valid.f lo hi = some (okS lo hi) := by
  unfold isobathref01_Valid.f
  simp only [ref_within, Option.bind_some]
  by_cases h : lo ≤ hi
  · rw [if_pos h]
    by_cases h2 : -1073741824 ≤ lo
    · by_cases h3 : lo ≤ 1073741824
      · rw [decide_eq_true h2, decide_eq_true h3, if_pos (by decide), Option.some.injEq, Bool.eq_iff_iff, okS_iff]
        simp only [Bool.and_eq_true, decide_eq_true_eq]
        omega
      · rw [decide_eq_false h3, Bool.and_false, if_neg (by decide), Option.some.injEq, Bool.eq_iff_iff, okS_iff]
        simp
        omega
    · rw [decide_eq_false h2, Bool.false_and, if_neg (by decide), Option.some.injEq, Bool.eq_iff_iff, okS_iff]
      simp
      omega
  · rw [if_neg h, Option.some.injEq, Bool.eq_iff_iff, okS_iff]
    simp
    omega
theorem ref_checkX (k : Nat) (x : S46) : isobathref05_CheckExchange.f (k + 1) x.f0 x.f1 x.f2 x.f3 x.f4.f0 x.f4.f1 x.f5.f0 x.f5.f1 = some (if okX x then 0 else 2) := by
  have hj : isobathref05_CheckExchange.j0 (k + 1) true x.f0 x.f1 x.f2 x.f3 x.f4.f0 x.f4.f1 x.f5.f0 x.f5.f1 = some 2 := by rw [isobathref05_CheckExchange.j0, if_pos rfl]
  unfold isobathref05_CheckExchange.f
  simp only [ref_isTime, Option.bind_some, hj]
  by_cases hb : okT x.f0 = true ∧ okT x.f1 = true ∧ okT x.f2 = true ∧ okT x.f3 = true ∧ x.f0 ≤ x.f3 ∧ x.f1 ≤ x.f2
  · obtain ⟨h0, h1, h2, h3, h4, h5⟩ := hb
    rw [if_pos h0, if_pos h1, if_pos h2, if_pos h3, if_neg (by omega), decide_eq_false (by omega), isobathref05_CheckExchange.j0, if_neg (by decide)]
    simp only [ref_valid, Option.bind_some]
    rw [okT_iff] at h0 h1 h2 h3
    by_cases h6 : okS x.f4.f0 x.f4.f1 = true
    · rw [if_pos h6]
      rw [okS_iff] at h6
      by_cases h7 : okS x.f5.f0 x.f5.f1 = true
      · rw [if_pos h7]
        rw [okS_iff] at h7
        by_cases h8 : x.f4.f0 < 0
        · rw [if_pos h8, if_neg (by rw [okX_iff]; omega)]
        · rw [if_neg h8]
          by_cases h9 : x.f5.f0 < 0
          · rw [if_pos h9, if_neg (by rw [okX_iff]; omega)]
          · rw [if_neg h9, if_pos (by rw [okX_iff]; omega)]
      · rw [if_neg h7]
        rw [okS_iff] at h7
        rw [if_neg (by rw [okX_iff]; omega)]
    · rw [if_neg h6]
      rw [okS_iff] at h6
      rw [if_neg (by rw [okX_iff]; omega)]
  · have hX : okX x ≠ true := by
      simp only [okT_iff] at hb
      rw [Ne, okX_iff]
      omega
    rw [if_neg hX]
    split <;> (try rfl)
    split <;> (try rfl)
    split <;> (try rfl)
    split <;> (try rfl)
    rename_i h0 h1 h2 h3
    by_cases h4 : x.f0 > x.f3
    · rw [if_pos h4]
    · rw [if_neg h4, decide_eq_true (show x.f1 > x.f2 from by
        apply Classical.byContradiction
        intro h5
        exact hb ⟨h0, h1, h2, h3, by omega, by omega⟩), hj]
theorem down_eq (k : Nat) {a : Int} (h0 : -9000000000000000000 ≤ a) (h1 : a ≤ 9000000000000000000) : isobathref01_Down.f (k + 1) a 1000000000 = some (a / 1000000000) := by
  rw [isobathref01_Down.f, if_neg (by decide), if_neg (by decide), Int.tmod_eq_emod, Int.tdiv_eq_ediv]
  by_cases h : 0 ≤ a ∨ (1000000000 : Int) ∣ a
  · rw [if_pos h, if_pos h, if_neg (by omega), wrap_id (by omega) (by omega)]
    simp
  · rw [if_neg h, if_neg h, if_pos (by simp; omega)]
    simp only [show Int.sign 1000000000 = 1 from rfl]
    rw [wrap_id (n := a / 1000000000 + 1) (by omega) (by omega), wrap_id (by omega) (by omega)]
    congr 1
    omega
theorem ref_growth (k : Nat) {rate d : Int} (hr0 : 0 ≤ rate) (hr1 : rate ≤ 1000000) (hd0 : -2251799813685248 ≤ d) (hd1 : d ≤ 2251799813685248) : isobathref05_Growth.f (k + 1) rate d = some (gro rate (max d (-d))) := by
  unfold isobathref05_Growth.f isobathref01_Up.f
  rw [wrap_id (n := -d) (by omega) (by omega), mx_max]
  have hm0 : 0 ≤ max d (-d) := by omega
  have hm1 : max d (-d) ≤ 2251799813685248 := by omega
  generalize max d (-d) = m at *
  have h1 := mul_bound hr0 hr1 (show 0 ≤ m / 1000000000 by omega) (show m / 1000000000 ≤ 2251799 by omega)
  have h2 := mul_bound hr0 hr1 (show 0 ≤ m % 1000000000 by omega) (show m % 1000000000 ≤ 999999999 by omega)
  have e1 : Int.tdiv m 1000000000 = m / 1000000000 := Int.tdiv_eq_ediv_of_nonneg hm0
  have e2 : Int.tmod m 1000000000 = m % 1000000000 := Int.tmod_eq_emod_of_nonneg hm0
  rw [e1, e2, wrap_id (n := m / 1000000000) (by omega) (by omega)]
  unfold gro
  generalize rate * (m / 1000000000) = x at *
  generalize rate * (m % 1000000000) = y at *
  rw [wrap_id (n := y) (by omega) (by omega), wrap_id (n := -y) (by omega) (by omega), down_eq k (by omega) (by omega), Option.bind_some, Option.bind_some, wrap_id (n := x) (by omega) (by omega), wrap_id (n := -(-y / 1000000000)) (by omega) (by omega), wrap_id (by omega) (by omega)]
  congr 1
  omega
theorem ref_offset (k : Nat) {rate : Int} {x : S46} (hr0 : 0 ≤ rate) (hr1 : rate ≤ 1000000) (h : okX x = true) : isobathref05_offset.f (k + 1) x.f0 x.f1 x.f2 x.f3 x.f4.f0 x.f4.f1 x.f5.f0 x.f5.f1 rate = some (offC rate x) := by
  obtain ⟨⟨a1, a2, a3⟩, ⟨b1, b2, b3⟩, ⟨c1, c2, c3⟩, d1, d2, d3⟩ := okX_iff.1 h
  unfold isobathref05_offset.f isobathref05_grown.f isobathref05_meet.f offC
  rw [wrap_id (n := x.f3 - x.f0) (by omega) (by omega), ref_growth k hr0 hr1 (by omega) (by omega), show max (x.f3 - x.f0) (-(x.f3 - x.f0)) = x.f3 - x.f0 by omega]
  have hg := gro_range hr0 hr1 (d := x.f3 - x.f0) (by omega) (by omega)
  generalize gro rate (x.f3 - x.f0) = g at *
  simp only [Option.bind_some]
  simp (disch := omega) only [wrap_id, mx_max, mn_min]
theorem ref_clock_loop {par rate : Int} {xs : List S46} (hr0 : 0 ≤ rate) (hr1 : rate ≤ 1000000) (hl : xs.length ≤ 1000) : ∀ (m i k : Nat), i + m = xs.length → m + 2 ≤ k → isobathref05_CheckClock.l0 k (i : Int) par rate xs = some (if (xs.drop i).all (okE rate) then 0 else 2)
  | 0, i, k, h, hk => by
    obtain ⟨k, rfl⟩ : ∃ q, k = q + 1 := ⟨k - 1, by omega⟩
    rw [isobathref05_CheckClock.l0, if_neg (by omega), List.drop_of_length_le (by omega)]
    rfl
  | m + 1, i, k, h, hk => by
    obtain ⟨k, rfl⟩ : ∃ q, k = q + 2 := ⟨k - 2, by omega⟩
    have hi : i < xs.length := by omega
    rw [isobathref05_CheckClock.l0, if_pos (by omega), if_pos (by omega), List.drop_eq_getElem_cons hi, List.all_cons, rd_lt hi, ref_checkX, Option.bind_some]
    cases hX : okX xs[i] with
    | false =>
      have he : okE rate xs[i] = false := by unfold okE; rw [hX]; rfl
      rw [he]
      rfl
    | true =>
      rw [if_pos rfl, if_pos rfl, ref_offset k hr0 hr1 hX, Option.bind_some, ref_valid, Option.bind_some]
      cases hS : okS (offC rate xs[i]).1 (offC rate xs[i]).2 with
      | false =>
        have he : okE rate xs[i] = false := Bool.eq_false_iff.2 fun h => by rw [okE_iff hr0 hr1, hS] at h; cases h.2
        rw [he]
        rfl
      | true =>
        have he : okE rate xs[i] = true := (okE_iff hr0 hr1).2 ⟨hX, hS⟩
        rw [if_pos rfl, he, Bool.true_and, wrap_id (by omega) (by omega), show ((i : Int) + 1) = ((i + 1 : Nat) : Int) by omega]
        exact ref_clock_loop hr0 hr1 hl m (i + 1) (k + 1) (by omega) (by omega)
theorem ref_checkClock {par rate : Int} {xs : List S46} {k : Nat} (hk : xs.length + 4 ≤ k) : isobathref05_CheckClock.f k par rate xs = some (faceE par rate xs) := by
  obtain ⟨k, rfl⟩ : ∃ q, k = q + 2 := ⟨k - 2, by omega⟩
  unfold isobathref05_CheckClock.f faceE
  by_cases h1 : xs.length < 1
  · rw [if_pos (by omega), isobathref05_CheckClock.j0, if_pos rfl, if_pos (.inl h1)]
  rw [if_neg (by omega)]
  by_cases h2 : xs.length > 64
  · rw [decide_eq_true (by omega), isobathref05_CheckClock.j0, if_pos rfl, if_pos (.inr h2)]
  rw [decide_eq_false (by omega), isobathref05_CheckClock.j0, if_neg (by decide), if_neg (show ¬ (xs.length < 1 ∨ xs.length > 64) by omega)]
  by_cases p1 : par < -1
  · rw [if_pos p1, isobathref05_CheckClock.j1, if_pos rfl, if_pos (.inl p1)]
  rw [if_neg p1]
  by_cases p2 : rate < 0
  · rw [if_pos p2, isobathref05_CheckClock.j1, if_pos rfl, if_pos (.inr (.inl p2))]
  rw [if_neg p2]
  by_cases p3 : rate > 1000000
  · rw [decide_eq_true p3, isobathref05_CheckClock.j1, if_pos rfl, if_pos (.inr (.inr p3))]
  rw [decide_eq_false p3, isobathref05_CheckClock.j1, if_neg (by decide), if_neg (show ¬ (par < -1 ∨ rate < 0 ∨ rate > 1000000) by omega)]
  have := ref_clock_loop (par := par) (rate := rate) (xs := xs) (by omega) (by omega) (by omega) xs.length 0 k (by omega) (by omega)
  rw [List.drop_zero] at this
  exact this
theorem ref_grown (a b g : Int) : isobathref05_grown.f a b g = some (wrap64 (a - g), wrap64 (b + g)) := rfl
theorem ref_meet (a b c d : Int) : isobathref05_meet.f a b c d = some (mx a c, mn b d) := rfl
theorem meetU_cons {α : Type} (lo hi : α → Int) (o : Int × Int) (a : α) (l : List α) : meetU lo hi o (a :: l) = meetU lo hi (max o.1 (lo a), min o.2 (hi a)) l := rfl
theorem loA_eq (rate t : Int) (a : S105) : a.f0.f0 - gro rate (dis a.f1 t) = loA rate t a := rfl
theorem hiA_eq (rate t : Int) (a : S105) : a.f0.f1 + gro rate (dis a.f1 t) = hiA rate t a := rfl
set_option maxHeartbeats 2000000 in
theorem ref_at_loop {par rate t : Int} {xs : List S46} (hr0 : 0 ≤ rate) (hr1 : rate ≤ 1000000) (ht0 : -1125899906842624 ≤ t) (ht1 : t ≤ 2251799813685248) (hl : xs.length ≤ 1000) (hX : ∀ x ∈ xs, okE rate x = true) : ∀ (m i k : Nat) (o : Int × Int), i + m = xs.length → m + 2 ≤ k →
    isobathref05_at.l0 k t (i : Int) par rate xs o.1 o.2 = some (meetU (loA rate t) (hiA rate t) o ((xs.drop i).map (anchorI rate))) := by
  intro m
  induction m with
  | zero =>
    intro i k o h hk
    obtain ⟨k, rfl⟩ : ∃ q, k = q + 1 := ⟨k - 1, by omega⟩
    rw [isobathref05_at.l0, if_neg (by omega), List.drop_of_length_le (by omega)]
    rfl
  | succ m ih =>
    intro i k o h hk
    obtain ⟨k, rfl⟩ : ∃ q, k = q + 2 := ⟨k - 2, by omega⟩
    have hi : i < xs.length := by omega
    have hE := hX xs[i] (List.getElem_mem hi)
    have hx := ((okE_iff hr0 hr1).1 hE).1
    have hv := va_anchor hE
    obtain ⟨⟨a1, a2, a3⟩, _⟩ := okX_iff.1 hx
    rw [isobathref05_at.l0, if_pos (by omega), if_pos (by omega), List.drop_eq_getElem_cons hi, rd_lt hi, ref_offset k hr0 hr1 hx, Option.bind_some, wrap_id (n := t - xs[i].f3) (by omega) (by omega), ref_growth k hr0 hr1 (by omega) (by omega), Option.bind_some, List.map_cons]
    have ha := anchor_eq hr0 hr1 hx
    rw [show max (t - xs[i].f3) (-(t - xs[i].f3)) = dis (anchorI rate xs[i]).f1 t from by rw [ha]; rfl]
    have hg := gro_range hr0 hr1 (d := dis (anchorI rate xs[i]).f1 t) (by unfold dis; omega) (by rw [ha]; unfold dis; dsimp only; omega)
    rw [ref_grown, Option.bind_some, ref_meet, Option.bind_some]
    rw [show (offC rate xs[i]).1 = (anchorI rate xs[i]).f0.f0 by rw [ha], show (offC rate xs[i]).2 = (anchorI rate xs[i]).f0.f1 by rw [ha]]
    obtain ⟨v1, v2, v3, v4, v5⟩ := hv
    rw [wrap_id (n := (anchorI rate xs[i]).f0.f0 - gro rate (dis (anchorI rate xs[i]).f1 t)) (by omega) (by omega), wrap_id (n := (anchorI rate xs[i]).f0.f1 + gro rate (dis (anchorI rate xs[i]).f1 t)) (by omega) (by omega), mx_max, mn_min, wrap_id (n := (i : Int) + 1) (by omega) (by omega), show ((i : Int) + 1) = ((i + 1 : Nat) : Int) by omega, loA_eq, hiA_eq, meetU_cons]
    exact ih (i + 1) (k + 1) (max o.1 (loA rate t (anchorI rate xs[i])), min o.2 (hiA rate t (anchorI rate xs[i]))) (by omega) (by omega)
theorem ref_at {par rate t : Int} {xs : List S46} {k : Nat} (h : faceE par rate xs = 0) (ht0 : -1125899906842624 ≤ t) (ht1 : t ≤ 2251799813685248) (hk : 70 ≤ k) : isobathref05_at.f k par rate xs t = some (atI rate (xs.map (anchorI rate)) t) := by
  obtain ⟨hp, hr0, hr1⟩ := faceE_rate h
  have hl := faceE_len h
  have h1 := (faceE_one h).1
  have hv := va_all h
  unfold isobathref05_at.f
  have hh := ref_at_loop (par := par) hr0 hr1 ht0 ht1 (by omega) (faceE_all h) xs.length 0 k (-4611686018427387904, 4611686018427387904) (by omega) (by omega)
  rw [List.drop_zero] at hh
  refine hh.trans ?_
  rw [atI_eq hr0 hr1 ht0 ht1 hv]
  cases xs with
  | nil => simp at h1
  | cons x l =>
    rw [List.map_cons, meetU_cons, meetU_cons]
    have hx := ends_range hr0 hr1 ht0 ht1 (hv (anchorI rate x) (by simp))
    congr 2
    ext
    · dsimp only [top]; omega
    · dsimp only [top]; omega
end Go.Proofs.Ytcjdhajdoikojaa.Clk
end
section
-- PRINTED by print.py (a twelfth state) out of the translation. Not trusted: Lean checks it.
namespace Go.Proofs.Ytcjdhajdoikojaa.Pr
open Go.RowKit Go.Proofs.YtcjdhajdoikojaaW.PrintWords Go.Proofs.YtcjdhajdoikojaaW.PrintLast Go.Proofs.YtcjdhajdoikojaaW.PrintMore
attribute [local go_sem] max2_int min2_int max_two min_two
set_option linter.unusedVariables false
set_option linter.unusedSimpArgs false

/-! ### isobathref05_At: function 29 -/
end Go.Proofs.Ytcjdhajdoikojaa.Pr
end
section
/- What the document's answer computes about contradictions and offsets: the same as the program. -/
namespace Go.Proofs.Ytcjdhajdoikojaa.Clk
open Go.RowKit Go.Proofs.YtcjdhajdoikojaaW.PrintWords Go.Proofs.YtcjdhajdoikojaaW.PrintMore Go.Proofs.Ytcjdhajdoikojaa.Pr

theorem rd_map {rate i : Int} {xs : List S46} (h0 : 0 ≤ i) (h1 : i < (xs.length : Int)) : rd_T105 (xs.map (anchorI rate)) i = anchorI rate (rd_T46 xs i) := by
  have hn : i.toNat < xs.length := by omega
  unfold rd_T105 rd_T46
  rw [List.getD_eq_getElem?_getD, List.getD_eq_getElem?_getD, List.getElem?_map, List.getElem?_eq_getElem hn]
  rfl
theorem rd_mem46 {xs : List S46} {i : Int} (h0 : 0 ≤ i) (h1 : i < (xs.length : Int)) : rd_T46 xs i ∈ xs := by
  unfold rd_T46
  rw [List.getD_eq_getElem?_getD, List.getElem?_eq_getElem (by omega)]
  exact List.getElem_mem _
theorem offR_eq {rate : Int} {x : S46} (hr0 : 0 ≤ rate) (hr1 : rate ≤ 1000000) (h : okX x = true) : offR x rate = offC rate x := by
  have h1 := ref_offset 0 hr0 hr1 h
  rw [offR_some] at h1
  exact Option.some.inj h1
theorem growR_eq {rate d : Int} (hr0 : 0 ≤ rate) (hr1 : rate ≤ 1000000) (hd0 : -2251799813685248 ≤ d) (hd1 : d ≤ 2251799813685248) : growR rate d = gro rate (max d (-d)) := by
  have h1 := ref_growth 0 hr0 hr1 hd0 hd1
  rw [growR_some] at h1
  exact Option.some.inj h1
theorem conR_eq {rate : Int} {x y : S46} (hr0 : 0 ≤ rate) (hr1 : rate ≤ 1000000) (hx : okE rate x = true) (hy : okE rate y = true) : conR rate x y = apartA rate (anchorI rate x) (anchorI rate y) := by
  have vx := va_anchor hx
  have vy := va_anchor hy
  have ox := ((okE_iff hr0 hr1).1 hx).1
  have oy := ((okE_iff hr0 hr1).1 hy).1
  rw [anchor_eq hr0 hr1 ox] at vx
  rw [anchor_eq hr0 hr1 oy] at vy
  obtain ⟨v1, v2, v3, v4, v5⟩ := vx
  obtain ⟨u1, u2, u3, u4, u5⟩ := vy
  dsimp only at v1 v2 v3 v4 v5 u1 u2 u3 u4 u5
  unfold conR
  rw [offR_eq hr0 hr1 ox, offR_eq hr0 hr1 oy, wrap_id (n := x.f3 - y.f3) (by omega) (by omega), growR_eq hr0 hr1 (by omega) (by omega), anchor_eq hr0 hr1 ox, anchor_eq hr0 hr1 oy]
  have hd : max (x.f3 - y.f3) (-(x.f3 - y.f3)) = dis x.f3 y.f3 := by unfold dis; omega
  rw [hd]
  unfold apartA
  dsimp only
  have hg := gro_range hr0 hr1 (d := dis x.f3 y.f3) (by unfold dis; omega) (by unfold dis; omega)
  generalize gro rate (dis x.f3 y.f3) = g at *
  generalize offC rate x = p at *
  generalize offC rate y = q at *
  rw [wrap_id (n := p.1 - g) (by omega) (by omega), wrap_id (n := p.2 + g) (by omega) (by omega), mx_max, mn_min, Bool.eq_iff_iff]
  simp only [decide_eq_true_eq, Bool.or_eq_true]
  omega
theorem ref_con {par rate i k : Int} {xs : List S46} (h : faceE par rate xs = 0) (h0 : 0 ≤ i) (h1 : i < (xs.length : Int)) (h2 : 0 ≤ k) (h3 : k < (xs.length : Int)) (hne : i ≠ k) :
    isobathref05_contradict.f par rate xs i k = some (conI rate (xs.map (anchorI rate)) i k) := by
  obtain ⟨hp, hr0, hr1⟩ := faceE_rate h
  have hE := faceE_all h
  have hi := hE _ (rd_mem46 h0 h1)
  have hk := hE _ (rd_mem46 h2 h3)
  unfold isobathref05_contradict.f
  rw [if_pos ⟨h0, h1, h2, h3⟩, conR_eq hr0 hr1 hi hk, conI_eq hr0 hr1 hne (by rw [rd_map h0 h1]; exact va_anchor hi) (by rw [rd_map h2 h3]; exact va_anchor hk), rd_map h0 h1, rd_map h2 h3]
/-- The pairs from row k on. -/
def rowsL (k m : Nat) : List (Int × Int) := (List.range' k m).flatMap fun k => (List.range' 0 k).map fun (i : Nat) => ((i : Int), (k : Int))
theorem pairsL_rows (n : Nat) : pairsL n = rowsL 0 n := by
  unfold pairsL rowsL
  simp only [List.range_eq_range']
theorem rowsL_succ (k m : Nat) : rowsL k (m + 1) = (List.range' 0 k).map (fun (i : Nat) => ((i : Int), (k : Int))) ++ rowsL (k + 1) m := by
  unfold rowsL
  rw [List.range'_succ, List.flatMap_cons]
section
variable {par rate : Int} {xs : List S46}
theorem ref_l1 (hf : faceE par rate xs = 0) {k : Nat} (hk : k < xs.length) {R : Int × Int} {B : Nat} (hR : ∀ K, B ≤ K → isobathref05_contradiction.l0 K (wrap64 ((k : Int) + 1)) par rate xs = some R) :
    ∀ (m i K : Nat), i + m = k → B + m + 1 ≤ K → isobathref05_contradiction.l1 K (k : Int) (i : Int) par rate xs = some ((((List.range' i m).map (fun (i : Nat) => ((i : Int), (k : Int)))).find? fun p => conI rate (xs.map (anchorI rate)) p.1 p.2).getD R) := by
  have hl := faceE_len hf
  intro m
  induction m with
  | zero =>
    intro i K h hK
    obtain ⟨K, rfl⟩ : ∃ q, K = q + 1 := ⟨K - 1, by omega⟩
    rw [isobathref05_contradiction.l1, if_neg (by omega), hR K (by omega)]
    rfl
  | succ m ih =>
    intro i K h hK
    obtain ⟨K, rfl⟩ : ∃ q, K = q + 1 := ⟨K - 1, by omega⟩
    rw [isobathref05_contradiction.l1, if_pos (by omega), ref_con hf (by omega) (by omega) (by omega) (by omega) (by omega), Option.bind_some, List.range'_succ, List.map_cons, List.find?_cons]
    cases hc : conI rate (xs.map (anchorI rate)) (i : Int) (k : Int) with
    | true => rfl
    | false =>
      rw [if_neg (by decide), wrap_id (by omega) (by omega), show ((i : Int) + 1) = ((i + 1 : Nat) : Int) by omega]
      exact ih (i + 1) K (by omega) (by omega)
theorem ref_l0 (hf : faceE par rate xs = 0) : ∀ (m k K : Nat), k + m = xs.length → m * 100 + 5 ≤ K → isobathref05_contradiction.l0 K (k : Int) par rate xs = some (((rowsL k m).find? fun p => conI rate (xs.map (anchorI rate)) p.1 p.2).getD (-1, -1)) := by
  have hl := faceE_len hf
  intro m
  induction m with
  | zero =>
    intro k K h hK
    obtain ⟨K, rfl⟩ : ∃ q, K = q + 1 := ⟨K - 1, by omega⟩
    rw [isobathref05_contradiction.l0, if_neg (by omega)]
    rfl
  | succ m ih =>
    intro k K h hK
    obtain ⟨K, rfl⟩ : ∃ q, K = q + 1 := ⟨K - 1, by omega⟩
    rw [isobathref05_contradiction.l0, if_pos (by omega)]
    have hr := ref_l1 hf (k := k) (by omega) (R := ((rowsL (k + 1) m).find? fun p => conI rate (xs.map (anchorI rate)) p.1 p.2).getD (-1, -1)) (B := m * 100 + 5)
      (fun K hK => by rw [wrap_id (by omega) (by omega), show ((k : Int) + 1) = ((k + 1 : Nat) : Int) by omega]; exact ih (k + 1) K (by omega) hK) k 0 K (by omega) (by omega)
    refine hr.trans ?_
    rw [rowsL_succ, List.find?_append]
    cases (List.find? (fun p => conI rate (xs.map (anchorI rate)) p.1 p.2) ((List.range' 0 k).map (fun (i : Nat) => ((i : Int), (k : Int))))) <;> rfl
theorem ref_contradiction (hf : faceE par rate xs = 0) {K : Nat} (hK : 6500 ≤ K) : isobathref05_contradiction.f K par rate xs = some ((findCon rate (xs.map (anchorI rate))).getD (-1, -1)) := by
  have hl := faceE_len hf
  unfold isobathref05_contradiction.f findCon
  have := ref_l0 hf xs.length 0 K (by omega) (by omega)
  rw [List.length_map, pairsL_rows]
  exact this
theorem ref_sound (hf : faceE par rate xs = 0) {K : Nat} (hK : 6500 ≤ K) : isobathref05_Sound.f K par rate xs = some (findCon rate (xs.map (anchorI rate))).isNone := by
  unfold isobathref05_Sound.f
  rw [ref_contradiction hf hK, Option.bind_some]
  cases h : findCon rate (xs.map (anchorI rate)) with
  | none => rfl
  | some p =>
    have := (findCon_some h).1
    rw [Option.getD_some, decide_eq_false (by omega)]
    rfl
end
section
variable {par rate : Int} {xs : List S46}
end
end Go.Proofs.Ytcjdhajdoikojaa.Clk
end
section
/- What the document's answer computes about houses of clocks and true times: the same as the program. -/
namespace Go.Proofs.Ytcjdhajdoikojaa.Clk
open Go.RowKit Go.Proofs.YtcjdhajdoikojaaW.PrintWords Go.Proofs.YtcjdhajdoikojaaW.PrintMore Go.Proofs.Ytcjdhajdoikojaa.Pr

theorem rd30_lt {cs : List S30} {i : Nat} (h : i < cs.length) : rd_T30 cs (i : Int) = cs[i] := by
  unfold rd_T30
  rw [List.getD_eq_getElem?_getD, Int.toNat_natCast, List.getElem?_eq_getElem h]
  rfl
theorem rd30_mem {cs : List S30} {i : Int} (h0 : 0 ≤ i) (h1 : i < (cs.length : Int)) : rd_T30 cs i ∈ cs := by
  unfold rd_T30
  rw [List.getD_eq_getElem?_getD, List.getElem?_eq_getElem (by omega)]
  exact List.getElem_mem _
theorem firstErr_cons (c : S30) (l : List S30) : firstErr (c :: l) = if cE c ≠ 0 then cE c else firstErr l := by
  unfold firstErr
  rw [List.map_cons, List.find?_cons]
  by_cases h : cE c = 0
  · rw [h]
    rfl
  · rw [decide_eq_true h, if_pos h]
    rfl
theorem firstErr_zero : ∀ (l : List S30), firstErr l = 0 → ∀ c ∈ l, cE c = 0
  | [], _, c, h => by cases h
  | x :: l, hz, c, h => by
    rw [firstErr_cons] at hz
    by_cases hx : cE x = 0
    · rw [if_neg (fun h => h hx)] at hz
      rcases List.mem_cons.1 h with rfl | h
      · exact hx
      · exact firstErr_zero l hz c h
    · rw [if_pos hx] at hz
      exact absurd hz hx
section
variable {cs : List S30} (hlen : cs.length ≤ 1000) (hl : ∀ c ∈ cs, c.f2.length ≤ 6500)
include hlen
theorem ref_h2 (hv : ∀ c ∈ cs, cE c = 0) : ∀ (m i K : Nat), i + m = cs.length → m + 6600 ≤ K → isobathref05_CheckHouse.l2 K cs (i : Int) = some (if (cs.drop i).any badC then 5 else 0) := by
  intro m
  induction m with
  | zero =>
    intro i K h hK
    obtain ⟨K, rfl⟩ : ∃ q, K = q + 1 := ⟨K - 1, by omega⟩
    rw [isobathref05_CheckHouse.l2, if_neg (by omega), List.drop_of_length_le (by omega)]
    rfl
  | succ m ih =>
    intro i K h hK
    obtain ⟨K, rfl⟩ : ∃ q, K = q + 1 := ⟨K - 1, by omega⟩
    have hi : i < cs.length := by omega
    have hc : faceE cs[i].f0 cs[i].f1 cs[i].f2 = 0 := hv cs[i] (List.getElem_mem hi)
    rw [isobathref05_CheckHouse.l2, if_pos (by omega), if_pos (by omega), rd30_lt hi, ref_sound (K := K) hc (by omega), Option.bind_some, List.drop_eq_getElem_cons hi, List.any_cons]
    have hb : badC cs[i] = (findCon cs[i].f1 (cs[i].f2.map (anchorI cs[i].f1))).isSome := rfl
    rw [hb]
    cases (findCon cs[i].f1 (cs[i].f2.map (anchorI cs[i].f1))) with
    | some p => rfl
    | none =>
      rw [Option.isNone_none, if_pos rfl, Option.isSome_none, Bool.false_or, wrap_id (by omega) (by omega), show ((i : Int) + 1) = ((i + 1 : Nat) : Int) by omega]
      exact ih (i + 1) K (by omega) (by omega)
theorem ref_h1 (hv : ∀ c ∈ cs, cE c = 0) : ∀ (m i K : Nat), i + m = cs.length → m + cs.length + 6700 ≤ K → isobathref05_CheckHouse.l1 K cs (i : Int) = some (if ((List.range' i m).all fun i => decide ((rd_T30 cs i).f0 < (i : Int))) = false then 2 else if cs.any badC then 5 else 0) := by
  intro m
  induction m with
  | zero =>
    intro i K h hK
    obtain ⟨K, rfl⟩ : ∃ q, K = q + 1 := ⟨K - 1, by omega⟩
    have := ref_h2 hlen hv cs.length 0 K (by omega) (by omega)
    rw [List.drop_zero] at this
    rw [isobathref05_CheckHouse.l1, if_neg (by omega)]
    exact this
  | succ m ih =>
    intro i K h hK
    obtain ⟨K, rfl⟩ : ∃ q, K = q + 1 := ⟨K - 1, by omega⟩
    rw [isobathref05_CheckHouse.l1, if_pos (by omega), if_pos (by omega), List.range'_succ, List.all_cons]
    by_cases hp : (rd_T30 cs (i : Int)).f0 ≥ (i : Int)
    · rw [if_pos hp, decide_eq_false (by omega)]
      rfl
    · rw [if_neg hp, decide_eq_true (by omega), Bool.true_and, wrap_id (by omega) (by omega), show ((i : Int) + 1) = ((i + 1 : Nat) : Int) by omega]
      exact ih (i + 1) K (by omega) (by omega)
include hl
theorem ref_h0 : ∀ (m i K : Nat), i + m = cs.length → m + 2 * cs.length + 6800 ≤ K → isobathref05_CheckHouse.l0 K cs (i : Int) = if firstErr (cs.drop i) ≠ 0 then some (firstErr (cs.drop i)) else isobathref05_CheckHouse.l1 (K - m - 1) cs 0 := by
  intro m
  induction m with
  | zero =>
    intro i K h hK
    obtain ⟨K, rfl⟩ : ∃ q, K = q + 1 := ⟨K - 1, by omega⟩
    rw [isobathref05_CheckHouse.l0, if_neg (by omega), List.drop_of_length_le (by omega), if_neg (show ¬ (firstErr [] ≠ 0) from fun h => h rfl)]
    rfl
  | succ m ih =>
    intro i K h hK
    obtain ⟨K, rfl⟩ : ∃ q, K = q + 1 := ⟨K - 1, by omega⟩
    have hi : i < cs.length := by omega
    have hll := hl cs[i] (List.getElem_mem hi)
    have hcl := ref_checkClock (par := cs[i].f0) (rate := cs[i].f1) (xs := cs[i].f2) (k := K) (by omega)
    have hce : cE cs[i] = faceE cs[i].f0 cs[i].f1 cs[i].f2 := rfl
    rw [isobathref05_CheckHouse.l0, if_pos (by omega), if_pos (by omega), rd30_lt hi, hcl, Option.bind_some, List.drop_eq_getElem_cons hi, firstErr_cons, hce]
    by_cases hc : faceE cs[i].f0 cs[i].f1 cs[i].f2 = 0
    · rw [if_pos hc, if_neg (show ¬ (faceE cs[i].f0 cs[i].f1 cs[i].f2 ≠ 0) from fun h => h hc), wrap_id (by omega) (by omega), show ((i : Int) + 1) = ((i + 1 : Nat) : Int) by omega, ih (i + 1) K (by omega) (by omega), show K + 1 - (m + 1) - 1 = K - m - 1 by omega]
    · rw [if_neg hc, if_pos (show faceE cs[i].f0 cs[i].f1 cs[i].f2 ≠ 0 from hc), Option.bind_some, if_pos hc]
theorem ref_House {K : Nat} (hK : 12000 ≤ K) : isobathref05_CheckHouse.f K cs = some (houseE cs) := by
  obtain ⟨K, rfl⟩ : ∃ q, K = q + 1 := ⟨K - 1, by omega⟩
  unfold isobathref05_CheckHouse.f houseE
  by_cases h1 : cs.length < 1
  · rw [if_pos (by omega), isobathref05_CheckHouse.j0, if_pos rfl, if_pos (Or.inl h1)]
  rw [if_neg (show ¬ ((cs.length : Int) < 1) by omega)]
  by_cases h2 : cs.length > 32
  · rw [decide_eq_true (show (cs.length : Int) > 32 by omega), isobathref05_CheckHouse.j0, if_pos rfl, if_pos (Or.inr h2)]
  rw [decide_eq_false (show ¬ (cs.length : Int) > 32 by omega), isobathref05_CheckHouse.j0, if_neg (by decide), if_neg (show ¬ (cs.length < 1 ∨ cs.length > 32) by omega)]
  have h0 := ref_h0 hlen hl cs.length 0 K (by omega) (by omega)
  rw [List.drop_zero] at h0
  refine h0.trans ?_
  by_cases hf : firstErr cs = 0
  · have hv := firstErr_zero cs hf
    have hh := ref_h1 hlen hv cs.length 0 (K - cs.length - 1) (by omega) (by omega)
    have hp : parOK cs = (List.range' 0 cs.length).all fun i => decide ((rd_T30 cs i).f0 < (i : Int)) := by unfold parOK; rw [List.range_eq_range']
    rw [if_neg (show ¬ (firstErr cs ≠ 0) from fun h => h hf), if_neg (show ¬ (firstErr cs ≠ 0) from fun h => h hf), hp]
    exact hh
  · rw [if_pos (show firstErr cs ≠ 0 from hf), if_pos (show firstErr cs ≠ 0 from hf)]
end
theorem parOK_at {cs : List S30} (h : parOK cs = true) {i : Int} (h0 : 0 ≤ i) (h1 : i < (cs.length : Int)) : (rd_T30 cs i).f0 < i := by
  unfold parOK at h
  have := List.all_eq_true.1 h i.toNat (List.mem_range.2 (by omega))
  have := of_decide_eq_true this
  rw [Int.toNat_of_nonneg h0] at this
  exact this
/-- One step up, in clean numbers. -/
theorem upI_eq {c : S30} (hc : cE c = 0) {a : Int × Int} (h0 : -1125899906842624 ≤ a.1 ∧ a.1 ≤ 2251799813685248) (h1 : -1125899906842624 ≤ a.2 ∧ a.2 ≤ 2251799813685248) :
    upI c a = (a.1 + (atI c.f1 (c.f2.map (anchorI c.f1)) a.1).1, a.2 + (atI c.f1 (c.f2.map (anchorI c.f1)) a.2).2) ∧ (a.1 - 2260000000000 ≤ (upI c a).1 ∧ (upI c a).1 ≤ a.1 + 2260000000000) ∧ (a.2 - 2260000000000 ≤ (upI c a).2 ∧ (upI c a).2 ≤ a.2 + 2260000000000) := by
  have hf : faceE c.f0 c.f1 c.f2 = 0 := hc
  obtain ⟨_, hr0, hr1⟩ := faceE_rate hf
  have h1y : 1 ≤ (c.f2.map (anchorI c.f1)).length := by rw [List.length_map]; exact (faceE_one hf).1
  have r1 := atI_range hr0 hr1 h0.1 h0.2 (va_all hf) h1y
  have r2 := atI_range hr0 hr1 h1.1 h1.2 (va_all hf) h1y
  have e : upI c a = (a.1 + (atI c.f1 (c.f2.map (anchorI c.f1)) a.1).1, a.2 + (atI c.f1 (c.f2.map (anchorI c.f1)) a.2).2) := by
    unfold upI
    rw [wrap_id (n := a.1 + _) (by omega) (by omega), wrap_id (n := a.2 + _) (by omega) (by omega)]
  rw [e]
  exact ⟨rfl, by dsimp only; omega, by dsimp only; omega⟩
theorem ref_up {c : S30} (hc : cE c = 0) {a : Int × Int} (h0 : -1125899906842624 ≤ a.1 ∧ a.1 ≤ 2251799813685248) (h1 : -1125899906842624 ≤ a.2 ∧ a.2 ≤ 2251799813685248) {K : Nat} (hK : 70 ≤ K) :
    isobathref05_up.f K c.f0 c.f1 c.f2 a.1 a.2 = some (upI c a) := by
  have hf : faceE c.f0 c.f1 c.f2 = 0 := hc
  unfold isobathref05_up.f
  rw [ref_at hf h0.1 h0.2 hK, Option.bind_some, ref_at hf h1.1 h1.2 hK, Option.bind_some]
  rfl
theorem ref_time_loop {cs : List S30} (hh : houseE cs = 0) : ∀ (n K : Nat) (i : Int) (a : Int × Int), -1 ≤ i → i < (n : Int) → n ≤ cs.length → n + 100 ≤ K →
    (-1125899906842624 + (n : Int) * 2260000000000 ≤ a.1 ∧ a.1 ≤ 2251799813685248 - (n : Int) * 2260000000000) → (-1125899906842624 + (n : Int) * 2260000000000 ≤ a.2 ∧ a.2 ≤ 2251799813685248 - (n : Int) * 2260000000000) →
    isobathref05_time.l0 K cs i a.1 a.2 = some (timeI cs n i a) := by
  obtain ⟨⟨hl1, hl2⟩, hv, hp, _⟩ := houseE_zero hh
  intro n
  induction n with
  | zero =>
    intro K i a h0 h1 hn hK ha hb
    obtain ⟨K, rfl⟩ : ∃ q, K = q + 1 := ⟨K - 1, by omega⟩
    rw [isobathref05_time.l0, if_neg (by omega)]
    rfl
  | succ n ih =>
    intro K i a h0 h1 hn hK ha hb
    obtain ⟨K, rfl⟩ : ∃ q, K = q + 1 := ⟨K - 1, by omega⟩
    by_cases hi : i = -1
    · rw [isobathref05_time.l0, if_neg (by omega), timeI, if_pos hi]
    · have hc := hv _ (rd30_mem (cs := cs) (i := i) (by omega) (by omega))
      have hpi := parOK_at hp (i := i) (by omega) (by omega)
      have hf : faceE (rd_T30 cs i).f0 (rd_T30 cs i).f1 (rd_T30 cs i).f2 = 0 := hc
      have hm := faceE_rate hf
      have hU := upI_eq hc (a := a) (by omega) (by omega)
      rw [isobathref05_time.l0, if_pos (by omega), if_pos (by omega), if_pos (by omega), ref_up hc (by omega) (by omega) (by omega), Option.bind_some, timeI, if_neg hi]
      exact ih K _ (upI (rd_T30 cs i) a) hm.1 (by omega) (by omega) (by omega) (by omega) (by omega)
theorem ref_Time {cs : List S30} (hlen : cs.length ≤ 1000) (hl : ∀ c ∈ cs, c.f2.length ≤ 6500) (k t : Int) {K : Nat} (hK : 12100 ≤ K) : isobathref05_Time.f K cs k t = some ((TimeV cs k t).1, (TimeV cs k t).2, TimeE cs k t) := by
  unfold isobathref05_Time.f TimeV TimeE
  rw [ref_House hlen hl (by omega), Option.bind_some, Option.bind_some]
  by_cases hh : houseE cs = 0
  · rw [if_pos hh, if_neg (show ¬ (houseE cs ≠ 0) from fun h => h hh), if_neg (show ¬ (houseE cs ≠ 0) from fun h => h hh)]
    obtain ⟨⟨hl1, hl2⟩, hv, hp, _⟩ := houseE_zero hh
    unfold timeV timeE
    by_cases h1 : k < 0
    · rw [if_pos h1, if_pos (Or.inl h1), if_pos (Or.inl h1)]
    rw [if_neg h1]
    by_cases h2 : (cs.length : Int) ≤ k
    · rw [if_pos (show k ≥ (cs.length : Int) from h2), if_pos (Or.inr (Or.inl h2)), if_pos (Or.inr (Or.inl h2))]
    rw [if_neg (show ¬ k ≥ (cs.length : Int) from h2), ref_isTime, Option.bind_some]
    cases hT : okT t with
    | false =>
      rw [if_neg (by decide), if_pos (Or.inr (Or.inr rfl)), if_pos (Or.inr (Or.inr rfl))]
    | true =>
      have ht := okT_iff.1 hT
      rw [if_pos rfl, if_neg (show ¬ (k < 0 ∨ (cs.length : Int) ≤ k ∨ true = false) by simp; omega), if_neg (show ¬ (k < 0 ∨ (cs.length : Int) ≤ k ∨ true = false) by simp; omega)]
      unfold isobathref05_time.f
      rw [ref_time_loop hh cs.length K k (t, t) (by omega) (by omega) (by omega) (by omega) (by dsimp only; omega) (by dsimp only; omega), Option.bind_some]
  · rw [if_neg hh, if_pos (show houseE cs ≠ 0 from hh), if_pos (show houseE cs ≠ 0 from hh)]
theorem TimeE_ok {cs : List S30} (hh : houseE cs = 0) (k t : Int) : TimeE cs k t = timeE cs k t ∧ TimeV cs k t = timeV cs k t := by
  unfold TimeE TimeV
  rw [if_neg (show ¬ (houseE cs ≠ 0) from fun h => h hh), if_neg (show ¬ (houseE cs ≠ 0) from fun h => h hh)]
  exact ⟨rfl, rfl⟩
theorem rd41_lt {ss : List S41} {i : Nat} (h : i < ss.length) : rd_T41 ss (i : Int) = ss[i] := by
  unfold rd_T41
  rw [List.getD_eq_getElem?_getD, Int.toNat_natCast, List.getElem?_eq_getElem h]
  rfl
theorem ref_times_loop {cs : List S30} {ss : List S41} (hh : houseE cs = 0) (hlen : cs.length ≤ 1000) (hl : ∀ c ∈ cs, c.f2.length ≤ 6500) (hs : ss.length ≤ 1000) : ∀ (m i K : Nat) (acc : List S35), i + m = ss.length → acc.length ≤ i → m + 12200 ≤ K →
    isobathref05_Times.l0 K cs ss acc (i : Int) = some (if (ss.drop i).all (fun s => decide (timeE cs s.f0 s.f1 = 0)) then (acc ++ (ss.drop i).map (fun s => (⟨(timeV cs s.f0 s.f1).1, (timeV cs s.f0 s.f1).2⟩ : S35)), 0) else ([], 3)) := by
  intro m
  induction m with
  | zero =>
    intro i K acc h ha hK
    obtain ⟨K, rfl⟩ : ∃ q, K = q + 1 := ⟨K - 1, by omega⟩
    rw [isobathref05_Times.l0, if_neg (by omega), List.drop_of_length_le (by omega)]
    simp
  | succ m ih =>
    intro i K acc h ha hK
    obtain ⟨K, rfl⟩ : ∃ q, K = q + 1 := ⟨K - 1, by omega⟩
    have hi : i < ss.length := by omega
    have hT := TimeE_ok hh ss[i].f0 ss[i].f1
    rw [isobathref05_Times.l0, if_pos (by omega), if_pos (by omega), rd41_lt hi, ref_Time hlen hl _ _ (K := K) (by omega), Option.bind_some, hT.1, hT.2, List.drop_eq_getElem_cons hi, List.all_cons, List.map_cons]
    rcases timeE_cases cs ss[i].f0 ss[i].f1 with he | he
    · rw [he, if_pos rfl, if_pos (by omega), wrap_id (by omega) (by omega), show ((i : Int) + 1) = ((i + 1 : Nat) : Int) by omega, ih (i + 1) K _ (by omega) (by rw [List.length_append, List.length_singleton]; omega) (by omega), List.append_assoc]
      rfl
    · rw [he, if_neg (show ¬ ((3 : Int) = 0) by decide)]
      rfl
theorem ref_Times {cs : List S30} {ss : List S41} (hlen : cs.length ≤ 1000) (hl : ∀ c ∈ cs, c.f2.length ≤ 6500) {K : Nat} (hK : 13000 ≤ K) : isobathref05_Times.f K cs ss = some (timesI cs ss) := by
  unfold isobathref05_Times.f timesI
  rw [ref_House hlen hl (by omega), Option.bind_some, Option.bind_some]
  by_cases hh : houseE cs = 0
  · rw [if_pos hh, if_neg (show ¬ (houseE cs ≠ 0) from fun h => h hh)]
    by_cases h1 : ss.length > 128
    · rw [if_pos (by omega), if_pos h1]
    · rw [if_neg (by omega), if_neg h1]
      have := ref_times_loop hh hlen hl (ss := ss) (by omega) ss.length 0 K [] (by omega) (Nat.le_refl _) (by omega)
      rw [List.drop_zero, List.nil_append] at this
      exact this
  · rw [if_neg hh, if_pos (show houseE cs ≠ 0 from hh)]
end Go.Proofs.Ytcjdhajdoikojaa.Clk
end
section
namespace Go.Proofs.Ytcjdhajdoikojaa.Pure
open Go.RowKit Go.Proofs.Ytcjdhajdoikojaa.Pr
set_option maxRecDepth 100000 in
theorem works : isobathlaw05_Works.f = some true := by kernel_rfl
end Go.Proofs.Ytcjdhajdoikojaa.Pure
end
section
/- Sound houses and the true times of stamps are what the document's answer says: the pure statement about what the program computes. -/
namespace Go.Proofs.Ytcjdhajdoikojaa.Pure
open Go.RowKit Go.Proofs.YtcjdhajdoikojaaW.PrintWords Go.Proofs.YtcjdhajdoikojaaW.PrintLast Go.Proofs.Ytcjdhajdoikojaa.Pr Go.Proofs.Ytcjdhajdoikojaa.Good Go.Proofs.Ytcjdhajdoikojaa.Clk
namespace Times
theorem long_cases (par rate : Int) (xs : List S46) : isobathlaw05_long.f par rate xs = some true ∨ (isobathlaw05_long.f par rate xs = some false ∧ xs.length ≤ 70) := by
  unfold isobathlaw05_long.f
  by_cases h1 : (xs.length : Int) > 12
  · rw [if_pos h1]
    by_cases h2 : (xs.length : Int) ≤ 64
    · rw [if_pos h2]
      exact .inl rfl
    · rw [if_neg h2]
      by_cases h3 : (xs.length : Int) > 70
      · rw [decide_eq_true h3]
        exact .inl rfl
      · rw [decide_eq_false h3]
        exact .inr ⟨rfl, by omega⟩
  · rw [if_neg h1]
    by_cases h3 : (xs.length : Int) > 70
    · rw [decide_eq_true h3]
      exact .inl rfl
    · rw [decide_eq_false h3]
      exact .inr ⟨rfl, by omega⟩
theorem great_loop {cs : List S30} (hl : cs.length ≤ 100) : ∀ (m i K : Nat), i + m = cs.length → m + 2 ≤ K → isobathlaw05_great.l0 K cs (i : Int) = some true ∨ (isobathlaw05_great.l0 K cs (i : Int) = some false ∧ ∀ c ∈ cs.drop i, c.f2.length ≤ 70) := by
  intro m
  induction m with
  | zero =>
    intro i K h hK
    obtain ⟨K, rfl⟩ : ∃ q, K = q + 1 := ⟨K - 1, by omega⟩
    rw [isobathlaw05_great.l0, if_neg (by omega), List.drop_of_length_le (by omega)]
    exact .inr ⟨rfl, fun c h => by cases h⟩
  | succ m ih =>
    intro i K h hK
    obtain ⟨K, rfl⟩ : ∃ q, K = q + 1 := ⟨K - 1, by omega⟩
    have hi : i < cs.length := by omega
    rw [isobathlaw05_great.l0, if_pos (by omega), if_pos (by omega), rd30_lt hi]
    rcases long_cases cs[i].f0 cs[i].f1 cs[i].f2 with hL | ⟨hL, h70⟩
    · rw [hL, Option.bind_some, if_pos rfl]
      exact .inl rfl
    · rw [hL, Option.bind_some, if_neg (by decide), wrap_id (by omega) (by omega), show ((i : Int) + 1) = ((i + 1 : Nat) : Int) by omega]
      rcases ih (i + 1) K (by omega) (by omega) with e | ⟨e, hd⟩
      · exact .inl e
      · refine .inr ⟨e, fun c hc => ?_⟩
        rw [List.drop_eq_getElem_cons hi] at hc
        rcases List.mem_cons.1 hc with rfl | hc
        · exact h70
        · exact hd c hc
theorem great_cases (cs : List S30) {K : Nat} (hK : 200 ≤ K) : isobathlaw05_great.f K cs = some true ∨ (isobathlaw05_great.f K cs = some false ∧ cs.length ≤ 40 ∧ ∀ c ∈ cs, c.f2.length ≤ 70) := by
  obtain ⟨K, rfl⟩ : ∃ q, K = q + 1 := ⟨K - 1, by omega⟩
  unfold isobathlaw05_great.f
  have ht : isobathlaw05_great.j0 (K + 1) cs true = some true := by rw [isobathlaw05_great.j0, if_pos rfl]
  by_cases h3 : (cs.length : Int) > 40
  · rw [decide_eq_true h3, ht]
    left
    split
    · split <;> rfl
    · rfl
  · have hf : isobathlaw05_great.j0 (K + 1) cs false = isobathlaw05_great.l0 K cs 0 := by rw [isobathlaw05_great.j0, if_neg (by decide)]
    rw [decide_eq_false h3, ht, hf]
    have hh := great_loop (cs := cs) (by omega) cs.length 0 K (by omega) (by omega)
    rw [List.drop_zero] at hh
    by_cases h1 : (cs.length : Int) > 6
    · rw [if_pos h1]
      by_cases h2 : (cs.length : Int) ≤ 32
      · rw [if_pos h2]
        exact .inl rfl
      · rw [if_neg h2]
        rcases hh with e | ⟨e, hc⟩
        · exact .inl e
        · exact .inr ⟨e, by omega, hc⟩
    · rw [if_neg h1]
      rcases hh with e | ⟨e, hc⟩
      · exact .inl e
      · exact .inr ⟨e, by omega, hc⟩
theorem same_loop (l : List S35) (hl : l.length ≤ 1000) : ∀ (m i K : Nat), i + m = l.length → m + 2 ≤ K → isobathlaw05_same.l0 K l l (i : Int) = some true := by
  intro m
  induction m with
  | zero =>
    intro i K h hK
    obtain ⟨K, rfl⟩ : ∃ q, K = q + 1 := ⟨K - 1, by omega⟩
    rw [isobathlaw05_same.l0, if_neg (by omega)]
  | succ m ih =>
    intro i K h hK
    obtain ⟨K, rfl⟩ : ∃ q, K = q + 1 := ⟨K - 1, by omega⟩
    rw [isobathlaw05_same.l0, if_pos (by omega), if_pos (by omega), if_pos (by omega), if_neg (by simp), wrap_id (by omega) (by omega), show ((i : Int) + 1) = ((i + 1 : Nat) : Int) by omega]
    exact ih (i + 1) K (by omega) (by omega)
theorem same_self (l : List S35) (hl : l.length ≤ 1000) {K : Nat} (hK : 1100 ≤ K) : isobathlaw05_same.f K l l = some true := by
  unfold isobathlaw05_same.f
  rw [if_pos rfl]
  exact same_loop l hl l.length 0 K (by omega) (by omega)
theorem timesI_len (cs : List S30) (ss : List S41) : (timesI cs ss).1.length ≤ 128 := by
  unfold timesI
  split
  · exact Nat.zero_le _
  · split
    · exact Nat.zero_le _
    · split
      · rw [List.length_map]
        omega
      · exact Nat.zero_le _
end Times
open Times
theorem ClockTimes : ∀ (x0 : (List S30)) (x1 : (List S41)), ((∀ y ∈ x0, W30 y) ∧ x0.length * Try.prog.bytesOf 30 ≤ reachBytes) → ((∀ y ∈ x1, W41 y) ∧ x1.length * Try.prog.bytesOf 41 ≤ reachBytes) → ∃ k, isobathlaw05_ClockTimes.f k x0 x1 = some true := by
  intro cs ss _ _
  obtain ⟨K, hK⟩ : ∃ K : Nat, 20000 ≤ K := ⟨_, Nat.le_refl _⟩
  refine ⟨K, ?_⟩
  unfold isobathlaw05_ClockTimes.f
  have hT : ∀ k, isobathlaw05_ClockTimes.j0 (k + 1) cs ss true = some true := fun k => by
    rw [isobathlaw05_ClockTimes.j0, if_pos rfl, works]
    rfl
  obtain ⟨K, rfl⟩ : ∃ q, K = q + 1 := ⟨K - 1, by omega⟩
  rcases great_cases cs (K := K + 1) (by omega) with h | ⟨h, h40, h70⟩
  · rw [h, Option.bind_some, if_pos rfl, hT]
  rw [h, Option.bind_some, if_neg (by decide)]
  have hlen : cs.length ≤ 1000 := by omega
  have hl : ∀ c ∈ cs, c.f2.length ≤ 6500 := fun c hc => by have := h70 c hc; omega
  have key : ∀ (m i K : Nat), i + m = 21 → 3 * m + 19000 ≤ K → isobathlaw05_ClockTimes.l0 K cs ss (i : Int) = some true := by
    intro m
    have hend : ∀ (i : Int) (K : Nat), 18000 ≤ K → isobathlaw05_ClockTimes.j2 K cs ss i false = some true := by
      intro i K hK
      obtain ⟨K, rfl⟩ : ∃ q, K = q + 1 := ⟨K - 1, by omega⟩
      have e1 : clock_Times.f cs ss = some (timesI cs ss) := rfl
      have e2 : clock_CheckHouse.f cs = some (houseE cs) := rfl
      rw [isobathlaw05_ClockTimes.j2, if_neg (by decide), e1, Option.bind_some, ref_Times hlen hl (K := K) (by omega), Option.bind_some, e2, Option.bind_some, ref_House hlen hl (K := K) (by omega), Option.bind_some, if_pos rfl, same_self _ (by have := timesI_len cs ss; omega) (K := K) (by omega), Option.bind_some, if_pos rfl, if_pos rfl, works]
      rfl
    induction m with
    | zero =>
      intro i K h hK
      obtain ⟨K, rfl⟩ : ∃ q, K = q + 1 := ⟨K - 1, by omega⟩
      rw [isobathlaw05_ClockTimes.l0]
      by_cases h1 : (i : Int) < (ss.length : Int)
      · rw [if_pos h1, decide_eq_false (by omega)]
        exact hend _ K (by omega)
      · rw [if_neg h1]
        exact hend _ K (by omega)
    | succ m ih =>
      intro i K h hK
      obtain ⟨K, rfl⟩ : ∃ q, K = q + 2 := ⟨K - 2, by omega⟩
      rw [isobathlaw05_ClockTimes.l0]
      by_cases h1 : (i : Int) < (ss.length : Int)
      · rw [if_pos h1]
        by_cases h2 : (i : Int) < 20
        · have e1 : ∀ a b, clock_Time.f cs a b = some ((TimeV cs a b).1, (TimeV cs a b).2, TimeE cs a b) := fun a b => rfl
          rw [decide_eq_true h2, isobathlaw05_ClockTimes.j2, if_pos rfl, if_pos (by omega), if_pos h1, e1, Option.bind_some, ref_Time hlen hl _ _ (K := K) (by omega), Option.bind_some]
          dsimp only
          rw [if_neg (by simp), if_pos rfl, wrap_id (by omega) (by omega), show ((i : Int) + 1) = ((i + 1 : Nat) : Int) by omega]
          exact ih (i + 1) K (by omega) (by omega)
        · rw [decide_eq_false h2]
          exact hend _ (K + 1) (by omega)
      · rw [if_neg h1]
        exact hend _ (K + 1) (by omega)
  by_cases h1 : (ss.length : Int) > 20
  · rw [if_pos h1]
    by_cases h2 : (ss.length : Int) ≤ 128
    · rw [if_pos h2, hT]
    · rw [if_neg h2]
      by_cases h3 : (ss.length : Int) > 140
      · rw [decide_eq_true h3, hT]
      · rw [decide_eq_false h3, isobathlaw05_ClockTimes.j0, if_neg (by decide)]
        exact key 21 0 K (by omega) (by omega)
  · rw [if_neg h1]
    by_cases h3 : (ss.length : Int) > 140
    · rw [decide_eq_true h3, hT]
    · rw [decide_eq_false h3, isobathlaw05_ClockTimes.j0, if_neg (by decide)]
      exact key 21 0 K (by omega) (by omega)
end Go.Proofs.Ytcjdhajdoikojaa.Pure
end
