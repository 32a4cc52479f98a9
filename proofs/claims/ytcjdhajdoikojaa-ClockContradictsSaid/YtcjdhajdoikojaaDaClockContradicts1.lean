/- Part 1 of the proof of ClockContradicts: what the functions compute. No condition. -/
import Derived.Test.YtcjdhajdoikojaaDaa1
import Derived.Test.YtcjdhajdoikojaaDaa4
import Derived.Test.YtcjdhajdoikojaaDaa3
section
-- PRINTED by print.py (a twelfth state) out of the translation. Not trusted: Lean checks it.
namespace Go.Proofs.Ytcjdhajdoikojaa.Pr
open Go.RowKit Go.Proofs.YtcjdhajdoikojaaW.PrintWords Go.Proofs.YtcjdhajdoikojaaW.PrintLast Go.Proofs.YtcjdhajdoikojaaW.PrintMore
attribute [local go_sem] max2_int min2_int max_two min_two
set_option linter.unusedVariables false
set_option linter.unusedSimpArgs false

/-! ### isobathlaw05_ClockContradicts: function 11 -/
mutual
def isobathlaw05_ClockContradicts.j0 : Nat → Int → Bool → Int → Int → List (S46) → Option (Bool)
  | 0, _, _, _, _, _ => none
  | k + 1, x1, x26, x531000, x531001, x531002 => if x26 = true then ((isobathlaw05_Works.f).bind fun t532 => (some t532)) else ((clock_Contradiction.f x531000 x531001 x531002).bind fun bt533 => ((clock_At.f x531000 x531001 x531002 x1).bind fun bt536 => (if bt533.2.2 = 0 then (isobathlaw05_ClockContradicts.j1 k bt533.1 bt533.2.1 bt533.2.2 bt536.2.2 false x531000 x531001 x531002) else (isobathlaw05_ClockContradicts.j1 k bt533.1 bt533.2.1 bt533.2.2 bt536.2.2 (bt533.2.2 != 5) x531000 x531001 x531002))))
def isobathlaw05_ClockContradicts.j1 : Nat → Int → Int → Int → Int → Bool → Int → Int → List (S46) → Option (Bool)
  | 0, _, _, _, _, _, _, _, _ => none
  | k + 1, x5, x6, x7, x9, x45, x531000, x531001, x531002 => if x45 = true then (if x9 = x7 then ((isobathlaw05_Works.f).bind fun t540 => (some t540)) else (some false)) else (if ((x7 == 0) != (x9 == 5)) = true then (some false) else (if x7 = 0 then (if x5 < 0 then (isobathlaw05_ClockContradicts.j2 k x6 true x531000 x531001 x531002) else (if x5 ≥ x6 then (isobathlaw05_ClockContradicts.j2 k x6 true x531000 x531001 x531002) else (if x6 ≥ (x531002.length : Int) then (isobathlaw05_ClockContradicts.j2 k x6 true x531000 x531001 x531002) else ((clock_CheckContradiction.f x531000 x531001 x531002 x5 x6).bind fun t542 => (if t542 = 0 then ((clock_CheckContradiction.f x531000 x531001 x531002 x6 x5).bind fun t543 => (if t543 = 0 then ((clock_CheckContradiction.f x531000 x531001 x531002 x5 x5).bind fun t544 => (isobathlaw05_ClockContradicts.j2 k x6 (t544 != 16) x531000 x531001 x531002)) else (isobathlaw05_ClockContradicts.j2 k x6 true x531000 x531001 x531002))) else (isobathlaw05_ClockContradicts.j2 k x6 true x531000 x531001 x531002)))))) else (if x5 = 0 then (if x6 = 0 then ((isobathlaw05_Works.f).bind fun t541 => (some t541)) else (some false)) else (some false))))
def isobathlaw05_ClockContradicts.j2 : Nat → Int → Bool → Int → Int → List (S46) → Option (Bool)
  | 0, _, _, _, _, _ => none
  | k + 1, x6, x102, x531000, x531001, x531002 => if x102 = true then (some false) else (if 0 ≤ x6 then (if x6 ≤ (x531002.length : Int) then ((clock_Contradiction.f x531000 x531001 (x531002.take (x6 : Int).toNat)).bind fun bt550 => (if bt550.2.2 = 5 then ((isobathlaw05_Works.f).bind fun t553 => (some t553)) else (some false))) else (none)) else (none))
end
def isobathlaw05_ClockContradicts.f (k : Nat) (a0_0 : Int) (a0_1 : Int) (l0_2 : List (S46)) (a1 : Int) : Option (Bool) := (isobathlaw05_long.f a0_0 a0_1 l0_2).bind fun t531 => (if t531 = true then (isobathlaw05_ClockContradicts.j0 k a1 true a0_0 a0_1 l0_2) else (if (l0_2.length : Int) > 12 then (isobathlaw05_ClockContradicts.j0 k a1 true a0_0 a0_1 l0_2) else (if a1 < 0 then (isobathlaw05_ClockContradicts.j0 k a1 true a0_0 a0_1 l0_2) else (isobathlaw05_ClockContradicts.j0 k a1 (decide (a1 > 1125899906842624)) a0_0 a0_1 l0_2))))
set_option maxHeartbeats 8000000 in
set_option maxRecDepth 100000 in
theorem isobathlaw05_ClockContradicts.calls (k : Nat) (a0_0 : Int) (a0_1 : Int) (A0_2 : Option Addr) (c0_2 : Nat) (l0_2 : List (S46)) (a1 : Int) (r : Bool) (w : World) (hr0_2 : Kd.C k46 w A0_2 l0_2.length l0_2) (hc0_2 : l0_2.length ≤ c0_2) (h : isobathlaw05_ClockContradicts.f k a0_0 a0_1 l0_2 a1 = some r) (hr_ : Aside0 (r = true)) :
    Calls Try.prog 11 #[.agg #[.int .i64 a0_0, .int .i64 a0_1, .slice A0_2 l0_2.length c0_2], .int .i64 a1] w fun e w' => e = .returned (.bool r) ∧ Below w.heap.size w w' := by
  have hu30 := Try.underlying30
  have hu35 := Try.underlying35
  have HR0_2 := Aside0.mk hr0_2
  have HC0_2 := Aside0.mk hc0_2
  clear hr0_2 hc0_2
  have HB := Aside0.mk (Below.refl w.heap.size w)
  have H : ((isobathlaw05_long.f a0_0 a0_1 l0_2).bind fun t531 => (if t531 = true then (isobathlaw05_ClockContradicts.j0 k a1 true a0_0 a0_1 l0_2) else (if (l0_2.length : Int) > 12 then (isobathlaw05_ClockContradicts.j0 k a1 true a0_0 a0_1 l0_2) else (if a1 < 0 then (isobathlaw05_ClockContradicts.j0 k a1 true a0_0 a0_1 l0_2) else (isobathlaw05_ClockContradicts.j0 k a1 (decide (a1 > 1125899906842624)) a0_0 a0_1 l0_2))))) = some r := h
  clear h
  have HC3 := Aside0.mk H
  clear H
  go_enter Try.func11, Try.ntmps11
  go_upto_region 1 with (first | ((with_reducible refine gate_dst (N := 2) rfl ?_); (try (refine gate_guard (by rfl) ?_; dsimp only)); refine box_event ?hg (N := 2) ?hd (cs := #[.int .i64 a0_0, .int .i64 a0_1, .slice A0_2 l0_2.length c0_2]) (t := 30) ?hr ?_; (case hd => rfl); (case hg => rfl); (case hr => first | (go_simp; done) | (go_simp; rfl)); intro gb530 hg w4 hbox hb; have n0_ := Aside0.mk (below_step (by repeat (first | (with_reducible first | exact HB.out | apply below_alloc | apply pw_below_drewN | apply below_drew1) | exact HB.out)) hb); have n1_ := Aside0.mk (hbox); have n2_ := Aside0.mk ((by rw [hg]; exact (below_size (by repeat (first | (with_reducible first | exact HB.out | apply below_alloc | apply pw_below_drewN | apply below_drew1) | exact HB.out))) : w.heap.size ≤ gb530)); have n3_ := Aside0.mk ((by rw [hg]; exact (below_size (by repeat (first | (with_reducible first | exact HB.out | apply below_alloc | apply pw_below_drewN | apply below_drew1) | exact HB.out))) : w.heap.size ≤ gb530)); clear HB; have HB := n0_; have BK530 := n1_; have GW530 := n2_; have GE530 := n3_; clear n0_ n1_ n2_ n3_; clear hb hbox hg))
  (try simp only [Act.put, List.setIfInBounds_toArray, List.set_cons_zero, List.set_cons_succ])
  go_cut [26] (fun v26 wc => ∃ (kq : Nat) (x26_2 : Bool), v26 = .bool x26_2 ∧ Aside0 (isobathlaw05_ClockContradicts.j0 kq a1 x26_2 a0_0 a0_1 l0_2 = some r) ∧ Aside0 (kq ≤ k) ∧ Aside0 (wc.heap[gb530]? = some (.cells #[.int .i64 a0_0, .int .i64 a0_1, (.slice A0_2 l0_2.length c0_2)] 30 (0, 0))) ∧ Aside0 (Below w.heap.size w wc))
  case first =>
    have H := HC3.out
    clear HC3
    replace H := Option.bind_eq_some_iff.mp H
    obtain ⟨t531, A50, H⟩ := H
    replace H : (if t531 = true then (isobathlaw05_ClockContradicts.j0 k a1 true a0_0 a0_1 l0_2) else (if (l0_2.length : Int) > 12 then (isobathlaw05_ClockContradicts.j0 k a1 true a0_0 a0_1 l0_2) else (if a1 < 0 then (isobathlaw05_ClockContradicts.j0 k a1 true a0_0 a0_1 l0_2) else (isobathlaw05_ClockContradicts.j0 k a1 (decide (a1 > 1125899906842624)) a0_0 a0_1 l0_2)))) = some r := H
    have A5 := Aside0.mk A50
    clear A50
    by_cases c6 : t531 = true
    · subst c6
      have H1 : (isobathlaw05_ClockContradicts.j0 k a1 true a0_0 a0_1 l0_2) = some r := by rw [if_pos rfl] at H; exact H
      clear H
      have H := H1
      clear H1
      have H' := Aside0.mk H
      clear H
      have hcz7_0 : w4.cell? ⟨gb530, 0, none⟩ = some (.int .i64 a0_0) := (blk_cell BK530.out 0).trans rfl
      have hcz7_1 : w4.cell? ⟨gb530, 1, none⟩ = some (.int .i64 a0_1) := (blk_cell BK530.out 1).trans rfl
      have hcz7_2 : w4.cell? ⟨gb530, 2, none⟩ = some (.slice A0_2 l0_2.length c0_2) := (blk_cell BK530.out 2).trans rfl
      have hfz7_0 := blk_frozen BK530.out 0
      have hfz7_1 := blk_frozen BK530.out 1
      have hfz7_2 := blk_frozen BK530.out 2
      go_wp2_with (first | ((with_reducible refine gate_callee (f := 21) rfl ?_); refine goesL_ (some 12) rfl rfl Try.func21 (by kernel_rfl) rfl #[.agg #[.int .i64 a0_0, .int .i64 a0_1, .slice A0_2 l0_2.length c0_2]] rfl (by (try simp only [List.map_toArray, List.map_cons, List.map_nil]); first | done | rfl | (simp only [List.length_drop, List.length_take]; rfl)) ?_; (with_reducible refine (isobathlaw05_long.calls a0_0 a0_1 _ _ l0_2 true _ ?side1 ?side2 A5.out).mono ?_); (case side1 => repeat (first | exact (Kd.C_below HR0_2.out HB.out) | (with_reducible refine Kd.C_alloc ?_ _) | (with_reducible refine Kd.C_drewN ?_ _) | (with_reducible refine Kd.C_drew ?_))); (case side2 => exact HC0_2.out); rintro e w8 ⟨rfl, hb⟩; refine ⟨_, rfl, ?_⟩; have n0_ := Aside0.mk (blk_below (g := gb530) (o := .cells #[.int .i64 a0_0, .int .i64 a0_1, .slice A0_2 l0_2.length c0_2] 30 (0, 0)) (by (with_reducible repeat (first | refine blk_drewN ?_ _ | refine blk_drew ?_ | refine blk_alloc ?_ _)); exact BK530.out) hb); have n1_ := Aside0.mk (below_step (by repeat (first | (with_reducible first | exact HB.out | apply below_alloc | apply pw_below_drewN | apply below_drew1 | refine below_set ?_ GE530.out) | exact HB.out)) hb); clear BK530; clear HB; have BK530 := n0_; have HB := n1_; clear n0_ n1_; (try clear hb); (try clear hb2); (try clear hk); (try clear hi)))
      go_meet
      case rel => exact ⟨_, (true), (by first | rfl | (simp; done) | (simp [*]; done)), H', ⟨by first | omega | exact Nat.le_refl _⟩, ⟨by (with_reducible repeat (first | refine blk_drewN ?_ _ | refine blk_drew ?_ | refine blk_alloc ?_ _)); exact BK530.out⟩, ⟨by repeat (first | (with_reducible first | exact HB.out | apply below_alloc | apply pw_below_drewN | apply below_drew1 | refine below_set ?_ GE530.out) | exact HB.out)⟩⟩
    · replace c6 := Bool.eq_false_iff.mpr c6
      subst c6
      have H1 : (if (l0_2.length : Int) > 12 then (isobathlaw05_ClockContradicts.j0 k a1 true a0_0 a0_1 l0_2) else (if a1 < 0 then (isobathlaw05_ClockContradicts.j0 k a1 true a0_0 a0_1 l0_2) else (isobathlaw05_ClockContradicts.j0 k a1 (decide (a1 > 1125899906842624)) a0_0 a0_1 l0_2))) = some r := by rw [if_neg (show ¬ (false = true) by decide)] at H; exact H
      clear H
      have H := H1
      clear H1
      by_cases c9 : (l0_2.length : Int) > 12
      · rw [if_pos c9] at H
        have c9b0 : decide (12 < (l0_2.length : Int)) = true := decide_eq_true c9
        have c9b1 : decide (12 < l0_2.length) = true := decide_eq_true (by omega)
        clear c9
        (first | rw [c9b0] | (simp only [i64_w, i32_w]; rw [c9b0]) | skip)
        have H' := Aside0.mk H
        clear H
        have hcz10_0 : w4.cell? ⟨gb530, 0, none⟩ = some (.int .i64 a0_0) := (blk_cell BK530.out 0).trans rfl
        have hcz10_1 : w4.cell? ⟨gb530, 1, none⟩ = some (.int .i64 a0_1) := (blk_cell BK530.out 1).trans rfl
        have hcz10_2 : w4.cell? ⟨gb530, 2, none⟩ = some (.slice A0_2 l0_2.length c0_2) := (blk_cell BK530.out 2).trans rfl
        have hfz10_0 := blk_frozen BK530.out 0
        have hfz10_1 := blk_frozen BK530.out 1
        have hfz10_2 := blk_frozen BK530.out 2
        go_wp2_with (first | ((with_reducible refine gate_callee (f := 21) rfl ?_); refine goesL_ (some 12) rfl rfl Try.func21 (by kernel_rfl) rfl #[.agg #[.int .i64 a0_0, .int .i64 a0_1, .slice A0_2 l0_2.length c0_2]] rfl (by (try simp only [List.map_toArray, List.map_cons, List.map_nil]); first | done | rfl | (simp only [List.length_drop, List.length_take]; rfl)) ?_; (with_reducible refine (isobathlaw05_long.calls a0_0 a0_1 _ _ l0_2 false _ ?side1 ?side2 A5.out).mono ?_); (case side1 => repeat (first | exact (Kd.C_below HR0_2.out HB.out) | (with_reducible refine Kd.C_alloc ?_ _) | (with_reducible refine Kd.C_drewN ?_ _) | (with_reducible refine Kd.C_drew ?_))); (case side2 => exact HC0_2.out); rintro e w11 ⟨rfl, hb⟩; refine ⟨_, rfl, ?_⟩; have n0_ := Aside0.mk (blk_below (g := gb530) (o := .cells #[.int .i64 a0_0, .int .i64 a0_1, .slice A0_2 l0_2.length c0_2] 30 (0, 0)) (by (with_reducible repeat (first | refine blk_drewN ?_ _ | refine blk_drew ?_ | refine blk_alloc ?_ _)); exact BK530.out) hb); have n1_ := Aside0.mk (below_step (by repeat (first | (with_reducible first | exact HB.out | apply below_alloc | apply pw_below_drewN | apply below_drew1 | refine below_set ?_ GE530.out) | exact HB.out)) hb); clear BK530; clear HB; have BK530 := n0_; have HB := n1_; clear n0_ n1_; (try clear hb); (try clear hb2); (try clear hk); (try clear hi); have hcz12_0 : w11.cell? ⟨gb530, 0, none⟩ = some (.int .i64 a0_0) := (blk_cell BK530.out 0).trans rfl; have hcz12_1 : w11.cell? ⟨gb530, 1, none⟩ = some (.int .i64 a0_1) := (blk_cell BK530.out 1).trans rfl; have hcz12_2 : w11.cell? ⟨gb530, 2, none⟩ = some (.slice A0_2 l0_2.length c0_2) := (blk_cell BK530.out 2).trans rfl; have hfz12_0 := blk_frozen BK530.out 0; have hfz12_1 := blk_frozen BK530.out 1; have hfz12_2 := blk_frozen BK530.out 2))
        go_meet
        case rel => exact ⟨_, (true), (by first | rfl | (simp; done) | (simp [*]; done)), H', ⟨by first | omega | exact Nat.le_refl _⟩, ⟨by (with_reducible repeat (first | refine blk_drewN ?_ _ | refine blk_drew ?_ | refine blk_alloc ?_ _)); exact BK530.out⟩, ⟨by repeat (first | (with_reducible first | exact HB.out | apply below_alloc | apply pw_below_drewN | apply below_drew1 | refine below_set ?_ GE530.out) | exact HB.out)⟩⟩
      · rw [if_neg c9] at H
        have c9b0 : decide (12 < (l0_2.length : Int)) = false := decide_eq_false c9
        have c9b1 : decide (12 < l0_2.length) = false := decide_eq_false (by omega)
        clear c9
        (first | rw [c9b0] | (simp only [i64_w, i32_w]; rw [c9b0]) | skip)
        by_cases c13 : a1 < 0
        · rw [if_pos c13] at H
          have c13b0 : decide (a1 < 0) = true := decide_eq_true c13
          clear c13
          have H' := Aside0.mk H
          clear H
          have hcz14_0 : w4.cell? ⟨gb530, 0, none⟩ = some (.int .i64 a0_0) := (blk_cell BK530.out 0).trans rfl
          have hcz14_1 : w4.cell? ⟨gb530, 1, none⟩ = some (.int .i64 a0_1) := (blk_cell BK530.out 1).trans rfl
          have hcz14_2 : w4.cell? ⟨gb530, 2, none⟩ = some (.slice A0_2 l0_2.length c0_2) := (blk_cell BK530.out 2).trans rfl
          have hfz14_0 := blk_frozen BK530.out 0
          have hfz14_1 := blk_frozen BK530.out 1
          have hfz14_2 := blk_frozen BK530.out 2
          go_wp2_with (first | ((with_reducible refine gate_callee (f := 21) rfl ?_); refine goesL_ (some 12) rfl rfl Try.func21 (by kernel_rfl) rfl #[.agg #[.int .i64 a0_0, .int .i64 a0_1, .slice A0_2 l0_2.length c0_2]] rfl (by (try simp only [List.map_toArray, List.map_cons, List.map_nil]); first | done | rfl | (simp only [List.length_drop, List.length_take]; rfl)) ?_; (with_reducible refine (isobathlaw05_long.calls a0_0 a0_1 _ _ l0_2 false _ ?side1 ?side2 A5.out).mono ?_); (case side1 => repeat (first | exact (Kd.C_below HR0_2.out HB.out) | (with_reducible refine Kd.C_alloc ?_ _) | (with_reducible refine Kd.C_drewN ?_ _) | (with_reducible refine Kd.C_drew ?_))); (case side2 => exact HC0_2.out); rintro e w15 ⟨rfl, hb⟩; refine ⟨_, rfl, ?_⟩; have n0_ := Aside0.mk (blk_below (g := gb530) (o := .cells #[.int .i64 a0_0, .int .i64 a0_1, .slice A0_2 l0_2.length c0_2] 30 (0, 0)) (by (with_reducible repeat (first | refine blk_drewN ?_ _ | refine blk_drew ?_ | refine blk_alloc ?_ _)); exact BK530.out) hb); have n1_ := Aside0.mk (below_step (by repeat (first | (with_reducible first | exact HB.out | apply below_alloc | apply pw_below_drewN | apply below_drew1 | refine below_set ?_ GE530.out) | exact HB.out)) hb); clear BK530; clear HB; have BK530 := n0_; have HB := n1_; clear n0_ n1_; (try clear hb); (try clear hb2); (try clear hk); (try clear hi); have hcz16_0 : w15.cell? ⟨gb530, 0, none⟩ = some (.int .i64 a0_0) := (blk_cell BK530.out 0).trans rfl; have hcz16_1 : w15.cell? ⟨gb530, 1, none⟩ = some (.int .i64 a0_1) := (blk_cell BK530.out 1).trans rfl; have hcz16_2 : w15.cell? ⟨gb530, 2, none⟩ = some (.slice A0_2 l0_2.length c0_2) := (blk_cell BK530.out 2).trans rfl; have hfz16_0 := blk_frozen BK530.out 0; have hfz16_1 := blk_frozen BK530.out 1; have hfz16_2 := blk_frozen BK530.out 2))
          go_meet
          case rel => exact ⟨_, (true), (by first | rfl | (simp; done) | (simp [*]; done)), H', ⟨by first | omega | exact Nat.le_refl _⟩, ⟨by (with_reducible repeat (first | refine blk_drewN ?_ _ | refine blk_drew ?_ | refine blk_alloc ?_ _)); exact BK530.out⟩, ⟨by repeat (first | (with_reducible first | exact HB.out | apply below_alloc | apply pw_below_drewN | apply below_drew1 | refine below_set ?_ GE530.out) | exact HB.out)⟩⟩
        · rw [if_neg c13] at H
          have c13b0 : decide (a1 < 0) = false := decide_eq_false c13
          clear c13
          have H' := Aside0.mk H
          clear H
          have hcz17_0 : w4.cell? ⟨gb530, 0, none⟩ = some (.int .i64 a0_0) := (blk_cell BK530.out 0).trans rfl
          have hcz17_1 : w4.cell? ⟨gb530, 1, none⟩ = some (.int .i64 a0_1) := (blk_cell BK530.out 1).trans rfl
          have hcz17_2 : w4.cell? ⟨gb530, 2, none⟩ = some (.slice A0_2 l0_2.length c0_2) := (blk_cell BK530.out 2).trans rfl
          have hfz17_0 := blk_frozen BK530.out 0
          have hfz17_1 := blk_frozen BK530.out 1
          have hfz17_2 := blk_frozen BK530.out 2
          go_wp2_with (first | ((with_reducible refine gate_callee (f := 21) rfl ?_); refine goesL_ (some 12) rfl rfl Try.func21 (by kernel_rfl) rfl #[.agg #[.int .i64 a0_0, .int .i64 a0_1, .slice A0_2 l0_2.length c0_2]] rfl (by (try simp only [List.map_toArray, List.map_cons, List.map_nil]); first | done | rfl | (simp only [List.length_drop, List.length_take]; rfl)) ?_; (with_reducible refine (isobathlaw05_long.calls a0_0 a0_1 _ _ l0_2 false _ ?side1 ?side2 A5.out).mono ?_); (case side1 => repeat (first | exact (Kd.C_below HR0_2.out HB.out) | (with_reducible refine Kd.C_alloc ?_ _) | (with_reducible refine Kd.C_drewN ?_ _) | (with_reducible refine Kd.C_drew ?_))); (case side2 => exact HC0_2.out); rintro e w18 ⟨rfl, hb⟩; refine ⟨_, rfl, ?_⟩; have n0_ := Aside0.mk (blk_below (g := gb530) (o := .cells #[.int .i64 a0_0, .int .i64 a0_1, .slice A0_2 l0_2.length c0_2] 30 (0, 0)) (by (with_reducible repeat (first | refine blk_drewN ?_ _ | refine blk_drew ?_ | refine blk_alloc ?_ _)); exact BK530.out) hb); have n1_ := Aside0.mk (below_step (by repeat (first | (with_reducible first | exact HB.out | apply below_alloc | apply pw_below_drewN | apply below_drew1 | refine below_set ?_ GE530.out) | exact HB.out)) hb); clear BK530; clear HB; have BK530 := n0_; have HB := n1_; clear n0_ n1_; (try clear hb); (try clear hb2); (try clear hk); (try clear hi); have hcz19_0 : w18.cell? ⟨gb530, 0, none⟩ = some (.int .i64 a0_0) := (blk_cell BK530.out 0).trans rfl; have hcz19_1 : w18.cell? ⟨gb530, 1, none⟩ = some (.int .i64 a0_1) := (blk_cell BK530.out 1).trans rfl; have hcz19_2 : w18.cell? ⟨gb530, 2, none⟩ = some (.slice A0_2 l0_2.length c0_2) := (blk_cell BK530.out 2).trans rfl; have hfz19_0 := blk_frozen BK530.out 0; have hfz19_1 := blk_frozen BK530.out 1; have hfz19_2 := blk_frozen BK530.out 2))
          go_meet
          case rel => exact ⟨_, (decide (a1 > 1125899906842624)), (by first | rfl | (simp; done) | (simp [*]; done)), H', ⟨by first | omega | exact Nat.le_refl _⟩, ⟨by (with_reducible repeat (first | refine blk_drewN ?_ _ | refine blk_drew ?_ | refine blk_alloc ?_ _)); exact BK530.out⟩, ⟨by repeat (first | (with_reducible first | exact HB.out | apply below_alloc | apply pw_below_drewN | apply below_drew1 | refine below_set ?_ GE530.out) | exact HB.out)⟩⟩
  case rest =>
    clear HC3
    try clear c1
    try clear c2
    try clear p2
    try clear c6
    try clear c9
    try clear c9b0
    try clear c9b1
    try clear c11
    try clear c13
    try clear c13b0
    try clear hcz10_0
    try clear hcz10_1
    try clear hcz10_2
    try clear hcz12_0
    try clear hcz12_1
    try clear hcz12_2
    try clear hcz14_0
    try clear hcz14_1
    try clear hcz14_2
    try clear hcz16_0
    try clear hcz16_1
    try clear hcz16_2
    try clear hcz17_0
    try clear hcz17_1
    try clear hcz17_2
    try clear hcz19_0
    try clear hcz19_1
    try clear hcz19_2
    try clear hcz7_0
    try clear hcz7_1
    try clear hcz7_2
    try clear hfz10_0
    try clear hfz10_1
    try clear hfz10_2
    try clear hfz12_0
    try clear hfz12_1
    try clear hfz12_2
    try clear hfz14_0
    try clear hfz14_1
    try clear hfz14_2
    try clear hfz16_0
    try clear hfz16_1
    try clear hfz16_2
    try clear hfz17_0
    try clear hfz17_1
    try clear hfz17_2
    try clear hfz19_0
    try clear hfz19_1
    try clear hfz19_2
    try clear hfz7_0
    try clear hfz7_1
    try clear hfz7_2
    obtain ⟨kq, x26_2, rfl, HA, HJ2, BK530, HB⟩ := hcut
    cases kq with
    | zero => exact absurd HA.out (by simp [isobathlaw05_ClockContradicts.j0])
    | succ kj2 =>
      have H := HA.out
      clear HA
      simp only [isobathlaw05_ClockContradicts.j0] at H
      by_cases c20 : x26_2 = true
      · subst c20
        have H1 : ((isobathlaw05_Works.f).bind fun t532 => (some t532)) = some r := by rw [if_pos rfl] at H; exact H
        clear H
        have H := H1
        clear H1
        replace H := Option.bind_eq_some_iff.mp H
        obtain ⟨t532, A210, H⟩ := H
        replace H : (some t532) = some r := H
        have A21 := Aside0.mk A210
        clear A210
        obtain rfl := Option.some.inj H
        go_wp2_with (first | ((with_reducible refine gate_callee (f := 16) rfl ?_); refine goesL_ (some 27) rfl rfl Try.func16 (by kernel_rfl) rfl #[] rfl (by (try simp only [List.map_toArray, List.map_cons, List.map_nil]); first | done | rfl | (simp only [List.length_drop, List.length_take]; rfl)) ?_; (with_reducible refine (isobathlaw05_Works.calls  t532 _ A21.out).mono ?_); rintro e w22 ⟨rfl, hb⟩; refine ⟨_, rfl, ?_⟩; have n0_ := Aside0.mk (blk_below (g := gb530) (o := .cells #[.int .i64 a0_0, .int .i64 a0_1, .slice A0_2 l0_2.length c0_2] 30 (0, 0)) (by (with_reducible repeat (first | refine blk_drewN ?_ _ | refine blk_drew ?_ | refine blk_alloc ?_ _)); exact BK530.out) hb); have n1_ := Aside0.mk (below_step (by repeat (first | (with_reducible first | exact HB.out | apply below_alloc | apply pw_below_drewN | apply below_drew1 | refine below_set ?_ GE530.out) | exact HB.out)) hb); clear BK530; clear HB; have BK530 := n0_; have HB := n1_; clear n0_ n1_; (try clear hb); (try clear hb2); (try clear hk); (try clear hi)))
        go_ret
        exact ⟨by first | rfl | (simp [errW_none, errW_some] <;> rfl) | (simp [*, errW_none, errW_some] <;> rfl), by repeat (first | (with_reducible first | exact HB.out | apply below_alloc | apply pw_below_drewN | apply below_drew1 | refine below_set ?_ GE530.out) | exact HB.out)⟩
      · replace c20 := Bool.eq_false_iff.mpr c20
        subst c20
        have H1 : ((clock_Contradiction.f a0_0 a0_1 l0_2).bind fun bt533 => ((clock_At.f a0_0 a0_1 l0_2 a1).bind fun bt536 => (if bt533.2.2 = 0 then (isobathlaw05_ClockContradicts.j1 kj2 bt533.1 bt533.2.1 bt533.2.2 bt536.2.2 false a0_0 a0_1 l0_2) else (isobathlaw05_ClockContradicts.j1 kj2 bt533.1 bt533.2.1 bt533.2.2 bt536.2.2 (bt533.2.2 != 5) a0_0 a0_1 l0_2)))) = some r := by rw [if_neg (show ¬ (false = true) by decide)] at H; exact H
        clear H
        have H := H1
        clear H1
        replace H := Option.bind_eq_some_iff.mp H
        obtain ⟨⟨t533, t534, t535⟩, A230, H⟩ := H
        replace H : ((clock_At.f a0_0 a0_1 l0_2 a1).bind fun bt536 => (if t535 = 0 then (isobathlaw05_ClockContradicts.j1 kj2 t533 t534 t535 bt536.2.2 false a0_0 a0_1 l0_2) else (isobathlaw05_ClockContradicts.j1 kj2 t533 t534 t535 bt536.2.2 (t535 != 5) a0_0 a0_1 l0_2))) = some r := H
        have A23 := Aside0.mk A230
        clear A230
        replace H := Option.bind_eq_some_iff.mp H
        obtain ⟨⟨t536, t537, t538⟩, A240, H⟩ := H
        replace H : (if t535 = 0 then (isobathlaw05_ClockContradicts.j1 kj2 t533 t534 t535 t538 false a0_0 a0_1 l0_2) else (isobathlaw05_ClockContradicts.j1 kj2 t533 t534 t535 t538 (t535 != 5) a0_0 a0_1 l0_2)) = some r := H
        have A24 := Aside0.mk A240
        clear A240
        have HC25 := Aside0.mk H
        clear H
        have hcz26_0 : wc.cell? ⟨gb530, 0, none⟩ = some (.int .i64 a0_0) := (blk_cell BK530.out 0).trans rfl
        have hcz26_1 : wc.cell? ⟨gb530, 1, none⟩ = some (.int .i64 a0_1) := (blk_cell BK530.out 1).trans rfl
        have hcz26_2 : wc.cell? ⟨gb530, 2, none⟩ = some (.slice A0_2 l0_2.length c0_2) := (blk_cell BK530.out 2).trans rfl
        have hfz26_0 := blk_frozen BK530.out 0
        have hfz26_1 := blk_frozen BK530.out 1
        have hfz26_2 := blk_frozen BK530.out 2
        go_upto_region 5 with (first | ((with_reducible refine gate_callee (f := 26) rfl ?_); refine goesL_ (some 30) rfl rfl Try.func26 (by kernel_rfl) rfl #[.agg #[.int .i64 a0_0, .int .i64 a0_1, .slice A0_2 l0_2.length c0_2]] rfl (by (try simp only [List.map_toArray, List.map_cons, List.map_nil]); first | done | rfl | (simp only [List.length_drop, List.length_take]; rfl)) ?_; (with_reducible refine (clock_Contradiction.calls a0_0 a0_1 _ _ l0_2 t533 t534 t535 _ ?side1 ?side2 A23.out).mono ?_); (case side1 => repeat (first | exact (Kd.C_below HR0_2.out HB.out) | (with_reducible refine Kd.C_alloc ?_ _) | (with_reducible refine Kd.C_drewN ?_ _) | (with_reducible refine Kd.C_drew ?_))); (case side2 => exact HC0_2.out); rintro e w27 ⟨rfl, hb⟩; refine ⟨_, rfl, ?_⟩; have n0_ := Aside0.mk (blk_below (g := gb530) (o := .cells #[.int .i64 a0_0, .int .i64 a0_1, .slice A0_2 l0_2.length c0_2] 30 (0, 0)) (by (with_reducible repeat (first | refine blk_drewN ?_ _ | refine blk_drew ?_ | refine blk_alloc ?_ _)); exact BK530.out) hb); have n1_ := Aside0.mk (below_step (by repeat (first | (with_reducible first | exact HB.out | apply below_alloc | apply pw_below_drewN | apply below_drew1 | refine below_set ?_ GE530.out) | exact HB.out)) hb); clear BK530; clear HB; have BK530 := n0_; have HB := n1_; clear n0_ n1_; (try clear hb); (try clear hb2); (try clear hk); (try clear hi); have hcz28_0 : w27.cell? ⟨gb530, 0, none⟩ = some (.int .i64 a0_0) := (blk_cell BK530.out 0).trans rfl; have hcz28_1 : w27.cell? ⟨gb530, 1, none⟩ = some (.int .i64 a0_1) := (blk_cell BK530.out 1).trans rfl; have hcz28_2 : w27.cell? ⟨gb530, 2, none⟩ = some (.slice A0_2 l0_2.length c0_2) := (blk_cell BK530.out 2).trans rfl; have hfz28_0 := blk_frozen BK530.out 0; have hfz28_1 := blk_frozen BK530.out 1; have hfz28_2 := blk_frozen BK530.out 2) | ((with_reducible refine gate_callee (f := 22) rfl ?_); refine goesL_ (some 37) rfl rfl Try.func22 (by kernel_rfl) rfl #[.agg #[.int .i64 a0_0, .int .i64 a0_1, .slice A0_2 l0_2.length c0_2], .int .i64 a1] rfl (by (try simp only [List.map_toArray, List.map_cons, List.map_nil]); first | done | rfl | (simp only [List.length_drop, List.length_take]; rfl)) ?_; (with_reducible refine (clock_At.calls a0_0 a0_1 _ _ l0_2 a1 t536 t537 t538 _ ?side1 ?side2 A24.out).mono ?_); (case side1 => repeat (first | exact (Kd.C_below HR0_2.out HB.out) | (with_reducible refine Kd.C_alloc ?_ _) | (with_reducible refine Kd.C_drewN ?_ _) | (with_reducible refine Kd.C_drew ?_))); (case side2 => exact HC0_2.out); rintro e w29 ⟨rfl, hb⟩; refine ⟨_, rfl, ?_⟩; have n0_ := Aside0.mk (blk_below (g := gb530) (o := .cells #[.int .i64 a0_0, .int .i64 a0_1, .slice A0_2 l0_2.length c0_2] 30 (0, 0)) (by (with_reducible repeat (first | refine blk_drewN ?_ _ | refine blk_drew ?_ | refine blk_alloc ?_ _)); exact BK530.out) hb); have n1_ := Aside0.mk (below_step (by repeat (first | (with_reducible first | exact HB.out | apply below_alloc | apply pw_below_drewN | apply below_drew1 | refine below_set ?_ GE530.out) | exact HB.out)) hb); clear BK530; clear HB; have BK530 := n0_; have HB := n1_; clear n0_ n1_; (try clear hb); (try clear hb2); (try clear hk); (try clear hi)) | ((with_reducible refine gate_dst (N := 8) rfl ?_); (try (refine gate_guard (by rfl) ?_; dsimp only)); refine box_event ?hg (N := 8) ?hd (cs := #[.int .i64 0, .int .i64 0]) (t := 35) ?hr ?_; (case hd => rfl); (case hg => rfl); (case hr => first | (go_simp; done) | (go_simp; rfl)); intro gb539 hg w30 hbox hb; have n0_ := Aside0.mk (blk_below (g := gb530) (o := .cells #[.int .i64 a0_0, .int .i64 a0_1, .slice A0_2 l0_2.length c0_2] 30 (0, 0)) (by (with_reducible repeat (first | refine blk_drewN ?_ _ | refine blk_drew ?_ | refine blk_alloc ?_ _)); exact BK530.out) hb); have n1_ := Aside0.mk (below_step (by repeat (first | (with_reducible first | exact HB.out | apply below_alloc | apply pw_below_drewN | apply below_drew1 | refine below_set ?_ GE530.out) | exact HB.out)) hb); have n2_ := Aside0.mk (hbox); have n3_ := Aside0.mk ((by rw [hg]; exact (below_size (by repeat (first | (with_reducible first | exact HB.out | apply below_alloc | apply pw_below_drewN | apply below_drew1 | refine below_set ?_ GE530.out) | exact HB.out))) : w.heap.size ≤ gb539)); have n4_ := Aside0.mk ((by rw [hg]; exact (below_size (by repeat (first | (with_reducible first | exact HB.out | apply below_alloc | apply pw_below_drewN | apply below_drew1 | refine below_set ?_ GE530.out) | exact HB.out))) : w.heap.size ≤ gb539)); have n5_ := Aside0.mk ((by rw [hg]; exact Nat.ne_of_lt (blk_lt (g := gb530) (o := .cells #[.int .i64 a0_0, .int .i64 a0_1, .slice A0_2 l0_2.length c0_2] 30 (0, 0)) (by (with_reducible repeat (first | refine blk_drewN ?_ _ | refine blk_drew ?_ | refine blk_alloc ?_ _)); exact BK530.out)) : gb530 ≠ gb539)); have n6_ := Aside0.mk ((by rw [hg]; exact Nat.ne_of_gt (blk_lt (g := gb530) (o := .cells #[.int .i64 a0_0, .int .i64 a0_1, .slice A0_2 l0_2.length c0_2] 30 (0, 0)) (by (with_reducible repeat (first | refine blk_drewN ?_ _ | refine blk_drew ?_ | refine blk_alloc ?_ _)); exact BK530.out)) : gb539 ≠ gb530)); clear BK530; clear HB; have BK530 := n0_; have HB := n1_; have BK539 := n2_; have GW539 := n3_; have GE539 := n4_; have NB530_539 := n5_; have NB539_530 := n6_; clear n0_ n1_ n2_ n3_ n4_ n5_ n6_; clear hb hbox hg; have hnb31 := NB539_530.out; have hnc31 := NB530_539.out; have hcz32_0 : w30.cell? ⟨gb539, 0, none⟩ = some (.int .i64 0) := (blk_cell BK539.out 0).trans rfl; have hcz32_1 : w30.cell? ⟨gb539, 1, none⟩ = some (.int .i64 0) := (blk_cell BK539.out 1).trans rfl; have hfz32_0 := blk_frozen BK539.out 0; have hfz32_1 := blk_frozen BK539.out 1))
        (try simp only [Act.put, List.setIfInBounds_toArray, List.set_cons_zero, List.set_cons_succ])
        go_cut [45] (fun v45 wc => ∃ (kq : Nat) (x45_24 : Bool), v45 = .bool x45_24 ∧ Aside0 (isobathlaw05_ClockContradicts.j1 kq t533 t534 t535 t538 x45_24 a0_0 a0_1 l0_2 = some r) ∧ Aside0 (kq ≤ kj2) ∧ Aside0 (wc.heap[gb530]? = some (.cells #[.int .i64 a0_0, .int .i64 a0_1, (.slice A0_2 l0_2.length c0_2)] 30 (0, 0))) ∧ Aside0 (wc.heap[gb539]? = some (.cells #[.int .i64 t536, .int .i64 t537] 35 (0, 0))) ∧ Aside0 (Below w.heap.size w wc))
        case first =>
          have H := HC25.out
          clear HC25
          by_cases c33 : t535 = 0
          · rw [if_pos c33] at H
            have c33b0 : (t535 == 0) = true := beq_iff_eq.mpr c33
            have c33b1 : (t535 != 0) = false := bne_eq_false_iff_eq.mpr c33
            clear c33
            (first | rw [c33b0] | (simp only [i64_w, i32_w]; rw [c33b0]) | skip)
            have H' := Aside0.mk H
            clear H
            go_wp2
            go_meet
            case rel => exact ⟨_, (false), (by first | rfl | (simp; done) | (simp [*]; done)), H', ⟨by have := HJ2.out; first | omega | exact Nat.le_refl _⟩, ⟨by (with_reducible repeat (first | refine blk_drewN ?_ _ | refine blk_drew ?_ | refine blk_alloc ?_ _)); refine blk_far ?_ NB530_539.out _; (with_reducible repeat (first | refine blk_drewN ?_ _ | refine blk_drew ?_ | refine blk_alloc ?_ _)); refine blk_far ?_ NB530_539.out _; (with_reducible repeat (first | refine blk_drewN ?_ _ | refine blk_drew ?_ | refine blk_alloc ?_ _)); exact BK530.out⟩, ⟨by (with_reducible repeat (first | refine blk_drewN ?_ _ | refine blk_drew ?_ | refine blk_alloc ?_ _)); refine blk_put (cs := #[.int .i64 t536, .int .i64 0]) ?_ 1 _ rfl; (with_reducible repeat (first | refine blk_drewN ?_ _ | refine blk_drew ?_ | refine blk_alloc ?_ _)); refine blk_put (cs := #[.int .i64 0, .int .i64 0]) ?_ 0 _ rfl; (with_reducible repeat (first | refine blk_drewN ?_ _ | refine blk_drew ?_ | refine blk_alloc ?_ _)); exact BK539.out⟩, ⟨by repeat (first | (with_reducible first | exact HB.out | apply below_alloc | apply pw_below_drewN | apply below_drew1 | refine below_set ?_ GE530.out | refine below_set ?_ GE539.out) | exact HB.out)⟩⟩
          · rw [if_neg c33] at H
            have c33b0 : (t535 == 0) = false := beq_eq_false_iff_ne.mpr c33
            have c33b1 : (t535 != 0) = true := bne_iff_ne.mpr c33
            (first | rw [c33b0] | (simp only [i64_w, i32_w]; rw [c33b0]) | skip)
            have H' := Aside0.mk H
            clear H
            go_wp2
            go_meet
            case rel => exact ⟨_, ((t535 != 5)), (by first | rfl | (simp; done) | (simp [*]; done)), H', ⟨by have := HJ2.out; first | omega | exact Nat.le_refl _⟩, ⟨by (with_reducible repeat (first | refine blk_drewN ?_ _ | refine blk_drew ?_ | refine blk_alloc ?_ _)); refine blk_far ?_ NB530_539.out _; (with_reducible repeat (first | refine blk_drewN ?_ _ | refine blk_drew ?_ | refine blk_alloc ?_ _)); refine blk_far ?_ NB530_539.out _; (with_reducible repeat (first | refine blk_drewN ?_ _ | refine blk_drew ?_ | refine blk_alloc ?_ _)); exact BK530.out⟩, ⟨by (with_reducible repeat (first | refine blk_drewN ?_ _ | refine blk_drew ?_ | refine blk_alloc ?_ _)); refine blk_put (cs := #[.int .i64 t536, .int .i64 0]) ?_ 1 _ rfl; (with_reducible repeat (first | refine blk_drewN ?_ _ | refine blk_drew ?_ | refine blk_alloc ?_ _)); refine blk_put (cs := #[.int .i64 0, .int .i64 0]) ?_ 0 _ rfl; (with_reducible repeat (first | refine blk_drewN ?_ _ | refine blk_drew ?_ | refine blk_alloc ?_ _)); exact BK539.out⟩, ⟨by repeat (first | (with_reducible first | exact HB.out | apply below_alloc | apply pw_below_drewN | apply below_drew1 | refine below_set ?_ GE530.out | refine below_set ?_ GE539.out) | exact HB.out)⟩⟩
        case rest =>
          clear HC25
          try clear c1
          try clear c2
          try clear p2
          try clear c3
          try clear c6
          try clear c9
          try clear c9b0
          try clear c9b1
          try clear c11
          try clear c13
          try clear c13b0
          try clear c16
          try clear c20
          try clear c21
          try clear c22
          try clear c26
          try clear c31
          try clear c33
          try clear c33b0
          try clear c33b1
          try clear hcz10_0
          try clear hcz10_1
          try clear hcz10_2
          try clear hcz12_0
          try clear hcz12_1
          try clear hcz12_2
          try clear hcz14_0
          try clear hcz14_1
          try clear hcz14_2
          try clear hcz16_0
          try clear hcz16_1
          try clear hcz16_2
          try clear hcz17_0
          try clear hcz17_1
          try clear hcz17_2
          try clear hcz19_0
          try clear hcz19_1
          try clear hcz19_2
          try clear hcz26_0
          try clear hcz26_1
          try clear hcz26_2
          try clear hcz28_0
          try clear hcz28_1
          try clear hcz28_2
          try clear hcz32_0
          try clear hcz32_1
          try clear hcz7_0
          try clear hcz7_1
          try clear hcz7_2
          try clear hfz10_0
          try clear hfz10_1
          try clear hfz10_2
          try clear hfz12_0
          try clear hfz12_1
          try clear hfz12_2
          try clear hfz14_0
          try clear hfz14_1
          try clear hfz14_2
          try clear hfz16_0
          try clear hfz16_1
          try clear hfz16_2
          try clear hfz17_0
          try clear hfz17_1
          try clear hfz17_2
          try clear hfz19_0
          try clear hfz19_1
          try clear hfz19_2
          try clear hfz26_0
          try clear hfz26_1
          try clear hfz26_2
          try clear hfz28_0
          try clear hfz28_1
          try clear hfz28_2
          try clear hfz32_0
          try clear hfz32_1
          try clear hfz7_0
          try clear hfz7_1
          try clear hfz7_2
          try clear p2
          obtain ⟨kq, x45_24, rfl, HA, HJ24, BK530, BK539, HB⟩ := hcut
          cases kq with
          | zero => exact absurd HA.out (by simp [isobathlaw05_ClockContradicts.j1])
          | succ kj24 =>
            have H := HA.out
            clear HA
            simp only [isobathlaw05_ClockContradicts.j1] at H
            by_cases c34 : x45_24 = true
            · subst c34
              have H1 : (if t538 = t535 then ((isobathlaw05_Works.f).bind fun t540 => (some t540)) else (some false)) = some r := by rw [if_pos rfl] at H; exact H
              clear H
              have H := H1
              clear H1
              by_cases c35 : t538 = t535
              · rw [if_pos c35] at H
                have c35b0 : (t538 == t535) = true := beq_iff_eq.mpr c35
                have c35b1 : (t538 != t535) = false := bne_eq_false_iff_eq.mpr c35
                clear c35
                replace H := Option.bind_eq_some_iff.mp H
                obtain ⟨t540, A360, H⟩ := H
                replace H : (some t540) = some r := H
                have A36 := Aside0.mk A360
                clear A360
                obtain rfl := Option.some.inj H
                go_wp2_with (first | (go_at_call 16; (with_reducible refine (isobathlaw05_Works.calls  t540 _ A36.out).mono ?_); rintro e w37 ⟨rfl, hb⟩; have n0_ := Aside0.mk (blk_below (g := gb530) (o := .cells #[.int .i64 a0_0, .int .i64 a0_1, .slice A0_2 l0_2.length c0_2] 30 (0, 0)) (by (with_reducible repeat (first | refine blk_drewN ?_ _ | refine blk_drew ?_ | refine blk_alloc ?_ _)); exact BK530.out) hb); have n1_ := Aside0.mk (blk_below (g := gb539) (o := .cells #[.int .i64 t536, .int .i64 t537] 35 (0, 0)) (by (with_reducible repeat (first | refine blk_drewN ?_ _ | refine blk_drew ?_ | refine blk_alloc ?_ _)); exact BK539.out) hb); have n2_ := Aside0.mk (below_step (by repeat (first | (with_reducible first | exact HB.out | apply below_alloc | apply pw_below_drewN | apply below_drew1 | refine below_set ?_ GE530.out | refine below_set ?_ GE539.out) | exact HB.out)) hb); clear BK530; clear BK539; clear HB; have BK530 := n0_; have BK539 := n1_; have HB := n2_; clear n0_ n1_ n2_; (try clear hb); (try clear hb2); (try clear hk); (try clear hi)))
                go_ret
                exact ⟨by first | rfl | (simp [errW_none, errW_some] <;> rfl) | (simp [*, errW_none, errW_some] <;> rfl), by repeat (first | (with_reducible first | exact HB.out | apply below_alloc | apply pw_below_drewN | apply below_drew1 | refine below_set ?_ GE530.out | refine below_set ?_ GE539.out) | exact HB.out)⟩
              · rw [if_neg c35] at H
                have c35b0 : (t538 == t535) = false := beq_eq_false_iff_ne.mpr c35
                have c35b1 : (t538 != t535) = true := bne_iff_ne.mpr c35
                have hh_ := Option.some.inj H
                rw [hr_.out] at hh_
                cases hh_
            · replace c34 := Bool.eq_false_iff.mpr c34
              subst c34
              have H1 : (if ((t535 == 0) != (t538 == 5)) = true then (some false) else (if t535 = 0 then (if t533 < 0 then (isobathlaw05_ClockContradicts.j2 kj24 t534 true a0_0 a0_1 l0_2) else (if t533 ≥ t534 then (isobathlaw05_ClockContradicts.j2 kj24 t534 true a0_0 a0_1 l0_2) else (if t534 ≥ (l0_2.length : Int) then (isobathlaw05_ClockContradicts.j2 kj24 t534 true a0_0 a0_1 l0_2) else ((clock_CheckContradiction.f a0_0 a0_1 l0_2 t533 t534).bind fun t542 => (if t542 = 0 then ((clock_CheckContradiction.f a0_0 a0_1 l0_2 t534 t533).bind fun t543 => (if t543 = 0 then ((clock_CheckContradiction.f a0_0 a0_1 l0_2 t533 t533).bind fun t544 => (isobathlaw05_ClockContradicts.j2 kj24 t534 (t544 != 16) a0_0 a0_1 l0_2)) else (isobathlaw05_ClockContradicts.j2 kj24 t534 true a0_0 a0_1 l0_2))) else (isobathlaw05_ClockContradicts.j2 kj24 t534 true a0_0 a0_1 l0_2)))))) else (if t533 = 0 then (if t534 = 0 then ((isobathlaw05_Works.f).bind fun t541 => (some t541)) else (some false)) else (some false)))) = some r := by rw [if_neg (show ¬ (false = true) by decide)] at H; exact H
              clear H
              have H := H1
              clear H1
              by_cases c38 : ((t535 == 0) != (t538 == 5)) = true
              · rw [if_pos c38] at H
                have c38b0 : ((t535 == 0) != (t538 == 5)) = true := c38
                (try (have c38b1 : decide ((t535 == 0) = (t538 == 5)) = false := by simpa using c38))
                (try (have c38b2 : ((t535 == 0) == (t538 == 5)) = false := by simpa using c38))
                (try (have c38b3 : ¬ ((t535 == 0) = (t538 == 5)) := by simpa using c38))
                clear c38
                have hh_ := Option.some.inj H
                rw [hr_.out] at hh_
                cases hh_
              · rw [if_neg c38] at H
                have c38b0 : ((t535 == 0) != (t538 == 5)) = false := by simpa using c38
                (try (have c38b1 : decide ((t535 == 0) = (t538 == 5)) = true := by simpa using c38))
                (try (have c38b2 : ((t535 == 0) == (t538 == 5)) = true := by simpa using c38))
                clear c38
                by_cases c39 : t535 = 0
                · rw [if_pos c39] at H
                  have c39b0 : (t535 == 0) = true := beq_iff_eq.mpr c39
                  (try (have c39b0zc38b0 : (t538 == 5) = true := by simpa [c39b0] using c38b0))
                  have c39b1 : (t535 != 0) = false := bne_eq_false_iff_eq.mpr c39
                  clear c39
                  have HC40 := Aside0.mk H
                  clear H
                  go_upto_region 11 with (fail)
                  go_cut [102] (fun v102 wc => ∃ (kq : Nat) (x102_39 : Bool), v102 = .bool x102_39 ∧ Aside0 (isobathlaw05_ClockContradicts.j2 kq t534 x102_39 a0_0 a0_1 l0_2 = some r) ∧ Aside0 (kq ≤ kj24) ∧ Aside0 (wc.heap[gb530]? = some (.cells #[.int .i64 a0_0, .int .i64 a0_1, (.slice A0_2 l0_2.length c0_2)] 30 (0, 0))) ∧ Aside0 (wc.heap[gb539]? = some (.cells #[.int .i64 t536, .int .i64 t537] 35 (0, 0))) ∧ Aside0 (Below w.heap.size w wc))
                  case first =>
                    have H := HC40.out
                    clear HC40
                    by_cases c41 : t533 < 0
                    · rw [if_pos c41] at H
                      have c41b0 : decide (t533 < 0) = true := decide_eq_true c41
                      clear c41
                      (first | rw [c41b0] | (simp only [i64_w, i32_w]; rw [c41b0]) | skip)
                      have H' := Aside0.mk H
                      clear H
                      go_wp2
                      go_meet
                      case rel => exact ⟨_, (true), (by first | rfl | (simp; done) | (simp [*]; done)), H', ⟨by have := HJ2.out; have := HJ24.out; first | omega | exact Nat.le_refl _⟩, ⟨by (with_reducible repeat (first | refine blk_drewN ?_ _ | refine blk_drew ?_ | refine blk_alloc ?_ _)); exact BK530.out⟩, ⟨by (with_reducible repeat (first | refine blk_drewN ?_ _ | refine blk_drew ?_ | refine blk_alloc ?_ _)); exact BK539.out⟩, ⟨by repeat (first | (with_reducible first | exact HB.out | apply below_alloc | apply pw_below_drewN | apply below_drew1 | refine below_set ?_ GE530.out | refine below_set ?_ GE539.out) | exact HB.out)⟩⟩
                    · rw [if_neg c41] at H
                      have c41b0 : decide (t533 < 0) = false := decide_eq_false c41
                      clear c41
                      (first | rw [c41b0] | (simp only [i64_w, i32_w]; rw [c41b0]) | skip)
                      by_cases c42 : t533 ≥ t534
                      · rw [if_pos c42] at H
                        have c42b0 : decide (t534 ≤ t533) = true := decide_eq_true c42
                        clear c42
                        have H' := Aside0.mk H
                        clear H
                        go_wp2
                        go_meet
                        case rel => exact ⟨_, (true), (by first | rfl | (simp; done) | (simp [*]; done)), H', ⟨by have := HJ2.out; have := HJ24.out; first | omega | exact Nat.le_refl _⟩, ⟨by (with_reducible repeat (first | refine blk_drewN ?_ _ | refine blk_drew ?_ | refine blk_alloc ?_ _)); exact BK530.out⟩, ⟨by (with_reducible repeat (first | refine blk_drewN ?_ _ | refine blk_drew ?_ | refine blk_alloc ?_ _)); exact BK539.out⟩, ⟨by repeat (first | (with_reducible first | exact HB.out | apply below_alloc | apply pw_below_drewN | apply below_drew1 | refine below_set ?_ GE530.out | refine below_set ?_ GE539.out) | exact HB.out)⟩⟩
                      · rw [if_neg c42] at H
                        have c42b0 : decide (t534 ≤ t533) = false := decide_eq_false c42
                        clear c42
                        by_cases c43 : t534 ≥ (l0_2.length : Int)
                        · rw [if_pos c43] at H
                          have c43b0 : decide ((l0_2.length : Int) ≤ t534) = true := decide_eq_true c43
                          clear c43
                          have H' := Aside0.mk H
                          clear H
                          have hnb44 := NB530_539.out
                          have hnc44 := NB539_530.out
                          have hcz45_0 : wc.cell? ⟨gb530, 0, none⟩ = some (.int .i64 a0_0) := (blk_cell BK530.out 0).trans rfl
                          have hcz45_1 : wc.cell? ⟨gb530, 1, none⟩ = some (.int .i64 a0_1) := (blk_cell BK530.out 1).trans rfl
                          have hcz45_2 : wc.cell? ⟨gb530, 2, none⟩ = some (.slice A0_2 l0_2.length c0_2) := (blk_cell BK530.out 2).trans rfl
                          have hfz45_0 := blk_frozen BK530.out 0
                          have hfz45_1 := blk_frozen BK530.out 1
                          have hfz45_2 := blk_frozen BK530.out 2
                          go_wp2
                          go_meet
                          case rel => exact ⟨_, (true), (by first | rfl | (simp; done) | (simp [*]; done)), H', ⟨by have := HJ2.out; have := HJ24.out; first | omega | exact Nat.le_refl _⟩, ⟨by (with_reducible repeat (first | refine blk_drewN ?_ _ | refine blk_drew ?_ | refine blk_alloc ?_ _)); exact BK530.out⟩, ⟨by (with_reducible repeat (first | refine blk_drewN ?_ _ | refine blk_drew ?_ | refine blk_alloc ?_ _)); exact BK539.out⟩, ⟨by repeat (first | (with_reducible first | exact HB.out | apply below_alloc | apply pw_below_drewN | apply below_drew1 | refine below_set ?_ GE530.out | refine below_set ?_ GE539.out) | exact HB.out)⟩⟩
                        · rw [if_neg c43] at H
                          have c43b0 : decide ((l0_2.length : Int) ≤ t534) = false := decide_eq_false c43
                          clear c43
                          replace H := Option.bind_eq_some_iff.mp H
                          obtain ⟨t542, A460, H⟩ := H
                          replace H : (if t542 = 0 then ((clock_CheckContradiction.f a0_0 a0_1 l0_2 t534 t533).bind fun t543 => (if t543 = 0 then ((clock_CheckContradiction.f a0_0 a0_1 l0_2 t533 t533).bind fun t544 => (isobathlaw05_ClockContradicts.j2 kj24 t534 (t544 != 16) a0_0 a0_1 l0_2)) else (isobathlaw05_ClockContradicts.j2 kj24 t534 true a0_0 a0_1 l0_2))) else (isobathlaw05_ClockContradicts.j2 kj24 t534 true a0_0 a0_1 l0_2)) = some r := H
                          have A46 := Aside0.mk A460
                          clear A460
                          by_cases c47 : t542 = 0
                          · rw [if_pos c47] at H
                            have c47b0 : (t542 == 0) = true := beq_iff_eq.mpr c47
                            have c47b1 : (t542 != 0) = false := bne_eq_false_iff_eq.mpr c47
                            clear c47
                            replace H := Option.bind_eq_some_iff.mp H
                            obtain ⟨t543, A480, H⟩ := H
                            replace H : (if t543 = 0 then ((clock_CheckContradiction.f a0_0 a0_1 l0_2 t533 t533).bind fun t544 => (isobathlaw05_ClockContradicts.j2 kj24 t534 (t544 != 16) a0_0 a0_1 l0_2)) else (isobathlaw05_ClockContradicts.j2 kj24 t534 true a0_0 a0_1 l0_2)) = some r := H
                            have A48 := Aside0.mk A480
                            clear A480
                            by_cases c49 : t543 = 0
                            · rw [if_pos c49] at H
                              have c49b0 : (t543 == 0) = true := beq_iff_eq.mpr c49
                              have c49b1 : (t543 != 0) = false := bne_eq_false_iff_eq.mpr c49
                              clear c49
                              replace H := Option.bind_eq_some_iff.mp H
                              obtain ⟨t544, A500, H⟩ := H
                              replace H : (isobathlaw05_ClockContradicts.j2 kj24 t534 (t544 != 16) a0_0 a0_1 l0_2) = some r := H
                              have A50 := Aside0.mk A500
                              clear A500
                              have H' := Aside0.mk H
                              clear H
                              have hnb51 := NB530_539.out
                              have hnc51 := NB539_530.out
                              have hcz52_0 : wc.cell? ⟨gb530, 0, none⟩ = some (.int .i64 a0_0) := (blk_cell BK530.out 0).trans rfl
                              have hcz52_1 : wc.cell? ⟨gb530, 1, none⟩ = some (.int .i64 a0_1) := (blk_cell BK530.out 1).trans rfl
                              have hcz52_2 : wc.cell? ⟨gb530, 2, none⟩ = some (.slice A0_2 l0_2.length c0_2) := (blk_cell BK530.out 2).trans rfl
                              have hfz52_0 := blk_frozen BK530.out 0
                              have hfz52_1 := blk_frozen BK530.out 1
                              have hfz52_2 := blk_frozen BK530.out 2
                              go_wp2_with (first | (go_at_call 43; (with_reducible refine (clock_CheckContradiction.calls a0_0 a0_1 _ _ l0_2 t533 t534 t542 _ ?side1 ?side2 A46.out).mono ?_); (case side1 => repeat (first | exact (Kd.C_below HR0_2.out HB.out) | (with_reducible refine Kd.C_alloc ?_ _) | (with_reducible refine Kd.C_drewN ?_ _) | (with_reducible refine Kd.C_drew ?_))); (case side2 => exact HC0_2.out); rintro e w53 ⟨rfl, hb⟩; have n0_ := Aside0.mk (blk_below (g := gb530) (o := .cells #[.int .i64 a0_0, .int .i64 a0_1, .slice A0_2 l0_2.length c0_2] 30 (0, 0)) (by (with_reducible repeat (first | refine blk_drewN ?_ _ | refine blk_drew ?_ | refine blk_alloc ?_ _)); exact BK530.out) hb); have n1_ := Aside0.mk (blk_below (g := gb539) (o := .cells #[.int .i64 t536, .int .i64 t537] 35 (0, 0)) (by (with_reducible repeat (first | refine blk_drewN ?_ _ | refine blk_drew ?_ | refine blk_alloc ?_ _)); exact BK539.out) hb); have n2_ := Aside0.mk (below_step (by repeat (first | (with_reducible first | exact HB.out | apply below_alloc | apply pw_below_drewN | apply below_drew1 | refine below_set ?_ GE530.out | refine below_set ?_ GE539.out) | exact HB.out)) hb); clear BK530; clear BK539; clear HB; have BK530 := n0_; have BK539 := n1_; have HB := n2_; clear n0_ n1_ n2_; (try clear hb); (try clear hb2); (try clear hk); (try clear hi); have hcz54_0 : w53.cell? ⟨gb530, 0, none⟩ = some (.int .i64 a0_0) := (blk_cell BK530.out 0).trans rfl; have hcz54_1 : w53.cell? ⟨gb530, 1, none⟩ = some (.int .i64 a0_1) := (blk_cell BK530.out 1).trans rfl; have hcz54_2 : w53.cell? ⟨gb530, 2, none⟩ = some (.slice A0_2 l0_2.length c0_2) := (blk_cell BK530.out 2).trans rfl; have hfz54_0 := blk_frozen BK530.out 0; have hfz54_1 := blk_frozen BK530.out 1; have hfz54_2 := blk_frozen BK530.out 2) | (go_at_call 43; (with_reducible refine (clock_CheckContradiction.calls a0_0 a0_1 _ _ l0_2 t534 t533 t543 _ ?side1 ?side2 A48.out).mono ?_); (case side1 => repeat (first | exact (Kd.C_below HR0_2.out HB.out) | (with_reducible refine Kd.C_alloc ?_ _) | (with_reducible refine Kd.C_drewN ?_ _) | (with_reducible refine Kd.C_drew ?_))); (case side2 => exact HC0_2.out); rintro e w55 ⟨rfl, hb⟩; have n0_ := Aside0.mk (blk_below (g := gb530) (o := .cells #[.int .i64 a0_0, .int .i64 a0_1, .slice A0_2 l0_2.length c0_2] 30 (0, 0)) (by (with_reducible repeat (first | refine blk_drewN ?_ _ | refine blk_drew ?_ | refine blk_alloc ?_ _)); exact BK530.out) hb); have n1_ := Aside0.mk (blk_below (g := gb539) (o := .cells #[.int .i64 t536, .int .i64 t537] 35 (0, 0)) (by (with_reducible repeat (first | refine blk_drewN ?_ _ | refine blk_drew ?_ | refine blk_alloc ?_ _)); exact BK539.out) hb); have n2_ := Aside0.mk (below_step (by repeat (first | (with_reducible first | exact HB.out | apply below_alloc | apply pw_below_drewN | apply below_drew1 | refine below_set ?_ GE530.out | refine below_set ?_ GE539.out) | exact HB.out)) hb); clear BK530; clear BK539; clear HB; have BK530 := n0_; have BK539 := n1_; have HB := n2_; clear n0_ n1_ n2_; (try clear hb); (try clear hb2); (try clear hk); (try clear hi); have hcz56_0 : w55.cell? ⟨gb530, 0, none⟩ = some (.int .i64 a0_0) := (blk_cell BK530.out 0).trans rfl; have hcz56_1 : w55.cell? ⟨gb530, 1, none⟩ = some (.int .i64 a0_1) := (blk_cell BK530.out 1).trans rfl; have hcz56_2 : w55.cell? ⟨gb530, 2, none⟩ = some (.slice A0_2 l0_2.length c0_2) := (blk_cell BK530.out 2).trans rfl; have hfz56_0 := blk_frozen BK530.out 0; have hfz56_1 := blk_frozen BK530.out 1; have hfz56_2 := blk_frozen BK530.out 2) | (go_at_call 43; (with_reducible refine (clock_CheckContradiction.calls a0_0 a0_1 _ _ l0_2 t533 t533 t544 _ ?side1 ?side2 A50.out).mono ?_); (case side1 => repeat (first | exact (Kd.C_below HR0_2.out HB.out) | (with_reducible refine Kd.C_alloc ?_ _) | (with_reducible refine Kd.C_drewN ?_ _) | (with_reducible refine Kd.C_drew ?_))); (case side2 => exact HC0_2.out); rintro e w57 ⟨rfl, hb⟩; have n0_ := Aside0.mk (blk_below (g := gb530) (o := .cells #[.int .i64 a0_0, .int .i64 a0_1, .slice A0_2 l0_2.length c0_2] 30 (0, 0)) (by (with_reducible repeat (first | refine blk_drewN ?_ _ | refine blk_drew ?_ | refine blk_alloc ?_ _)); exact BK530.out) hb); have n1_ := Aside0.mk (blk_below (g := gb539) (o := .cells #[.int .i64 t536, .int .i64 t537] 35 (0, 0)) (by (with_reducible repeat (first | refine blk_drewN ?_ _ | refine blk_drew ?_ | refine blk_alloc ?_ _)); exact BK539.out) hb); have n2_ := Aside0.mk (below_step (by repeat (first | (with_reducible first | exact HB.out | apply below_alloc | apply pw_below_drewN | apply below_drew1 | refine below_set ?_ GE530.out | refine below_set ?_ GE539.out) | exact HB.out)) hb); clear BK530; clear BK539; clear HB; have BK530 := n0_; have BK539 := n1_; have HB := n2_; clear n0_ n1_ n2_; (try clear hb); (try clear hb2); (try clear hk); (try clear hi)))
                              go_meet
                              case rel => exact ⟨_, ((t544 != 16)), (by first | rfl | (simp; done) | (simp [*]; done)), H', ⟨by have := HJ2.out; have := HJ24.out; first | omega | exact Nat.le_refl _⟩, ⟨by (with_reducible repeat (first | refine blk_drewN ?_ _ | refine blk_drew ?_ | refine blk_alloc ?_ _)); exact BK530.out⟩, ⟨by (with_reducible repeat (first | refine blk_drewN ?_ _ | refine blk_drew ?_ | refine blk_alloc ?_ _)); exact BK539.out⟩, ⟨by repeat (first | (with_reducible first | exact HB.out | apply below_alloc | apply pw_below_drewN | apply below_drew1 | refine below_set ?_ GE530.out | refine below_set ?_ GE539.out) | exact HB.out)⟩⟩
                            · rw [if_neg c49] at H
                              have c49b0 : (t543 == 0) = false := beq_eq_false_iff_ne.mpr c49
                              have c49b1 : (t543 != 0) = true := bne_iff_ne.mpr c49
                              have H' := Aside0.mk H
                              clear H
                              have hnb58 := NB530_539.out
                              have hnc58 := NB539_530.out
                              have hcz59_0 : wc.cell? ⟨gb530, 0, none⟩ = some (.int .i64 a0_0) := (blk_cell BK530.out 0).trans rfl
                              have hcz59_1 : wc.cell? ⟨gb530, 1, none⟩ = some (.int .i64 a0_1) := (blk_cell BK530.out 1).trans rfl
                              have hcz59_2 : wc.cell? ⟨gb530, 2, none⟩ = some (.slice A0_2 l0_2.length c0_2) := (blk_cell BK530.out 2).trans rfl
                              have hfz59_0 := blk_frozen BK530.out 0
                              have hfz59_1 := blk_frozen BK530.out 1
                              have hfz59_2 := blk_frozen BK530.out 2
                              go_wp2_with (first | (go_at_call 43; (with_reducible refine (clock_CheckContradiction.calls a0_0 a0_1 _ _ l0_2 t533 t534 t542 _ ?side1 ?side2 A46.out).mono ?_); (case side1 => repeat (first | exact (Kd.C_below HR0_2.out HB.out) | (with_reducible refine Kd.C_alloc ?_ _) | (with_reducible refine Kd.C_drewN ?_ _) | (with_reducible refine Kd.C_drew ?_))); (case side2 => exact HC0_2.out); rintro e w60 ⟨rfl, hb⟩; have n0_ := Aside0.mk (blk_below (g := gb530) (o := .cells #[.int .i64 a0_0, .int .i64 a0_1, .slice A0_2 l0_2.length c0_2] 30 (0, 0)) (by (with_reducible repeat (first | refine blk_drewN ?_ _ | refine blk_drew ?_ | refine blk_alloc ?_ _)); exact BK530.out) hb); have n1_ := Aside0.mk (blk_below (g := gb539) (o := .cells #[.int .i64 t536, .int .i64 t537] 35 (0, 0)) (by (with_reducible repeat (first | refine blk_drewN ?_ _ | refine blk_drew ?_ | refine blk_alloc ?_ _)); exact BK539.out) hb); have n2_ := Aside0.mk (below_step (by repeat (first | (with_reducible first | exact HB.out | apply below_alloc | apply pw_below_drewN | apply below_drew1 | refine below_set ?_ GE530.out | refine below_set ?_ GE539.out) | exact HB.out)) hb); clear BK530; clear BK539; clear HB; have BK530 := n0_; have BK539 := n1_; have HB := n2_; clear n0_ n1_ n2_; (try clear hb); (try clear hb2); (try clear hk); (try clear hi); have hcz61_0 : w60.cell? ⟨gb530, 0, none⟩ = some (.int .i64 a0_0) := (blk_cell BK530.out 0).trans rfl; have hcz61_1 : w60.cell? ⟨gb530, 1, none⟩ = some (.int .i64 a0_1) := (blk_cell BK530.out 1).trans rfl; have hcz61_2 : w60.cell? ⟨gb530, 2, none⟩ = some (.slice A0_2 l0_2.length c0_2) := (blk_cell BK530.out 2).trans rfl; have hfz61_0 := blk_frozen BK530.out 0; have hfz61_1 := blk_frozen BK530.out 1; have hfz61_2 := blk_frozen BK530.out 2) | (go_at_call 43; (with_reducible refine (clock_CheckContradiction.calls a0_0 a0_1 _ _ l0_2 t534 t533 t543 _ ?side1 ?side2 A48.out).mono ?_); (case side1 => repeat (first | exact (Kd.C_below HR0_2.out HB.out) | (with_reducible refine Kd.C_alloc ?_ _) | (with_reducible refine Kd.C_drewN ?_ _) | (with_reducible refine Kd.C_drew ?_))); (case side2 => exact HC0_2.out); rintro e w62 ⟨rfl, hb⟩; have n0_ := Aside0.mk (blk_below (g := gb530) (o := .cells #[.int .i64 a0_0, .int .i64 a0_1, .slice A0_2 l0_2.length c0_2] 30 (0, 0)) (by (with_reducible repeat (first | refine blk_drewN ?_ _ | refine blk_drew ?_ | refine blk_alloc ?_ _)); exact BK530.out) hb); have n1_ := Aside0.mk (blk_below (g := gb539) (o := .cells #[.int .i64 t536, .int .i64 t537] 35 (0, 0)) (by (with_reducible repeat (first | refine blk_drewN ?_ _ | refine blk_drew ?_ | refine blk_alloc ?_ _)); exact BK539.out) hb); have n2_ := Aside0.mk (below_step (by repeat (first | (with_reducible first | exact HB.out | apply below_alloc | apply pw_below_drewN | apply below_drew1 | refine below_set ?_ GE530.out | refine below_set ?_ GE539.out) | exact HB.out)) hb); clear BK530; clear BK539; clear HB; have BK530 := n0_; have BK539 := n1_; have HB := n2_; clear n0_ n1_ n2_; (try clear hb); (try clear hb2); (try clear hk); (try clear hi)))
                              go_meet
                              case rel => exact ⟨_, (true), (by first | rfl | (simp; done) | (simp [*]; done)), H', ⟨by have := HJ2.out; have := HJ24.out; first | omega | exact Nat.le_refl _⟩, ⟨by (with_reducible repeat (first | refine blk_drewN ?_ _ | refine blk_drew ?_ | refine blk_alloc ?_ _)); exact BK530.out⟩, ⟨by (with_reducible repeat (first | refine blk_drewN ?_ _ | refine blk_drew ?_ | refine blk_alloc ?_ _)); exact BK539.out⟩, ⟨by repeat (first | (with_reducible first | exact HB.out | apply below_alloc | apply pw_below_drewN | apply below_drew1 | refine below_set ?_ GE530.out | refine below_set ?_ GE539.out) | exact HB.out)⟩⟩
                          · rw [if_neg c47] at H
                            have c47b0 : (t542 == 0) = false := beq_eq_false_iff_ne.mpr c47
                            have c47b1 : (t542 != 0) = true := bne_iff_ne.mpr c47
                            have H' := Aside0.mk H
                            clear H
                            have hnb63 := NB530_539.out
                            have hnc63 := NB539_530.out
                            have hcz64_0 : wc.cell? ⟨gb530, 0, none⟩ = some (.int .i64 a0_0) := (blk_cell BK530.out 0).trans rfl
                            have hcz64_1 : wc.cell? ⟨gb530, 1, none⟩ = some (.int .i64 a0_1) := (blk_cell BK530.out 1).trans rfl
                            have hcz64_2 : wc.cell? ⟨gb530, 2, none⟩ = some (.slice A0_2 l0_2.length c0_2) := (blk_cell BK530.out 2).trans rfl
                            have hfz64_0 := blk_frozen BK530.out 0
                            have hfz64_1 := blk_frozen BK530.out 1
                            have hfz64_2 := blk_frozen BK530.out 2
                            go_wp2_with (first | (go_at_call 43; (with_reducible refine (clock_CheckContradiction.calls a0_0 a0_1 _ _ l0_2 t533 t534 t542 _ ?side1 ?side2 A46.out).mono ?_); (case side1 => repeat (first | exact (Kd.C_below HR0_2.out HB.out) | (with_reducible refine Kd.C_alloc ?_ _) | (with_reducible refine Kd.C_drewN ?_ _) | (with_reducible refine Kd.C_drew ?_))); (case side2 => exact HC0_2.out); rintro e w65 ⟨rfl, hb⟩; have n0_ := Aside0.mk (blk_below (g := gb530) (o := .cells #[.int .i64 a0_0, .int .i64 a0_1, .slice A0_2 l0_2.length c0_2] 30 (0, 0)) (by (with_reducible repeat (first | refine blk_drewN ?_ _ | refine blk_drew ?_ | refine blk_alloc ?_ _)); exact BK530.out) hb); have n1_ := Aside0.mk (blk_below (g := gb539) (o := .cells #[.int .i64 t536, .int .i64 t537] 35 (0, 0)) (by (with_reducible repeat (first | refine blk_drewN ?_ _ | refine blk_drew ?_ | refine blk_alloc ?_ _)); exact BK539.out) hb); have n2_ := Aside0.mk (below_step (by repeat (first | (with_reducible first | exact HB.out | apply below_alloc | apply pw_below_drewN | apply below_drew1 | refine below_set ?_ GE530.out | refine below_set ?_ GE539.out) | exact HB.out)) hb); clear BK530; clear BK539; clear HB; have BK530 := n0_; have BK539 := n1_; have HB := n2_; clear n0_ n1_ n2_; (try clear hb); (try clear hb2); (try clear hk); (try clear hi)))
                            go_meet
                            case rel => exact ⟨_, (true), (by first | rfl | (simp; done) | (simp [*]; done)), H', ⟨by have := HJ2.out; have := HJ24.out; first | omega | exact Nat.le_refl _⟩, ⟨by (with_reducible repeat (first | refine blk_drewN ?_ _ | refine blk_drew ?_ | refine blk_alloc ?_ _)); exact BK530.out⟩, ⟨by (with_reducible repeat (first | refine blk_drewN ?_ _ | refine blk_drew ?_ | refine blk_alloc ?_ _)); exact BK539.out⟩, ⟨by repeat (first | (with_reducible first | exact HB.out | apply below_alloc | apply pw_below_drewN | apply below_drew1 | refine below_set ?_ GE530.out | refine below_set ?_ GE539.out) | exact HB.out)⟩⟩
                  case rest =>
                    clear HC40
                    try clear c1
                    try clear c2
                    try clear p2
                    try clear c3
                    try clear c4
                    try clear c5
                    try clear c6
                    try clear c9
                    try clear c9b0
                    try clear c9b1
                    try clear c11
                    try clear c13
                    try clear c13b0
                    try clear c16
                    try clear c20
                    try clear c21
                    try clear c22
                    try clear c26
                    try clear c31
                    try clear c33
                    try clear c33b0
                    try clear c33b1
                    try clear c34
                    try clear c35
                    try clear c35b0
                    try clear c35b1
                    try clear c38
                    try clear c38b0
                    try clear c38b1
                    try clear c38b2
                    try clear c39
                    try clear c39b0
                    try clear c39b1
                    try clear c41
                    try clear c41b0
                    try clear c42
                    try clear c42b0
                    try clear c43
                    try clear c43b0
                    try clear c44
                    try clear c47
                    try clear c47b0
                    try clear c47b1
                    try clear c49
                    try clear c49b0
                    try clear c49b1
                    try clear c51
                    try clear c58
                    try clear c63
                    try clear hcz10_0
                    try clear hcz10_1
                    try clear hcz10_2
                    try clear hcz12_0
                    try clear hcz12_1
                    try clear hcz12_2
                    try clear hcz14_0
                    try clear hcz14_1
                    try clear hcz14_2
                    try clear hcz16_0
                    try clear hcz16_1
                    try clear hcz16_2
                    try clear hcz17_0
                    try clear hcz17_1
                    try clear hcz17_2
                    try clear hcz19_0
                    try clear hcz19_1
                    try clear hcz19_2
                    try clear hcz26_0
                    try clear hcz26_1
                    try clear hcz26_2
                    try clear hcz28_0
                    try clear hcz28_1
                    try clear hcz28_2
                    try clear hcz32_0
                    try clear hcz32_1
                    try clear hcz45_0
                    try clear hcz45_1
                    try clear hcz45_2
                    try clear hcz52_0
                    try clear hcz52_1
                    try clear hcz52_2
                    try clear hcz54_0
                    try clear hcz54_1
                    try clear hcz54_2
                    try clear hcz56_0
                    try clear hcz56_1
                    try clear hcz56_2
                    try clear hcz59_0
                    try clear hcz59_1
                    try clear hcz59_2
                    try clear hcz61_0
                    try clear hcz61_1
                    try clear hcz61_2
                    try clear hcz64_0
                    try clear hcz64_1
                    try clear hcz64_2
                    try clear hcz7_0
                    try clear hcz7_1
                    try clear hcz7_2
                    try clear hfz10_0
                    try clear hfz10_1
                    try clear hfz10_2
                    try clear hfz12_0
                    try clear hfz12_1
                    try clear hfz12_2
                    try clear hfz14_0
                    try clear hfz14_1
                    try clear hfz14_2
                    try clear hfz16_0
                    try clear hfz16_1
                    try clear hfz16_2
                    try clear hfz17_0
                    try clear hfz17_1
                    try clear hfz17_2
                    try clear hfz19_0
                    try clear hfz19_1
                    try clear hfz19_2
                    try clear hfz26_0
                    try clear hfz26_1
                    try clear hfz26_2
                    try clear hfz28_0
                    try clear hfz28_1
                    try clear hfz28_2
                    try clear hfz32_0
                    try clear hfz32_1
                    try clear hfz45_0
                    try clear hfz45_1
                    try clear hfz45_2
                    try clear hfz52_0
                    try clear hfz52_1
                    try clear hfz52_2
                    try clear hfz54_0
                    try clear hfz54_1
                    try clear hfz54_2
                    try clear hfz56_0
                    try clear hfz56_1
                    try clear hfz56_2
                    try clear hfz59_0
                    try clear hfz59_1
                    try clear hfz59_2
                    try clear hfz61_0
                    try clear hfz61_1
                    try clear hfz61_2
                    try clear hfz64_0
                    try clear hfz64_1
                    try clear hfz64_2
                    try clear hfz7_0
                    try clear hfz7_1
                    try clear hfz7_2
                    try clear p2
                    obtain ⟨kq, x102_39, rfl, HA, HJ39, BK530, BK539, HB⟩ := hcut
                    cases kq with
                    | zero => exact absurd HA.out (by simp [isobathlaw05_ClockContradicts.j2])
                    | succ kj39 =>
                      have H := HA.out
                      clear HA
                      simp only [isobathlaw05_ClockContradicts.j2] at H
                      by_cases c66 : x102_39 = true
                      · subst c66
                        have H1 : (some false) = some r := by rw [if_pos rfl] at H; exact H
                        clear H
                        have H := H1
                        clear H1
                        have hh_ := Option.some.inj H
                        rw [hr_.out] at hh_
                        cases hh_
                      · replace c66 := Bool.eq_false_iff.mpr c66
                        subst c66
                        have H1 : (if 0 ≤ t534 then (if t534 ≤ (l0_2.length : Int) then ((clock_Contradiction.f a0_0 a0_1 (l0_2.take (t534 : Int).toNat)).bind fun bt550 => (if bt550.2.2 = 5 then ((isobathlaw05_Works.f).bind fun t553 => (some t553)) else (some false))) else (none)) else (none)) = some r := by rw [if_neg (show ¬ (false = true) by decide)] at H; exact H
                        clear H
                        have H := H1
                        clear H1
                        by_cases c67 : 0 ≤ t534
                        · rw [if_pos c67] at H
                          have c67b0 := eq_true c67
                          have c67b1 : decide (0 ≤ t534) = true := decide_eq_true c67
                          clear c67
                          by_cases c68 : t534 ≤ (l0_2.length : Int)
                          · rw [if_pos c68] at H
                            have c68b0 := eq_true c68
                            have c68b1 : decide (t534 ≤ (l0_2.length : Int)) = true := decide_eq_true c68
                            clear c68
                            obtain ⟨y546, hy546⟩ : ∃ y_ : List (S46), y_ = (l0_2.take (t534 : Int).toNat) := ⟨_, rfl⟩
                            replace H : ((clock_Contradiction.f a0_0 a0_1 y546).bind fun bt550 => (if bt550.2.2 = 5 then ((isobathlaw05_Works.f).bind fun t553 => (some t553)) else (some false))) = some r := by first | (rw [hy546]; with_reducible exact H) | (have H2_ := (Option.bind_some _ _).symm.trans H; rw [hy546]; with_reducible exact H2_) | (have H2_ := (Option.bind_some _ _).symm.trans H; with_reducible exact H2_) | with_reducible exact H | (rw [hy546]; exact H) | exact H
                            have Ny546 := Aside0.mk hy546
                            clear hy546
                            replace H := Option.bind_eq_some_iff.mp H
                            obtain ⟨⟨t550, t551, t552⟩, A690, H⟩ := H
                            replace H : (if t552 = 5 then ((isobathlaw05_Works.f).bind fun t553 => (some t553)) else (some false)) = some r := H
                            have A69 := Aside0.mk A690
                            clear A690
                            by_cases c70 : t552 = 5
                            · rw [if_pos c70] at H
                              have c70b0 : (t552 == 5) = true := beq_iff_eq.mpr c70
                              have c70b1 : (t552 != 5) = false := bne_eq_false_iff_eq.mpr c70
                              clear c70
                              replace H := Option.bind_eq_some_iff.mp H
                              obtain ⟨t553, A710, H⟩ := H
                              replace H : (some t553) = some r := H
                              have A71 := Aside0.mk A710
                              clear A710
                              obtain rfl := Option.some.inj H
                              have hnb72 := NB530_539.out
                              have hnc72 := NB539_530.out
                              have hcz73_0 : wc.cell? ⟨gb530, 0, none⟩ = some (.int .i64 a0_0) := (blk_cell BK530.out 0).trans rfl
                              have hcz73_1 : wc.cell? ⟨gb530, 1, none⟩ = some (.int .i64 a0_1) := (blk_cell BK530.out 1).trans rfl
                              have hcz73_2 : wc.cell? ⟨gb530, 2, none⟩ = some (.slice A0_2 l0_2.length c0_2) := (blk_cell BK530.out 2).trans rfl
                              have hfz73_0 := blk_frozen BK530.out 0
                              have hfz73_1 := blk_frozen BK530.out 1
                              have hfz73_2 := blk_frozen BK530.out 2
                              go_wp2_with (first | ((with_reducible refine gate_dst (N := 10) rfl ?_); (try (refine gate_guard (by rfl) ?_; dsimp only)); refine box_event ?hg (N := 10) ?hd (cs := #[.int .i64 0, .int .i64 0, .slice none 0 0]) (t := 30) ?hr ?_; (case hd => rfl); (case hg => rfl); (case hr => first | (go_simp; done) | (go_simp; rfl)); intro gb545 hg w74 hbox hb; have n0_ := Aside0.mk (blk_below (g := gb530) (o := .cells #[.int .i64 a0_0, .int .i64 a0_1, .slice A0_2 l0_2.length c0_2] 30 (0, 0)) (by (with_reducible repeat (first | refine blk_drewN ?_ _ | refine blk_drew ?_ | refine blk_alloc ?_ _)); exact BK530.out) hb); have n1_ := Aside0.mk (blk_below (g := gb539) (o := .cells #[.int .i64 t536, .int .i64 t537] 35 (0, 0)) (by (with_reducible repeat (first | refine blk_drewN ?_ _ | refine blk_drew ?_ | refine blk_alloc ?_ _)); exact BK539.out) hb); have n2_ := Aside0.mk (below_step (by repeat (first | (with_reducible first | exact HB.out | apply below_alloc | apply pw_below_drewN | apply below_drew1 | refine below_set ?_ GE530.out | refine below_set ?_ GE539.out) | exact HB.out)) hb); have n3_ := Aside0.mk (hbox); have n4_ := Aside0.mk ((by rw [hg]; exact (below_size (by repeat (first | (with_reducible first | exact HB.out | apply below_alloc | apply pw_below_drewN | apply below_drew1 | refine below_set ?_ GE530.out | refine below_set ?_ GE539.out) | exact HB.out))) : w.heap.size ≤ gb545)); have n5_ := Aside0.mk ((by rw [hg]; exact (below_size (by repeat (first | (with_reducible first | exact HB.out | apply below_alloc | apply pw_below_drewN | apply below_drew1 | refine below_set ?_ GE530.out | refine below_set ?_ GE539.out) | exact HB.out))) : w.heap.size ≤ gb545)); have n6_ := Aside0.mk ((by rw [hg]; exact Nat.ne_of_lt (blk_lt (g := gb530) (o := .cells #[.int .i64 a0_0, .int .i64 a0_1, .slice A0_2 l0_2.length c0_2] 30 (0, 0)) (by (with_reducible repeat (first | refine blk_drewN ?_ _ | refine blk_drew ?_ | refine blk_alloc ?_ _)); exact BK530.out)) : gb530 ≠ gb545)); have n7_ := Aside0.mk ((by rw [hg]; exact Nat.ne_of_gt (blk_lt (g := gb530) (o := .cells #[.int .i64 a0_0, .int .i64 a0_1, .slice A0_2 l0_2.length c0_2] 30 (0, 0)) (by (with_reducible repeat (first | refine blk_drewN ?_ _ | refine blk_drew ?_ | refine blk_alloc ?_ _)); exact BK530.out)) : gb545 ≠ gb530)); have n8_ := Aside0.mk ((by rw [hg]; exact Nat.ne_of_lt (blk_lt (g := gb539) (o := .cells #[.int .i64 t536, .int .i64 t537] 35 (0, 0)) (by (with_reducible repeat (first | refine blk_drewN ?_ _ | refine blk_drew ?_ | refine blk_alloc ?_ _)); exact BK539.out)) : gb539 ≠ gb545)); have n9_ := Aside0.mk ((by rw [hg]; exact Nat.ne_of_gt (blk_lt (g := gb539) (o := .cells #[.int .i64 t536, .int .i64 t537] 35 (0, 0)) (by (with_reducible repeat (first | refine blk_drewN ?_ _ | refine blk_drew ?_ | refine blk_alloc ?_ _)); exact BK539.out)) : gb545 ≠ gb539)); clear BK530; clear BK539; clear HB; have BK530 := n0_; have BK539 := n1_; have HB := n2_; have BK545 := n3_; have GW545 := n4_; have GE545 := n5_; have NB530_545 := n6_; have NB545_530 := n7_; have NB539_545 := n8_; have NB545_539 := n9_; clear n0_ n1_ n2_ n3_ n4_ n5_ n6_ n7_ n8_ n9_; clear hb hbox hg; have hnb75 := NB545_530.out; have hnc75 := NB530_545.out; have hnb76 := NB545_539.out; have hnc76 := NB539_545.out; have hcz77_0 : w74.cell? ⟨gb545, 0, none⟩ = some (.int .i64 0) := (blk_cell BK545.out 0).trans rfl; have hcz77_1 : w74.cell? ⟨gb545, 1, none⟩ = some (.int .i64 0) := (blk_cell BK545.out 1).trans rfl; have hcz77_2 : w74.cell? ⟨gb545, 2, none⟩ = some (.slice none 0 0) := (blk_cell BK545.out 2).trans rfl; have hfz77_0 := blk_frozen BK545.out 0; have hfz77_1 := blk_frozen BK545.out 1; have hfz77_2 := blk_frozen BK545.out 2) | ((with_reducible refine gate_store (t := 30) (p := 10) rfl ?_); refine store_event (t := 30) (p := 10) (v := ?vo_w78) (w1 := (((w74.setCell ⟨gb545, 0, none⟩ (.int .i64 a0_0)).setCell ⟨gb545, 1, none⟩ (.int .i64 a0_1)).setCell ⟨gb545, 2, none⟩ (.slice A0_2 l0_2.length c0_2))) ?hg ?ho ?hn ?hr ?_; (case ho => rfl); (case hg => rfl); (case hn => rfl); (case hr => first | (go_simp; done) | (go_simp; rfl)); intro w78 hw; have n0_ : Aside0 (w78.heap[gb530]? = some (.cells #[.int .i64 a0_0, .int .i64 a0_1, .slice A0_2 l0_2.length c0_2] 30 (0, 0))) := ⟨(by rw [hw]; exact (by (with_reducible repeat (first | refine blk_drewN ?_ _ | refine blk_drew ?_ | refine blk_alloc ?_ _)); refine blk_far ?_ NB530_545.out _; (with_reducible repeat (first | refine blk_drewN ?_ _ | refine blk_drew ?_ | refine blk_alloc ?_ _)); refine blk_far ?_ NB530_545.out _; (with_reducible repeat (first | refine blk_drewN ?_ _ | refine blk_drew ?_ | refine blk_alloc ?_ _)); refine blk_far ?_ NB530_545.out _; (with_reducible repeat (first | refine blk_drewN ?_ _ | refine blk_drew ?_ | refine blk_alloc ?_ _)); exact BK530.out))⟩; have n1_ : Aside0 (w78.heap[gb539]? = some (.cells #[.int .i64 t536, .int .i64 t537] 35 (0, 0))) := ⟨(by rw [hw]; exact (by (with_reducible repeat (first | refine blk_drewN ?_ _ | refine blk_drew ?_ | refine blk_alloc ?_ _)); refine blk_far ?_ NB539_545.out _; (with_reducible repeat (first | refine blk_drewN ?_ _ | refine blk_drew ?_ | refine blk_alloc ?_ _)); refine blk_far ?_ NB539_545.out _; (with_reducible repeat (first | refine blk_drewN ?_ _ | refine blk_drew ?_ | refine blk_alloc ?_ _)); refine blk_far ?_ NB539_545.out _; (with_reducible repeat (first | refine blk_drewN ?_ _ | refine blk_drew ?_ | refine blk_alloc ?_ _)); exact BK539.out))⟩; have n2_ : Aside0 (w78.heap[gb545]? = some (.cells #[.int .i64 a0_0, .int .i64 a0_1, .slice A0_2 l0_2.length c0_2] 30 (0, 0))) := ⟨(by rw [hw]; exact (by (with_reducible repeat (first | refine blk_drewN ?_ _ | refine blk_drew ?_ | refine blk_alloc ?_ _)); refine blk_put (cs := #[.int .i64 a0_0, .int .i64 a0_1, .slice none 0 0]) ?_ 2 _ rfl; (with_reducible repeat (first | refine blk_drewN ?_ _ | refine blk_drew ?_ | refine blk_alloc ?_ _)); refine blk_put (cs := #[.int .i64 a0_0, .int .i64 0, .slice none 0 0]) ?_ 1 _ rfl; (with_reducible repeat (first | refine blk_drewN ?_ _ | refine blk_drew ?_ | refine blk_alloc ?_ _)); refine blk_put (cs := #[.int .i64 0, .int .i64 0, .slice none 0 0]) ?_ 0 _ rfl; (with_reducible repeat (first | refine blk_drewN ?_ _ | refine blk_drew ?_ | refine blk_alloc ?_ _)); exact BK545.out))⟩; have n3_ : Aside0 (Below w.heap.size w w78) := ⟨(by rw [hw]; exact (by repeat (first | (with_reducible first | exact HB.out | apply below_alloc | apply pw_below_drewN | apply below_drew1 | refine below_set ?_ GE530.out | refine below_set ?_ GE539.out | refine below_set ?_ GE545.out) | exact HB.out)))⟩; clear hw; clear BK530; clear BK539; clear BK545; clear HB; have BK530 := n0_; have BK539 := n1_; have BK545 := n2_; have HB := n3_; clear n0_ n1_ n2_ n3_; have hcz79_0 : w78.cell? ⟨gb530, 0, none⟩ = some (.int .i64 a0_0) := (blk_cell BK530.out 0).trans rfl; have hcz79_1 : w78.cell? ⟨gb530, 1, none⟩ = some (.int .i64 a0_1) := (blk_cell BK530.out 1).trans rfl; have hcz79_2 : w78.cell? ⟨gb530, 2, none⟩ = some (.slice A0_2 l0_2.length c0_2) := (blk_cell BK530.out 2).trans rfl; have hfz79_0 := blk_frozen BK530.out 0; have hfz79_1 := blk_frozen BK530.out 1; have hfz79_2 := blk_frozen BK530.out 2; have q80 : (t534 : Int) ≤ ((l0_2.length : Int) : Int) := of_decide_eq_true (by first | (with_reducible assumption) | assumption); obtain ⟨i080, hi080, _, hsz80, _⟩ := info_parts info46; have hroom80 : l0_2.length ≤ c0_2 := HC0_2.out; have hC80 : Kd.C k46 _ A0_2 l0_2.length l0_2 := HR0_2.out; have hcut80 := cut_to (P := Try.prog) 28 46 .i64 Try.underlying28 hi080 A0_2 l0_2.length c0_2 t534 (of_decide_eq_true (by first | (with_reducible assumption) | assumption)) q80 hroom80; have hr80 := Kd.C_take (m := (t534 : Int).toNat) hC80 (by omega); have hy80 : y546.length = (t534 : Int).toNat := (by rw [Ny546.out, List.length_take]; omega); rw [← Ny546.out] at hr80; rw [← hy80] at hcut80; have HR549 := Aside0.mk hr80; have HC549 := Aside0.mk (show y546.length ≤ c0_2 from by omega); clear hr80 hC80 hroom80 hi080 hsz80; have KY80 := Aside0.mk hy80; clear hy80; replace q80 := eq_true q80; have hcz81_0 : w78.cell? ⟨gb545, 0, none⟩ = some (.int .i64 a0_0) := (blk_cell BK545.out 0).trans rfl; have hcz81_1 : w78.cell? ⟨gb545, 1, none⟩ = some (.int .i64 a0_1) := (blk_cell BK545.out 1).trans rfl; have hcz81_2 : w78.cell? ⟨gb545, 2, none⟩ = some (.slice A0_2 l0_2.length c0_2) := (blk_cell BK545.out 2).trans rfl; have hfz81_0 := blk_frozen BK545.out 0; have hfz81_1 := blk_frozen BK545.out 1; have hfz81_2 := blk_frozen BK545.out 2) | ((with_reducible refine gate_callee (f := 26) rfl ?_); refine goesL_ (some 111) rfl rfl Try.func26 (by kernel_rfl) rfl #[.agg #[.int .i64 a0_0, .int .i64 a0_1, .slice A0_2 y546.length c0_2]] rfl (by (try simp only [List.map_toArray, List.map_cons, List.map_nil]); first | done | rfl | (simp only [List.length_drop, List.length_take]; rfl)) ?_; (with_reducible refine (clock_Contradiction.calls a0_0 a0_1 _ _ y546 t550 t551 t552 _ ?side1 ?side2 A69.out).mono ?_); (case side1 => exact Kd.C_below HR549.out (by repeat (first | (with_reducible first | exact HB.out | apply below_alloc | apply pw_below_drewN | apply below_drew1 | refine below_set ?_ GE530.out | refine below_set ?_ GE539.out | refine below_set ?_ GE545.out) | exact HB.out))); (case side2 => exact HC549.out); rintro e w82 ⟨rfl, hb⟩; refine ⟨_, rfl, ?_⟩; have n0_ := Aside0.mk (blk_below (g := gb530) (o := .cells #[.int .i64 a0_0, .int .i64 a0_1, .slice A0_2 l0_2.length c0_2] 30 (0, 0)) (by (with_reducible repeat (first | refine blk_drewN ?_ _ | refine blk_drew ?_ | refine blk_alloc ?_ _)); refine blk_far ?_ NB530_545.out _; (with_reducible repeat (first | refine blk_drewN ?_ _ | refine blk_drew ?_ | refine blk_alloc ?_ _)); exact BK530.out) hb); have n1_ := Aside0.mk (blk_below (g := gb539) (o := .cells #[.int .i64 t536, .int .i64 t537] 35 (0, 0)) (by (with_reducible repeat (first | refine blk_drewN ?_ _ | refine blk_drew ?_ | refine blk_alloc ?_ _)); refine blk_far ?_ NB539_545.out _; (with_reducible repeat (first | refine blk_drewN ?_ _ | refine blk_drew ?_ | refine blk_alloc ?_ _)); exact BK539.out) hb); have n2_ := Aside0.mk (blk_below (g := gb545) (o := .cells #[.int .i64 a0_0, .int .i64 a0_1, .slice A0_2 y546.length c0_2] 30 (0, 0)) (by (with_reducible repeat (first | refine blk_drewN ?_ _ | refine blk_drew ?_ | refine blk_alloc ?_ _)); refine blk_put (cs := #[.int .i64 a0_0, .int .i64 a0_1, .slice A0_2 l0_2.length c0_2]) ?_ 2 _ rfl; (with_reducible repeat (first | refine blk_drewN ?_ _ | refine blk_drew ?_ | refine blk_alloc ?_ _)); exact BK545.out) hb); have n3_ := Aside0.mk (below_step (by repeat (first | (with_reducible first | exact HB.out | apply below_alloc | apply pw_below_drewN | apply below_drew1 | refine below_set ?_ GE530.out | refine below_set ?_ GE539.out | refine below_set ?_ GE545.out) | exact HB.out)) hb); clear BK530; clear BK539; clear BK545; clear HB; have BK530 := n0_; have BK539 := n1_; have BK545 := n2_; have HB := n3_; clear n0_ n1_ n2_ n3_; (try clear hb); (try clear hb2); (try clear hk); (try clear hi)) | (go_at_call 16; (with_reducible refine (isobathlaw05_Works.calls  t553 _ A71.out).mono ?_); rintro e w83 ⟨rfl, hb⟩; have n0_ := Aside0.mk (blk_below (g := gb530) (o := .cells #[.int .i64 a0_0, .int .i64 a0_1, .slice A0_2 l0_2.length c0_2] 30 (0, 0)) (by (with_reducible repeat (first | refine blk_drewN ?_ _ | refine blk_drew ?_ | refine blk_alloc ?_ _)); exact BK530.out) hb); have n1_ := Aside0.mk (blk_below (g := gb539) (o := .cells #[.int .i64 t536, .int .i64 t537] 35 (0, 0)) (by (with_reducible repeat (first | refine blk_drewN ?_ _ | refine blk_drew ?_ | refine blk_alloc ?_ _)); exact BK539.out) hb); have n2_ := Aside0.mk (blk_below (g := gb545) (o := .cells #[.int .i64 a0_0, .int .i64 a0_1, .slice A0_2 y546.length c0_2] 30 (0, 0)) (by (with_reducible repeat (first | refine blk_drewN ?_ _ | refine blk_drew ?_ | refine blk_alloc ?_ _)); exact BK545.out) hb); have n3_ := Aside0.mk (below_step (by repeat (first | (with_reducible first | exact HB.out | apply below_alloc | apply pw_below_drewN | apply below_drew1 | refine below_set ?_ GE530.out | refine below_set ?_ GE539.out | refine below_set ?_ GE545.out) | exact HB.out)) hb); clear BK530; clear BK539; clear BK545; clear HB; have BK530 := n0_; have BK539 := n1_; have BK545 := n2_; have HB := n3_; clear n0_ n1_ n2_ n3_; (try clear hb); (try clear hb2); (try clear hk); (try clear hi)))
                              go_ret
                              exact ⟨by first | rfl | (simp [errW_none, errW_some] <;> rfl) | (simp [*, errW_none, errW_some] <;> rfl), by repeat (first | (with_reducible first | exact HB.out | apply below_alloc | apply pw_below_drewN | apply below_drew1 | refine below_set ?_ GE530.out | refine below_set ?_ GE539.out | refine below_set ?_ GE545.out) | exact HB.out)⟩
                            · rw [if_neg c70] at H
                              have c70b0 : (t552 == 5) = false := beq_eq_false_iff_ne.mpr c70
                              have c70b1 : (t552 != 5) = true := bne_iff_ne.mpr c70
                              have hh_ := Option.some.inj H
                              rw [hr_.out] at hh_
                              cases hh_
                          · rw [if_neg c68] at H
                            exact absurd H (by simp)
                        · rw [if_neg c67] at H
                          exact absurd H (by simp)
                · rw [if_neg c39] at H
                  have c39b0 : (t535 == 0) = false := beq_eq_false_iff_ne.mpr c39
                  (try (have c39b0zc38b0 : (t538 == 5) = false := by simpa [c39b0] using c38b0))
                  have c39b1 : (t535 != 0) = true := bne_iff_ne.mpr c39
                  by_cases c95 : t533 = 0
                  · rw [if_pos c95] at H
                    have c95b0 : (t533 == 0) = true := beq_iff_eq.mpr c95
                    have c95b1 : (t533 != 0) = false := bne_eq_false_iff_eq.mpr c95
                    clear c95
                    by_cases c96 : t534 = 0
                    · rw [if_pos c96] at H
                      have c96b0 : (t534 == 0) = true := beq_iff_eq.mpr c96
                      have c96b1 : (t534 != 0) = false := bne_eq_false_iff_eq.mpr c96
                      clear c96
                      replace H := Option.bind_eq_some_iff.mp H
                      obtain ⟨t541, A970, H⟩ := H
                      replace H : (some t541) = some r := H
                      have A97 := Aside0.mk A970
                      clear A970
                      obtain rfl := Option.some.inj H
                      go_wp2_with (first | (go_at_call 16; (with_reducible refine (isobathlaw05_Works.calls  t541 _ A97.out).mono ?_); rintro e w98 ⟨rfl, hb⟩; have n0_ := Aside0.mk (blk_below (g := gb530) (o := .cells #[.int .i64 a0_0, .int .i64 a0_1, .slice A0_2 l0_2.length c0_2] 30 (0, 0)) (by (with_reducible repeat (first | refine blk_drewN ?_ _ | refine blk_drew ?_ | refine blk_alloc ?_ _)); exact BK530.out) hb); have n1_ := Aside0.mk (blk_below (g := gb539) (o := .cells #[.int .i64 t536, .int .i64 t537] 35 (0, 0)) (by (with_reducible repeat (first | refine blk_drewN ?_ _ | refine blk_drew ?_ | refine blk_alloc ?_ _)); exact BK539.out) hb); have n2_ := Aside0.mk (below_step (by repeat (first | (with_reducible first | exact HB.out | apply below_alloc | apply pw_below_drewN | apply below_drew1 | refine below_set ?_ GE530.out | refine below_set ?_ GE539.out) | exact HB.out)) hb); clear BK530; clear BK539; clear HB; have BK530 := n0_; have BK539 := n1_; have HB := n2_; clear n0_ n1_ n2_; (try clear hb); (try clear hb2); (try clear hk); (try clear hi)))
                      go_ret
                      exact ⟨by first | rfl | (simp [errW_none, errW_some] <;> rfl) | (simp [*, errW_none, errW_some] <;> rfl), by repeat (first | (with_reducible first | exact HB.out | apply below_alloc | apply pw_below_drewN | apply below_drew1 | refine below_set ?_ GE530.out | refine below_set ?_ GE539.out) | exact HB.out)⟩
                    · rw [if_neg c96] at H
                      have c96b0 : (t534 == 0) = false := beq_eq_false_iff_ne.mpr c96
                      have c96b1 : (t534 != 0) = true := bne_iff_ne.mpr c96
                      have hh_ := Option.some.inj H
                      rw [hr_.out] at hh_
                      cases hh_
                  · rw [if_neg c95] at H
                    have c95b0 : (t533 == 0) = false := beq_eq_false_iff_ne.mpr c95
                    have c95b1 : (t533 != 0) = true := bne_iff_ne.mpr c95
                    have hh_ := Option.some.inj H
                    rw [hr_.out] at hh_
                    cases hh_

end Go.Proofs.Ytcjdhajdoikojaa.Pr
end
section
/- Which exchanges contradict each other: the pure statement about what the program computes. -/
namespace Go.Proofs.Ytcjdhajdoikojaa.Pure
open Go.RowKit Go.Proofs.YtcjdhajdoikojaaW.PrintWords Go.Proofs.YtcjdhajdoikojaaW.PrintLast Go.Proofs.Ytcjdhajdoikojaa.Pr Go.Proofs.Ytcjdhajdoikojaa.Good Go.Proofs.Ytcjdhajdoikojaa.Clk

theorem contraI_bad {par rate : Int} {xs : List S46} (h : faceE par rate xs ≠ 0) : contraI par rate xs = (0, 0, faceE par rate xs) := by unfold contraI; rw [if_pos h]
theorem contraI_none {par rate : Int} {xs : List S46} (h : faceE par rate xs = 0) (hf : findCon rate (xs.map (anchorI rate)) = none) : contraI par rate xs = (0, 0, 5) := by unfold contraI; rw [if_neg (by rw [h]; decide), hf]
theorem contraI_some {par rate : Int} {xs : List S46} {p : Int × Int} (h : faceE par rate xs = 0) (hf : findCon rate (xs.map (anchorI rate)) = some p) : contraI par rate xs = (p.1, p.2, 0) := by unfold contraI; rw [if_neg (by rw [h]; decide), hf]
theorem within_in {t lo hi : Int} (h0 : lo ≤ t) (h1 : t ≤ hi) : withinI t lo hi = 0 := by
  unfold withinI clock_within.f
  rw [if_neg (by omega), if_neg (by omega)]
  rfl
theorem faceE_take {par rate : Int} {xs : List S46} {k : Nat} (h : faceE par rate xs = 0) (hk : 1 ≤ k) : faceE par rate (xs.take k) = 0 := by
  have h1 := faceE_one h
  have h2 := faceE_len h
  have h3 := faceE_rate h
  unfold faceE
  rw [if_neg (by rw [List.length_take]; omega), if_neg (by omega), if_pos]
  exact List.all_eq_true.2 fun x hx => h1.2 x (List.mem_of_mem_take hx)
theorem rd_take {ys : List S105} {k : Nat} {i : Int} (h0 : 0 ≤ i) (h1 : i < (k : Int)) : rd_T105 (ys.take k) i = rd_T105 ys i := by
  unfold rd_T105
  rw [List.getD_eq_getElem?_getD, List.getD_eq_getElem?_getD, List.getElem?_take_of_lt (by omega)]
theorem conI_take {rate : Int} {ys : List S105} {k : Nat} {i j : Int} (h0 : 0 ≤ i) (h1 : i < (k : Int)) (h2 : 0 ≤ j) (h3 : j < (k : Int)) : conI rate (ys.take k) i j = conI rate ys i j := by
  unfold conI
  rw [rd_take h0 h1, rd_take h2 h3]
theorem ClockContradicts : ∀ (x0 : S30) (x1 : Int), W30 x0 → (Lit.int .i64 x1).wf = true → ∃ k, isobathlaw05_ClockContradicts.f k (x0.f0) (x0.f1) (x0.f2) x1 = some true := by
  intro x0 t _ _
  generalize x0.f0 = par
  generalize x0.f1 = rate
  generalize x0.f2 = xs
  have hj0 : ∀ k, isobathlaw05_ClockContradicts.j0 (k + 1) t true par rate xs = some true := fun k => by
    rw [isobathlaw05_ClockContradicts.j0, if_pos rfl, works]
    rfl
  refine ⟨3, ?_⟩
  unfold isobathlaw05_ClockContradicts.f
  obtain ⟨lg, hlg⟩ : ∃ b, isobathlaw05_long.f par rate xs = some b := by
    unfold isobathlaw05_long.f
    split <;> (try split) <;> exact ⟨_, rfl⟩
  rw [hlg, Option.bind_some]
  by_cases h1 : lg = true
  · rw [if_pos h1, hj0]
  rw [if_neg h1]
  by_cases h2 : (xs.length : Int) > 12
  · rw [if_pos h2, hj0]
  rw [if_neg h2]
  by_cases h3 : t < 0
  · rw [if_pos h3, hj0]
  rw [if_neg h3]
  by_cases h4 : t > 1125899906842624
  · rw [decide_eq_true h4, hj0]
  rw [decide_eq_false h4, isobathlaw05_ClockContradicts.j0, if_neg (by decide)]
  have hw : withinI t 0 1125899906842624 = 0 := within_in (by omega) (by omega)
  have hat : ∀ c, atE par rate xs t = c → clock_At.f par rate xs t = some ((atV par rate xs t).1, (atV par rate xs t).2, c) := fun c h => by rw [← h]; rfl
  have hae : atE par rate xs t = if faceE par rate xs ≠ 0 then faceE par rate xs else if (findCon rate (xs.map (anchorI rate))).isSome then 5 else 0 := by
    unfold atE soundE
    rw [hw]
    rfl
  have hco : ∀ c, contraI par rate xs = c → clock_Contradiction.f par rate xs = some (c.1, c.2.1, c.2.2) := fun c h => by rw [← h]; rfl
  by_cases h5 : faceE par rate xs = 0
  · rw [if_neg (by rw [h5]; decide)] at hae
    cases hf : findCon rate (xs.map (anchorI rate)) with
    | none =>
      rw [hf] at hae
      rw [hco _ (contraI_none h5 hf), Option.bind_some, hat 0 hae, Option.bind_some]
      dsimp only
      rw [if_neg (by decide), isobathlaw05_ClockContradicts.j1, if_neg (by decide), if_neg (by decide), if_neg (by decide), if_pos rfl, if_pos rfl, works]
      rfl
    | some p =>
      rw [hf] at hae
      obtain ⟨⟨p0, p1, p2⟩, hp⟩ := findCon_some hf
      rw [hco _ (contraI_some h5 hf), Option.bind_some, hat 5 hae, Option.bind_some]
      dsimp only
      rw [List.length_map] at p2
      have hv := va_all h5
      have hr := faceE_rate h5
      have hp2 : conI rate (xs.map (anchorI rate)) p.2 p.1 = true := by rw [← hp]; exact conI_symm hr.2.1 hr.2.2 hv (by omega) (by rw [List.length_map]; omega) p0 (by rw [List.length_map]; omega)
      have hcc : ∀ i k, 0 ≤ i → i < (xs.length : Int) → 0 ≤ k → k < (xs.length : Int) → checkConI par rate xs i k = if conI rate (xs.map (anchorI rate)) i k = true then 0 else 16 := fun i k a b c d => by
        unfold checkConI
        rw [if_neg (by rw [h5]; decide), if_neg (by omega)]
      have hch : ∀ i k, clock_CheckContradiction.f par rate xs i k = some (checkConI par rate xs i k) := fun _ _ => rfl
      have e1 := hcc p.1 p.2 p0 (by omega) (by omega) p2
      rw [if_pos hp] at e1
      have e2 := hcc p.2 p.1 (by omega) p2 p0 (by omega)
      rw [if_pos hp2] at e2
      have e3 := hcc p.1 p.1 p0 (by omega) p0 (by omega)
      rw [if_neg (by unfold conI; rw [if_pos rfl]; decide)] at e3
      rw [if_pos rfl, isobathlaw05_ClockContradicts.j1, if_neg (by decide), if_neg (by decide), if_pos rfl, if_neg (by omega), if_neg (by omega), if_neg (by omega), hch, hch, hch, e1, e2, e3]
      simp only [Option.bind_some, if_true]
      rw [isobathlaw05_ClockContradicts.j2, if_neg (by decide), if_pos (by omega), if_pos (by omega)]
      have hk : 1 ≤ p.2.toNat := by omega
      have hft : findCon rate ((xs.take p.2.toNat).map (anchorI rate)) = none := by
        unfold findCon
        rw [List.find?_eq_none]
        intro q hq
        have hlen : ((xs.take p.2.toNat).map (anchorI rate)).length = p.2.toNat := by rw [List.length_map, List.length_take]; omega
        rw [hlen] at hq
        have hm := mem_pairsL.1 hq
        rw [List.map_take, conI_take hm.1 (by omega) (by omega) (by omega), findCon_before hf q hq]
        decide
      have h9 : clock_Contradiction.f par rate (xs.take p.2.toNat) = some (0, 0, 5) := by
        show some _ = some _
        rw [contraI_none (faceE_take h5 hk) hft]
      rw [h9, Option.bind_some, if_pos rfl, works]
      rfl
  · rw [if_pos h5] at hae
    rw [hco _ (contraI_bad h5), Option.bind_some, hat _ hae, Option.bind_some]
    dsimp only
    rcases faceE_cases par rate xs with e | e | e
    · exact absurd e h5
    · rw [e, if_neg (by decide), isobathlaw05_ClockContradicts.j1, if_pos (by decide), if_pos rfl, works]
      rfl
    · rw [e, if_neg (by decide), isobathlaw05_ClockContradicts.j1, if_pos (by decide), if_pos rfl, works]
      rfl
end Go.Proofs.Ytcjdhajdoikojaa.Pure
end
