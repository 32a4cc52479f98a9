/- Part 4 of the proof of ClockMore: what the functions compute. No condition. -/
import Derived.Test.YtcjdhajdoikojaaDmClockMore1
import Derived.Test.YtcjdhajdoikojaaDmClockMore3
section
-- PRINTED by print.py (a twelfth state) out of the translation. Not trusted: Lean checks it.
namespace Go.Proofs.Ytcjdhajdoikojaa.Pr
open Go.RowKit Go.Proofs.YtcjdhajdoikojaaW.PrintWords Go.Proofs.YtcjdhajdoikojaaW.PrintLast Go.Proofs.YtcjdhajdoikojaaW.PrintMore
attribute [local go_sem] max2_int min2_int max_two min_two
set_option linter.unusedVariables false
set_option linter.unusedSimpArgs false

/-! ### clock_CheckExchange: function 30 -/
mutual
def clock_CheckExchange.j0 : Nat → Bool → Int → Int → Int → Int → Int → Int → Int → Int → Option (Int)
  | 0, _, _, _, _, _, _, _, _, _ => none
  | k + 1, x3, x164000, x164001, x164002, x164003, x164004, x164005, x164006, x164007 => if x3 = true then (some 2) else ((clock_isTime.f x164001).bind fun t166 => (if t166 = true then ((clock_isTime.f x164002).bind fun t167 => (if t167 = true then (clock_CheckExchange.j1 k (decide (x164001 > x164002)) x164000 x164001 x164002 x164003 x164004 x164005 x164006 x164007) else (clock_CheckExchange.j1 k true x164000 x164001 x164002 x164003 x164004 x164005 x164006 x164007))) else (clock_CheckExchange.j1 k true x164000 x164001 x164002 x164003 x164004 x164005 x164006 x164007)))
def clock_CheckExchange.j1 : Nat → Bool → Int → Int → Int → Int → Int → Int → Int → Int → Option (Int)
  | 0, _, _, _, _, _, _, _, _, _ => none
  | k + 1, x21, x164000, x164001, x164002, x164003, x164004, x164005, x164006, x164007 => if x21 = true then (some 2) else ((bound_Check.f k x164004 x164005).bind fun t168 => (if t168 = 0 then ((bound_Check.f k x164006 x164007).bind fun t169 => (if t169 = 0 then (if x164004 < 0 then (some 2) else (if x164006 < 0 then (some 2) else (some 0))) else (some 2))) else (some 2)))
end
def clock_CheckExchange.f (k : Nat) (a0_0 : Int) (a0_1 : Int) (a0_2 : Int) (a0_3 : Int) (a0_4 : Int) (a0_5 : Int) (a0_6 : Int) (a0_7 : Int) : Option (Int) := (clock_isTime.f a0_0).bind fun t164 => (if t164 = true then ((clock_isTime.f a0_3).bind fun t165 => (if t165 = true then (clock_CheckExchange.j0 k (decide (a0_0 > a0_3)) a0_0 a0_1 a0_2 a0_3 a0_4 a0_5 a0_6 a0_7) else (clock_CheckExchange.j0 k true a0_0 a0_1 a0_2 a0_3 a0_4 a0_5 a0_6 a0_7))) else (clock_CheckExchange.j0 k true a0_0 a0_1 a0_2 a0_3 a0_4 a0_5 a0_6 a0_7))
set_option maxHeartbeats 8000000 in
set_option maxRecDepth 100000 in
theorem clock_CheckExchange.calls (k : Nat) (a0_0 : Int) (a0_1 : Int) (a0_2 : Int) (a0_3 : Int) (a0_4 : Int) (a0_5 : Int) (a0_6 : Int) (a0_7 : Int) (r : Int) (w : World) (h : clock_CheckExchange.f k a0_0 a0_1 a0_2 a0_3 a0_4 a0_5 a0_6 a0_7 = some r) :
    Calls Try.prog 30 #[.agg #[.int .i64 a0_0, .int .i64 a0_1, .int .i64 a0_2, .int .i64 a0_3, .int .i64 a0_4, .int .i64 a0_5, .int .i64 a0_6, .int .i64 a0_7]] w fun e w' => e = .returned (.int .i64 r) ∧ Below w.heap.size w w' := by
  have hu46 := Try.underlying46
  have hu35 := Try.underlying35
  have HB := Aside0.mk (Below.refl w.heap.size w)
  have H : ((clock_isTime.f a0_0).bind fun t164 => (if t164 = true then ((clock_isTime.f a0_3).bind fun t165 => (if t165 = true then (clock_CheckExchange.j0 k (decide (a0_0 > a0_3)) a0_0 a0_1 a0_2 a0_3 a0_4 a0_5 a0_6 a0_7) else (clock_CheckExchange.j0 k true a0_0 a0_1 a0_2 a0_3 a0_4 a0_5 a0_6 a0_7))) else (clock_CheckExchange.j0 k true a0_0 a0_1 a0_2 a0_3 a0_4 a0_5 a0_6 a0_7))) = some r := h
  clear h
  have HC2 := Aside0.mk H
  clear H
  go_enter Try.func30, Try.ntmps30
  go_upto_region 1 with (first | ((with_reducible refine gate_dst (N := 1) rfl ?_); refine box_event ?hg (N := 1) ?hd (cs := #[.int .i64 a0_0, .int .i64 a0_1, .int .i64 a0_2, .int .i64 a0_3, .int .i64 a0_4, .int .i64 a0_5, .int .i64 a0_6, .int .i64 a0_7]) (t := 46) ?hr ?_; (case hd => rfl); (case hg => rfl); (case hr => first | (go_simp; done) | (go_simp; rfl)); intro gb163 hg w3 hbox hb; have n0_ := Aside0.mk (below_step (by repeat (first | (with_reducible first | exact HB.out | apply below_alloc | apply pw_below_drewN | apply below_drew1) | exact HB.out)) hb); have n1_ := Aside0.mk (hbox); have n2_ := Aside0.mk ((by rw [hg]; exact (below_size (by repeat (first | (with_reducible first | exact HB.out | apply below_alloc | apply pw_below_drewN | apply below_drew1) | exact HB.out))) : w.heap.size ≤ gb163)); have n3_ := Aside0.mk ((by rw [hg]; exact (below_size (by repeat (first | (with_reducible first | exact HB.out | apply below_alloc | apply pw_below_drewN | apply below_drew1) | exact HB.out))) : w.heap.size ≤ gb163)); clear HB; have HB := n0_; have BK163 := n1_; have GW163 := n2_; have GE163 := n3_; clear n0_ n1_ n2_ n3_; clear hb hbox hg))
  (try simp only [Act.put, List.setIfInBounds_toArray, List.set_cons_zero, List.set_cons_succ])
  go_cut [3] (fun v3 wc => ∃ (kq : Nat) (x3_1 : Bool), v3 = .bool x3_1 ∧ Aside0 (clock_CheckExchange.j0 kq x3_1 a0_0 a0_1 a0_2 a0_3 a0_4 a0_5 a0_6 a0_7 = some r) ∧ Aside0 (kq ≤ k) ∧ Aside0 (wc.heap[gb163]? = some (.cells #[.int .i64 a0_0, .int .i64 a0_1, .int .i64 a0_2, .int .i64 a0_3, .int .i64 a0_4, .int .i64 a0_5, .int .i64 a0_6, .int .i64 a0_7] 46 (0, 0))) ∧ Aside0 (Below w.heap.size w wc))
  case first =>
    have H := HC2.out
    clear HC2
    replace H := Option.bind_eq_some_iff.mp H
    obtain ⟨t164, A40, H⟩ := H
    replace H : (if t164 = true then ((clock_isTime.f a0_3).bind fun t165 => (if t165 = true then (clock_CheckExchange.j0 k (decide (a0_0 > a0_3)) a0_0 a0_1 a0_2 a0_3 a0_4 a0_5 a0_6 a0_7) else (clock_CheckExchange.j0 k true a0_0 a0_1 a0_2 a0_3 a0_4 a0_5 a0_6 a0_7))) else (clock_CheckExchange.j0 k true a0_0 a0_1 a0_2 a0_3 a0_4 a0_5 a0_6 a0_7)) = some r := H
    have A4 := Aside0.mk A40
    clear A40
    by_cases c5 : t164 = true
    · subst c5
      have H1 : ((clock_isTime.f a0_3).bind fun t165 => (if t165 = true then (clock_CheckExchange.j0 k (decide (a0_0 > a0_3)) a0_0 a0_1 a0_2 a0_3 a0_4 a0_5 a0_6 a0_7) else (clock_CheckExchange.j0 k true a0_0 a0_1 a0_2 a0_3 a0_4 a0_5 a0_6 a0_7))) = some r := by rw [if_pos rfl] at H; exact H
      clear H
      have H := H1
      clear H1
      replace H := Option.bind_eq_some_iff.mp H
      obtain ⟨t165, A60, H⟩ := H
      replace H : (if t165 = true then (clock_CheckExchange.j0 k (decide (a0_0 > a0_3)) a0_0 a0_1 a0_2 a0_3 a0_4 a0_5 a0_6 a0_7) else (clock_CheckExchange.j0 k true a0_0 a0_1 a0_2 a0_3 a0_4 a0_5 a0_6 a0_7)) = some r := H
      have A6 := Aside0.mk A60
      clear A60
      by_cases c7 : t165 = true
      · subst c7
        have H1 : (clock_CheckExchange.j0 k (decide (a0_0 > a0_3)) a0_0 a0_1 a0_2 a0_3 a0_4 a0_5 a0_6 a0_7) = some r := by rw [if_pos rfl] at H; exact H
        clear H
        have H := H1
        clear H1
        have H' := Aside0.mk H
        clear H
        have hcz8_0 : w3.cell? ⟨gb163, 0, none⟩ = some (.int .i64 a0_0) := (blk_cell BK163.out 0).trans rfl
        have hcz8_1 : w3.cell? ⟨gb163, 1, none⟩ = some (.int .i64 a0_1) := (blk_cell BK163.out 1).trans rfl
        have hcz8_2 : w3.cell? ⟨gb163, 2, none⟩ = some (.int .i64 a0_2) := (blk_cell BK163.out 2).trans rfl
        have hcz8_3 : w3.cell? ⟨gb163, 3, none⟩ = some (.int .i64 a0_3) := (blk_cell BK163.out 3).trans rfl
        have hcz8_4 : w3.cell? ⟨gb163, 4, none⟩ = some (.int .i64 a0_4) := (blk_cell BK163.out 4).trans rfl
        have hcz8_5 : w3.cell? ⟨gb163, 5, none⟩ = some (.int .i64 a0_5) := (blk_cell BK163.out 5).trans rfl
        have hcz8_6 : w3.cell? ⟨gb163, 6, none⟩ = some (.int .i64 a0_6) := (blk_cell BK163.out 6).trans rfl
        have hcz8_7 : w3.cell? ⟨gb163, 7, none⟩ = some (.int .i64 a0_7) := (blk_cell BK163.out 7).trans rfl
        have hfz8_0 := blk_frozen BK163.out 0
        have hfz8_1 := blk_frozen BK163.out 1
        have hfz8_2 := blk_frozen BK163.out 2
        have hfz8_3 := blk_frozen BK163.out 3
        have hfz8_4 := blk_frozen BK163.out 4
        have hfz8_5 := blk_frozen BK163.out 5
        have hfz8_6 := blk_frozen BK163.out 6
        have hfz8_7 := blk_frozen BK163.out 7
        go_wp2_with (first | ((with_reducible refine gate_callee (f := 71) rfl ?_); refine goesL_ (some 6) rfl rfl Try.func71 (by kernel_rfl) rfl #[.int .i64 a0_0] rfl (by (try simp only [List.map_toArray, List.map_cons, List.map_nil]); first | done | rfl | (simp only [List.length_drop, List.length_take]; rfl)) ?_; (with_reducible refine (clock_isTime.calls a0_0 true _ A4.out).mono ?_); rintro e w' ⟨rfl, ⟨nd, rfl⟩⟩; refine ⟨_, rfl, ?_⟩) | (go_at_call 71; (with_reducible refine (clock_isTime.calls a0_3 true _ A6.out).mono ?_); rintro e w' ⟨rfl, ⟨nd, rfl⟩⟩))
        go_meet
        case rel => exact ⟨_, (decide (a0_0 > a0_3)), (by first | rfl | (simp; done) | (simp [*]; done)), H', ⟨by first | omega | exact Nat.le_refl _⟩, ⟨by (with_reducible repeat (first | refine blk_drewN ?_ _ | refine blk_drew ?_ | refine blk_alloc ?_ _)); exact BK163.out⟩, ⟨by repeat (first | (with_reducible first | exact HB.out | apply below_alloc | apply pw_below_drewN | apply below_drew1 | refine below_set ?_ GE163.out) | exact HB.out)⟩⟩
      · replace c7 := Bool.eq_false_iff.mpr c7
        subst c7
        have H1 : (clock_CheckExchange.j0 k true a0_0 a0_1 a0_2 a0_3 a0_4 a0_5 a0_6 a0_7) = some r := by rw [if_neg (show ¬ (false = true) by decide)] at H; exact H
        clear H
        have H := H1
        clear H1
        have H' := Aside0.mk H
        clear H
        have hcz9_0 : w3.cell? ⟨gb163, 0, none⟩ = some (.int .i64 a0_0) := (blk_cell BK163.out 0).trans rfl
        have hcz9_1 : w3.cell? ⟨gb163, 1, none⟩ = some (.int .i64 a0_1) := (blk_cell BK163.out 1).trans rfl
        have hcz9_2 : w3.cell? ⟨gb163, 2, none⟩ = some (.int .i64 a0_2) := (blk_cell BK163.out 2).trans rfl
        have hcz9_3 : w3.cell? ⟨gb163, 3, none⟩ = some (.int .i64 a0_3) := (blk_cell BK163.out 3).trans rfl
        have hcz9_4 : w3.cell? ⟨gb163, 4, none⟩ = some (.int .i64 a0_4) := (blk_cell BK163.out 4).trans rfl
        have hcz9_5 : w3.cell? ⟨gb163, 5, none⟩ = some (.int .i64 a0_5) := (blk_cell BK163.out 5).trans rfl
        have hcz9_6 : w3.cell? ⟨gb163, 6, none⟩ = some (.int .i64 a0_6) := (blk_cell BK163.out 6).trans rfl
        have hcz9_7 : w3.cell? ⟨gb163, 7, none⟩ = some (.int .i64 a0_7) := (blk_cell BK163.out 7).trans rfl
        have hfz9_0 := blk_frozen BK163.out 0
        have hfz9_1 := blk_frozen BK163.out 1
        have hfz9_2 := blk_frozen BK163.out 2
        have hfz9_3 := blk_frozen BK163.out 3
        have hfz9_4 := blk_frozen BK163.out 4
        have hfz9_5 := blk_frozen BK163.out 5
        have hfz9_6 := blk_frozen BK163.out 6
        have hfz9_7 := blk_frozen BK163.out 7
        go_wp2_with (first | ((with_reducible refine gate_callee (f := 71) rfl ?_); refine goesL_ (some 6) rfl rfl Try.func71 (by kernel_rfl) rfl #[.int .i64 a0_0] rfl (by (try simp only [List.map_toArray, List.map_cons, List.map_nil]); first | done | rfl | (simp only [List.length_drop, List.length_take]; rfl)) ?_; (with_reducible refine (clock_isTime.calls a0_0 true _ A4.out).mono ?_); rintro e w' ⟨rfl, ⟨nd, rfl⟩⟩; refine ⟨_, rfl, ?_⟩) | (go_at_call 71; (with_reducible refine (clock_isTime.calls a0_3 false _ A6.out).mono ?_); rintro e w' ⟨rfl, ⟨nd, rfl⟩⟩))
        go_meet
        case rel => exact ⟨_, (true), (by first | rfl | (simp; done) | (simp [*]; done)), H', ⟨by first | omega | exact Nat.le_refl _⟩, ⟨by (with_reducible repeat (first | refine blk_drewN ?_ _ | refine blk_drew ?_ | refine blk_alloc ?_ _)); exact BK163.out⟩, ⟨by repeat (first | (with_reducible first | exact HB.out | apply below_alloc | apply pw_below_drewN | apply below_drew1 | refine below_set ?_ GE163.out) | exact HB.out)⟩⟩
    · replace c5 := Bool.eq_false_iff.mpr c5
      subst c5
      have H1 : (clock_CheckExchange.j0 k true a0_0 a0_1 a0_2 a0_3 a0_4 a0_5 a0_6 a0_7) = some r := by rw [if_neg (show ¬ (false = true) by decide)] at H; exact H
      clear H
      have H := H1
      clear H1
      have H' := Aside0.mk H
      clear H
      have hcz10_0 : w3.cell? ⟨gb163, 0, none⟩ = some (.int .i64 a0_0) := (blk_cell BK163.out 0).trans rfl
      have hcz10_1 : w3.cell? ⟨gb163, 1, none⟩ = some (.int .i64 a0_1) := (blk_cell BK163.out 1).trans rfl
      have hcz10_2 : w3.cell? ⟨gb163, 2, none⟩ = some (.int .i64 a0_2) := (blk_cell BK163.out 2).trans rfl
      have hcz10_3 : w3.cell? ⟨gb163, 3, none⟩ = some (.int .i64 a0_3) := (blk_cell BK163.out 3).trans rfl
      have hcz10_4 : w3.cell? ⟨gb163, 4, none⟩ = some (.int .i64 a0_4) := (blk_cell BK163.out 4).trans rfl
      have hcz10_5 : w3.cell? ⟨gb163, 5, none⟩ = some (.int .i64 a0_5) := (blk_cell BK163.out 5).trans rfl
      have hcz10_6 : w3.cell? ⟨gb163, 6, none⟩ = some (.int .i64 a0_6) := (blk_cell BK163.out 6).trans rfl
      have hcz10_7 : w3.cell? ⟨gb163, 7, none⟩ = some (.int .i64 a0_7) := (blk_cell BK163.out 7).trans rfl
      have hfz10_0 := blk_frozen BK163.out 0
      have hfz10_1 := blk_frozen BK163.out 1
      have hfz10_2 := blk_frozen BK163.out 2
      have hfz10_3 := blk_frozen BK163.out 3
      have hfz10_4 := blk_frozen BK163.out 4
      have hfz10_5 := blk_frozen BK163.out 5
      have hfz10_6 := blk_frozen BK163.out 6
      have hfz10_7 := blk_frozen BK163.out 7
      go_wp2_with (first | ((with_reducible refine gate_callee (f := 71) rfl ?_); refine goesL_ (some 6) rfl rfl Try.func71 (by kernel_rfl) rfl #[.int .i64 a0_0] rfl (by (try simp only [List.map_toArray, List.map_cons, List.map_nil]); first | done | rfl | (simp only [List.length_drop, List.length_take]; rfl)) ?_; (with_reducible refine (clock_isTime.calls a0_0 false _ A4.out).mono ?_); rintro e w' ⟨rfl, ⟨nd, rfl⟩⟩; refine ⟨_, rfl, ?_⟩))
      go_meet
      case rel => exact ⟨_, (true), (by first | rfl | (simp; done) | (simp [*]; done)), H', ⟨by first | omega | exact Nat.le_refl _⟩, ⟨by (with_reducible repeat (first | refine blk_drewN ?_ _ | refine blk_drew ?_ | refine blk_alloc ?_ _)); exact BK163.out⟩, ⟨by repeat (first | (with_reducible first | exact HB.out | apply below_alloc | apply pw_below_drewN | apply below_drew1 | refine below_set ?_ GE163.out) | exact HB.out)⟩⟩
  case rest =>
    clear HC2
    try clear p2
    try clear c3
    try clear c5
    try clear c7
    try clear hcz10_0
    try clear hcz10_1
    try clear hcz10_2
    try clear hcz10_3
    try clear hcz10_4
    try clear hcz10_5
    try clear hcz10_6
    try clear hcz10_7
    try clear hcz8_0
    try clear hcz8_1
    try clear hcz8_2
    try clear hcz8_3
    try clear hcz8_4
    try clear hcz8_5
    try clear hcz8_6
    try clear hcz8_7
    try clear hcz9_0
    try clear hcz9_1
    try clear hcz9_2
    try clear hcz9_3
    try clear hcz9_4
    try clear hcz9_5
    try clear hcz9_6
    try clear hcz9_7
    try clear hfz10_0
    try clear hfz10_1
    try clear hfz10_2
    try clear hfz10_3
    try clear hfz10_4
    try clear hfz10_5
    try clear hfz10_6
    try clear hfz10_7
    try clear hfz8_0
    try clear hfz8_1
    try clear hfz8_2
    try clear hfz8_3
    try clear hfz8_4
    try clear hfz8_5
    try clear hfz8_6
    try clear hfz8_7
    try clear hfz9_0
    try clear hfz9_1
    try clear hfz9_2
    try clear hfz9_3
    try clear hfz9_4
    try clear hfz9_5
    try clear hfz9_6
    try clear hfz9_7
    obtain ⟨kq, x3_1, rfl, HA, HJ1, BK163, HB⟩ := hcut
    cases kq with
    | zero => exact absurd HA.out (by simp [clock_CheckExchange.j0])
    | succ kj1 =>
      have H := HA.out
      clear HA
      simp only [clock_CheckExchange.j0] at H
      by_cases c11 : x3_1 = true
      · subst c11
        have H1 : (some 2) = some r := by rw [if_pos rfl] at H; exact H
        clear H
        have H := H1
        clear H1
        obtain rfl := Option.some.inj H
        go_wp2
        go_ret
        exact ⟨by first | rfl | (simp [errW_none, errW_some] <;> rfl) | (simp [*, errW_none, errW_some] <;> rfl), by repeat (first | (with_reducible first | exact HB.out | apply below_alloc | apply pw_below_drewN | apply below_drew1 | refine below_set ?_ GE163.out) | exact HB.out)⟩
      · replace c11 := Bool.eq_false_iff.mpr c11
        subst c11
        have H1 : ((clock_isTime.f a0_1).bind fun t166 => (if t166 = true then ((clock_isTime.f a0_2).bind fun t167 => (if t167 = true then (clock_CheckExchange.j1 kj1 (decide (a0_1 > a0_2)) a0_0 a0_1 a0_2 a0_3 a0_4 a0_5 a0_6 a0_7) else (clock_CheckExchange.j1 kj1 true a0_0 a0_1 a0_2 a0_3 a0_4 a0_5 a0_6 a0_7))) else (clock_CheckExchange.j1 kj1 true a0_0 a0_1 a0_2 a0_3 a0_4 a0_5 a0_6 a0_7))) = some r := by rw [if_neg (show ¬ (false = true) by decide)] at H; exact H
        clear H
        have H := H1
        clear H1
        have HC12 := Aside0.mk H
        clear H
        go_upto_region 3 with (fail)
        go_cut [21] (fun v21 wc => ∃ (kq : Nat) (x21_11 : Bool), v21 = .bool x21_11 ∧ Aside0 (clock_CheckExchange.j1 kq x21_11 a0_0 a0_1 a0_2 a0_3 a0_4 a0_5 a0_6 a0_7 = some r) ∧ Aside0 (kq ≤ kj1) ∧ Aside0 (wc.heap[gb163]? = some (.cells #[.int .i64 a0_0, .int .i64 a0_1, .int .i64 a0_2, .int .i64 a0_3, .int .i64 a0_4, .int .i64 a0_5, .int .i64 a0_6, .int .i64 a0_7] 46 (0, 0))) ∧ Aside0 (Below w.heap.size w wc))
        case first =>
          have H := HC12.out
          clear HC12
          replace H := Option.bind_eq_some_iff.mp H
          obtain ⟨t166, A130, H⟩ := H
          replace H : (if t166 = true then ((clock_isTime.f a0_2).bind fun t167 => (if t167 = true then (clock_CheckExchange.j1 kj1 (decide (a0_1 > a0_2)) a0_0 a0_1 a0_2 a0_3 a0_4 a0_5 a0_6 a0_7) else (clock_CheckExchange.j1 kj1 true a0_0 a0_1 a0_2 a0_3 a0_4 a0_5 a0_6 a0_7))) else (clock_CheckExchange.j1 kj1 true a0_0 a0_1 a0_2 a0_3 a0_4 a0_5 a0_6 a0_7)) = some r := H
          have A13 := Aside0.mk A130
          clear A130
          by_cases c14 : t166 = true
          · subst c14
            have H1 : ((clock_isTime.f a0_2).bind fun t167 => (if t167 = true then (clock_CheckExchange.j1 kj1 (decide (a0_1 > a0_2)) a0_0 a0_1 a0_2 a0_3 a0_4 a0_5 a0_6 a0_7) else (clock_CheckExchange.j1 kj1 true a0_0 a0_1 a0_2 a0_3 a0_4 a0_5 a0_6 a0_7))) = some r := by rw [if_pos rfl] at H; exact H
            clear H
            have H := H1
            clear H1
            replace H := Option.bind_eq_some_iff.mp H
            obtain ⟨t167, A150, H⟩ := H
            replace H : (if t167 = true then (clock_CheckExchange.j1 kj1 (decide (a0_1 > a0_2)) a0_0 a0_1 a0_2 a0_3 a0_4 a0_5 a0_6 a0_7) else (clock_CheckExchange.j1 kj1 true a0_0 a0_1 a0_2 a0_3 a0_4 a0_5 a0_6 a0_7)) = some r := H
            have A15 := Aside0.mk A150
            clear A150
            by_cases c16 : t167 = true
            · subst c16
              have H1 : (clock_CheckExchange.j1 kj1 (decide (a0_1 > a0_2)) a0_0 a0_1 a0_2 a0_3 a0_4 a0_5 a0_6 a0_7) = some r := by rw [if_pos rfl] at H; exact H
              clear H
              have H := H1
              clear H1
              have H' := Aside0.mk H
              clear H
              have hcz17_0 : wc.cell? ⟨gb163, 0, none⟩ = some (.int .i64 a0_0) := (blk_cell BK163.out 0).trans rfl
              have hcz17_1 : wc.cell? ⟨gb163, 1, none⟩ = some (.int .i64 a0_1) := (blk_cell BK163.out 1).trans rfl
              have hcz17_2 : wc.cell? ⟨gb163, 2, none⟩ = some (.int .i64 a0_2) := (blk_cell BK163.out 2).trans rfl
              have hcz17_3 : wc.cell? ⟨gb163, 3, none⟩ = some (.int .i64 a0_3) := (blk_cell BK163.out 3).trans rfl
              have hcz17_4 : wc.cell? ⟨gb163, 4, none⟩ = some (.int .i64 a0_4) := (blk_cell BK163.out 4).trans rfl
              have hcz17_5 : wc.cell? ⟨gb163, 5, none⟩ = some (.int .i64 a0_5) := (blk_cell BK163.out 5).trans rfl
              have hcz17_6 : wc.cell? ⟨gb163, 6, none⟩ = some (.int .i64 a0_6) := (blk_cell BK163.out 6).trans rfl
              have hcz17_7 : wc.cell? ⟨gb163, 7, none⟩ = some (.int .i64 a0_7) := (blk_cell BK163.out 7).trans rfl
              have hfz17_0 := blk_frozen BK163.out 0
              have hfz17_1 := blk_frozen BK163.out 1
              have hfz17_2 := blk_frozen BK163.out 2
              have hfz17_3 := blk_frozen BK163.out 3
              have hfz17_4 := blk_frozen BK163.out 4
              have hfz17_5 := blk_frozen BK163.out 5
              have hfz17_6 := blk_frozen BK163.out 6
              have hfz17_7 := blk_frozen BK163.out 7
              go_wp2_with (first | ((with_reducible refine gate_callee (f := 71) rfl ?_); refine goesL_ (some 24) rfl rfl Try.func71 (by kernel_rfl) rfl #[.int .i64 a0_1] rfl (by (try simp only [List.map_toArray, List.map_cons, List.map_nil]); first | done | rfl | (simp only [List.length_drop, List.length_take]; rfl)) ?_; (with_reducible refine (clock_isTime.calls a0_1 true _ A13.out).mono ?_); rintro e w' ⟨rfl, ⟨nd, rfl⟩⟩; refine ⟨_, rfl, ?_⟩) | (go_at_call 71; (with_reducible refine (clock_isTime.calls a0_2 true _ A15.out).mono ?_); rintro e w' ⟨rfl, ⟨nd, rfl⟩⟩))
              go_meet
              case rel => exact ⟨_, (decide (a0_1 > a0_2)), (by first | rfl | (simp; done) | (simp [*]; done)), H', ⟨by have := HJ1.out; first | omega | exact Nat.le_refl _⟩, ⟨by (with_reducible repeat (first | refine blk_drewN ?_ _ | refine blk_drew ?_ | refine blk_alloc ?_ _)); exact BK163.out⟩, ⟨by repeat (first | (with_reducible first | exact HB.out | apply below_alloc | apply pw_below_drewN | apply below_drew1 | refine below_set ?_ GE163.out) | exact HB.out)⟩⟩
            · replace c16 := Bool.eq_false_iff.mpr c16
              subst c16
              have H1 : (clock_CheckExchange.j1 kj1 true a0_0 a0_1 a0_2 a0_3 a0_4 a0_5 a0_6 a0_7) = some r := by rw [if_neg (show ¬ (false = true) by decide)] at H; exact H
              clear H
              have H := H1
              clear H1
              have H' := Aside0.mk H
              clear H
              have hcz18_0 : wc.cell? ⟨gb163, 0, none⟩ = some (.int .i64 a0_0) := (blk_cell BK163.out 0).trans rfl
              have hcz18_1 : wc.cell? ⟨gb163, 1, none⟩ = some (.int .i64 a0_1) := (blk_cell BK163.out 1).trans rfl
              have hcz18_2 : wc.cell? ⟨gb163, 2, none⟩ = some (.int .i64 a0_2) := (blk_cell BK163.out 2).trans rfl
              have hcz18_3 : wc.cell? ⟨gb163, 3, none⟩ = some (.int .i64 a0_3) := (blk_cell BK163.out 3).trans rfl
              have hcz18_4 : wc.cell? ⟨gb163, 4, none⟩ = some (.int .i64 a0_4) := (blk_cell BK163.out 4).trans rfl
              have hcz18_5 : wc.cell? ⟨gb163, 5, none⟩ = some (.int .i64 a0_5) := (blk_cell BK163.out 5).trans rfl
              have hcz18_6 : wc.cell? ⟨gb163, 6, none⟩ = some (.int .i64 a0_6) := (blk_cell BK163.out 6).trans rfl
              have hcz18_7 : wc.cell? ⟨gb163, 7, none⟩ = some (.int .i64 a0_7) := (blk_cell BK163.out 7).trans rfl
              have hfz18_0 := blk_frozen BK163.out 0
              have hfz18_1 := blk_frozen BK163.out 1
              have hfz18_2 := blk_frozen BK163.out 2
              have hfz18_3 := blk_frozen BK163.out 3
              have hfz18_4 := blk_frozen BK163.out 4
              have hfz18_5 := blk_frozen BK163.out 5
              have hfz18_6 := blk_frozen BK163.out 6
              have hfz18_7 := blk_frozen BK163.out 7
              go_wp2_with (first | ((with_reducible refine gate_callee (f := 71) rfl ?_); refine goesL_ (some 24) rfl rfl Try.func71 (by kernel_rfl) rfl #[.int .i64 a0_1] rfl (by (try simp only [List.map_toArray, List.map_cons, List.map_nil]); first | done | rfl | (simp only [List.length_drop, List.length_take]; rfl)) ?_; (with_reducible refine (clock_isTime.calls a0_1 true _ A13.out).mono ?_); rintro e w' ⟨rfl, ⟨nd, rfl⟩⟩; refine ⟨_, rfl, ?_⟩) | (go_at_call 71; (with_reducible refine (clock_isTime.calls a0_2 false _ A15.out).mono ?_); rintro e w' ⟨rfl, ⟨nd, rfl⟩⟩))
              go_meet
              case rel => exact ⟨_, (true), (by first | rfl | (simp; done) | (simp [*]; done)), H', ⟨by have := HJ1.out; first | omega | exact Nat.le_refl _⟩, ⟨by (with_reducible repeat (first | refine blk_drewN ?_ _ | refine blk_drew ?_ | refine blk_alloc ?_ _)); exact BK163.out⟩, ⟨by repeat (first | (with_reducible first | exact HB.out | apply below_alloc | apply pw_below_drewN | apply below_drew1 | refine below_set ?_ GE163.out) | exact HB.out)⟩⟩
          · replace c14 := Bool.eq_false_iff.mpr c14
            subst c14
            have H1 : (clock_CheckExchange.j1 kj1 true a0_0 a0_1 a0_2 a0_3 a0_4 a0_5 a0_6 a0_7) = some r := by rw [if_neg (show ¬ (false = true) by decide)] at H; exact H
            clear H
            have H := H1
            clear H1
            have H' := Aside0.mk H
            clear H
            have hcz19_0 : wc.cell? ⟨gb163, 0, none⟩ = some (.int .i64 a0_0) := (blk_cell BK163.out 0).trans rfl
            have hcz19_1 : wc.cell? ⟨gb163, 1, none⟩ = some (.int .i64 a0_1) := (blk_cell BK163.out 1).trans rfl
            have hcz19_2 : wc.cell? ⟨gb163, 2, none⟩ = some (.int .i64 a0_2) := (blk_cell BK163.out 2).trans rfl
            have hcz19_3 : wc.cell? ⟨gb163, 3, none⟩ = some (.int .i64 a0_3) := (blk_cell BK163.out 3).trans rfl
            have hcz19_4 : wc.cell? ⟨gb163, 4, none⟩ = some (.int .i64 a0_4) := (blk_cell BK163.out 4).trans rfl
            have hcz19_5 : wc.cell? ⟨gb163, 5, none⟩ = some (.int .i64 a0_5) := (blk_cell BK163.out 5).trans rfl
            have hcz19_6 : wc.cell? ⟨gb163, 6, none⟩ = some (.int .i64 a0_6) := (blk_cell BK163.out 6).trans rfl
            have hcz19_7 : wc.cell? ⟨gb163, 7, none⟩ = some (.int .i64 a0_7) := (blk_cell BK163.out 7).trans rfl
            have hfz19_0 := blk_frozen BK163.out 0
            have hfz19_1 := blk_frozen BK163.out 1
            have hfz19_2 := blk_frozen BK163.out 2
            have hfz19_3 := blk_frozen BK163.out 3
            have hfz19_4 := blk_frozen BK163.out 4
            have hfz19_5 := blk_frozen BK163.out 5
            have hfz19_6 := blk_frozen BK163.out 6
            have hfz19_7 := blk_frozen BK163.out 7
            go_wp2_with (first | ((with_reducible refine gate_callee (f := 71) rfl ?_); refine goesL_ (some 24) rfl rfl Try.func71 (by kernel_rfl) rfl #[.int .i64 a0_1] rfl (by (try simp only [List.map_toArray, List.map_cons, List.map_nil]); first | done | rfl | (simp only [List.length_drop, List.length_take]; rfl)) ?_; (with_reducible refine (clock_isTime.calls a0_1 false _ A13.out).mono ?_); rintro e w' ⟨rfl, ⟨nd, rfl⟩⟩; refine ⟨_, rfl, ?_⟩))
            go_meet
            case rel => exact ⟨_, (true), (by first | rfl | (simp; done) | (simp [*]; done)), H', ⟨by have := HJ1.out; first | omega | exact Nat.le_refl _⟩, ⟨by (with_reducible repeat (first | refine blk_drewN ?_ _ | refine blk_drew ?_ | refine blk_alloc ?_ _)); exact BK163.out⟩, ⟨by repeat (first | (with_reducible first | exact HB.out | apply below_alloc | apply pw_below_drewN | apply below_drew1 | refine below_set ?_ GE163.out) | exact HB.out)⟩⟩
        case rest =>
          clear HC12
          try clear c1
          try clear p2
          try clear c3
          try clear c5
          try clear c7
          try clear c11
          try clear c14
          try clear c16
          try clear hcz10_0
          try clear hcz10_1
          try clear hcz10_2
          try clear hcz10_3
          try clear hcz10_4
          try clear hcz10_5
          try clear hcz10_6
          try clear hcz10_7
          try clear hcz17_0
          try clear hcz17_1
          try clear hcz17_2
          try clear hcz17_3
          try clear hcz17_4
          try clear hcz17_5
          try clear hcz17_6
          try clear hcz17_7
          try clear hcz18_0
          try clear hcz18_1
          try clear hcz18_2
          try clear hcz18_3
          try clear hcz18_4
          try clear hcz18_5
          try clear hcz18_6
          try clear hcz18_7
          try clear hcz19_0
          try clear hcz19_1
          try clear hcz19_2
          try clear hcz19_3
          try clear hcz19_4
          try clear hcz19_5
          try clear hcz19_6
          try clear hcz19_7
          try clear hcz8_0
          try clear hcz8_1
          try clear hcz8_2
          try clear hcz8_3
          try clear hcz8_4
          try clear hcz8_5
          try clear hcz8_6
          try clear hcz8_7
          try clear hcz9_0
          try clear hcz9_1
          try clear hcz9_2
          try clear hcz9_3
          try clear hcz9_4
          try clear hcz9_5
          try clear hcz9_6
          try clear hcz9_7
          try clear hfz10_0
          try clear hfz10_1
          try clear hfz10_2
          try clear hfz10_3
          try clear hfz10_4
          try clear hfz10_5
          try clear hfz10_6
          try clear hfz10_7
          try clear hfz17_0
          try clear hfz17_1
          try clear hfz17_2
          try clear hfz17_3
          try clear hfz17_4
          try clear hfz17_5
          try clear hfz17_6
          try clear hfz17_7
          try clear hfz18_0
          try clear hfz18_1
          try clear hfz18_2
          try clear hfz18_3
          try clear hfz18_4
          try clear hfz18_5
          try clear hfz18_6
          try clear hfz18_7
          try clear hfz19_0
          try clear hfz19_1
          try clear hfz19_2
          try clear hfz19_3
          try clear hfz19_4
          try clear hfz19_5
          try clear hfz19_6
          try clear hfz19_7
          try clear hfz8_0
          try clear hfz8_1
          try clear hfz8_2
          try clear hfz8_3
          try clear hfz8_4
          try clear hfz8_5
          try clear hfz8_6
          try clear hfz8_7
          try clear hfz9_0
          try clear hfz9_1
          try clear hfz9_2
          try clear hfz9_3
          try clear hfz9_4
          try clear hfz9_5
          try clear hfz9_6
          try clear hfz9_7
          try clear p2
          obtain ⟨kq, x21_11, rfl, HA, HJ11, BK163, HB⟩ := hcut
          cases kq with
          | zero => exact absurd HA.out (by simp [clock_CheckExchange.j1])
          | succ kj11 =>
            have H := HA.out
            clear HA
            simp only [clock_CheckExchange.j1] at H
            by_cases c20 : x21_11 = true
            · subst c20
              have H1 : (some 2) = some r := by rw [if_pos rfl] at H; exact H
              clear H
              have H := H1
              clear H1
              obtain rfl := Option.some.inj H
              go_wp2
              go_ret
              exact ⟨by first | rfl | (simp [errW_none, errW_some] <;> rfl) | (simp [*, errW_none, errW_some] <;> rfl), by repeat (first | (with_reducible first | exact HB.out | apply below_alloc | apply pw_below_drewN | apply below_drew1 | refine below_set ?_ GE163.out) | exact HB.out)⟩
            · replace c20 := Bool.eq_false_iff.mpr c20
              subst c20
              have H1 : ((bound_Check.f kj11 a0_4 a0_5).bind fun t168 => (if t168 = 0 then ((bound_Check.f kj11 a0_6 a0_7).bind fun t169 => (if t169 = 0 then (if a0_4 < 0 then (some 2) else (if a0_6 < 0 then (some 2) else (some 0))) else (some 2))) else (some 2))) = some r := by rw [if_neg (show ¬ (false = true) by decide)] at H; exact H
              clear H
              have H := H1
              clear H1
              replace H := Option.bind_eq_some_iff.mp H
              obtain ⟨t168, A210, H⟩ := H
              replace H : (if t168 = 0 then ((bound_Check.f kj11 a0_6 a0_7).bind fun t169 => (if t169 = 0 then (if a0_4 < 0 then (some 2) else (if a0_6 < 0 then (some 2) else (some 0))) else (some 2))) else (some 2)) = some r := H
              have A21 := Aside0.mk A210
              clear A210
              by_cases c22 : t168 = 0
              · rw [if_pos c22] at H
                have c22b0 : (t168 == 0) = true := beq_iff_eq.mpr c22
                have c22b1 : (t168 != 0) = false := bne_eq_false_iff_eq.mpr c22
                clear c22
                replace H := Option.bind_eq_some_iff.mp H
                obtain ⟨t169, A230, H⟩ := H
                replace H : (if t169 = 0 then (if a0_4 < 0 then (some 2) else (if a0_6 < 0 then (some 2) else (some 0))) else (some 2)) = some r := H
                have A23 := Aside0.mk A230
                clear A230
                by_cases c24 : t169 = 0
                · rw [if_pos c24] at H
                  have c24b0 : (t169 == 0) = true := beq_iff_eq.mpr c24
                  have c24b1 : (t169 != 0) = false := bne_eq_false_iff_eq.mpr c24
                  clear c24
                  by_cases c25 : a0_4 < 0
                  · rw [if_pos c25] at H
                    have c25b0 : decide (a0_4 < 0) = true := decide_eq_true c25
                    clear c25
                    obtain rfl := Option.some.inj H
                    have hcz26_0 : wc.cell? ⟨gb163, 0, none⟩ = some (.int .i64 a0_0) := (blk_cell BK163.out 0).trans rfl
                    have hcz26_1 : wc.cell? ⟨gb163, 1, none⟩ = some (.int .i64 a0_1) := (blk_cell BK163.out 1).trans rfl
                    have hcz26_2 : wc.cell? ⟨gb163, 2, none⟩ = some (.int .i64 a0_2) := (blk_cell BK163.out 2).trans rfl
                    have hcz26_3 : wc.cell? ⟨gb163, 3, none⟩ = some (.int .i64 a0_3) := (blk_cell BK163.out 3).trans rfl
                    have hcz26_4 : wc.cell? ⟨gb163, 4, none⟩ = some (.int .i64 a0_4) := (blk_cell BK163.out 4).trans rfl
                    have hcz26_5 : wc.cell? ⟨gb163, 5, none⟩ = some (.int .i64 a0_5) := (blk_cell BK163.out 5).trans rfl
                    have hcz26_6 : wc.cell? ⟨gb163, 6, none⟩ = some (.int .i64 a0_6) := (blk_cell BK163.out 6).trans rfl
                    have hcz26_7 : wc.cell? ⟨gb163, 7, none⟩ = some (.int .i64 a0_7) := (blk_cell BK163.out 7).trans rfl
                    have hfz26_0 := blk_frozen BK163.out 0
                    have hfz26_1 := blk_frozen BK163.out 1
                    have hfz26_2 := blk_frozen BK163.out 2
                    have hfz26_3 := blk_frozen BK163.out 3
                    have hfz26_4 := blk_frozen BK163.out 4
                    have hfz26_5 := blk_frozen BK163.out 5
                    have hfz26_6 := blk_frozen BK163.out 6
                    have hfz26_7 := blk_frozen BK163.out 7
                    go_wp2_with (first | ((with_reducible refine gate_callee (f := 72) rfl ?_); refine goesL_ (some 42) rfl rfl Try.func72 (by kernel_rfl) rfl #[.agg #[.int .i64 a0_4, .int .i64 a0_5]] rfl (by (try simp only [List.map_toArray, List.map_cons, List.map_nil]); first | done | rfl | (simp only [List.length_drop, List.length_take]; rfl)) ?_; (with_reducible refine (bound_Check.calls kj11 a0_4 a0_5 t168 _ A21.out).mono ?_); rintro e w27 ⟨rfl, hb⟩; refine ⟨_, rfl, ?_⟩; have n0_ := Aside0.mk (blk_below (g := gb163) (o := .cells #[.int .i64 a0_0, .int .i64 a0_1, .int .i64 a0_2, .int .i64 a0_3, .int .i64 a0_4, .int .i64 a0_5, .int .i64 a0_6, .int .i64 a0_7] 46 (0, 0)) (by (with_reducible repeat (first | refine blk_drewN ?_ _ | refine blk_drew ?_ | refine blk_alloc ?_ _)); exact BK163.out) hb); have n1_ := Aside0.mk (below_step (by repeat (first | (with_reducible first | exact HB.out | apply below_alloc | apply pw_below_drewN | apply below_drew1 | refine below_set ?_ GE163.out) | exact HB.out)) hb); clear BK163; clear HB; have BK163 := n0_; have HB := n1_; clear n0_ n1_; (try clear hb); (try clear hb2); (try clear hk); (try clear hi); have hcz28_0 : w27.cell? ⟨gb163, 0, none⟩ = some (.int .i64 a0_0) := (blk_cell BK163.out 0).trans rfl; have hcz28_1 : w27.cell? ⟨gb163, 1, none⟩ = some (.int .i64 a0_1) := (blk_cell BK163.out 1).trans rfl; have hcz28_2 : w27.cell? ⟨gb163, 2, none⟩ = some (.int .i64 a0_2) := (blk_cell BK163.out 2).trans rfl; have hcz28_3 : w27.cell? ⟨gb163, 3, none⟩ = some (.int .i64 a0_3) := (blk_cell BK163.out 3).trans rfl; have hcz28_4 : w27.cell? ⟨gb163, 4, none⟩ = some (.int .i64 a0_4) := (blk_cell BK163.out 4).trans rfl; have hcz28_5 : w27.cell? ⟨gb163, 5, none⟩ = some (.int .i64 a0_5) := (blk_cell BK163.out 5).trans rfl; have hcz28_6 : w27.cell? ⟨gb163, 6, none⟩ = some (.int .i64 a0_6) := (blk_cell BK163.out 6).trans rfl; have hcz28_7 : w27.cell? ⟨gb163, 7, none⟩ = some (.int .i64 a0_7) := (blk_cell BK163.out 7).trans rfl; have hfz28_0 := blk_frozen BK163.out 0; have hfz28_1 := blk_frozen BK163.out 1; have hfz28_2 := blk_frozen BK163.out 2; have hfz28_3 := blk_frozen BK163.out 3; have hfz28_4 := blk_frozen BK163.out 4; have hfz28_5 := blk_frozen BK163.out 5; have hfz28_6 := blk_frozen BK163.out 6; have hfz28_7 := blk_frozen BK163.out 7) | (go_at_call 72; (with_reducible refine (bound_Check.calls kj11 a0_6 a0_7 t169 _ A23.out).mono ?_); rintro e w29 ⟨rfl, hb⟩; have n0_ := Aside0.mk (blk_below (g := gb163) (o := .cells #[.int .i64 a0_0, .int .i64 a0_1, .int .i64 a0_2, .int .i64 a0_3, .int .i64 a0_4, .int .i64 a0_5, .int .i64 a0_6, .int .i64 a0_7] 46 (0, 0)) (by (with_reducible repeat (first | refine blk_drewN ?_ _ | refine blk_drew ?_ | refine blk_alloc ?_ _)); exact BK163.out) hb); have n1_ := Aside0.mk (below_step (by repeat (first | (with_reducible first | exact HB.out | apply below_alloc | apply pw_below_drewN | apply below_drew1 | refine below_set ?_ GE163.out) | exact HB.out)) hb); clear BK163; clear HB; have BK163 := n0_; have HB := n1_; clear n0_ n1_; (try clear hb); (try clear hb2); (try clear hk); (try clear hi); have hcz30_0 : w29.cell? ⟨gb163, 0, none⟩ = some (.int .i64 a0_0) := (blk_cell BK163.out 0).trans rfl; have hcz30_1 : w29.cell? ⟨gb163, 1, none⟩ = some (.int .i64 a0_1) := (blk_cell BK163.out 1).trans rfl; have hcz30_2 : w29.cell? ⟨gb163, 2, none⟩ = some (.int .i64 a0_2) := (blk_cell BK163.out 2).trans rfl; have hcz30_3 : w29.cell? ⟨gb163, 3, none⟩ = some (.int .i64 a0_3) := (blk_cell BK163.out 3).trans rfl; have hcz30_4 : w29.cell? ⟨gb163, 4, none⟩ = some (.int .i64 a0_4) := (blk_cell BK163.out 4).trans rfl; have hcz30_5 : w29.cell? ⟨gb163, 5, none⟩ = some (.int .i64 a0_5) := (blk_cell BK163.out 5).trans rfl; have hcz30_6 : w29.cell? ⟨gb163, 6, none⟩ = some (.int .i64 a0_6) := (blk_cell BK163.out 6).trans rfl; have hcz30_7 : w29.cell? ⟨gb163, 7, none⟩ = some (.int .i64 a0_7) := (blk_cell BK163.out 7).trans rfl; have hfz30_0 := blk_frozen BK163.out 0; have hfz30_1 := blk_frozen BK163.out 1; have hfz30_2 := blk_frozen BK163.out 2; have hfz30_3 := blk_frozen BK163.out 3; have hfz30_4 := blk_frozen BK163.out 4; have hfz30_5 := blk_frozen BK163.out 5; have hfz30_6 := blk_frozen BK163.out 6; have hfz30_7 := blk_frozen BK163.out 7))
                    go_ret
                    exact ⟨by first | rfl | (simp [errW_none, errW_some] <;> rfl) | (simp [*, errW_none, errW_some] <;> rfl), by repeat (first | (with_reducible first | exact HB.out | apply below_alloc | apply pw_below_drewN | apply below_drew1 | refine below_set ?_ GE163.out) | exact HB.out)⟩
                  · rw [if_neg c25] at H
                    have c25b0 : decide (a0_4 < 0) = false := decide_eq_false c25
                    clear c25
                    by_cases c31 : a0_6 < 0
                    · rw [if_pos c31] at H
                      have c31b0 : decide (a0_6 < 0) = true := decide_eq_true c31
                      clear c31
                      obtain rfl := Option.some.inj H
                      have hcz32_0 : wc.cell? ⟨gb163, 0, none⟩ = some (.int .i64 a0_0) := (blk_cell BK163.out 0).trans rfl
                      have hcz32_1 : wc.cell? ⟨gb163, 1, none⟩ = some (.int .i64 a0_1) := (blk_cell BK163.out 1).trans rfl
                      have hcz32_2 : wc.cell? ⟨gb163, 2, none⟩ = some (.int .i64 a0_2) := (blk_cell BK163.out 2).trans rfl
                      have hcz32_3 : wc.cell? ⟨gb163, 3, none⟩ = some (.int .i64 a0_3) := (blk_cell BK163.out 3).trans rfl
                      have hcz32_4 : wc.cell? ⟨gb163, 4, none⟩ = some (.int .i64 a0_4) := (blk_cell BK163.out 4).trans rfl
                      have hcz32_5 : wc.cell? ⟨gb163, 5, none⟩ = some (.int .i64 a0_5) := (blk_cell BK163.out 5).trans rfl
                      have hcz32_6 : wc.cell? ⟨gb163, 6, none⟩ = some (.int .i64 a0_6) := (blk_cell BK163.out 6).trans rfl
                      have hcz32_7 : wc.cell? ⟨gb163, 7, none⟩ = some (.int .i64 a0_7) := (blk_cell BK163.out 7).trans rfl
                      have hfz32_0 := blk_frozen BK163.out 0
                      have hfz32_1 := blk_frozen BK163.out 1
                      have hfz32_2 := blk_frozen BK163.out 2
                      have hfz32_3 := blk_frozen BK163.out 3
                      have hfz32_4 := blk_frozen BK163.out 4
                      have hfz32_5 := blk_frozen BK163.out 5
                      have hfz32_6 := blk_frozen BK163.out 6
                      have hfz32_7 := blk_frozen BK163.out 7
                      go_wp2_with (first | ((with_reducible refine gate_callee (f := 72) rfl ?_); refine goesL_ (some 42) rfl rfl Try.func72 (by kernel_rfl) rfl #[.agg #[.int .i64 a0_4, .int .i64 a0_5]] rfl (by (try simp only [List.map_toArray, List.map_cons, List.map_nil]); first | done | rfl | (simp only [List.length_drop, List.length_take]; rfl)) ?_; (with_reducible refine (bound_Check.calls kj11 a0_4 a0_5 t168 _ A21.out).mono ?_); rintro e w33 ⟨rfl, hb⟩; refine ⟨_, rfl, ?_⟩; have n0_ := Aside0.mk (blk_below (g := gb163) (o := .cells #[.int .i64 a0_0, .int .i64 a0_1, .int .i64 a0_2, .int .i64 a0_3, .int .i64 a0_4, .int .i64 a0_5, .int .i64 a0_6, .int .i64 a0_7] 46 (0, 0)) (by (with_reducible repeat (first | refine blk_drewN ?_ _ | refine blk_drew ?_ | refine blk_alloc ?_ _)); exact BK163.out) hb); have n1_ := Aside0.mk (below_step (by repeat (first | (with_reducible first | exact HB.out | apply below_alloc | apply pw_below_drewN | apply below_drew1 | refine below_set ?_ GE163.out) | exact HB.out)) hb); clear BK163; clear HB; have BK163 := n0_; have HB := n1_; clear n0_ n1_; (try clear hb); (try clear hb2); (try clear hk); (try clear hi); have hcz34_0 : w33.cell? ⟨gb163, 0, none⟩ = some (.int .i64 a0_0) := (blk_cell BK163.out 0).trans rfl; have hcz34_1 : w33.cell? ⟨gb163, 1, none⟩ = some (.int .i64 a0_1) := (blk_cell BK163.out 1).trans rfl; have hcz34_2 : w33.cell? ⟨gb163, 2, none⟩ = some (.int .i64 a0_2) := (blk_cell BK163.out 2).trans rfl; have hcz34_3 : w33.cell? ⟨gb163, 3, none⟩ = some (.int .i64 a0_3) := (blk_cell BK163.out 3).trans rfl; have hcz34_4 : w33.cell? ⟨gb163, 4, none⟩ = some (.int .i64 a0_4) := (blk_cell BK163.out 4).trans rfl; have hcz34_5 : w33.cell? ⟨gb163, 5, none⟩ = some (.int .i64 a0_5) := (blk_cell BK163.out 5).trans rfl; have hcz34_6 : w33.cell? ⟨gb163, 6, none⟩ = some (.int .i64 a0_6) := (blk_cell BK163.out 6).trans rfl; have hcz34_7 : w33.cell? ⟨gb163, 7, none⟩ = some (.int .i64 a0_7) := (blk_cell BK163.out 7).trans rfl; have hfz34_0 := blk_frozen BK163.out 0; have hfz34_1 := blk_frozen BK163.out 1; have hfz34_2 := blk_frozen BK163.out 2; have hfz34_3 := blk_frozen BK163.out 3; have hfz34_4 := blk_frozen BK163.out 4; have hfz34_5 := blk_frozen BK163.out 5; have hfz34_6 := blk_frozen BK163.out 6; have hfz34_7 := blk_frozen BK163.out 7) | (go_at_call 72; (with_reducible refine (bound_Check.calls kj11 a0_6 a0_7 t169 _ A23.out).mono ?_); rintro e w35 ⟨rfl, hb⟩; have n0_ := Aside0.mk (blk_below (g := gb163) (o := .cells #[.int .i64 a0_0, .int .i64 a0_1, .int .i64 a0_2, .int .i64 a0_3, .int .i64 a0_4, .int .i64 a0_5, .int .i64 a0_6, .int .i64 a0_7] 46 (0, 0)) (by (with_reducible repeat (first | refine blk_drewN ?_ _ | refine blk_drew ?_ | refine blk_alloc ?_ _)); exact BK163.out) hb); have n1_ := Aside0.mk (below_step (by repeat (first | (with_reducible first | exact HB.out | apply below_alloc | apply pw_below_drewN | apply below_drew1 | refine below_set ?_ GE163.out) | exact HB.out)) hb); clear BK163; clear HB; have BK163 := n0_; have HB := n1_; clear n0_ n1_; (try clear hb); (try clear hb2); (try clear hk); (try clear hi); have hcz36_0 : w35.cell? ⟨gb163, 0, none⟩ = some (.int .i64 a0_0) := (blk_cell BK163.out 0).trans rfl; have hcz36_1 : w35.cell? ⟨gb163, 1, none⟩ = some (.int .i64 a0_1) := (blk_cell BK163.out 1).trans rfl; have hcz36_2 : w35.cell? ⟨gb163, 2, none⟩ = some (.int .i64 a0_2) := (blk_cell BK163.out 2).trans rfl; have hcz36_3 : w35.cell? ⟨gb163, 3, none⟩ = some (.int .i64 a0_3) := (blk_cell BK163.out 3).trans rfl; have hcz36_4 : w35.cell? ⟨gb163, 4, none⟩ = some (.int .i64 a0_4) := (blk_cell BK163.out 4).trans rfl; have hcz36_5 : w35.cell? ⟨gb163, 5, none⟩ = some (.int .i64 a0_5) := (blk_cell BK163.out 5).trans rfl; have hcz36_6 : w35.cell? ⟨gb163, 6, none⟩ = some (.int .i64 a0_6) := (blk_cell BK163.out 6).trans rfl; have hcz36_7 : w35.cell? ⟨gb163, 7, none⟩ = some (.int .i64 a0_7) := (blk_cell BK163.out 7).trans rfl; have hfz36_0 := blk_frozen BK163.out 0; have hfz36_1 := blk_frozen BK163.out 1; have hfz36_2 := blk_frozen BK163.out 2; have hfz36_3 := blk_frozen BK163.out 3; have hfz36_4 := blk_frozen BK163.out 4; have hfz36_5 := blk_frozen BK163.out 5; have hfz36_6 := blk_frozen BK163.out 6; have hfz36_7 := blk_frozen BK163.out 7))
                      go_ret
                      exact ⟨by first | rfl | (simp [errW_none, errW_some] <;> rfl) | (simp [*, errW_none, errW_some] <;> rfl), by repeat (first | (with_reducible first | exact HB.out | apply below_alloc | apply pw_below_drewN | apply below_drew1 | refine below_set ?_ GE163.out) | exact HB.out)⟩
                    · rw [if_neg c31] at H
                      have c31b0 : decide (a0_6 < 0) = false := decide_eq_false c31
                      clear c31
                      obtain rfl := Option.some.inj H
                      have hcz37_0 : wc.cell? ⟨gb163, 0, none⟩ = some (.int .i64 a0_0) := (blk_cell BK163.out 0).trans rfl
                      have hcz37_1 : wc.cell? ⟨gb163, 1, none⟩ = some (.int .i64 a0_1) := (blk_cell BK163.out 1).trans rfl
                      have hcz37_2 : wc.cell? ⟨gb163, 2, none⟩ = some (.int .i64 a0_2) := (blk_cell BK163.out 2).trans rfl
                      have hcz37_3 : wc.cell? ⟨gb163, 3, none⟩ = some (.int .i64 a0_3) := (blk_cell BK163.out 3).trans rfl
                      have hcz37_4 : wc.cell? ⟨gb163, 4, none⟩ = some (.int .i64 a0_4) := (blk_cell BK163.out 4).trans rfl
                      have hcz37_5 : wc.cell? ⟨gb163, 5, none⟩ = some (.int .i64 a0_5) := (blk_cell BK163.out 5).trans rfl
                      have hcz37_6 : wc.cell? ⟨gb163, 6, none⟩ = some (.int .i64 a0_6) := (blk_cell BK163.out 6).trans rfl
                      have hcz37_7 : wc.cell? ⟨gb163, 7, none⟩ = some (.int .i64 a0_7) := (blk_cell BK163.out 7).trans rfl
                      have hfz37_0 := blk_frozen BK163.out 0
                      have hfz37_1 := blk_frozen BK163.out 1
                      have hfz37_2 := blk_frozen BK163.out 2
                      have hfz37_3 := blk_frozen BK163.out 3
                      have hfz37_4 := blk_frozen BK163.out 4
                      have hfz37_5 := blk_frozen BK163.out 5
                      have hfz37_6 := blk_frozen BK163.out 6
                      have hfz37_7 := blk_frozen BK163.out 7
                      go_wp2_with (first | ((with_reducible refine gate_callee (f := 72) rfl ?_); refine goesL_ (some 42) rfl rfl Try.func72 (by kernel_rfl) rfl #[.agg #[.int .i64 a0_4, .int .i64 a0_5]] rfl (by (try simp only [List.map_toArray, List.map_cons, List.map_nil]); first | done | rfl | (simp only [List.length_drop, List.length_take]; rfl)) ?_; (with_reducible refine (bound_Check.calls kj11 a0_4 a0_5 t168 _ A21.out).mono ?_); rintro e w38 ⟨rfl, hb⟩; refine ⟨_, rfl, ?_⟩; have n0_ := Aside0.mk (blk_below (g := gb163) (o := .cells #[.int .i64 a0_0, .int .i64 a0_1, .int .i64 a0_2, .int .i64 a0_3, .int .i64 a0_4, .int .i64 a0_5, .int .i64 a0_6, .int .i64 a0_7] 46 (0, 0)) (by (with_reducible repeat (first | refine blk_drewN ?_ _ | refine blk_drew ?_ | refine blk_alloc ?_ _)); exact BK163.out) hb); have n1_ := Aside0.mk (below_step (by repeat (first | (with_reducible first | exact HB.out | apply below_alloc | apply pw_below_drewN | apply below_drew1 | refine below_set ?_ GE163.out) | exact HB.out)) hb); clear BK163; clear HB; have BK163 := n0_; have HB := n1_; clear n0_ n1_; (try clear hb); (try clear hb2); (try clear hk); (try clear hi); have hcz39_0 : w38.cell? ⟨gb163, 0, none⟩ = some (.int .i64 a0_0) := (blk_cell BK163.out 0).trans rfl; have hcz39_1 : w38.cell? ⟨gb163, 1, none⟩ = some (.int .i64 a0_1) := (blk_cell BK163.out 1).trans rfl; have hcz39_2 : w38.cell? ⟨gb163, 2, none⟩ = some (.int .i64 a0_2) := (blk_cell BK163.out 2).trans rfl; have hcz39_3 : w38.cell? ⟨gb163, 3, none⟩ = some (.int .i64 a0_3) := (blk_cell BK163.out 3).trans rfl; have hcz39_4 : w38.cell? ⟨gb163, 4, none⟩ = some (.int .i64 a0_4) := (blk_cell BK163.out 4).trans rfl; have hcz39_5 : w38.cell? ⟨gb163, 5, none⟩ = some (.int .i64 a0_5) := (blk_cell BK163.out 5).trans rfl; have hcz39_6 : w38.cell? ⟨gb163, 6, none⟩ = some (.int .i64 a0_6) := (blk_cell BK163.out 6).trans rfl; have hcz39_7 : w38.cell? ⟨gb163, 7, none⟩ = some (.int .i64 a0_7) := (blk_cell BK163.out 7).trans rfl; have hfz39_0 := blk_frozen BK163.out 0; have hfz39_1 := blk_frozen BK163.out 1; have hfz39_2 := blk_frozen BK163.out 2; have hfz39_3 := blk_frozen BK163.out 3; have hfz39_4 := blk_frozen BK163.out 4; have hfz39_5 := blk_frozen BK163.out 5; have hfz39_6 := blk_frozen BK163.out 6; have hfz39_7 := blk_frozen BK163.out 7) | (go_at_call 72; (with_reducible refine (bound_Check.calls kj11 a0_6 a0_7 t169 _ A23.out).mono ?_); rintro e w40 ⟨rfl, hb⟩; have n0_ := Aside0.mk (blk_below (g := gb163) (o := .cells #[.int .i64 a0_0, .int .i64 a0_1, .int .i64 a0_2, .int .i64 a0_3, .int .i64 a0_4, .int .i64 a0_5, .int .i64 a0_6, .int .i64 a0_7] 46 (0, 0)) (by (with_reducible repeat (first | refine blk_drewN ?_ _ | refine blk_drew ?_ | refine blk_alloc ?_ _)); exact BK163.out) hb); have n1_ := Aside0.mk (below_step (by repeat (first | (with_reducible first | exact HB.out | apply below_alloc | apply pw_below_drewN | apply below_drew1 | refine below_set ?_ GE163.out) | exact HB.out)) hb); clear BK163; clear HB; have BK163 := n0_; have HB := n1_; clear n0_ n1_; (try clear hb); (try clear hb2); (try clear hk); (try clear hi); have hcz41_0 : w40.cell? ⟨gb163, 0, none⟩ = some (.int .i64 a0_0) := (blk_cell BK163.out 0).trans rfl; have hcz41_1 : w40.cell? ⟨gb163, 1, none⟩ = some (.int .i64 a0_1) := (blk_cell BK163.out 1).trans rfl; have hcz41_2 : w40.cell? ⟨gb163, 2, none⟩ = some (.int .i64 a0_2) := (blk_cell BK163.out 2).trans rfl; have hcz41_3 : w40.cell? ⟨gb163, 3, none⟩ = some (.int .i64 a0_3) := (blk_cell BK163.out 3).trans rfl; have hcz41_4 : w40.cell? ⟨gb163, 4, none⟩ = some (.int .i64 a0_4) := (blk_cell BK163.out 4).trans rfl; have hcz41_5 : w40.cell? ⟨gb163, 5, none⟩ = some (.int .i64 a0_5) := (blk_cell BK163.out 5).trans rfl; have hcz41_6 : w40.cell? ⟨gb163, 6, none⟩ = some (.int .i64 a0_6) := (blk_cell BK163.out 6).trans rfl; have hcz41_7 : w40.cell? ⟨gb163, 7, none⟩ = some (.int .i64 a0_7) := (blk_cell BK163.out 7).trans rfl; have hfz41_0 := blk_frozen BK163.out 0; have hfz41_1 := blk_frozen BK163.out 1; have hfz41_2 := blk_frozen BK163.out 2; have hfz41_3 := blk_frozen BK163.out 3; have hfz41_4 := blk_frozen BK163.out 4; have hfz41_5 := blk_frozen BK163.out 5; have hfz41_6 := blk_frozen BK163.out 6; have hfz41_7 := blk_frozen BK163.out 7))
                      go_ret
                      exact ⟨by first | rfl | (simp [errW_none, errW_some] <;> rfl) | (simp [*, errW_none, errW_some] <;> rfl), by repeat (first | (with_reducible first | exact HB.out | apply below_alloc | apply pw_below_drewN | apply below_drew1 | refine below_set ?_ GE163.out) | exact HB.out)⟩
                · rw [if_neg c24] at H
                  have c24b0 : (t169 == 0) = false := beq_eq_false_iff_ne.mpr c24
                  have c24b1 : (t169 != 0) = true := bne_iff_ne.mpr c24
                  obtain rfl := Option.some.inj H
                  have hcz42_0 : wc.cell? ⟨gb163, 0, none⟩ = some (.int .i64 a0_0) := (blk_cell BK163.out 0).trans rfl
                  have hcz42_1 : wc.cell? ⟨gb163, 1, none⟩ = some (.int .i64 a0_1) := (blk_cell BK163.out 1).trans rfl
                  have hcz42_2 : wc.cell? ⟨gb163, 2, none⟩ = some (.int .i64 a0_2) := (blk_cell BK163.out 2).trans rfl
                  have hcz42_3 : wc.cell? ⟨gb163, 3, none⟩ = some (.int .i64 a0_3) := (blk_cell BK163.out 3).trans rfl
                  have hcz42_4 : wc.cell? ⟨gb163, 4, none⟩ = some (.int .i64 a0_4) := (blk_cell BK163.out 4).trans rfl
                  have hcz42_5 : wc.cell? ⟨gb163, 5, none⟩ = some (.int .i64 a0_5) := (blk_cell BK163.out 5).trans rfl
                  have hcz42_6 : wc.cell? ⟨gb163, 6, none⟩ = some (.int .i64 a0_6) := (blk_cell BK163.out 6).trans rfl
                  have hcz42_7 : wc.cell? ⟨gb163, 7, none⟩ = some (.int .i64 a0_7) := (blk_cell BK163.out 7).trans rfl
                  have hfz42_0 := blk_frozen BK163.out 0
                  have hfz42_1 := blk_frozen BK163.out 1
                  have hfz42_2 := blk_frozen BK163.out 2
                  have hfz42_3 := blk_frozen BK163.out 3
                  have hfz42_4 := blk_frozen BK163.out 4
                  have hfz42_5 := blk_frozen BK163.out 5
                  have hfz42_6 := blk_frozen BK163.out 6
                  have hfz42_7 := blk_frozen BK163.out 7
                  go_wp2_with (first | ((with_reducible refine gate_callee (f := 72) rfl ?_); refine goesL_ (some 42) rfl rfl Try.func72 (by kernel_rfl) rfl #[.agg #[.int .i64 a0_4, .int .i64 a0_5]] rfl (by (try simp only [List.map_toArray, List.map_cons, List.map_nil]); first | done | rfl | (simp only [List.length_drop, List.length_take]; rfl)) ?_; (with_reducible refine (bound_Check.calls kj11 a0_4 a0_5 t168 _ A21.out).mono ?_); rintro e w43 ⟨rfl, hb⟩; refine ⟨_, rfl, ?_⟩; have n0_ := Aside0.mk (blk_below (g := gb163) (o := .cells #[.int .i64 a0_0, .int .i64 a0_1, .int .i64 a0_2, .int .i64 a0_3, .int .i64 a0_4, .int .i64 a0_5, .int .i64 a0_6, .int .i64 a0_7] 46 (0, 0)) (by (with_reducible repeat (first | refine blk_drewN ?_ _ | refine blk_drew ?_ | refine blk_alloc ?_ _)); exact BK163.out) hb); have n1_ := Aside0.mk (below_step (by repeat (first | (with_reducible first | exact HB.out | apply below_alloc | apply pw_below_drewN | apply below_drew1 | refine below_set ?_ GE163.out) | exact HB.out)) hb); clear BK163; clear HB; have BK163 := n0_; have HB := n1_; clear n0_ n1_; (try clear hb); (try clear hb2); (try clear hk); (try clear hi); have hcz44_0 : w43.cell? ⟨gb163, 0, none⟩ = some (.int .i64 a0_0) := (blk_cell BK163.out 0).trans rfl; have hcz44_1 : w43.cell? ⟨gb163, 1, none⟩ = some (.int .i64 a0_1) := (blk_cell BK163.out 1).trans rfl; have hcz44_2 : w43.cell? ⟨gb163, 2, none⟩ = some (.int .i64 a0_2) := (blk_cell BK163.out 2).trans rfl; have hcz44_3 : w43.cell? ⟨gb163, 3, none⟩ = some (.int .i64 a0_3) := (blk_cell BK163.out 3).trans rfl; have hcz44_4 : w43.cell? ⟨gb163, 4, none⟩ = some (.int .i64 a0_4) := (blk_cell BK163.out 4).trans rfl; have hcz44_5 : w43.cell? ⟨gb163, 5, none⟩ = some (.int .i64 a0_5) := (blk_cell BK163.out 5).trans rfl; have hcz44_6 : w43.cell? ⟨gb163, 6, none⟩ = some (.int .i64 a0_6) := (blk_cell BK163.out 6).trans rfl; have hcz44_7 : w43.cell? ⟨gb163, 7, none⟩ = some (.int .i64 a0_7) := (blk_cell BK163.out 7).trans rfl; have hfz44_0 := blk_frozen BK163.out 0; have hfz44_1 := blk_frozen BK163.out 1; have hfz44_2 := blk_frozen BK163.out 2; have hfz44_3 := blk_frozen BK163.out 3; have hfz44_4 := blk_frozen BK163.out 4; have hfz44_5 := blk_frozen BK163.out 5; have hfz44_6 := blk_frozen BK163.out 6; have hfz44_7 := blk_frozen BK163.out 7) | (go_at_call 72; (with_reducible refine (bound_Check.calls kj11 a0_6 a0_7 t169 _ A23.out).mono ?_); rintro e w45 ⟨rfl, hb⟩; have n0_ := Aside0.mk (blk_below (g := gb163) (o := .cells #[.int .i64 a0_0, .int .i64 a0_1, .int .i64 a0_2, .int .i64 a0_3, .int .i64 a0_4, .int .i64 a0_5, .int .i64 a0_6, .int .i64 a0_7] 46 (0, 0)) (by (with_reducible repeat (first | refine blk_drewN ?_ _ | refine blk_drew ?_ | refine blk_alloc ?_ _)); exact BK163.out) hb); have n1_ := Aside0.mk (below_step (by repeat (first | (with_reducible first | exact HB.out | apply below_alloc | apply pw_below_drewN | apply below_drew1 | refine below_set ?_ GE163.out) | exact HB.out)) hb); clear BK163; clear HB; have BK163 := n0_; have HB := n1_; clear n0_ n1_; (try clear hb); (try clear hb2); (try clear hk); (try clear hi)))
                  go_ret
                  exact ⟨by first | rfl | (simp [errW_none, errW_some] <;> rfl) | (simp [*, errW_none, errW_some] <;> rfl), by repeat (first | (with_reducible first | exact HB.out | apply below_alloc | apply pw_below_drewN | apply below_drew1 | refine below_set ?_ GE163.out) | exact HB.out)⟩
              · rw [if_neg c22] at H
                have c22b0 : (t168 == 0) = false := beq_eq_false_iff_ne.mpr c22
                have c22b1 : (t168 != 0) = true := bne_iff_ne.mpr c22
                obtain rfl := Option.some.inj H
                have hcz46_0 : wc.cell? ⟨gb163, 0, none⟩ = some (.int .i64 a0_0) := (blk_cell BK163.out 0).trans rfl
                have hcz46_1 : wc.cell? ⟨gb163, 1, none⟩ = some (.int .i64 a0_1) := (blk_cell BK163.out 1).trans rfl
                have hcz46_2 : wc.cell? ⟨gb163, 2, none⟩ = some (.int .i64 a0_2) := (blk_cell BK163.out 2).trans rfl
                have hcz46_3 : wc.cell? ⟨gb163, 3, none⟩ = some (.int .i64 a0_3) := (blk_cell BK163.out 3).trans rfl
                have hcz46_4 : wc.cell? ⟨gb163, 4, none⟩ = some (.int .i64 a0_4) := (blk_cell BK163.out 4).trans rfl
                have hcz46_5 : wc.cell? ⟨gb163, 5, none⟩ = some (.int .i64 a0_5) := (blk_cell BK163.out 5).trans rfl
                have hcz46_6 : wc.cell? ⟨gb163, 6, none⟩ = some (.int .i64 a0_6) := (blk_cell BK163.out 6).trans rfl
                have hcz46_7 : wc.cell? ⟨gb163, 7, none⟩ = some (.int .i64 a0_7) := (blk_cell BK163.out 7).trans rfl
                have hfz46_0 := blk_frozen BK163.out 0
                have hfz46_1 := blk_frozen BK163.out 1
                have hfz46_2 := blk_frozen BK163.out 2
                have hfz46_3 := blk_frozen BK163.out 3
                have hfz46_4 := blk_frozen BK163.out 4
                have hfz46_5 := blk_frozen BK163.out 5
                have hfz46_6 := blk_frozen BK163.out 6
                have hfz46_7 := blk_frozen BK163.out 7
                go_wp2_with (first | ((with_reducible refine gate_callee (f := 72) rfl ?_); refine goesL_ (some 42) rfl rfl Try.func72 (by kernel_rfl) rfl #[.agg #[.int .i64 a0_4, .int .i64 a0_5]] rfl (by (try simp only [List.map_toArray, List.map_cons, List.map_nil]); first | done | rfl | (simp only [List.length_drop, List.length_take]; rfl)) ?_; (with_reducible refine (bound_Check.calls kj11 a0_4 a0_5 t168 _ A21.out).mono ?_); rintro e w47 ⟨rfl, hb⟩; refine ⟨_, rfl, ?_⟩; have n0_ := Aside0.mk (blk_below (g := gb163) (o := .cells #[.int .i64 a0_0, .int .i64 a0_1, .int .i64 a0_2, .int .i64 a0_3, .int .i64 a0_4, .int .i64 a0_5, .int .i64 a0_6, .int .i64 a0_7] 46 (0, 0)) (by (with_reducible repeat (first | refine blk_drewN ?_ _ | refine blk_drew ?_ | refine blk_alloc ?_ _)); exact BK163.out) hb); have n1_ := Aside0.mk (below_step (by repeat (first | (with_reducible first | exact HB.out | apply below_alloc | apply pw_below_drewN | apply below_drew1 | refine below_set ?_ GE163.out) | exact HB.out)) hb); clear BK163; clear HB; have BK163 := n0_; have HB := n1_; clear n0_ n1_; (try clear hb); (try clear hb2); (try clear hk); (try clear hi)))
                go_ret
                exact ⟨by first | rfl | (simp [errW_none, errW_some] <;> rfl) | (simp [*, errW_none, errW_some] <;> rfl), by repeat (first | (with_reducible first | exact HB.out | apply below_alloc | apply pw_below_drewN | apply below_drew1 | refine below_set ?_ GE163.out) | exact HB.out)⟩

end Go.Proofs.Ytcjdhajdoikojaa.Pr
end
section
/- A clock with its anchors, as the program makes it, or the error. -/
namespace Go.Proofs.Ytcjdhajdoikojaa.Clk
open Go.RowKit Go.Shelf Go.Proofs.YtcjdhajdoikojaaW.PrintWords Go.Proofs.YtcjdhajdoikojaaW.PrintLast Go.Proofs.YtcjdhajdoikojaaW.PrintMore Go.Proofs.Ytcjdhajdoikojaa.Pr Go.Proofs.YtcjdhajdoikojaaW.Round
set_option linter.unusedVariables false
set_option linter.unusedSimpArgs false

/-- Is a span valid? -/
def okS (lo hi : Int) : Bool := !(decide (lo > hi) || decide (lo < -1073741824) || decide (hi > 1073741824))
theorem check_span (k : Nat) (lo hi : Int) : bound_Check.f (k + 2) lo hi = some (if okS lo hi then 0 else 2) := by
  unfold bound_Check.f bound_check.f okS
  simp only [bound_check.l0, rd_T35]
  by_cases h1 : hi < lo
  · simp [h1]
    try omega
  · by_cases h2 : lo < -1073741824
    · simp [h1, h2]
      try omega
    · by_cases h3 : 1073741824 < hi
      · simp [h1, h2, h3]
      · have h3' : hi ≤ 1073741824 := by omega
        have h2' : -1073741824 ≤ lo := by omega
        have h1' : lo ≤ hi := by omega
        simp [h1, h2, h3, wrap64, h3', h2', h1']
/-- Is a number a time? -/
def okT (t : Int) : Bool := decide (0 ≤ t) && decide (t ≤ 1125899906842624)
theorem isTime_some (t : Int) : clock_isTime.f t = some (okT t) := by
  unfold clock_isTime.f okT
  by_cases h : t ≥ 0
  · rw [if_pos h, show decide (0 ≤ t) = true from decide_eq_true h]; simp
  · rw [if_neg h, show decide (0 ≤ t) = false from decide_eq_false h]; simp
/-- Is an exchange valid? -/
def okX (x : S46) : Bool :=
  (okT x.f0 && okT x.f3 && !decide (x.f0 > x.f3)) && (okT x.f1 && okT x.f2 && !decide (x.f1 > x.f2)) && (okS x.f4.f0 x.f4.f1 && okS x.f5.f0 x.f5.f1 && !decide (x.f4.f0 < 0) && !decide (x.f5.f0 < 0))
theorem checkX_some (k : Nat) (x : S46) : clock_CheckExchange.f (k + 4) x.f0 x.f1 x.f2 x.f3 x.f4.f0 x.f4.f1 x.f5.f0 x.f5.f1 = some (if okX x then 0 else 2) := by
  unfold clock_CheckExchange.f okX
  simp only [isTime_some, Option.bind_some, clock_CheckExchange.j0, clock_CheckExchange.j1, check_span]
  cases h0 : okT x.f0
  · simp
  cases h3 : okT x.f3
  · simp
  by_cases h03 : x.f0 > x.f3
  · simp [h03]
  cases h1 : okT x.f1
  · simp [h03]
  cases h2 : okT x.f2
  · simp [h03]
  by_cases h12 : x.f1 > x.f2
  · simp [h03, h12]
  cases h4 : okS x.f4.f0 x.f4.f1
  · simp [h03, h12]
  cases h5 : okS x.f5.f0 x.f5.f1
  · simp [h03, h12]
  by_cases h40 : x.f4.f0 < 0
  · simp [h03, h12, h40]
    try omega
  by_cases h50 : x.f5.f0 < 0
  · simp [h03, h12, h40, h50]
    try omega
  have e1 : x.f0 ≤ x.f3 := by omega
  have e2 : x.f1 ≤ x.f2 := by omega
  have e3 : 0 ≤ x.f4.f0 := by omega
  have e4 : 0 ≤ x.f5.f0 := by omega
  simp [h03, h12, h40, h50, e1, e2, e3, e4]
theorem ckx_any (x : S46) (w : World) : Calls Try.prog 30 #[.agg #[.int .i64 x.f0, .int .i64 x.f1, .int .i64 x.f2, .int .i64 x.f3, .int .i64 x.f4.f0, .int .i64 x.f4.f1, .int .i64 x.f5.f0, .int .i64 x.f5.f1]] w fun e w' =>
    e = .returned (.int .i64 (if okX x then 0 else 2)) ∧ Below w.heap.size w w' := clock_CheckExchange.calls 4 _ _ _ _ _ _ _ _ _ w (checkX_some 0 x)
theorem check_any (lo hi : Int) (w : World) : Calls Try.prog 72 #[.agg #[.int .i64 lo, .int .i64 hi]] w fun e w' => e = .returned (.int .i64 (if okS lo hi then 0 else 2)) ∧ Below w.heap.size w w' := bound_Check.calls 2 _ _ _ w (check_span 0 lo hi)

/-- Is an exchange valid for a clock of this rate? -/
def okE (rate : Int) (x : S46) : Bool := okX x && decide ((offsetI x rate).1 ≤ (offsetI x rate).2) && okS (offsetI x rate).1 (offsetI x rate).2
def anchorI (rate : Int) (x : S46) : S105 := ⟨⟨(offsetI x rate).1, (offsetI x rate).2⟩, x.f3⟩
/-- The error of a clock. -/
def faceE (par rate : Int) (xs : List S46) : Int :=
  if xs.length < 1 ∨ xs.length > 64 then 6 else if par < -1 ∨ rate < 0 ∨ rate > 1000000 then 2 else if xs.all (okE rate) then 0 else 2
/-- A clock with its anchors, and the block of these is known. -/
def FaceR (W : World) (b : Nat) (par rate : Int) (ys : List S105) : Prop := ∃ v base, Blk W b #[.int .i64 par, .int .i64 rate, v] 109 ∧ Kd.R k105 105 W base (fun _ => True) v ys
theorem FaceR.at {W : World} {b : Nat} {par rate : Int} {ys : List S105} (h : FaceR W b par rate ys) : FaceAt W b par rate ys := by
  obtain ⟨v, base, h1, h2⟩ := h
  obtain ⟨A, c, rfl, hl, hC⟩ := Kd.R_reads h2
  exact ⟨A, c, h1, hl, hC⟩
theorem FaceR.below {W W1 : World} {b : Nat} {par rate : Int} {ys : List S105} (h : FaceR W b par rate ys) (hb : Below W.heap.size W W1) : FaceR W1 b par rate ys := by
  obtain ⟨v, base, h1, h2⟩ := h
  exact ⟨v, base, h1.below hb, Kd.R_below h2 hb⟩
def NewFacePost (par rate : Int) (xs : List S46) (w : World) (e : Ending) (w' : World) : Prop :=
  ∃ ptr, e = .returned (.tuple #[.pointer ptr, .int .i64 (faceE par rate xs)]) ∧ Below w.heap.size w w' ∧ ((faceE par rate xs = 0 ∧ ∃ g, ptr = some ⟨g, 0, none⟩ ∧ w.heap.size ≤ g ∧ FaceR w' g par rate (xs.map (anchorI rate))) ∨ (faceE par rate xs ≠ 0 ∧ ptr = none))
theorem newFace_bad {par rate : Int} {xs : List S46} {w w' : World} {c : Int} (h : faceE par rate xs = c) (hc : c ≠ 0) (hb : Below w.heap.size w w') : NewFacePost par rate xs w (.returned (.tuple #[.pointer none, .int .i64 c])) w' := ⟨none, by rw [h], hb, .inr ⟨by rw [h]; exact hc, rfl⟩⟩

set_option maxRecDepth 100000 in
set_option maxHeartbeats 4000000 in
theorem newFace_any (par rate : Int) (A : Option Addr) (c : Nat) (xs : List S46) (w : World) (hC : Kd.C k46 w A xs.length xs) (hc : xs.length ≤ c) :
    Calls Try.prog 64 #[.agg #[.int .i64 par, .int .i64 rate, .slice A xs.length c]] w (NewFacePost par rate xs w) := by
  have hu35 := Try.underlying35
  have hu105 := Try.underlying105
  have hu46 := Try.underlying46
  have hu109 := Try.underlying109
  have hu30 := Try.underlying30
  by_cases h1 : xs.length < 1
  · have hE : Hid (faceE par rate xs = 6) := Lib.hid (by unfold faceE; rw [if_pos (.inl h1)])
    have d1 : decide ((xs.length : Int) < 1) = true := decide_eq_true (by omega)
    have d2 : decide (xs.length < 1) = true := decide_eq_true (by omega)
    go_enter Try.func64, Try.ntmps64
    go_wp2
    go_ret2
    exact newFace_bad hE.out (by decide) (below_alloc (Below.refl _ _) _)
  have d1 : decide ((xs.length : Int) < 1) = false := decide_eq_false (by omega)
  have d2 : decide (xs.length < 1) = false := decide_eq_false (by omega)
  by_cases h2 : xs.length > 64
  · have hE : Hid (faceE par rate xs = 6) := Lib.hid (by unfold faceE; rw [if_pos (.inr h2)])
    have d3 : decide ((64 : Int) < (xs.length : Int)) = true := decide_eq_true (by omega)
    have d4 : decide (64 < xs.length) = true := decide_eq_true (by omega)
    go_enter Try.func64, Try.ntmps64
    go_wp2
    go_ret2
    exact newFace_bad hE.out (by decide) (below_alloc (Below.refl _ _) _)
  have d3 : decide ((64 : Int) < (xs.length : Int)) = false := decide_eq_false (by omega)
  have d4 : decide (64 < xs.length) = false := decide_eq_false (by omega)
  by_cases p1 : par < -1
  · have hE : Hid (faceE par rate xs = 2) := Lib.hid (by unfold faceE; rw [if_neg (by omega), if_pos (by omega)])
    have p1_0 : decide (par < -1) = true := decide_eq_true (by omega)
    go_enter Try.func64, Try.ntmps64
    go_wp2
    go_ret2
    exact newFace_bad hE.out (by decide) (below_alloc (Below.refl _ _) _)
  have p1_0 : decide (par < -1) = false := decide_eq_false (by omega)
  by_cases p2 : rate < 0
  · have hE : Hid (faceE par rate xs = 2) := Lib.hid (by unfold faceE; rw [if_neg (by omega), if_pos (by omega)])
    have p2_0 : decide (rate < 0) = true := decide_eq_true (by omega)
    go_enter Try.func64, Try.ntmps64
    go_wp2
    go_ret2
    exact newFace_bad hE.out (by decide) (below_alloc (Below.refl _ _) _)
  have p2_0 : decide (rate < 0) = false := decide_eq_false (by omega)
  by_cases p3 : rate > 1000000
  · have hE : Hid (faceE par rate xs = 2) := Lib.hid (by unfold faceE; rw [if_neg (by omega), if_pos (by omega)])
    have p3_0 : decide (1000000 < rate) = true := decide_eq_true (by omega)
    go_enter Try.func64, Try.ntmps64
    go_wp2
    go_ret2
    exact newFace_bad hE.out (by decide) (below_alloc (Below.refl _ _) _)
  have p3_0 : decide (1000000 < rate) = false := decide_eq_false (by omega)
  have hF0 : faceE par rate xs = if xs.all (okE rate) then 0 else 2 := by unfold faceE; rw [if_neg (by omega), if_neg (by omega)]
  have hF := Lib.hid hF0
  have hL : xs.length ≤ 64 := by omega
  have hL1 : 1 ≤ xs.length := by omega
  clear hF0 h1 h2 p1 p2 p3
  obtain ⟨ad, rfl, _⟩ := at_T46 hC 0 (by omega) (by omega)
  go_enter Try.func64, Try.ntmps64
  go_wp2
  have m1 : Blk ((w.alloc (.cells #[.int .i64 par, .int .i64 rate, .slice (some ad) xs.length c] 30)).alloc (.cells #[.int .i64 par, .int .i64 rate, .slice none 0 0] 109)) (w.heap.size) #[.int .i64 par, .int .i64 rate, .slice (some ad) xs.length c] 30 := (blk_alloc (by have h_ := blk_new w (.cells #[.int .i64 par, .int .i64 rate, .slice (some ad) xs.length c] 30); first | exact h_ | (simp only [World.size_alloc] at h_; exact h_)) _)
  have m4 : Blk ((w.alloc (.cells #[.int .i64 par, .int .i64 rate, .slice (some ad) xs.length c] 30)).alloc (.cells #[.int .i64 par, .int .i64 rate, .slice none 0 0] 109)) (w.heap.size + 1) #[.int .i64 par, .int .i64 rate, .slice none 0 0] 109 := (by have h_ := blk_new (w.alloc (.cells #[.int .i64 par, .int .i64 rate, .slice (some ad) xs.length c] 30)) (.cells #[.int .i64 par, .int .i64 rate, .slice none 0 0] 109); first | exact h_ | (simp only [World.size_alloc] at h_; exact h_))
  have mB : Below w.heap.size w ((w.alloc (.cells #[.int .i64 par, .int .i64 rate, .slice (some ad) xs.length c] 30)).alloc (.cells #[.int .i64 par, .int .i64 rate, .slice none 0 0] 109)) := (below_alloc (below_alloc (Below.refl w.heap.size w) _) _)
  have hsz_ : w.heap.size ≤ w.heap.size := Nat.le_refl _
  generalize hW_ : ((w.alloc (.cells #[.int .i64 par, .int .i64 rate, .slice (some ad) xs.length c] 30)).alloc (.cells #[.int .i64 par, .int .i64 rate, .slice none 0 0] 109)) = W1 at m1 m4 mB ⊢
  clear hW_
  generalize hg1 : w.heap.size = g1 at m1 m4 ⊢
  have hG1 : w.heap.size ≤ g1 := by omega
  generalize hg4 : g1 + 1 = g4 at m4 ⊢
  have hn_1_4 : g1 ≠ g4 := by omega
  have hn_4_1 : g4 ≠ g1 := hn_1_4.symm
  have hG4 : w.heap.size ≤ g4 := by omega
  clear hsz_
  try clear hg4
  try clear hg1
  have hs_W1 : w.heap.size ≤ W1.heap.size := mB.size
  have hinfo : (Try.prog.info? 105).map (fun i => (i.zero, i.size, i.bytes)) = some (some (.agg #[.int .i64 0, .int .i64 0, .int .i64 0]), 3, 24) := by kernel_rfl
  have HI := Lib.hid hinfo
  clear hinfo
  go_loopw [41] (fun i wr => ∃ (k : Nat) (v : Value), k ≤ xs.length ∧ i = .int .i64 k ∧ Hid ((xs.take k).all (okE rate) = true) ∧ Blk wr g1 #[.int .i64 par, .int .i64 rate, .slice (some ad) xs.length c] 30 ∧ Blk wr g4 #[.int .i64 par, .int .i64 rate, v] 109 ∧ Kd.R k105 105 wr w.heap.size (fun _ => True) v ((xs.take k).map (anchorI rate)) ∧ Below w.heap.size w wr) (fun i _ => xs.length - (intOf i).toNat)
  case atStart => exact ⟨0, _, Nat.zero_le _, rfl, Lib.hid (by simp), m1, m4, by simpa using Kd.R_nil k105 105 W1 w.heap.size (fun _ => True), mB⟩
  case round =>
    clear m1 m4 mB
    obtain ⟨k, v, hk, rfl, HA, m1, m4, HO, mB⟩ := hrel
    have hs_wr : w.heap.size ≤ wr.heap.size := mB.size
    by_cases hlt : k < xs.length
    · obtain ⟨ad_, e_, hx0, hx1, hx2, hx3, hx4, hx5, hx6, hx7⟩ := at_T46 hC k (by omega) (by omega)
      cases e_
      simp only [Int.toNat_natCast] at hx0 hx1 hx2 hx3 hx4 hx5 hx6 hx7
      replace hx0 := (mB.cell (World.block_lt_of_cell? w _ hx0)).trans hx0
      replace hx1 := (mB.cell (World.block_lt_of_cell? w _ hx1)).trans hx1
      replace hx2 := (mB.cell (World.block_lt_of_cell? w _ hx2)).trans hx2
      replace hx3 := (mB.cell (World.block_lt_of_cell? w _ hx3)).trans hx3
      replace hx4 := (mB.cell (World.block_lt_of_cell? w _ hx4)).trans hx4
      replace hx5 := (mB.cell (World.block_lt_of_cell? w _ hx5)).trans hx5
      replace hx6 := (mB.cell (World.block_lt_of_cell? w _ hx6)).trans hx6
      replace hx7 := (mB.cell (World.block_lt_of_cell? w _ hx7)).trans hx7
      have hlk : xs[k]? = some (rd_T46 xs (k : Int)) := by simp [rd_T46, List.getD_eq_getElem?_getD, hlt]
      have htk : xs.take (k + 1) = xs.take k ++ [rd_T46 xs (k : Int)] := by rw [List.take_add_one, hlk]; rfl
      have hmem : rd_T46 xs (k : Int) ∈ xs := List.mem_of_getElem? hlk
      generalize rd_T46 xs (k : Int) = x at *
      have HT := Lib.hid htk
      clear htk hlk
      have hbad : okE rate x = false → Hid (faceE par rate xs = 2) := fun h => Lib.hid (by rw [hF.out, if_neg]; intro h2; rw [List.all_eq_true.1 h2 x hmem] at h; cases h)
      clear hmem
      go_wp2_with fail
      clear hx0 hx1 hx2 hx3 hx4 hx5 hx6 hx7
      replace HO := Kd.R_below HO (below_alloc (Below.refl wr.heap.size wr) (.cells #[.int .i64 x.f0, .int .i64 x.f1, .int .i64 x.f2, .int .i64 x.f3, .int .i64 x.f4.f0, .int .i64 x.f4.f1, .int .i64 x.f5.f0, .int .i64 x.f5.f1] 46))
      have hl_1 := blk_lt m1
      have hl_4 := blk_lt m4
      have m6 : Blk (wr.alloc (.cells #[.int .i64 x.f0, .int .i64 x.f1, .int .i64 x.f2, .int .i64 x.f3, .int .i64 x.f4.f0, .int .i64 x.f4.f1, .int .i64 x.f5.f0, .int .i64 x.f5.f1] 46)) (wr.heap.size) #[.int .i64 x.f0, .int .i64 x.f1, .int .i64 x.f2, .int .i64 x.f3, .int .i64 x.f4.f0, .int .i64 x.f4.f1, .int .i64 x.f5.f0, .int .i64 x.f5.f1] 46 := (by have h_ := blk_new wr (.cells #[.int .i64 x.f0, .int .i64 x.f1, .int .i64 x.f2, .int .i64 x.f3, .int .i64 x.f4.f0, .int .i64 x.f4.f1, .int .i64 x.f5.f0, .int .i64 x.f5.f1] 46); first | exact h_ | (simp only [World.size_alloc] at h_; exact h_))
      replace m1 : Blk (wr.alloc (.cells #[.int .i64 x.f0, .int .i64 x.f1, .int .i64 x.f2, .int .i64 x.f3, .int .i64 x.f4.f0, .int .i64 x.f4.f1, .int .i64 x.f5.f0, .int .i64 x.f5.f1] 46)) g1 #[.int .i64 par, .int .i64 rate, .slice (some ad) xs.length c] 30 := (blk_alloc m1 _)
      replace m4 : Blk (wr.alloc (.cells #[.int .i64 x.f0, .int .i64 x.f1, .int .i64 x.f2, .int .i64 x.f3, .int .i64 x.f4.f0, .int .i64 x.f4.f1, .int .i64 x.f5.f0, .int .i64 x.f5.f1] 46)) g4 #[.int .i64 par, .int .i64 rate, v] 109 := (blk_alloc m4 _)
      replace mB : Below w.heap.size w (wr.alloc (.cells #[.int .i64 x.f0, .int .i64 x.f1, .int .i64 x.f2, .int .i64 x.f3, .int .i64 x.f4.f0, .int .i64 x.f4.f1, .int .i64 x.f5.f0, .int .i64 x.f5.f1] 46)) := (below_alloc mB _)
      have hsz_ : w.heap.size ≤ wr.heap.size := hs_wr
      generalize hW_ : (wr.alloc (.cells #[.int .i64 x.f0, .int .i64 x.f1, .int .i64 x.f2, .int .i64 x.f3, .int .i64 x.f4.f0, .int .i64 x.f4.f1, .int .i64 x.f5.f0, .int .i64 x.f5.f1] 46)) = W2 at m1 m4 m6 mB HO ⊢
      clear hW_
      generalize hg6 : wr.heap.size = g6 at m6 ⊢
      have hn_1_6 : g1 ≠ g6 := by omega
      have hn_4_6 : g4 ≠ g6 := by omega
      have hn_6_1 : g6 ≠ g1 := hn_1_6.symm
      have hn_6_4 : g6 ≠ g4 := hn_4_6.symm
      have hG6 : w.heap.size ≤ g6 := by omega
      clear hsz_ hl_1 hl_4
      try clear hg6
      have hs_W2 : w.heap.size ≤ W2.heap.size := mB.size
      have hcon := ckx_any x W2
      (with_reducible refine hcon.mono ?_)
      clear hcon
      rintro e W3 ⟨rfl, hb⟩
      replace HO := Kd.R_below HO hb
      replace m1 := blk_below m1 hb
      replace m4 := blk_below m4 hb
      replace m6 := blk_below m6 hb
      replace mB := below_step mB hb
      clear hb
      have hs_W3 : w.heap.size ≤ W3.heap.size := mB.size
      cases hX : okX x with
      | false =>
        have hE := hbad (by unfold okE; rw [hX]; rfl)
        clear hX hbad
        rw [if_neg (by decide)]
        go_wp2
        go_ret2
        exact newFace_bad hE.out (by decide) mB
      | true =>
        rw [if_pos rfl]
        have c1_0 := (blk_cell m1 0).trans rfl
        have c1_1 := (blk_cell m1 1).trans rfl
        have c1_2 := (blk_cell m1 2).trans rfl
        have c6_0 := (blk_cell m6 0).trans rfl
        have c6_1 := (blk_cell m6 1).trans rfl
        have c6_2 := (blk_cell m6 2).trans rfl
        have c6_3 := (blk_cell m6 3).trans rfl
        have c6_4 := (blk_cell m6 4).trans rfl
        have c6_5 := (blk_cell m6 5).trans rfl
        have c6_6 := (blk_cell m6 6).trans rfl
        have c6_7 := (blk_cell m6 7).trans rfl
        have HX := Lib.hid hX
        clear hX
        go_wp2_with fail
        clear c1_0
        clear c1_1
        clear c1_2
        clear c6_0
        clear c6_1
        clear c6_2
        clear c6_3
        clear c6_4
        clear c6_5
        clear c6_6
        clear c6_7
        have hcon := offset_any x rate W3
        (with_reducible refine hcon.mono ?_)
        clear hcon
        rintro e W4 ⟨rfl, hb⟩
        replace HO := Kd.R_below HO hb
        replace m1 := blk_below m1 hb
        replace m4 := blk_below m4 hb
        replace m6 := blk_below m6 hb
        replace mB := below_step mB hb
        clear hb
        have hs_W4 : w.heap.size ≤ W4.heap.size := mB.size
        have hoe : okE rate x = (true && decide ((offsetI x rate).1 ≤ (offsetI x rate).2) && okS (offsetI x rate).1 (offsetI x rate).2) := by unfold okE; rw [HX.out]
        have han : anchorI rate x = ⟨⟨(offsetI x rate).1, (offsetI x rate).2⟩, x.f3⟩ := rfl
        have HE := Lib.hid hoe
        have HN := Lib.hid han
        clear hoe han
        generalize offsetI x rate = R at *
        obtain ⟨P1, P2⟩ := R
        dsimp only at HE HN ⊢
        by_cases hok : P1 ≤ P2
        case neg =>
          have hE := hbad (by rw [HE.out, decide_eq_false hok]; rfl)
          have hd : decide (P1 ≤ P2) = false := decide_eq_false hok
          clear hok hbad
          go_wp2
          go_ret2
          exact newFace_bad hE.out (by decide) (by repeat (first | exact mB | apply below_alloc))
        case pos =>
          have hd : decide (P1 ≤ P2) = true := decide_eq_true hok
          go_wp2_with fail
          replace HO := Kd.R_below HO (below_alloc (Below.refl W4.heap.size W4) (.cells #[.int .i64 P1, .int .i64 P2] 35))
          have hl_1 := blk_lt m1
          have hl_4 := blk_lt m4
          have hl_6 := blk_lt m6
          have m7 : Blk (W4.alloc (.cells #[.int .i64 P1, .int .i64 P2] 35)) (W4.heap.size) #[.int .i64 P1, .int .i64 P2] 35 := (by have h_ := blk_new W4 (.cells #[.int .i64 P1, .int .i64 P2] 35); first | exact h_ | (simp only [World.size_alloc] at h_; exact h_))
          replace m1 : Blk (W4.alloc (.cells #[.int .i64 P1, .int .i64 P2] 35)) g1 #[.int .i64 par, .int .i64 rate, .slice (some ad) xs.length c] 30 := (blk_alloc m1 _)
          replace m4 : Blk (W4.alloc (.cells #[.int .i64 P1, .int .i64 P2] 35)) g4 #[.int .i64 par, .int .i64 rate, v] 109 := (blk_alloc m4 _)
          replace m6 : Blk (W4.alloc (.cells #[.int .i64 P1, .int .i64 P2] 35)) g6 #[.int .i64 x.f0, .int .i64 x.f1, .int .i64 x.f2, .int .i64 x.f3, .int .i64 x.f4.f0, .int .i64 x.f4.f1, .int .i64 x.f5.f0, .int .i64 x.f5.f1] 46 := (blk_alloc m6 _)
          replace mB : Below w.heap.size w (W4.alloc (.cells #[.int .i64 P1, .int .i64 P2] 35)) := (below_alloc mB _)
          have hsz_ : w.heap.size ≤ W4.heap.size := hs_W4
          generalize hW_ : (W4.alloc (.cells #[.int .i64 P1, .int .i64 P2] 35)) = W5 at m1 m4 m6 m7 mB HO ⊢
          clear hW_
          generalize hg7 : W4.heap.size = g7 at m7 ⊢
          have hn_1_7 : g1 ≠ g7 := by omega
          have hn_4_7 : g4 ≠ g7 := by omega
          have hn_6_7 : g6 ≠ g7 := by omega
          have hn_7_1 : g7 ≠ g1 := hn_1_7.symm
          have hn_7_4 : g7 ≠ g4 := hn_4_7.symm
          have hn_7_6 : g7 ≠ g6 := hn_6_7.symm
          have hG7 : w.heap.size ≤ g7 := by omega
          clear hsz_ hl_1 hl_4 hl_6
          try clear hg7
          have hs_W5 : w.heap.size ≤ W5.heap.size := mB.size
          have hcon := check_any P1 P2 W5
          (with_reducible refine hcon.mono ?_)
          clear hcon
          rintro e W6 ⟨rfl, hb⟩
          replace HO := Kd.R_below HO hb
          replace m1 := blk_below m1 hb
          replace m4 := blk_below m4 hb
          replace m6 := blk_below m6 hb
          replace m7 := blk_below m7 hb
          replace mB := below_step mB hb
          clear hb
          have hs_W6 : w.heap.size ≤ W6.heap.size := mB.size
          cases hS : okS P1 P2 with
          | false =>
            have hE := hbad (by rw [HE.out, hS, Bool.and_false])
            clear hS hbad
            rw [if_neg (by decide)]
            go_wp2
            go_ret2
            exact newFace_bad hE.out (by decide) mB
          | true =>
            have hg := hS
            clear hbad
            have HG : Hid (okE rate x = true) := Lib.hid (by rw [HE.out, hS, hd]; rfl)
            clear hS hg
            rw [if_pos rfl]
            go_wp2
            replace m1 := blk_drew m1
            replace m4 := blk_drew m4
            replace m6 := blk_drew m6
            replace m7 := blk_drew m7
            replace mB := below_drew1 mB
            replace HO := Kd.R_below HO (below_drew1 (Below.refl W6.heap.size W6))
            have hs_ : w.heap.size ≤ W6.drew.heap.size := mB.size
            refine start_ (n := 14) (S := fun w' => w'.cell? ⟨g4, 0, none⟩ = some (.int .i64 par) ∧ w'.cell? ⟨g4, 1, none⟩ = some (.int .i64 rate) ∧ w'.cell? ⟨g4, 2, none⟩ = some (v) ∧ w'.cell? ⟨g6, 0, none⟩ = some (.int .i64 x.f0) ∧ w'.cell? ⟨g6, 1, none⟩ = some (.int .i64 x.f1) ∧ w'.cell? ⟨g6, 2, none⟩ = some (.int .i64 x.f2) ∧ w'.cell? ⟨g6, 3, none⟩ = some (.int .i64 x.f3) ∧ w'.cell? ⟨g6, 4, none⟩ = some (.int .i64 x.f4.f0) ∧ w'.cell? ⟨g6, 5, none⟩ = some (.int .i64 x.f4.f1) ∧ w'.cell? ⟨g6, 6, none⟩ = some (.int .i64 x.f5.f0) ∧ w'.cell? ⟨g6, 7, none⟩ = some (.int .i64 x.f5.f1) ∧ w'.cell? ⟨g7, 0, none⟩ = some (.int .i64 P1) ∧ w'.cell? ⟨g7, 1, none⟩ = some (.int .i64 P2)) (ds := [13]) #[false, false, false, false, false, false, false, false, false, false, false, false, false, false] (by kernel_rfl) rfl rfl ⟨((blk_cell m4 0).trans rfl), ((blk_cell m4 1).trans rfl), ((blk_cell m4 2).trans rfl), ((blk_cell m6 0).trans rfl), ((blk_cell m6 1).trans rfl), ((blk_cell m6 2).trans rfl), ((blk_cell m6 3).trans rfl), ((blk_cell m6 4).trans rfl), ((blk_cell m6 5).trans rfl), ((blk_cell m6 6).trans rfl), ((blk_cell m6 7).trans rfl), ((blk_cell m7 0).trans rfl), ((blk_cell m7 1).trans rfl)⟩ (fun hHeld => ?_)
            generalize hWd : W6.drew = Wd at *
            clear hWd
            refine pure_ (i := 0) (N := some 62) (v := ?_) (a' := ?_) #[true, false, false, false, false, false, false, false, false, false, false, false, false, false] rfl rfl (by kernel_rfl) (fun _ _ _ h => h) (Or.inl ⟨by rfl, ?_⟩) ?_ ?_
            rotate_left
            · intro w'
              go_simp
              with_reducible rfl
            rotate_left
            · simp only [Act.put, List.setIfInBounds_toArray, List.set_cons_zero, List.set_cons_succ, i64_w, i32_w]
              rfl
            refine pure_ (i := 1) (N := some 63) (v := ?_) (a' := ?_) #[true, true, false, false, false, false, false, false, false, false, false, false, false, false] rfl rfl (by kernel_rfl) (fun _ _ _ h => h) (Or.inl ⟨by rfl, ?_⟩) ?_ ?_
            rotate_left
            · intro w'
              go_simp
              with_reducible rfl
            rotate_left
            · simp only [Act.put, List.setIfInBounds_toArray, List.set_cons_zero, List.set_cons_succ, i64_w, i32_w]
              rfl
            refine pure_ (i := 2) (N := some 64) (v := ?_) (a' := ?_) #[true, true, true, false, false, false, false, false, false, false, false, false, false, false] rfl rfl (by kernel_rfl) (fun _ _ _ h => h) (Or.inl ⟨by rfl, ?_⟩) ?_ ?_
            rotate_left
            · intro w'
              go_simp
              with_reducible rfl
            rotate_left
            · simp only [Act.put, List.setIfInBounds_toArray, List.set_cons_zero, List.set_cons_succ, i64_w, i32_w]
              rfl
            refine pure_ (i := 3) (N := some 65) (v := ?_) (a' := ?_) #[true, true, true, true, false, false, false, false, false, false, false, false, false, false] rfl rfl (by kernel_rfl) (fun _ _ _ h => h) (Or.inl ⟨by rfl, ?_⟩) ?_ ?_
            rotate_left
            · intro w'
              go_simp
              with_reducible rfl
            rotate_left
            · simp only [Act.put, List.setIfInBounds_toArray, List.set_cons_zero, List.set_cons_succ, i64_w, i32_w]
              rfl
            refine pure_ (i := 6) (N := some 68) (v := ?_) (a' := ?_) #[true, true, true, true, false, false, true, false, false, false, false, false, false, false] rfl rfl (by kernel_rfl) (fun _ _ _ h => h) (Or.inl ⟨by rfl, ?_⟩) ?_ ?_
            rotate_left
            · intro w'
              go_simp
              with_reducible rfl
            rotate_left
            · simp only [Act.put, List.setIfInBounds_toArray, List.set_cons_zero, List.set_cons_succ, i64_w, i32_w]
              rfl
            refine take_ (i := 4) (N := some 66) (v := ?_) (a' := ?_) #[true, true, true, true, true, false, true, false, false, false, false, false, false, false] rfl rfl (by kernel_rfl) (fun _ _ _ h => h) (Or.inl ⟨by rfl, ?_⟩) hHeld ?_ ?_
            rotate_left
            · rintro w' ⟨s0, s1, s2, s3, s4, s5, s6, s7, s8, s9, s10, s11, s12⟩
              go_simp
              with_reducible rfl
            rotate_left
            · simp only [Act.put, List.setIfInBounds_toArray, List.set_cons_zero, List.set_cons_succ, i64_w, i32_w]
              rfl
            refine take_ (i := 5) (N := some 67) (v := ?_) (a' := ?_) #[true, true, true, true, true, true, true, false, false, false, false, false, false, false] rfl rfl (by kernel_rfl) (fun _ _ _ h => h) (Or.inl ⟨by rfl, ?_⟩) hHeld ?_ ?_
            rotate_left
            · rintro w' ⟨s0, s1, s2, s3, s4, s5, s6, s7, s8, s9, s10, s11, s12⟩
              go_simp
              with_reducible rfl
            rotate_left
            · simp only [Act.put, List.setIfInBounds_toArray, List.set_cons_zero, List.set_cons_succ, i64_w, i32_w]
              rfl
            refine take_ (i := 7) (N := some 69) (v := ?_) (a' := ?_) #[true, true, true, true, true, true, true, true, false, false, false, false, false, false] rfl rfl (by kernel_rfl) (fun _ _ _ h => h) (Or.inl ⟨by rfl, ?_⟩) hHeld ?_ ?_
            rotate_left
            · rintro w' ⟨s0, s1, s2, s3, s4, s5, s6, s7, s8, s9, s10, s11, s12⟩
              go_simp
              with_reducible rfl
            rotate_left
            · simp only [Act.put, List.setIfInBounds_toArray, List.set_cons_zero, List.set_cons_succ, i64_w, i32_w]
              rfl
            refine pure_ (i := 8) (N := some 70) (v := ?_) (a' := ?_) #[true, true, true, true, true, true, true, true, true, false, false, false, false, false] rfl rfl (by kernel_rfl) (fun _ _ _ h => h) (Or.inl ⟨by rfl, ?_⟩) ?_ ?_
            rotate_left
            · intro w'
              go_simp
              with_reducible rfl
            rotate_left
            · simp only [Act.put, List.setIfInBounds_toArray, List.set_cons_zero, List.set_cons_succ, i64_w, i32_w]
              rfl
            refine one_ (i := 9) (N := some 71) #[true, true, true, true, true, true, true, true, true, true, false, false, false, false] rfl rfl (by kernel_rfl) (by decide) (fun K hK => ?_)
            refine value_ (w1 := ?_) (v := ?_) (by rfl) rfl ?_ ?_
            rotate_left 2
            · go_simp
              constructor
              · rfl
              · rfl
            refine hK.out _ _ ⟨((blk_cell (blk_alloc m4 (.cells #[.int .i64 P1, .int .i64 P2, .int .i64 x.f3] 105)) 0).trans rfl), ((blk_cell (blk_alloc m4 (.cells #[.int .i64 P1, .int .i64 P2, .int .i64 x.f3] 105)) 1).trans rfl), ((blk_cell (blk_alloc m4 (.cells #[.int .i64 P1, .int .i64 P2, .int .i64 x.f3] 105)) 2).trans rfl), ((blk_cell (blk_alloc m6 (.cells #[.int .i64 P1, .int .i64 P2, .int .i64 x.f3] 105)) 0).trans rfl), ((blk_cell (blk_alloc m6 (.cells #[.int .i64 P1, .int .i64 P2, .int .i64 x.f3] 105)) 1).trans rfl), ((blk_cell (blk_alloc m6 (.cells #[.int .i64 P1, .int .i64 P2, .int .i64 x.f3] 105)) 2).trans rfl), ((blk_cell (blk_alloc m6 (.cells #[.int .i64 P1, .int .i64 P2, .int .i64 x.f3] 105)) 3).trans rfl), ((blk_cell (blk_alloc m6 (.cells #[.int .i64 P1, .int .i64 P2, .int .i64 x.f3] 105)) 4).trans rfl), ((blk_cell (blk_alloc m6 (.cells #[.int .i64 P1, .int .i64 P2, .int .i64 x.f3] 105)) 5).trans rfl), ((blk_cell (blk_alloc m6 (.cells #[.int .i64 P1, .int .i64 P2, .int .i64 x.f3] 105)) 6).trans rfl), ((blk_cell (blk_alloc m6 (.cells #[.int .i64 P1, .int .i64 P2, .int .i64 x.f3] 105)) 7).trans rfl), ((blk_cell (blk_alloc m7 (.cells #[.int .i64 P1, .int .i64 P2, .int .i64 x.f3] 105)) 0).trans rfl), ((blk_cell (blk_alloc m7 (.cells #[.int .i64 P1, .int .i64 P2, .int .i64 x.f3] 105)) 1).trans rfl)⟩ (fun hHeld => ?_)
            clear hK K
            refine norm_ (a' := ?_) ?_ ?_
            rotate_left
            · show Act.put _ (some 71) _ = _
              simp only [Act.put, List.setIfInBounds_toArray, List.set_cons_zero, List.set_cons_succ, i64_w, i32_w]
              rfl
            refine one_ (i := 10) (N := some 72) #[true, true, true, true, true, true, true, true, true, true, true, false, false, false] rfl rfl (by kernel_rfl) (by decide) (fun K hK => ?_)
            have hne1 := Kd.R_ne HO m1 (by decide)
            have hne4 := Kd.R_ne HO m4 (by decide)
            have hne6 := Kd.R_ne HO m6 (by decide)
            have hne7 := Kd.R_ne HO m7 (by decide)
            refine Kd.R_append_step k105 (w0 := w) w.heap.size (by rfl) (.tmp 66) (.tmp 71) 107 105 (.agg #[.int .i64 0, .int .i64 0, .int .i64 0]) 24 rfl Try.underlying107 HI.out rfl (by decide) (by decide) v ((xs.take k).map (anchorI rate)) ⟨⟨P1, P2⟩, x.f3⟩ [.int .i64 P1, .int .i64 P2, .int .i64 x.f3] (fun _ => True) (fun _ => False) rfl rfl (k105_mkM _ _ _ _) (fun _ h => h.elim) (fun _ _ => trivial) HO mB hs_ (by rw [List.length_map, List.length_take]; omega) ?_
            intro v1 w1 HO1 hB1 hgr hat
            obtain ⟨A1_, c1_, rfl⟩ := Kd.R_slice HO1
            replace m1 := Go.Proofs.YtcjdhajdoikojaaW.PrintWords.blk_grown m1 hgr hne1
            replace m4 := Go.Proofs.YtcjdhajdoikojaaW.PrintWords.blk_grown m4 hgr hne4
            replace m6 := Go.Proofs.YtcjdhajdoikojaaW.PrintWords.blk_grown m6 hgr hne6
            replace m7 := Go.Proofs.YtcjdhajdoikojaaW.PrintWords.blk_grown m7 hgr hne7
            clear hgr hat HO hne1 hne4 hne6 hne7
            refine hK.out _ _ ⟨((blk_cell m4 0).trans rfl), ((blk_cell m4 1).trans rfl), ((blk_cell m4 2).trans rfl), ((blk_cell m6 0).trans rfl), ((blk_cell m6 1).trans rfl), ((blk_cell m6 2).trans rfl), ((blk_cell m6 3).trans rfl), ((blk_cell m6 4).trans rfl), ((blk_cell m6 5).trans rfl), ((blk_cell m6 6).trans rfl), ((blk_cell m6 7).trans rfl), ((blk_cell m7 0).trans rfl), ((blk_cell m7 1).trans rfl)⟩ (fun hHeld => ?_)
            clear hK K
            refine norm_ (a' := ?_) ?_ ?_
            rotate_left
            · show Act.put _ (some 72) _ = _
              simp only [Act.put, List.setIfInBounds_toArray, List.set_cons_zero, List.set_cons_succ, i64_w, i32_w]
              rfl
            refine pure_ (i := 11) (N := some 73) (v := ?_) (a' := ?_) #[true, true, true, true, true, true, true, true, true, true, true, true, false, false] rfl rfl (by kernel_rfl) (fun _ _ _ h => h) (Or.inl ⟨by rfl, ?_⟩) ?_ ?_
            rotate_left
            · intro w'
              go_simp
              with_reducible rfl
            rotate_left
            · simp only [Act.put, List.setIfInBounds_toArray, List.set_cons_zero, List.set_cons_succ, i64_w, i32_w]
              rfl
            refine pure_ (i := 12) (N := some 74) (v := ?_) (a' := ?_) #[true, true, true, true, true, true, true, true, true, true, true, true, true, false] rfl rfl (by kernel_rfl) (fun _ _ _ h => h) (Or.inl ⟨by rfl, ?_⟩) ?_ ?_
            rotate_left
            · intro w'
              go_simp
              with_reducible rfl
            rotate_left
            · simp only [Act.put, List.setIfInBounds_toArray, List.set_cons_zero, List.set_cons_succ, i64_w, i32_w]
              rfl
            refine last_ (i := 13) (N := none) #[true, true, true, true, true, true, true, true, true, true, true, true, true, true] rfl rfl (by kernel_rfl) (by decide) (fun K hK => ?_)
            have hf2 := blk_frozen m4 2
            have hc2 := (blk_cell m4 2).trans rfl
            refine skip_ (w1 := ?_) (by rfl) rfl ?_ ?_
            rotate_left
            · go_simp
              rfl
            refine hK.out _ _ ?_
            clear hK K
            refine done_ (by kernel_rfl) ?_
            go_wp2
            go_roundw
            case rel =>
              have hl1 : (List.map (anchorI rate) (List.take k xs) ++ [(⟨⟨P1, P2⟩, x.f3⟩ : S105)]).length = k + 1 := by rw [List.length_append, List.length_map, List.length_take]; simp; omega
              rw [hl1] at HO1
              exact ⟨k + 1, _, by omega, by simp, Lib.hid (by rw [HT.out, List.all_append, HA.out, List.all_cons, HG.out]; rfl), blk_far (p := ⟨g4, 2, none⟩) m1 hn_1_4 _, blk_put m4 2 _ rfl, by rw [HT.out, List.map_append, List.map_singleton, HN.out]; exact Kd.R_set HO1 m4 (fun q hq => by obtain rfl := List.mem_singleton.1 (show q ∈ [105] from hq); decide) 2 _, hB1.setCell (p := ⟨g4, 2, none⟩) hG4 _⟩
            case measure => simp [intOf]; omega
    · obtain rfl : k = xs.length := by omega
      go_wp2
      go_ret2
      have hE : faceE par rate xs = 0 := by rw [hF.out, if_pos]; rw [← HA.out, List.take_length]
      rw [List.take_length] at HO
      exact ⟨_, by rw [hE]; rfl, mB, .inl ⟨hE, g4, rfl, hG4, v, _, m4, HO⟩⟩
end Go.Proofs.Ytcjdhajdoikojaa.Clk
end
section
/- A sound clock, and a house, as the program makes them, or the errors. -/
namespace Go.Proofs.Ytcjdhajdoikojaa.Clk
open Go.RowKit Go.Shelf Go.Proofs.YtcjdhajdoikojaaW.PrintWords Go.Proofs.YtcjdhajdoikojaaW.PrintLast Go.Proofs.YtcjdhajdoikojaaW.PrintMore Go.Proofs.Ytcjdhajdoikojaa.Pr Go.Proofs.YtcjdhajdoikojaaW.Round
set_option linter.unusedVariables false
set_option linter.unusedSimpArgs false

/-- The error of a clock that must be sound; between comes another error. -/
def soundE (par rate : Int) (xs : List S46) (between : Int) : Int :=
  if faceE par rate xs ≠ 0 then faceE par rate xs else if between ≠ 0 then between else if (findCon rate (xs.map (anchorI rate))).isSome then 5 else 0
def NewSoundPost (par rate : Int) (xs : List S46) (between : Int) (w : World) (e : Ending) (w' : World) : Prop :=
  ∃ ptr, e = .returned (.tuple #[.pointer ptr, .int .i64 (soundE par rate xs between)]) ∧ Below w.heap.size w w' ∧ ((soundE par rate xs between = 0 ∧ ∃ g, ptr = some ⟨g, 0, none⟩ ∧ w.heap.size ≤ g ∧ FaceR w' g par rate (xs.map (anchorI rate))) ∨ (soundE par rate xs between ≠ 0 ∧ ptr = none))
theorem newSound_bad {par rate : Int} {xs : List S46} {between : Int} {w w' : World} {c : Int} (h : soundE par rate xs between = c) (hc : c ≠ 0) (hb : Below w.heap.size w w') : NewSoundPost par rate xs between w (.returned (.tuple #[.pointer none, .int .i64 c])) w' := ⟨none, by rw [h], hb, .inr ⟨by rw [h]; exact hc, rfl⟩⟩
theorem faceE_len {par rate : Int} {xs : List S46} (h : faceE par rate xs = 0) : xs.length ≤ 64 := by
  unfold faceE at h
  by_cases hl : xs.length < 1 ∨ xs.length > 64
  · rw [if_pos hl] at h
    cases h
  · omega

set_option maxRecDepth 100000 in
set_option maxHeartbeats 4000000 in
theorem newSound_any (par rate : Int) (A : Option Addr) (c : Nat) (xs : List S46) (between : Int) (w : World) (hC : Kd.C k46 w A xs.length xs) (hc : xs.length ≤ c) :
    Calls Try.prog 56 #[.agg #[.int .i64 par, .int .i64 rate, .slice A xs.length c], .int .i64 between] w (NewSoundPost par rate xs between w) := by
  have hu30 := Try.underlying30
  have hu81 := Try.underlying81
  go_enter Try.func56, Try.ntmps56
  go_wp2_with fail
  have m1 : Blk (w.alloc (.cells #[.int .i64 par, .int .i64 rate, .slice A xs.length c] 30)) (w.heap.size) #[.int .i64 par, .int .i64 rate, .slice A xs.length c] 30 := (by have h_ := blk_new w (.cells #[.int .i64 par, .int .i64 rate, .slice A xs.length c] 30); first | exact h_ | (simp only [World.size_alloc] at h_; exact h_))
  have mB : Below w.heap.size w (w.alloc (.cells #[.int .i64 par, .int .i64 rate, .slice A xs.length c] 30)) := (below_alloc (Below.refl w.heap.size w) _)
  have hsz_ : w.heap.size ≤ w.heap.size := Nat.le_refl _
  generalize hW_ : (w.alloc (.cells #[.int .i64 par, .int .i64 rate, .slice A xs.length c] 30)) = W1 at m1 mB ⊢
  clear hW_
  generalize hg1 : w.heap.size = g1 at m1 ⊢
  have hG1 : w.heap.size ≤ g1 := by omega
  clear hsz_
  try clear hg1
  have hs_W1 : w.heap.size ≤ W1.heap.size := mB.size
  have hcon := newFace_any par rate A c xs W1 (Kd.C_below hC mB) hc
  (with_reducible refine hcon.mono ?_)
  clear hcon
  rintro e W2 ⟨ptr, rfl, hb, ⟨h0, g, rfl, hg, hF⟩ | ⟨h0, rfl⟩⟩
  case inr =>
    have hE : soundE par rate xs between = faceE par rate xs := by unfold soundE; rw [if_pos h0]
    replace mB := below_step mB hb
    clear hb
    have HE := Lib.hid hE
    clear hE
    generalize faceE par rate xs = E0 at *
    have hd : (E0 == 0) = false := beq_eq_false_iff_ne.2 h0
    have hd2 : (E0 != 0) = true := by rw [bne, hd]; rfl
    have h0_ := Lib.hid h0
    clear h0
    go_wp2
    go_ret2
    exact newSound_bad HE.out h0_.out mB
  case inl =>
    rw [h0]
    replace mB := below_step mB hb
    clear hb
    have hlen := faceE_len h0
    have hg0 : w.heap.size ≤ g := Nat.le_trans (m := W1.heap.size) (by assumption) hg
    by_cases hbt : between = 0
    case neg =>
      have hE : Hid (soundE par rate xs between = between) := Lib.hid (by unfold soundE; rw [if_neg (by simp [h0]), if_pos hbt])
      have hd : (between == 0) = false := beq_eq_false_iff_ne.2 hbt
      have hd2 : (between != 0) = true := by rw [bne, hd]; rfl
      have h1 := Lib.hid hbt
      clear h0 hbt
      go_wp2
      go_ret2
      exact newSound_bad hE.out h1.out mB
    case pos =>
      cases hbt
      go_wp2_with fail
      have hcon := cont_any g par rate (xs.map (anchorI rate)) (by rw [List.length_map]; omega) W2 hF.at
      (with_reducible refine hcon.mono ?_)
      clear hcon
      rintro e W3 ⟨rfl, hb⟩
      replace hF := hF.below hb
      replace mB := below_step mB hb
      clear hb
      have hS : Hid (soundE par rate xs 0 = if (findCon rate (xs.map (anchorI rate))).isSome then 5 else 0) := Lib.hid (by unfold soundE; rw [if_neg (by simp [h0]), if_neg (by simp)])
      clear h0
      generalize findCon rate (xs.map (anchorI rate)) = R at hS ⊢
      have hs_ : w.heap.size ≤ W3.heap.size := mB.size
      cases R with
      | some q =>
        go_wp2
        go_ret2
        exact newSound_bad (by rw [hS.out]; rfl) (by decide) (by repeat (first | exact mB | apply below_alloc | assumption))
      | none =>
        go_wp2
        go_ret2
        exact ⟨_, by rw [hS.out]; rfl, (by repeat (first | exact mB | apply below_alloc | assumption)), .inl ⟨by rw [hS.out]; rfl, g, rfl, hg0, hF.below (by repeat (first | exact Below.refl _ _ | apply below_alloc))⟩⟩
end Go.Proofs.Ytcjdhajdoikojaa.Clk
end
section
/- A house, as the program makes it, or the error. -/
namespace Go.Proofs.Ytcjdhajdoikojaa.Clk
open Go.RowKit Go.Shelf Go.Proofs.YtcjdhajdoikojaaW.PrintWords Go.Proofs.YtcjdhajdoikojaaW.PrintLast Go.Proofs.YtcjdhajdoikojaaW.PrintMore Go.Proofs.Ytcjdhajdoikojaa.Pr Go.Proofs.YtcjdhajdoikojaaW.Round
set_option linter.unusedVariables false
set_option linter.unusedSimpArgs false

/-- The kind of pointers to whole blocks. -/
def kptr : Kd Nat := Kd.scalar (fun g => .pointer (some ⟨g, 0, none⟩)) (fun _ => rfl)
theorem info99 : (Try.prog.info? 99).map (fun i => (i.zero, i.size, i.bytes)) = some (some (.pointer none), 1, 8) := by kernel_rfl
/-- A clock of a house, in memory. -/
def FaceC (W : World) (g : Nat) (c : S30) : Prop := FaceR W g c.f0 c.f1 (c.f2.map (anchorI c.f1))
theorem FaceC.below {W W1 : World} {g : Nat} {c : S30} (h : FaceC W g c) (hb : Below W.heap.size W W1) : FaceC W1 g c := FaceR.below h hb
theorem FaceC.grown {W W1 : World} {g : Nat} {c : S30} {base : Nat} {v : Value} {gs : List Nat} (h : FaceC W g c) (hv : kptr.R 99 W base (fun _ => True) v gs) (hg : W.grownBy W1 v.ownBlock) : FaceC W1 g c := by
  obtain ⟨u, b, h1, h2⟩ := h
  exact ⟨u, b, Go.Proofs.YtcjdhajdoikojaaW.PrintWords.blk_grown h1 hg (Kd.R_ne hv h1 (by decide)), Kd.R_over' h2 (Kd.R_typed hv) (fun q hq => by obtain rfl := List.mem_singleton.1 (show q ∈ [105] from hq); decide) hg⟩
/-- A house in memory. -/
def HouseAt (W : World) (base : Nat) (v : Value) (cs : List S30) : Prop := ∃ gs : List Nat, kptr.R 99 W base (fun _ => True) v gs ∧ gs.length = cs.length ∧ ∀ (j g : Nat) (c : S30), gs[j]? = some g → cs[j]? = some c → FaceC W g c
theorem HouseAt.nil (W : World) (base : Nat) : HouseAt W base (.slice none 0 0) [] := ⟨[], Kd.R_nil _ _ _ _ _, rfl, fun j g c h _ => by simp at h⟩
theorem HouseAt.below {W W1 : World} {base : Nat} {v : Value} {cs : List S30} (h : HouseAt W base v cs) (hb : Below W.heap.size W W1) : HouseAt W1 base v cs := by
  obtain ⟨gs, h1, h2, h3⟩ := h
  exact ⟨gs, Kd.R_below h1 hb, h2, fun j g c hj hc => (h3 j g c hj hc).below hb⟩
theorem HouseAt.slice {W : World} {base : Nat} {v : Value} {cs : List S30} (h : HouseAt W base v cs) : ∃ A c, v = .slice A cs.length c := by
  obtain ⟨gs, h1, h2, h3⟩ := h
  rw [← h2]
  exact Kd.R_slice h1
theorem HouseAt.get {W : World} {base : Nat} {A : Option Addr} {m cap : Nat} {cs : List S30} (h : HouseAt W base (.slice A m cap) cs) (i : Int) (h0 : 0 ≤ i) (h1 : i < cs.length) :
    ∃ ad g, A = some ad ∧ W.cell? (ad.add i.toNat) = some (.pointer (some ⟨g, 0, none⟩)) ∧ FaceC W g (rd_T30 cs i) := by
  obtain ⟨gs, hR, h2, h3⟩ := h
  obtain ⟨A', c', e, hl, hC⟩ := Kd.R_reads hR
  cases e
  obtain ⟨ad, cl, e1, _, hK, hc⟩ := Kd.C_get hC 0 i h0 (by omega)
  have hlt : i.toNat < gs.length := by omega
  have hg : gs[i.toNat]? = some (gs.getD i.toNat 0) := by rw [List.getD_eq_getElem?_getD, List.getElem?_eq_getElem hlt]; rfl
  have hcs : cs[i.toNat]? = some (rd_T30 cs i) := by simp [rd_T30, List.getD_eq_getElem?_getD, show i.toNat < cs.length by omega]
  have hx := hc 0 (.pointer (some ⟨gs.getD i.toNat 0, 0, none⟩)) (by rw [show cl = _ from hK]; rfl)
  rw [show kptr.sz = 1 from rfl, Nat.mul_one, Nat.add_zero] at hx
  exact ⟨ad, _, e1, hx, h3 _ _ _ hg hcs⟩
theorem HouseAt.snoc {W W1 : World} {base g : Nat} {v v1 : Value} {gs : List Nat} {cs : List S30} {c : S30} (hv : kptr.R 99 W base (fun _ => True) v gs) (hl : gs.length = cs.length) (hf : ∀ (j g : Nat) (c : S30), gs[j]? = some g → cs[j]? = some c → FaceC W g c) (hc : FaceC W g c)
    (h1 : kptr.R 99 W1 base (fun _ => True) v1 (gs ++ [g])) (hg : W.grownBy W1 v.ownBlock) : HouseAt W1 base v1 (cs ++ [c]) := by
  refine ⟨_, h1, by simp [hl], fun j g' c' hj hc' => ?_⟩
  by_cases hlt : j < gs.length
  · rw [List.getElem?_append_left hlt] at hj
    rw [List.getElem?_append_left (by omega)] at hc'
    exact (hf j g' c' hj hc').grown hv hg
  · have hj' := hj
    rw [List.getElem?_append_right (by omega), List.getElem?_singleton] at hj
    rw [List.getElem?_append_right (by omega), List.getElem?_singleton] at hc'
    by_cases e : j - gs.length = 0
    · rw [if_pos e] at hj
      rw [if_pos (by omega)] at hc'
      cases hj
      cases hc'
      exact hc.grown hv hg
    · rw [if_neg e] at hj
      cases hj

/-- The errors of a house's clocks, one by one. -/
def cE (c : S30) : Int := faceE c.f0 c.f1 c.f2
def firstErr (cs : List S30) : Int := ((cs.map cE).find? fun e => decide (e ≠ 0)).getD 0
def parOK (cs : List S30) : Bool := (List.range cs.length).all fun i => decide ((rd_T30 cs i).f0 < (i : Int))
def badC (c : S30) : Bool := (findCon c.f1 (c.f2.map (anchorI c.f1))).isSome
def houseE (cs : List S30) : Int := if cs.length < 1 ∨ cs.length > 32 then 6 else if firstErr cs ≠ 0 then firstErr cs else if parOK cs = false then 2 else if cs.any badC then 5 else 0
theorem firstErr_at {cs : List S30} {k : Nat} {c : S30} (hc : cs[k]? = some c) (h0 : (cs.take k).all (fun x => decide (cE x = 0)) = true) (h : cE c ≠ 0) : firstErr cs = cE c := by
  unfold firstErr
  have hlt : k < cs.length := (List.getElem?_eq_some_iff.1 hc).1
  have e : cs = cs.take k ++ (c :: cs.drop (k + 1)) := by
    conv => lhs; rw [← List.take_append_drop k cs, List.drop_eq_getElem_cons hlt]
    rw [(List.getElem?_eq_some_iff.1 hc).2]
  have hn : ((cs.take k).map cE).find? (fun e => decide (e ≠ 0)) = none := by
    rw [List.find?_eq_none]
    intro x hx
    obtain ⟨y, hy, rfl⟩ := List.mem_map.1 hx
    have := List.all_eq_true.1 h0 y hy
    simpa using this
  rw [e, List.map_append, List.find?_append, hn]
  simp [h]
theorem firstErr_all {cs : List S30} (h0 : cs.all (fun x => decide (cE x = 0)) = true) : firstErr cs = 0 := by
  unfold firstErr
  have hn : (cs.map cE).find? (fun e => decide (e ≠ 0)) = none := by
    rw [List.find?_eq_none]
    intro x hx
    obtain ⟨y, hy, rfl⟩ := List.mem_map.1 hx
    have := List.all_eq_true.1 h0 y hy
    simpa using this
  rw [hn]
  rfl
def NewHousePost (cs : List S30) (w : World) (e : Ending) (w' : World) : Prop :=
  ∃ v, e = .returned (.tuple #[v, .int .i64 (houseE cs)]) ∧ Below w.heap.size w w' ∧ ((houseE cs = 0 ∧ HouseAt w' w.heap.size v cs) ∨ (houseE cs ≠ 0 ∧ v = .slice none 0 0))
theorem newHouse_bad {cs : List S30} {w w' : World} {c : Int} (h : houseE cs = c) (hc : c ≠ 0) (hb : Below w.heap.size w w') : NewHousePost cs w (.returned (.tuple #[.slice none 0 0, .int .i64 c])) w' := ⟨_, by rw [h], hb, .inr ⟨by rw [h]; exact hc, rfl⟩⟩

set_option maxRecDepth 100000 in
set_option maxHeartbeats 4000000 in
theorem newHouse_any (A : Option Addr) (c : Nat) (cs : List S30) (w : World) (hC : Kd.C k30 w A cs.length cs) (hc : cs.length ≤ c) :
    Calls Try.prog 54 #[.slice A cs.length c] w (NewHousePost cs w) := by
  have hu30 := Try.underlying30
  have hu81 := Try.underlying81
  have hu109 := Try.underlying109
  by_cases h1 : cs.length < 1
  · have hE : Hid (houseE cs = 6) := Lib.hid (by unfold houseE; rw [if_pos (.inl h1)])
    have d1 : decide ((cs.length : Int) < 1) = true := decide_eq_true (by omega)
    have d2 : decide (cs.length < 1) = true := decide_eq_true (by omega)
    go_enter Try.func54, Try.ntmps54
    go_wp2
    go_ret2
    exact newHouse_bad hE.out (by decide) (Below.refl _ _)
  have d1 : decide ((cs.length : Int) < 1) = false := decide_eq_false (by omega)
  have d2 : decide (cs.length < 1) = false := decide_eq_false (by omega)
  by_cases h2 : cs.length > 32
  · have hE : Hid (houseE cs = 6) := Lib.hid (by unfold houseE; rw [if_pos (.inr h2)])
    have d3 : decide ((32 : Int) < (cs.length : Int)) = true := decide_eq_true (by omega)
    have d4 : decide (32 < cs.length) = true := decide_eq_true (by omega)
    go_enter Try.func54, Try.ntmps54
    go_wp2
    go_ret2
    exact newHouse_bad hE.out (by decide) (Below.refl _ _)
  have d3 : decide ((32 : Int) < (cs.length : Int)) = false := decide_eq_false (by omega)
  have d4 : decide (32 < cs.length) = false := decide_eq_false (by omega)
  have hH0 : houseE cs = if firstErr cs ≠ 0 then firstErr cs else if parOK cs = false then 2 else if cs.any badC then 5 else 0 := by unfold houseE; rw [if_neg (by omega)]
  have hH := Lib.hid hH0
  have hL : cs.length ≤ 32 := by omega
  have hL1 : 1 ≤ cs.length := by omega
  clear hH0 h1 h2
  go_enter Try.func54, Try.ntmps54
  go_wp2
  go_loopw [4, 25] (fun v i wr => ∃ (k : Nat) (v_ : Value), v_ = v ∧ k ≤ cs.length ∧ i = .int .i64 k ∧ Hid ((cs.take k).all (fun x => decide (cE x = 0)) = true) ∧ HouseAt wr w.heap.size v (cs.take k) ∧ Below w.heap.size w wr) (fun _ i _ => cs.length - (intOf i).toNat)
  case atStart => exact ⟨0, _, rfl, Nat.zero_le _, rfl, Lib.hid (by simp), HouseAt.nil _ _, Below.refl _ _⟩
  case round =>
    obtain ⟨k, v_, rfl, hk, rfl, HA, HH, mB⟩ := hrel
    by_cases hlt : k < cs.length
    · obtain ⟨ad_, A2, c2, e_, hx0, hx1, hx2, hl2, hC2⟩ := at_T30 hC k (by omega) (by omega)
      cases e_
      simp only [Int.toNat_natCast] at hx0 hx1 hx2 hl2 hC2
      replace hx0 := (mB.cell (World.block_lt_of_cell? w _ hx0)).trans hx0
      replace hx1 := (mB.cell (World.block_lt_of_cell? w _ hx1)).trans hx1
      replace hx2 := (mB.cell (World.block_lt_of_cell? w _ hx2)).trans hx2
      have hlk : cs[k]? = some (rd_T30 cs (k : Int)) := by simp [rd_T30, List.getD_eq_getElem?_getD, hlt]
      have htk : cs.take (k + 1) = cs.take k ++ [rd_T30 cs (k : Int)] := by rw [List.take_add_one, hlk]; rfl
      generalize rd_T30 cs (k : Int) = x at *
      have HT := Lib.hid htk
      have HK := Lib.hid hlk
      clear htk hlk
      have hs_wr : w.heap.size ≤ wr.heap.size := mB.size
      go_wp2_with fail
      clear hx0 hx1 hx2
      replace HH := HH.below (below_alloc (Below.refl wr.heap.size wr) (.cells #[.int .i64 x.f0, .int .i64 x.f1, .slice A2 x.f2.length c2] 30))
      have m6 : Blk (wr.alloc (.cells #[.int .i64 x.f0, .int .i64 x.f1, .slice A2 x.f2.length c2] 30)) (wr.heap.size) #[.int .i64 x.f0, .int .i64 x.f1, .slice A2 x.f2.length c2] 30 := (by have h_ := blk_new wr (.cells #[.int .i64 x.f0, .int .i64 x.f1, .slice A2 x.f2.length c2] 30); first | exact h_ | (simp only [World.size_alloc] at h_; exact h_))
      replace mB : Below w.heap.size w (wr.alloc (.cells #[.int .i64 x.f0, .int .i64 x.f1, .slice A2 x.f2.length c2] 30)) := (below_alloc mB _)
      have hsz_ : w.heap.size ≤ wr.heap.size := hs_wr
      generalize hW_ : (wr.alloc (.cells #[.int .i64 x.f0, .int .i64 x.f1, .slice A2 x.f2.length c2] 30)) = W2 at m6 mB HH ⊢
      clear hW_
      generalize hg6 : wr.heap.size = g6 at m6 ⊢
      have hG6 : w.heap.size ≤ g6 := by omega
      clear hsz_
      try clear hg6
      have hs_W2 : w.heap.size ≤ W2.heap.size := mB.size
      have hcon := newFace_any x.f0 x.f1 A2 c2 x.f2 W2 (Kd.C_below hC2 mB) hl2
      (with_reducible refine hcon.mono ?_)
      clear hcon
      rintro e W3 ⟨ptr, rfl, hb, ⟨h0, g, rfl, hg, hF⟩ | ⟨h0, rfl⟩⟩
      case inr =>
        have hE : houseE cs = cE x := by rw [hH.out, firstErr_at HK.out HA.out h0, if_pos (show cE x ≠ 0 from h0)]
        replace mB := below_step mB hb
        clear hb
        have HE := Lib.hid (show houseE cs = faceE x.f0 x.f1 x.f2 from hE)
        clear hE
        generalize faceE x.f0 x.f1 x.f2 = E0 at *
        have hd : (E0 == 0) = false := beq_eq_false_iff_ne.2 h0
        have hd2 : (E0 != 0) = true := by rw [bne, hd]; rfl
        have h0_ := Lib.hid h0
        clear h0
        go_wp2
        go_ret2
        exact newHouse_bad HE.out h0_.out mB
      case inl =>
        rw [h0]
        replace HH := HH.below hb
        replace mB := below_step mB hb
        clear hb m6
        have HZ : Hid (cE x = 0) := Lib.hid h0
        clear h0
        obtain ⟨gs, HO, hgl, hgf⟩ := HH
        have hlk : (cs.take k).length = k := by rw [List.length_take]; omega
        have hLx : gs.length ≤ 32 := by omega
        have HL := Lib.hid hlk
        clear hlk
        have hs_ : w.heap.size ≤ W3.heap.size := mB.size
        go_wp2_with (first | ((with_reducible refine gate_builtin (b := .append) (xs := #[.tmp 37, .tmp 39]) rfl ?_); (try (refine gate_guard (by rfl) ?_; dsimp only)); at_builtin; go_loud (refine Kd.R_append kptr (w0 := w) w.heap.size rfl (.tmp 37) (.tmp 39) 94 99 (.pointer none) 8 rfl Try.underlying94 info99 rfl (by decide) (by decide) v_ gs g [.pointer (some ⟨g, 0, none⟩)] (fun _ => True) (fun _ => False) rfl rfl ?aP (fun _ hk => hk.elim) ?aF ?aO ?aB ?aS ?aL ?_); (case aP => exact rfl); (case aF => exact (fun _ _ => trivial)); (case aO => exact HO); (case aB => exact mB); (case aS => exact hs_); (case aL => omega); intro v1 w1 HO1 hB1 hgr hat))
        go_roundw
        case rel => exact ⟨k + 1, _, rfl, by omega, by simp, Lib.hid (by rw [HT.out, List.all_append, HA.out, List.all_cons, HZ.out]; rfl), by rw [HT.out]; exact HouseAt.snoc HO hgl hgf hF HO1 hgr, hB1⟩
        case measure => simp [intOf]; omega
    · obtain rfl : k = cs.length := by omega
      rw [List.take_length] at HH HA
      obtain ⟨A3, c3, rfl⟩ := HH.slice
      have HF0 := firstErr_all HA.out
      have hH2 : houseE cs = if parOK cs = false then 2 else if cs.any badC then 5 else 0 := by rw [hH.out, HF0, if_neg (by decide)]
      have hHb := Lib.hid hH2
      have hz : ∀ x ∈ cs, x.f2.length ≤ 64 := fun x hx => faceE_len (of_decide_eq_true (List.all_eq_true.1 HA.out x hx))
      have HZ := Lib.hid hz
      clear hz hH2 HF0 hH HA
      go_wp2
      go_loopw [44] (fun i wr2 => wr2 = wr ∧ ∃ (k : Nat), k ≤ cs.length ∧ i = .int .i64 k ∧ Hid (∀ j : Nat, j < k → (rd_T30 cs j).f0 < (j : Int))) (fun i _ => cs.length - (intOf i).toNat)
      case atStart => exact ⟨rfl, 0, Nat.zero_le _, rfl, Lib.hid (fun j hj => absurd hj (Nat.not_lt_zero j))⟩
      case round =>
        obtain ⟨rfl, k, hk, rfl, HP⟩ := hrel
        by_cases hlt : k < cs.length
        · obtain ⟨ad, g, e_, hx, hf⟩ := HH.get k (by omega) (by omega)
          cases e_
          obtain ⟨u_, b_, hblk, _⟩ := hf
          simp only [Int.toNat_natCast] at hx
          have cg := (blk_cell hblk 0).trans rfl
          clear hblk
          by_cases hpar : (rd_T30 cs (k : Int)).f0 < (k : Int)
          · have dp : decide ((rd_T30 cs (k : Int)).f0 ≥ (k : Int)) = false := decide_eq_false (by omega)
            have dp2 : decide ((k : Int) ≤ (rd_T30 cs (k : Int)).f0) = false := decide_eq_false (by omega)
            have HQ := Lib.hid hpar
            clear hpar
            go_wp2
            go_roundw
            case rel => exact ⟨trivial, k + 1, by omega, by simp, Lib.hid (fun j hj => by
              by_cases e : j = k
              · subst e
                exact HQ.out
              · exact HP.out j (by omega))⟩
            case measure => simp [intOf]; omega
          · have dp : decide ((rd_T30 cs (k : Int)).f0 ≥ (k : Int)) = true := decide_eq_true (by omega)
            have dp2 : decide ((k : Int) ≤ (rd_T30 cs (k : Int)).f0) = true := decide_eq_true (by omega)
            have hpo : parOK cs = false := by
              rw [parOK, List.all_eq_false]
              exact ⟨k, List.mem_range.2 hlt, by rw [decide_eq_true_iff]; exact hpar⟩
            have hE : Hid (houseE cs = 2) := Lib.hid (by rw [hHb.out, if_pos hpo])
            clear hpar hpo
            go_wp2
            go_ret2
            exact newHouse_bad hE.out (by decide) mB
        · obtain rfl : k = cs.length := by omega
          have hpo : parOK cs = true := by
            rw [parOK, List.all_eq_true]
            intro j hj
            exact decide_eq_true (HP.out j (List.mem_range.1 hj))
          have hH2 : houseE cs = if cs.any badC then 5 else 0 := by rw [hHb.out, if_neg (by rw [hpo]; decide)]
          have hHd := Lib.hid hH2
          clear hpo hH2 hHb HP
          go_wp2
          go_loopw [58] (fun i wr3 => ∃ (k : Nat), k ≤ cs.length ∧ i = .int .i64 k ∧ Hid ((cs.take k).any badC = false) ∧ HouseAt wr3 w.heap.size (.slice A3 cs.length c3) cs ∧ Below w.heap.size w wr3) (fun i _ => cs.length - (intOf i).toNat)
          case atStart => exact ⟨0, Nat.zero_le _, rfl, Lib.hid (by simp), HH, mB⟩
          case round =>
            clear HH mB
            obtain ⟨k, hk, rfl, HA, HH, mB⟩ := hrel
            by_cases hlt : k < cs.length
            · obtain ⟨ad, g, e_, hx, hf⟩ := HH.get k (by omega) (by omega)
              cases e_
              simp only [Int.toNat_natCast] at hx
              have hlk : cs[k]? = some (rd_T30 cs (k : Int)) := by simp [rd_T30, List.getD_eq_getElem?_getD, hlt]
              have htk : cs.take (k + 1) = cs.take k ++ [rd_T30 cs (k : Int)] := by rw [List.take_add_one, hlk]; rfl
              have hmem : rd_T30 cs (k : Int) ∈ cs := List.mem_of_getElem? hlk
              have hzl := HZ.out _ hmem
              generalize rd_T30 cs (k : Int) = x at *
              have HT := Lib.hid htk
              have HM := Lib.hid hmem
              clear htk hlk hmem
              go_wp2_with fail
              have hcon := cont_any g x.f0 x.f1 (x.f2.map (anchorI x.f1)) (by rw [List.length_map]; omega) _ hf.at
              (with_reducible refine hcon.mono ?_)
              clear hcon
              rintro e W4 ⟨rfl, hb⟩
              replace HH := HH.below hb
              replace mB := below_step mB hb
              clear hb hx hf
              have hs_ : w.heap.size ≤ W4.heap.size := mB.size
              cases hR : findCon x.f1 (x.f2.map (anchorI x.f1)) with
              | some q =>
                have hE : Hid (houseE cs = 5) := Lib.hid (by rw [hHd.out, if_pos]; exact List.any_eq_true.2 ⟨x, HM.out, by rw [badC, hR]; rfl⟩)
                clear hR
                go_wp2
                go_ret2
                exact newHouse_bad hE.out (by decide) (by repeat (first | exact mB | apply below_alloc | assumption))
              | none =>
                have hg : Hid (badC x = false) := Lib.hid (by rw [badC, hR]; rfl)
                clear hR
                go_wp2
                go_roundw
                case rel => exact ⟨k + 1, by omega, by simp, Lib.hid (by rw [HT.out, List.any_append, HA.out, List.any_cons, hg.out]; rfl), HH.below (by repeat (first | exact Below.refl _ _ | apply below_alloc)), by repeat (first | exact mB | apply below_alloc | assumption)⟩
                case measure => simp [intOf]; omega
            · obtain rfl : k = cs.length := by omega
              rw [List.take_length] at HA
              have hE : houseE cs = 0 := by rw [hHd.out, HA.out]; rfl
              have HE := Lib.hid hE
              clear hE
              go_wp2
              go_ret2
              exact ⟨_, by rw [HE.out]; rfl, mB, .inl ⟨HE.out, HH⟩⟩
end Go.Proofs.Ytcjdhajdoikojaa.Clk
end
section
/- The true time of a stamp, as the program computes it. -/
namespace Go.Proofs.Ytcjdhajdoikojaa.Clk
open Go.RowKit Go.Shelf Go.Proofs.YtcjdhajdoikojaaW.PrintWords Go.Proofs.YtcjdhajdoikojaaW.PrintLast Go.Proofs.YtcjdhajdoikojaaW.PrintMore Go.Proofs.Ytcjdhajdoikojaa.Pr Go.Proofs.YtcjdhajdoikojaaW.Round
set_option linter.unusedVariables false
set_option linter.unusedSimpArgs false

/-- What the parent of a clock shows. -/
def upI (c : S30) (a : Int × Int) : Int × Int := (wrap64 (a.1 + (atI c.f1 (c.f2.map (anchorI c.f1)) a.1).1), wrap64 (a.2 + (atI c.f1 (c.f2.map (anchorI c.f1)) a.2).2))
def timeI (cs : List S30) : Nat → Int → Int × Int → Int × Int
  | 0, _, a => a
  | n + 1, i, a => if i = -1 then a else timeI cs n (rd_T30 cs i).f0 (upI (rd_T30 cs i) a)
theorem timeI_end (cs : List S30) (n : Nat) (a : Int × Int) : timeI cs n (-1) a = a := by
  cases n with
  | zero => rfl
  | succ n => rw [timeI, if_pos rfl]
def timeE (cs : List S30) (k t : Int) : Int := if k < 0 ∨ (cs.length : Int) ≤ k ∨ okT t = false then 3 else 0
def timeV (cs : List S30) (k t : Int) : Int × Int := if k < 0 ∨ (cs.length : Int) ≤ k ∨ okT t = false then (0, 0) else timeI cs cs.length k (t, t)
theorem faceE_par {par rate : Int} {xs : List S46} (h : faceE par rate xs = 0) : -1 ≤ par := by
  unfold faceE at h
  by_cases hl : xs.length < 1 ∨ xs.length > 64
  · rw [if_pos hl] at h
    cases h
  · rw [if_neg hl] at h
    by_cases hp : par < -1 ∨ rate < 0 ∨ rate > 1000000
    · rw [if_pos hp] at h
      cases h
    · omega
theorem houseE_zero {cs : List S30} (h : houseE cs = 0) : (1 ≤ cs.length ∧ cs.length ≤ 32) ∧ (∀ c ∈ cs, cE c = 0) ∧ parOK cs = true ∧ cs.any badC = false := by
  unfold houseE at h
  by_cases hl : cs.length < 1 ∨ cs.length > 32
  · rw [if_pos hl] at h
    cases h
  rw [if_neg hl] at h
  by_cases h1 : firstErr cs ≠ 0
  · rw [if_pos h1] at h
    exact absurd h h1
  rw [if_neg h1] at h
  by_cases h2 : parOK cs = false
  · rw [if_pos h2] at h
    cases h
  rw [if_neg h2] at h
  by_cases h3 : cs.any badC = true
  · rw [if_pos h3] at h
    cases h
  refine ⟨by omega, ?_, by simpa using h2, by simpa using h3⟩
  intro c hc
  by_cases h0 : cE c = 0
  · exact h0
  · exfalso
    apply h1
    unfold firstErr
    cases hf : (cs.map cE).find? (fun e => decide (e ≠ 0)) with
    | none =>
      have := List.find?_eq_none.1 hf _ (List.mem_map.2 ⟨c, hc, rfl⟩)
      simp [h0] at this
    | some e => simpa using List.find?_some hf
theorem isTime_any (t : Int) (w : World) : Calls Try.prog 71 #[.int .i64 t] w fun e w' => e = .returned (.bool (okT t)) ∧ Below w.heap.size w w' := (clock_isTime.calls _ _ w (isTime_some t)).mono fun e w' h => ⟨h.1, h.2.below⟩
def TimePost (cs : List S30) (k t : Int) (w : World) (e : Ending) (w' : World) : Prop := e = .returned (.tuple #[.agg #[.int .i64 (timeV cs k t).1, .int .i64 (timeV cs k t).2], .int .i64 (timeE cs k t)]) ∧ Below w.heap.size w w'
set_option maxRecDepth 100000 in
set_option maxHeartbeats 4000000 in
theorem time_any (base : Nat) (v : Value) (cs : List S30) (k t : Int) (w : World) (hH : HouseAt w base v cs) (hE : houseE cs = 0) :
    Calls Try.prog 55 #[v, .agg #[.int .i64 k, .int .i64 t]] w (TimePost cs k t w) := by
  have hu35 := Try.underlying35
  have hu41 := Try.underlying41
  have hu109 := Try.underlying109
  have hfd0 : ∀ (x0_ x1_ : Value) (W_ : World), (Instr.field 35 (.agg #[x0_, x1_]) 0).run Try.prog W_ = .ok (x0_) W_ := fun _ _ W_ => by kernel_rfl
  have hfd1 : ∀ (x0_ x1_ : Value) (W_ : World), (Instr.field 35 (.agg #[x0_, x1_]) 1).run Try.prog W_ = .ok (x1_) W_ := fun _ _ W_ => by kernel_rfl
  obtain ⟨hn, hce, hpo, _⟩ := houseE_zero hE
  obtain ⟨A, c, rfl⟩ := hH.slice
  by_cases h1 : k < 0
  · have hT : Hid (timeE cs k t = 3 ∧ timeV cs k t = (0, 0)) := Lib.hid ⟨by unfold timeE; rw [if_pos (.inl h1)], by unfold timeV; rw [if_pos (.inl h1)]⟩
    have dh10 : decide (k < 0) = true := decide_eq_true h1
    go_enter Try.func55, Try.ntmps55
    go_wp2
    have m3 : Blk ((w.alloc (.cells #[.int .i64 k, .int .i64 t] 41)).alloc (.cells #[.int .i64 0, .int .i64 0] 35)) (w.heap.size) #[.int .i64 k, .int .i64 t] 41 := (blk_alloc (by have h_ := blk_new w (.cells #[.int .i64 k, .int .i64 t] 41); first | exact h_ | (simp only [World.size_alloc] at h_; exact h_)) _)
    have m4 : Blk ((w.alloc (.cells #[.int .i64 k, .int .i64 t] 41)).alloc (.cells #[.int .i64 0, .int .i64 0] 35)) (w.heap.size + 1) #[.int .i64 0, .int .i64 0] 35 := (by have h_ := blk_new (w.alloc (.cells #[.int .i64 k, .int .i64 t] 41)) (.cells #[.int .i64 0, .int .i64 0] 35); first | exact h_ | (simp only [World.size_alloc] at h_; exact h_))
    have mB : Below w.heap.size w ((w.alloc (.cells #[.int .i64 k, .int .i64 t] 41)).alloc (.cells #[.int .i64 0, .int .i64 0] 35)) := (below_alloc (below_alloc (Below.refl w.heap.size w) _) _)
    have hsz_ : w.heap.size ≤ w.heap.size := Nat.le_refl _
    generalize hW_ : ((w.alloc (.cells #[.int .i64 k, .int .i64 t] 41)).alloc (.cells #[.int .i64 0, .int .i64 0] 35)) = W1 at m3 m4 mB ⊢
    clear hW_
    generalize hg3 : w.heap.size = g3 at m3 m4 ⊢
    have hG3 : w.heap.size ≤ g3 := by omega
    generalize hg4 : g3 + 1 = g4 at m4 ⊢
    have hn_3_4 : g3 ≠ g4 := by omega
    have hn_4_3 : g4 ≠ g3 := hn_3_4.symm
    have hG4 : w.heap.size ≤ g4 := by omega
    clear hsz_
    try clear hg4
    try clear hg3
    have hs_W1 : w.heap.size ≤ W1.heap.size := mB.size
    exact bodyPost_ret (results_ct rfl _ _ g4 35 #[.int .i64 0, .int .i64 0] (0, 0) _ rfl m4 Try.underlying35 rfl (by kernel_rfl)) rfl ⟨by rw [hT.out.1, hT.out.2]; rfl, mB⟩
  have dh10 : decide (k < 0) = false := decide_eq_false h1
  by_cases h2 : (cs.length : Int) ≤ k
  · have hT : Hid (timeE cs k t = 3 ∧ timeV cs k t = (0, 0)) := Lib.hid ⟨by unfold timeE; rw [if_pos (.inr (.inl h2))], by unfold timeV; rw [if_pos (.inr (.inl h2))]⟩
    have dh20 : decide ((cs.length : Int) ≤ k) = true := decide_eq_true h2
    have dh21 : decide (k ≥ (cs.length : Int)) = true := decide_eq_true h2
    go_enter Try.func55, Try.ntmps55
    go_wp2
    have m3 : Blk ((w.alloc (.cells #[.int .i64 k, .int .i64 t] 41)).alloc (.cells #[.int .i64 0, .int .i64 0] 35)) (w.heap.size) #[.int .i64 k, .int .i64 t] 41 := (blk_alloc (by have h_ := blk_new w (.cells #[.int .i64 k, .int .i64 t] 41); first | exact h_ | (simp only [World.size_alloc] at h_; exact h_)) _)
    have m4 : Blk ((w.alloc (.cells #[.int .i64 k, .int .i64 t] 41)).alloc (.cells #[.int .i64 0, .int .i64 0] 35)) (w.heap.size + 1) #[.int .i64 0, .int .i64 0] 35 := (by have h_ := blk_new (w.alloc (.cells #[.int .i64 k, .int .i64 t] 41)) (.cells #[.int .i64 0, .int .i64 0] 35); first | exact h_ | (simp only [World.size_alloc] at h_; exact h_))
    have mB : Below w.heap.size w ((w.alloc (.cells #[.int .i64 k, .int .i64 t] 41)).alloc (.cells #[.int .i64 0, .int .i64 0] 35)) := (below_alloc (below_alloc (Below.refl w.heap.size w) _) _)
    have hsz_ : w.heap.size ≤ w.heap.size := Nat.le_refl _
    generalize hW_ : ((w.alloc (.cells #[.int .i64 k, .int .i64 t] 41)).alloc (.cells #[.int .i64 0, .int .i64 0] 35)) = W1 at m3 m4 mB ⊢
    clear hW_
    generalize hg3 : w.heap.size = g3 at m3 m4 ⊢
    have hG3 : w.heap.size ≤ g3 := by omega
    generalize hg4 : g3 + 1 = g4 at m4 ⊢
    have hn_3_4 : g3 ≠ g4 := by omega
    have hn_4_3 : g4 ≠ g3 := hn_3_4.symm
    have hG4 : w.heap.size ≤ g4 := by omega
    clear hsz_
    try clear hg4
    try clear hg3
    have hs_W1 : w.heap.size ≤ W1.heap.size := mB.size
    exact bodyPost_ret (results_ct rfl _ _ g4 35 #[.int .i64 0, .int .i64 0] (0, 0) _ rfl m4 Try.underlying35 rfl (by kernel_rfl)) rfl ⟨by rw [hT.out.1, hT.out.2]; rfl, mB⟩
  have dh20 : decide ((cs.length : Int) ≤ k) = false := decide_eq_false h2
  have dh21 : decide (k ≥ (cs.length : Int)) = false := decide_eq_false h2
  go_enter Try.func55, Try.ntmps55
  go_wp2_with fail
  have m3 : Blk ((w.alloc (.cells #[.int .i64 k, .int .i64 t] 41)).alloc (.cells #[.int .i64 0, .int .i64 0] 35)) (w.heap.size) #[.int .i64 k, .int .i64 t] 41 := (blk_alloc (by have h_ := blk_new w (.cells #[.int .i64 k, .int .i64 t] 41); first | exact h_ | (simp only [World.size_alloc] at h_; exact h_)) _)
  have m4 : Blk ((w.alloc (.cells #[.int .i64 k, .int .i64 t] 41)).alloc (.cells #[.int .i64 0, .int .i64 0] 35)) (w.heap.size + 1) #[.int .i64 0, .int .i64 0] 35 := (by have h_ := blk_new (w.alloc (.cells #[.int .i64 k, .int .i64 t] 41)) (.cells #[.int .i64 0, .int .i64 0] 35); first | exact h_ | (simp only [World.size_alloc] at h_; exact h_))
  have mB : Below w.heap.size w ((w.alloc (.cells #[.int .i64 k, .int .i64 t] 41)).alloc (.cells #[.int .i64 0, .int .i64 0] 35)) := (below_alloc (below_alloc (Below.refl w.heap.size w) _) _)
  have hsz_ : w.heap.size ≤ w.heap.size := Nat.le_refl _
  generalize hW_ : ((w.alloc (.cells #[.int .i64 k, .int .i64 t] 41)).alloc (.cells #[.int .i64 0, .int .i64 0] 35)) = W1 at m3 m4 mB ⊢
  clear hW_
  generalize hg3 : w.heap.size = g3 at m3 m4 ⊢
  have hG3 : w.heap.size ≤ g3 := by omega
  generalize hg4 : g3 + 1 = g4 at m4 ⊢
  have hn_3_4 : g3 ≠ g4 := by omega
  have hn_4_3 : g4 ≠ g3 := hn_3_4.symm
  have hG4 : w.heap.size ≤ g4 := by omega
  clear hsz_
  try clear hg4
  try clear hg3
  have hs_W1 : w.heap.size ≤ W1.heap.size := mB.size
  have hcon := isTime_any t W1
  (with_reducible refine hcon.mono ?_)
  clear hcon
  rintro e W2 ⟨rfl, hb⟩
  replace m3 := blk_below m3 hb
  replace m4 := blk_below m4 hb
  replace mB := below_step mB hb
  clear hb
  have hs_W2 : w.heap.size ≤ W2.heap.size := mB.size
  cases ho : okT t with
  | false =>
    have f4_0 := blk_frozen m4 0
    have f4_1 := blk_frozen m4 1
    have c4_0 := (blk_cell m4 0).trans rfl
    have c4_1 := (blk_cell m4 1).trans rfl
    have hT : Hid (timeE cs k t = 3 ∧ timeV cs k t = (0, 0)) := Lib.hid ⟨by unfold timeE; rw [if_pos (.inr (.inr ho))], by unfold timeV; rw [if_pos (.inr (.inr ho))]⟩
    clear ho
    go_wp2
    exact bodyPost_ret (results_ct rfl _ _ g4 35 #[.int .i64 0, .int .i64 0] (0, 0) _ rfl (blk_put (blk_put m4 0 _ rfl) 1 _ rfl) Try.underlying35 rfl (by kernel_rfl)) rfl ⟨by rw [hT.out.1, hT.out.2]; rfl, (mB.setCell hG4 _).setCell hG4 _⟩
  | true =>
    have hne_ : ¬ (k < 0 ∨ (cs.length : Int) ≤ k ∨ okT t = false) := by rw [ho]; simp; omega
    have hT : Hid (timeE cs k t = 0 ∧ timeV cs k t = timeI cs cs.length k (t, t)) := Lib.hid ⟨by unfold timeE; rw [if_neg hne_], by unfold timeV; rw [if_neg hne_]⟩
    clear hne_ ho
    have c3_0 := (blk_cell m3 0).trans rfl
    have c3_1 := (blk_cell m3 1).trans rfl
    have d3_0 : ∀ o_, (W2.alloc o_).cell? ⟨g3, 0, none⟩ = some (.int .i64 k) := fun o_ => (blk_cell (blk_alloc m3 o_) 0).trans rfl
    go_wp2_with fail
    clear c3_0 c3_1 d3_0
    have hl_3 := blk_lt m3
    have hl_4 := blk_lt m4
    have m6 : Blk (W2.alloc (.cells #[.int .i64 t, .int .i64 t] 35)) (W2.heap.size) #[.int .i64 t, .int .i64 t] 35 := (by have h_ := blk_new W2 (.cells #[.int .i64 t, .int .i64 t] 35); first | exact h_ | (simp only [World.size_alloc] at h_; exact h_))
    replace m3 : Blk (W2.alloc (.cells #[.int .i64 t, .int .i64 t] 35)) g3 #[.int .i64 k, .int .i64 t] 41 := (blk_alloc m3 _)
    replace m4 : Blk (W2.alloc (.cells #[.int .i64 t, .int .i64 t] 35)) g4 #[.int .i64 0, .int .i64 0] 35 := (blk_alloc m4 _)
    replace mB : Below w.heap.size w (W2.alloc (.cells #[.int .i64 t, .int .i64 t] 35)) := (below_alloc mB _)
    have hsz_ : w.heap.size ≤ W2.heap.size := hs_W2
    generalize hW_ : (W2.alloc (.cells #[.int .i64 t, .int .i64 t] 35)) = W3 at m3 m4 m6 mB ⊢
    clear hW_
    generalize hg6 : W2.heap.size = g6 at m6 ⊢
    have hn_3_6 : g3 ≠ g6 := by omega
    have hn_4_6 : g4 ≠ g6 := by omega
    have hn_6_3 : g6 ≠ g3 := hn_3_6.symm
    have hn_6_4 : g6 ≠ g4 := hn_4_6.symm
    have hG6 : w.heap.size ≤ g6 := by omega
    clear hsz_ hl_3 hl_4
    try clear hg6
    have hs_W3 : w.heap.size ≤ W3.heap.size := mB.size
    have hpar : ∀ j : Nat, j < cs.length → (-1 ≤ (rd_T30 cs j).f0 ∧ (rd_T30 cs j).f0 < (j : Int)) ∧ (rd_T30 cs j).f2.length ≤ 64 := by
      intro j hj
      have hm : rd_T30 cs (j : Int) ∈ cs := List.mem_of_getElem? (i := j) (by simp [rd_T30, List.getD_eq_getElem?_getD, hj])
      refine ⟨⟨faceE_par (show faceE _ _ _ = 0 from hce _ hm), ?_⟩, faceE_len (show faceE _ _ _ = 0 from hce _ hm)⟩
      exact of_decide_eq_true (List.all_eq_true.1 hpo j (List.mem_range.2 hj))
    have HP := Lib.hid hpar
    clear hpar hce hpo hE
    go_loopw [7] (fun v wr => ∃ (i lo hi : Int) (m : Nat), v = .int .i64 i ∧ -1 ≤ i ∧ i < (cs.length : Int) ∧ i < (m : Int) ∧ Hid (timeI cs m i (lo, hi) = timeI cs cs.length k (t, t)) ∧ Blk wr g3 #[.int .i64 k, .int .i64 t] 41 ∧ Blk wr g4 #[.int .i64 0, .int .i64 0] 35 ∧ Blk wr g6 #[.int .i64 lo, .int .i64 hi] 35 ∧ Below w.heap.size w wr) (fun v _ => (intOf v + 1).toNat)
    case atStart => exact ⟨k, t, t, cs.length, rfl, by omega, by omega, by omega, Lib.hid rfl, m3, m4, m6, mB⟩
    case round =>
      clear m3 m4 m6 mB
      obtain ⟨i, lo, hi, m, rfl, hi0, hi1, him, HT, m3, m4, m6, mB⟩ := hrel
      have hs_wr : w.heap.size ≤ wr.heap.size := mB.size
      by_cases hend : i = -1
      case pos =>
        subst hend
        rw [timeI_end] at HT
        have f4_0 := blk_frozen m4 0
        have f4_1 := blk_frozen m4 1
        have c4_0 := (blk_cell m4 0).trans rfl
        have c4_1 := (blk_cell m4 1).trans rfl
        have c6_0 := (blk_cell m6 0).trans rfl
        have c6_1 := (blk_cell m6 1).trans rfl
        go_wp2
        exact bodyPost_ret (results_ct rfl _ _ g4 35 #[.int .i64 lo, .int .i64 hi] (0, 0) _ rfl (blk_put (blk_put m4 0 _ rfl) 1 _ rfl) Try.underlying35 rfl (by kernel_rfl)) rfl ⟨by rw [hT.out.1, hT.out.2, ← HT.out]; rfl, (mB.setCell hG4 _).setCell hG4 _⟩
      case neg =>
        have hd : (i != -1) = true := bne_iff_ne.2 hend
        obtain ⟨ad, g, e_, hx0, hf⟩ := hH.get i (by omega) (by omega)
        cases e_
        have hx := (mB.cell (World.block_lt_of_cell? w _ hx0)).trans hx0
        have hp := HP.out i.toNat (by omega)
        rw [Int.toNat_of_nonneg (by omega)] at hp
        have hm1 : ∃ m1, m = m1 + 1 := ⟨m - 1, by omega⟩
        obtain ⟨m, rfl⟩ := hm1
        have ht : timeI cs m (rd_T30 cs i).f0 (upI (rd_T30 cs i) (lo, hi)) = timeI cs cs.length k (t, t) := by rw [← HT.out, timeI, if_neg hend]
        generalize rd_T30 cs i = x at *
        have hU : upI x (lo, hi) = (wrap64 (lo + (atI x.f1 (x.f2.map (anchorI x.f1)) lo).1), wrap64 (hi + (atI x.f1 (x.f2.map (anchorI x.f1)) hi).2)) := rfl
        rw [hU] at ht
        clear hU
        have hfl : (x.f2.map (anchorI x.f1)).length ≤ 1000 := by rw [List.length_map]; omega
        have hF := hf.at
        obtain ⟨u_, b_, hblk, _⟩ := hf
        have HK := Lib.hid hblk
        generalize x.f2.map (anchorI x.f1) = ys at *
        generalize x.f1 = r at *
        generalize x.f0 = par at *
        have HT2 := Lib.hid ht
        clear ht HT hblk hend
        have hj0 := eq_true (show 0 ≤ i by omega)
        have hj1 := eq_true hi1
        have q0 := (blk_cell (HK.out.below mB) 0).trans rfl
        go_wp2_with fail
        replace m3 := blk_drew m3
        replace m4 := blk_drew m4
        replace m6 := blk_drew m6
        replace mB := below_drew1 mB
        refine start_ (n := 18) (S := fun w' => w'.cell? ⟨g6, 0, none⟩ = some (.int .i64 lo) ∧ w'.cell? ⟨g6, 1, none⟩ = some (.int .i64 hi)) (ds := [17]) #[false, false, false, false, false, false, false, false, false, false, false, false, false, false, false, false, false, false] (by kernel_rfl) rfl rfl ⟨((blk_cell m6 0).trans rfl), ((blk_cell m6 1).trans rfl)⟩ (fun hHeld => ?_)
        generalize hWd : World.drew _ = Wx at *
        clear hWd
        refine pure_ (i := 0) (N := some 46) (v := ?_) (a' := ?_) #[true, false, false, false, false, false, false, false, false, false, false, false, false, false, false, false, false, false] rfl rfl (by kernel_rfl) (fun _ _ _ h => h) (Or.inl ⟨by rfl, ?_⟩) ?_ ?_
        rotate_left
        · intro w'
          go_simp
          with_reducible rfl
        rotate_left
        · simp only [Act.put, List.setIfInBounds_toArray, List.set_cons_zero, List.set_cons_succ, i64_w, i32_w]
          rfl
        refine pure_ (i := 2) (N := some 48) (v := ?_) (a' := ?_) #[true, false, true, false, false, false, false, false, false, false, false, false, false, false, false, false, false, false] rfl rfl (by kernel_rfl) (fun _ _ _ h => h) (Or.inl ⟨by rfl, ?_⟩) ?_ ?_
        rotate_left
        · intro w'
          go_simp
          with_reducible rfl
        rotate_left
        · simp only [Act.put, List.setIfInBounds_toArray, List.set_cons_zero, List.set_cons_succ, i64_w, i32_w]
          rfl
        refine pure_ (i := 3) (N := some 49) (v := ?_) (a' := ?_) #[true, false, true, true, false, false, false, false, false, false, false, false, false, false, false, false, false, false] rfl rfl (by kernel_rfl) (fun _ _ _ h => h) (Or.inl ⟨by rfl, ?_⟩) ?_ ?_
        rotate_left
        · intro w'
          go_simp
          with_reducible rfl
        rotate_left
        · simp only [Act.put, List.setIfInBounds_toArray, List.set_cons_zero, List.set_cons_succ, i64_w, i32_w]
          rfl
        refine pure_ (i := 8) (N := some 54) (v := ?_) (a' := ?_) #[true, false, true, true, false, false, false, false, true, false, false, false, false, false, false, false, false, false] rfl rfl (by kernel_rfl) (fun _ _ _ h => h) (Or.inl ⟨by rfl, ?_⟩) ?_ ?_
        rotate_left
        · intro w'
          go_simp
          with_reducible rfl
        rotate_left
        · simp only [Act.put, List.setIfInBounds_toArray, List.set_cons_zero, List.set_cons_succ, i64_w, i32_w]
          rfl
        refine pure_ (i := 10) (N := some 56) (v := ?_) (a' := ?_) #[true, false, true, true, false, false, false, false, true, false, true, false, false, false, false, false, false, false] rfl rfl (by kernel_rfl) (fun _ _ _ h => h) (Or.inl ⟨by rfl, ?_⟩) ?_ ?_
        rotate_left
        · intro w'
          go_simp
          with_reducible rfl
        rotate_left
        · simp only [Act.put, List.setIfInBounds_toArray, List.set_cons_zero, List.set_cons_succ, i64_w, i32_w]
          rfl
        refine pure_ (i := 11) (N := some 57) (v := ?_) (a' := ?_) #[true, false, true, true, false, false, false, false, true, false, true, true, false, false, false, false, false, false] rfl rfl (by kernel_rfl) (fun _ _ _ h => h) (Or.inl ⟨by rfl, ?_⟩) ?_ ?_
        rotate_left
        · intro w'
          go_simp
          with_reducible rfl
        rotate_left
        · simp only [Act.put, List.setIfInBounds_toArray, List.set_cons_zero, List.set_cons_succ, i64_w, i32_w]
          rfl
        refine take_ (i := 1) (N := some 47) (v := ?_) (a' := ?_) #[true, true, true, true, false, false, false, false, true, false, true, true, false, false, false, false, false, false] rfl rfl (by kernel_rfl) (fun _ _ _ h => h) (Or.inl ⟨by rfl, ?_⟩) hHeld ?_ ?_
        rotate_left
        · rintro w' ⟨s0, s1⟩
          go_simp
          with_reducible rfl
        rotate_left
        · simp only [Act.put, List.setIfInBounds_toArray, List.set_cons_zero, List.set_cons_succ, i64_w, i32_w]
          rfl
        refine take_ (i := 4) (N := some 50) (v := ?_) (a' := ?_) #[true, true, true, true, true, false, false, false, true, false, true, true, false, false, false, false, false, false] rfl rfl (by kernel_rfl) (fun _ _ _ h => h) (Or.inl ⟨by rfl, ?_⟩) hHeld ?_ ?_
        rotate_left
        · rintro w' ⟨s0, s1⟩
          go_simp
          with_reducible rfl
        rotate_left
        · simp only [Act.put, List.setIfInBounds_toArray, List.set_cons_zero, List.set_cons_succ, i64_w, i32_w]
          rfl
        refine take_ (i := 9) (N := some 55) (v := ?_) (a' := ?_) #[true, true, true, true, true, false, false, false, true, true, true, true, false, false, false, false, false, false] rfl rfl (by kernel_rfl) (fun _ _ _ h => h) (Or.inl ⟨by rfl, ?_⟩) hHeld ?_ ?_
        rotate_left
        · rintro w' ⟨s0, s1⟩
          go_simp
          with_reducible rfl
        rotate_left
        · simp only [Act.put, List.setIfInBounds_toArray, List.set_cons_zero, List.set_cons_succ, i64_w, i32_w]
          rfl
        refine take_ (i := 12) (N := some 58) (v := ?_) (a' := ?_) #[true, true, true, true, true, false, false, false, true, true, true, true, true, false, false, false, false, false] rfl rfl (by kernel_rfl) (fun _ _ _ h => h) (Or.inl ⟨by rfl, ?_⟩) hHeld ?_ ?_
        rotate_left
        · rintro w' ⟨s0, s1⟩
          go_simp
          with_reducible rfl
        rotate_left
        · simp only [Act.put, List.setIfInBounds_toArray, List.set_cons_zero, List.set_cons_succ, i64_w, i32_w]
          rfl
        refine one_ (i := 5) (N := some 51) #[true, true, true, true, true, true, false, false, true, true, true, true, true, false, false, false, false, false] rfl rfl (by kernel_rfl) (by decide) (fun K hK => ?_)
        have hcon_ := at_any g par r ys hfl lo Wx (hF.below mB)
        refine goes_ Try.func58 (by kernel_rfl) rfl #[.pointer (some ⟨g, 0, none⟩), .int .i64 lo] (by rfl) rfl rfl (by simp only [List.map_toArray, List.map_cons, List.map_nil]; rfl) ?_
        with_reducible refine (hcon_).mono ?_
        rintro e w5 ⟨rfl, hb⟩
        refine ⟨_, rfl, ?_⟩
        clear hcon_
        replace m3 := blk_below m3 hb
        replace m4 := blk_below m4 hb
        replace m6 := blk_below m6 hb
        replace mB := below_step mB hb
        clear hb
        refine hK.out _ _ ⟨((blk_cell m6 0).trans rfl), ((blk_cell m6 1).trans rfl)⟩ (fun hHeld => ?_)
        clear hK K
        refine norm_ (a' := ?_) ?_ ?_
        rotate_left
        · show Act.put _ (some 51) _ = _
          simp only [Act.put, List.setIfInBounds_toArray, List.set_cons_zero, List.set_cons_succ, i64_w, i32_w]
          rfl
        refine pure_ (i := 6) (N := some 52) (v := ?_) (a' := ?_) #[true, true, true, true, true, true, true, false, true, true, true, true, true, false, false, false, false, false] rfl rfl (by kernel_rfl) (fun _ _ _ h => h) (Or.inl ⟨by rfl, ?_⟩) ?_ ?_
        rotate_left
        · intro w'
          go_simp
          with_reducible rfl
        rotate_left
        · simp only [Act.put, List.setIfInBounds_toArray, List.set_cons_zero, List.set_cons_succ, i64_w, i32_w]
          rfl
        refine pure_ (i := 7) (N := some 53) (v := ?_) (a' := ?_) #[true, true, true, true, true, true, true, true, true, true, true, true, true, false, false, false, false, false] rfl rfl (by kernel_rfl) (fun _ _ _ h => h) (Or.inl ⟨by rfl, ?_⟩) ?_ ?_
        rotate_left
        · intro w'
          go_simp
          with_reducible rfl
        rotate_left
        · simp only [Act.put, List.setIfInBounds_toArray, List.set_cons_zero, List.set_cons_succ, i64_w, i32_w]
          rfl
        refine one_ (i := 13) (N := some 59) #[true, true, true, true, true, true, true, true, true, true, true, true, true, true, false, false, false, false] rfl rfl (by kernel_rfl) (by decide) (fun K hK => ?_)
        have hcon_ := at_any g par r ys hfl hi w5 (hF.below mB)
        refine goes_ Try.func58 (by kernel_rfl) rfl #[.pointer (some ⟨g, 0, none⟩), .int .i64 hi] (by rfl) rfl rfl (by simp only [List.map_toArray, List.map_cons, List.map_nil]; rfl) ?_
        with_reducible refine (hcon_).mono ?_
        rintro e w13 ⟨rfl, hb⟩
        refine ⟨_, rfl, ?_⟩
        clear hcon_
        replace m3 := blk_below m3 hb
        replace m4 := blk_below m4 hb
        replace m6 := blk_below m6 hb
        replace mB := below_step mB hb
        clear hb
        refine hK.out _ _ ⟨((blk_cell m6 0).trans rfl), ((blk_cell m6 1).trans rfl)⟩ (fun hHeld => ?_)
        clear hK K
        refine norm_ (a' := ?_) ?_ ?_
        rotate_left
        · show Act.put _ (some 59) _ = _
          simp only [Act.put, List.setIfInBounds_toArray, List.set_cons_zero, List.set_cons_succ, i64_w, i32_w]
          rfl
        refine pure_ (i := 14) (N := some 60) (v := ?_) (a' := ?_) #[true, true, true, true, true, true, true, true, true, true, true, true, true, true, true, false, false, false] rfl rfl (by kernel_rfl) (fun _ _ _ h => h) (Or.inl ⟨by rfl, ?_⟩) ?_ ?_
        rotate_left
        · intro w'
          go_simp
          with_reducible rfl
        rotate_left
        · simp only [Act.put, List.setIfInBounds_toArray, List.set_cons_zero, List.set_cons_succ, i64_w, i32_w]
          rfl
        refine pure_ (i := 15) (N := some 61) (v := ?_) (a' := ?_) #[true, true, true, true, true, true, true, true, true, true, true, true, true, true, true, true, false, false] rfl rfl (by kernel_rfl) (fun _ _ _ h => h) (Or.inl ⟨by rfl, ?_⟩) ?_ ?_
        rotate_left
        · intro w'
          go_simp
          with_reducible rfl
        rotate_left
        · simp only [Act.put, List.setIfInBounds_toArray, List.set_cons_zero, List.set_cons_succ, i64_w, i32_w]
          rfl
        refine pure_ (i := 16) (N := some 62) (v := ?_) (a' := ?_) #[true, true, true, true, true, true, true, true, true, true, true, true, true, true, true, true, true, false] rfl rfl (by kernel_rfl) (fun _ _ _ h => h) (Or.inl ⟨by rfl, ?_⟩) ?_ ?_
        rotate_left
        · intro w'
          go_simp
          with_reducible rfl
        rotate_left
        · simp only [Act.put, List.setIfInBounds_toArray, List.set_cons_zero, List.set_cons_succ, i64_w, i32_w]
          rfl
        refine last_ (i := 17) (N := none) #[true, true, true, true, true, true, true, true, true, true, true, true, true, true, true, true, true, true] rfl rfl (by kernel_rfl) (by decide) (fun K hK => ?_)
        have hf0_ := blk_frozen m6 0
        have hc0_ := (blk_cell m6 0).trans rfl
        have hf1_ := blk_frozen m6 1
        have hc1_ := (blk_cell m6 1).trans rfl
        refine skip_ (w1 := ?_) (by rfl) rfl ?_ ?_
        rotate_left
        · go_simp
          rfl
        clear hf0_ hc0_ hf1_ hc1_
        replace m3 : Blk (w13.setCell ⟨g6, 0, none⟩ (.int .i64 (wrap64 (lo + (atI r ys lo).1)))) g3 #[.int .i64 k, .int .i64 t] 41 := blk_far (p := ⟨g6, 0, none⟩) m3 hn_3_6 _
        replace m4 : Blk (w13.setCell ⟨g6, 0, none⟩ (.int .i64 (wrap64 (lo + (atI r ys lo).1)))) g4 #[.int .i64 0, .int .i64 0] 35 := blk_far (p := ⟨g6, 0, none⟩) m4 hn_4_6 _
        replace m6 : Blk (w13.setCell ⟨g6, 0, none⟩ (.int .i64 (wrap64 (lo + (atI r ys lo).1)))) g6 #[.int .i64 (wrap64 (lo + (atI r ys lo).1)), .int .i64 hi] 35 := blk_put m6 0 _ rfl
        replace mB : Below w.heap.size w (w13.setCell ⟨g6, 0, none⟩ (.int .i64 (wrap64 (lo + (atI r ys lo).1)))) := mB.setCell (p := ⟨g6, 0, none⟩) hG6 _
        replace m3 : Blk ((w13.setCell ⟨g6, 0, none⟩ (.int .i64 (wrap64 (lo + (atI r ys lo).1)))).setCell ⟨g6, 1, none⟩ (.int .i64 (wrap64 (hi + (atI r ys hi).2)))) g3 #[.int .i64 k, .int .i64 t] 41 := blk_far (p := ⟨g6, 1, none⟩) m3 hn_3_6 _
        replace m4 : Blk ((w13.setCell ⟨g6, 0, none⟩ (.int .i64 (wrap64 (lo + (atI r ys lo).1)))).setCell ⟨g6, 1, none⟩ (.int .i64 (wrap64 (hi + (atI r ys hi).2)))) g4 #[.int .i64 0, .int .i64 0] 35 := blk_far (p := ⟨g6, 1, none⟩) m4 hn_4_6 _
        replace m6 : Blk ((w13.setCell ⟨g6, 0, none⟩ (.int .i64 (wrap64 (lo + (atI r ys lo).1)))).setCell ⟨g6, 1, none⟩ (.int .i64 (wrap64 (hi + (atI r ys hi).2)))) g6 #[.int .i64 (wrap64 (lo + (atI r ys lo).1)), .int .i64 (wrap64 (hi + (atI r ys hi).2))] 35 := blk_put m6 1 _ rfl
        replace mB : Below w.heap.size w ((w13.setCell ⟨g6, 0, none⟩ (.int .i64 (wrap64 (lo + (atI r ys lo).1)))).setCell ⟨g6, 1, none⟩ (.int .i64 (wrap64 (hi + (atI r ys hi).2)))) := mB.setCell (p := ⟨g6, 1, none⟩) hG6 _
        refine hK.out _ _ ?_
        clear hK K
        refine done_ (by kernel_rfl) ?_
        have q0 := (blk_cell (HK.out.below mB) 0).trans rfl
        replace hx := (mB.cell (World.block_lt_of_cell? w _ hx0)).trans hx0
        go_wp2
        go_roundw
        case rel => exact ⟨par, _, _, m, rfl, by omega, by omega, by omega, HT2, m3, m4, m6, mB⟩
        case measure => simp [intOf]; omega
end Go.Proofs.Ytcjdhajdoikojaa.Clk
end
section
-- PRINTED by print.py (a twelfth state) out of the translation. Not trusted: Lean checks it.
namespace Go.Proofs.Ytcjdhajdoikojaa.Pr
open Go.RowKit Go.Proofs.YtcjdhajdoikojaaW.PrintWords Go.Proofs.YtcjdhajdoikojaaW.PrintLast Go.Proofs.YtcjdhajdoikojaaW.PrintMore
attribute [local go_sem] max2_int min2_int max_two min_two
set_option linter.unusedVariables false
set_option linter.unusedSimpArgs false

/-! ### clock_within: function 57 -/
def clock_within.f (a0 : Int) (a1 : Int) (a2 : Int) : Option (Int) := if a0 < a1 then (some 3) else (if a0 > a2 then (some 3) else (some 0))
set_option maxHeartbeats 8000000 in
set_option maxRecDepth 100000 in
theorem clock_within.calls (a0 : Int) (a1 : Int) (a2 : Int) (r : Int) (w : World) (h : clock_within.f a0 a1 a2 = some r) :
    Calls Try.prog 57 #[.int .i64 a0, .int .i64 a1, .int .i64 a2] w fun e w' => e = .returned (.int .i64 r) ∧ Drawn0 w w' := by
  have H : (if a0 < a1 then (some 3) else (if a0 > a2 then (some 3) else (some 0))) = some r := h
  clear h
  by_cases c4 : a0 < a1
  · rw [if_pos c4] at H
    have c4b0 : decide (a0 < a1) = true := decide_eq_true c4
    clear c4
    obtain rfl := Option.some.inj H
    go_enter Try.func57, Try.ntmps57
    go_wp2
    go_ret
    exact ⟨by first | rfl | (simp; done) | (simp [*]; done), by repeat (first | exact Drawn0.refl _ | apply Drawn0.step)⟩
  · rw [if_neg c4] at H
    have c4b0 : decide (a0 < a1) = false := decide_eq_false c4
    clear c4
    by_cases c5 : a0 > a2
    · rw [if_pos c5] at H
      have c5b0 : decide (a2 < a0) = true := decide_eq_true c5
      clear c5
      obtain rfl := Option.some.inj H
      go_enter Try.func57, Try.ntmps57
      go_wp2
      go_ret
      exact ⟨by first | rfl | (simp; done) | (simp [*]; done), by repeat (first | exact Drawn0.refl _ | apply Drawn0.step)⟩
    · rw [if_neg c5] at H
      have c5b0 : decide (a2 < a0) = false := decide_eq_false c5
      clear c5
      obtain rfl := Option.some.inj H
      go_enter Try.func57, Try.ntmps57
      go_wp2
      go_ret
      exact ⟨by first | rfl | (simp; done) | (simp [*]; done), by repeat (first | exact Drawn0.refl _ | apply Drawn0.step)⟩

end Go.Proofs.Ytcjdhajdoikojaa.Pr
end
section
/- The exported functions over one clock: what they answer. -/
namespace Go.Proofs.Ytcjdhajdoikojaa.Clk
open Go.RowKit Go.Shelf Go.Proofs.YtcjdhajdoikojaaW.PrintWords Go.Proofs.YtcjdhajdoikojaaW.PrintLast Go.Proofs.YtcjdhajdoikojaaW.PrintMore Go.Proofs.Ytcjdhajdoikojaa.Pr Go.Proofs.YtcjdhajdoikojaaW.Round
set_option linter.unusedVariables false
set_option linter.unusedSimpArgs false

/-- It returns a value, and what lay in memory stands. -/
def RetB (v : Value) (w : World) (e : Ending) (w' : World) : Prop := e = .returned v ∧ Below w.heap.size w w'
/-- What newSound says of its pointer. -/
def SoundRes (par rate : Int) (xs : List S46) (between : Int) (B : Nat) (ptr : Option Addr) (W : World) : Prop :=
  (soundE par rate xs between = 0 ∧ ∃ g, ptr = some ⟨g, 0, none⟩ ∧ B ≤ g ∧ FaceR W g par rate (xs.map (anchorI rate))) ∨ (soundE par rate xs between ≠ 0 ∧ ptr = none)
theorem SoundRes.below {par rate : Int} {xs : List S46} {between : Int} {B : Nat} {ptr : Option Addr} {W W1 : World} (h : SoundRes par rate xs between B ptr W) (hb : Below W.heap.size W W1) : SoundRes par rate xs between B ptr W1 := by
  rcases h with ⟨h0, g, h1, h2, h3⟩ | h
  · exact .inl ⟨h0, g, h1, h2, h3.below hb⟩
  · exact .inr h
theorem soundE_len {par rate : Int} {xs : List S46} {between : Int} (h : soundE par rate xs between = 0) : xs.length ≤ 64 := by
  unfold soundE at h
  by_cases h0 : faceE par rate xs = 0
  · exact faceE_len h0
  · rw [if_pos h0] at h
    exact absurd h h0

end Go.Proofs.Ytcjdhajdoikojaa.Clk
end
section
/- Offsets, and true times: what the exported functions answer. -/
namespace Go.Proofs.Ytcjdhajdoikojaa.Clk
open Go.RowKit Go.Shelf Go.Proofs.YtcjdhajdoikojaaW.PrintWords Go.Proofs.YtcjdhajdoikojaaW.PrintLast Go.Proofs.YtcjdhajdoikojaaW.PrintMore Go.Proofs.Ytcjdhajdoikojaa.Pr Go.Proofs.YtcjdhajdoikojaaW.Round
set_option linter.unusedVariables false
set_option linter.unusedSimpArgs false

def withinI (t lo hi : Int) : Int := (clock_within.f t lo hi).getD 0
theorem within_any (t lo hi : Int) (w : World) : Calls Try.prog 57 #[.int .i64 t, .int .i64 lo, .int .i64 hi] w fun e w' => e = .returned (.int .i64 (withinI t lo hi)) ∧ Below w.heap.size w w' := (clock_within.calls _ _ _ _ w (show clock_within.f t lo hi = some (withinI t lo hi) by unfold withinI clock_within.f; repeat (first | rfl | split))).mono fun e w' h => ⟨h.1, h.2.below⟩
def atE (par rate : Int) (xs : List S46) (t : Int) : Int := soundE par rate xs (withinI t 0 1125899906842624)
def atV (par rate : Int) (xs : List S46) (t : Int) : Int × Int := if atE par rate xs t = 0 then atI rate (xs.map (anchorI rate)) t else (0, 0)
set_option maxRecDepth 100000 in
set_option maxHeartbeats 2000000 in
theorem At_any (par rate : Int) (A : Option Addr) (c : Nat) (xs : List S46) (t : Int) (w : World) (hC : Kd.C k46 w A xs.length xs) (hc : xs.length ≤ c) :
    Calls Try.prog 22 #[.agg #[.int .i64 par, .int .i64 rate, .slice A xs.length c], .int .i64 t] w (RetB (.tuple #[.agg #[.int .i64 (atV par rate xs t).1, .int .i64 (atV par rate xs t).2], .int .i64 (atE par rate xs t)]) w) := by
  have hu35 := Try.underlying35
  have hu30 := Try.underlying30
  have hEE : atE par rate xs t = soundE par rate xs (withinI t 0 1125899906842624) := rfl
  have HEE := Lib.hid hEE
  have HV : Hid (atV par rate xs t = if atE par rate xs t = 0 then atI rate (xs.map (anchorI rate)) t else (0, 0)) := Lib.hid rfl
  clear hEE
  go_enter Try.func22, Try.ntmps22
  go_wp2_with fail
  have m2 : Blk ((w.alloc (.cells #[.int .i64 par, .int .i64 rate, .slice A xs.length c] 30)).alloc (.cells #[.int .i64 0, .int .i64 0] 35)) (w.heap.size) #[.int .i64 par, .int .i64 rate, .slice A xs.length c] 30 := (blk_alloc (by have h_ := blk_new w (.cells #[.int .i64 par, .int .i64 rate, .slice A xs.length c] 30); first | exact h_ | (simp only [World.size_alloc] at h_; exact h_)) _)
  have m4 : Blk ((w.alloc (.cells #[.int .i64 par, .int .i64 rate, .slice A xs.length c] 30)).alloc (.cells #[.int .i64 0, .int .i64 0] 35)) (w.heap.size + 1) #[.int .i64 0, .int .i64 0] 35 := (by have h_ := blk_new (w.alloc (.cells #[.int .i64 par, .int .i64 rate, .slice A xs.length c] 30)) (.cells #[.int .i64 0, .int .i64 0] 35); first | exact h_ | (simp only [World.size_alloc] at h_; exact h_))
  have mB : Below w.heap.size w ((w.alloc (.cells #[.int .i64 par, .int .i64 rate, .slice A xs.length c] 30)).alloc (.cells #[.int .i64 0, .int .i64 0] 35)) := (below_alloc (below_alloc (Below.refl w.heap.size w) _) _)
  have hsz_ : w.heap.size ≤ w.heap.size := Nat.le_refl _
  generalize hW_ : ((w.alloc (.cells #[.int .i64 par, .int .i64 rate, .slice A xs.length c] 30)).alloc (.cells #[.int .i64 0, .int .i64 0] 35)) = W1 at m2 m4 mB ⊢
  clear hW_
  generalize hg2 : w.heap.size = g2 at m2 m4 ⊢
  have hG2 : w.heap.size ≤ g2 := by omega
  generalize hg4 : g2 + 1 = g4 at m4 ⊢
  have hn_2_4 : g2 ≠ g4 := by omega
  have hn_4_2 : g4 ≠ g2 := hn_2_4.symm
  have hG4 : w.heap.size ≤ g4 := by omega
  clear hsz_
  try clear hg4
  try clear hg2
  have hs_W1 : w.heap.size ≤ W1.heap.size := mB.size
  replace m2 := blk_drew m2
  replace m4 := blk_drew m4
  replace mB := below_drew1 mB
  refine start_ (n := 9) (S := fun w' => w'.cell? ⟨g2, 0, none⟩ = some (.int .i64 par) ∧ w'.cell? ⟨g2, 1, none⟩ = some (.int .i64 rate) ∧ w'.cell? ⟨g2, 2, none⟩ = some (.slice A xs.length c)) (ds := []) #[false, false, false, false, false, false, false, false, false] (by kernel_rfl) rfl rfl ⟨((blk_cell m2 0).trans rfl), ((blk_cell m2 1).trans rfl), ((blk_cell m2 2).trans rfl)⟩ (fun hHeld => ?_)
  generalize hWd : World.drew _ = Wx at *
  clear hWd
  refine pure_ (i := 1) (N := some 10) (v := ?_) (a' := ?_) #[false, true, false, false, false, false, false, false, false] rfl rfl (by kernel_rfl) (fun _ _ _ h => h) (Or.inl ⟨by rfl, ?_⟩) ?_ ?_
  rotate_left
  · intro w'
    go_simp
    with_reducible rfl
  rotate_left
  · simp only [Act.put, List.setIfInBounds_toArray, List.set_cons_zero, List.set_cons_succ, i64_w, i32_w]
    rfl
  refine take_ (i := 0) (N := some 9) (v := ?_) (a' := ?_) #[true, true, false, false, false, false, false, false, false] rfl rfl (by kernel_rfl) (fun _ _ _ h => h) (Or.inl ⟨by rfl, ?_⟩) hHeld ?_ ?_
  rotate_left
  · rintro w' ⟨s0, s1, s2⟩
    go_simp
    with_reducible rfl
  rotate_left
  · simp only [Act.put, List.setIfInBounds_toArray, List.set_cons_zero, List.set_cons_succ, i64_w, i32_w]
    rfl
  refine one_ (i := 2) (N := some 11) #[true, true, true, false, false, false, false, false, false] rfl rfl (by kernel_rfl) (by decide) (fun K hK => ?_)
  have hcon_ := within_any t 0 1125899906842624 Wx
  refine goes_ Try.func57 (by kernel_rfl) rfl #[.int .i64 t, .int .i64 0, .int .i64 1125899906842624] (by rfl) rfl rfl (by simp only [List.map_toArray, List.map_cons, List.map_nil]; rfl) ?_
  with_reducible refine (hcon_).mono ?_
  rintro e w2 ⟨rfl, hb⟩
  refine ⟨_, rfl, ?_⟩
  clear hcon_
  replace m2 := blk_below m2 hb
  replace m4 := blk_below m4 hb
  replace mB := below_step mB hb
  clear hb
  refine hK.out _ _ ⟨((blk_cell m2 0).trans rfl), ((blk_cell m2 1).trans rfl), ((blk_cell m2 2).trans rfl)⟩ (fun hHeld => ?_)
  clear hK K
  refine norm_ (a' := ?_) ?_ ?_
  rotate_left
  · show Act.put _ (some 11) _ = _
    simp only [Act.put, List.setIfInBounds_toArray, List.set_cons_zero, List.set_cons_succ, i64_w, i32_w]
    rfl
  refine one_ (i := 3) (N := some 12) #[true, true, true, true, false, false, false, false, false] rfl rfl (by kernel_rfl) (by decide) (fun K hK => ?_)
  have hcon_ := newSound_any par rate A c xs (withinI t 0 1125899906842624) w2 (Kd.C_below hC mB) hc
  refine goes_ Try.func56 (by kernel_rfl) rfl #[.agg #[.int .i64 par, .int .i64 rate, .slice A xs.length c], .int .i64 (withinI t 0 1125899906842624)] (by rfl) rfl rfl (by simp only [List.map_toArray, List.map_cons, List.map_nil]; rfl) ?_
  with_reducible refine (hcon_).mono ?_
  rintro e w3 ⟨ptr, rfl, hb, hcase⟩
  refine ⟨_, rfl, ?_⟩
  clear hcon_
  replace m2 := blk_below m2 hb
  replace m4 := blk_below m4 hb
  replace mB := below_step mB hb
  clear hb
  refine hK.out _ _ ⟨((blk_cell m2 0).trans rfl), ((blk_cell m2 1).trans rfl), ((blk_cell m2 2).trans rfl)⟩ (fun hHeld => ?_)
  clear hK K
  refine norm_ (a' := ?_) ?_ ?_
  rotate_left
  · show Act.put _ (some 12) _ = _
    simp only [Act.put, List.setIfInBounds_toArray, List.set_cons_zero, List.set_cons_succ, i64_w, i32_w]
    rfl
  refine pure_ (i := 4) (N := some 8) (v := ?_) (a' := ?_) #[true, true, true, true, true, false, false, false, false] rfl rfl (by kernel_rfl) (fun _ _ _ h => h) (Or.inl ⟨by rfl, ?_⟩) ?_ ?_
  rotate_left
  · intro w'
    go_simp
    with_reducible rfl
  rotate_left
  · simp only [Act.put, List.setIfInBounds_toArray, List.set_cons_zero, List.set_cons_succ, i64_w, i32_w]
    rfl
  refine pure_ (i := 5) (N := some 13) (v := ?_) (a' := ?_) #[true, true, true, true, true, true, false, false, false] rfl rfl (by kernel_rfl) (fun _ _ _ h => h) (Or.inl ⟨by rfl, ?_⟩) ?_ ?_
  rotate_left
  · intro w'
    go_simp
    with_reducible rfl
  rotate_left
  · simp only [Act.put, List.setIfInBounds_toArray, List.set_cons_zero, List.set_cons_succ, i64_w, i32_w]
    rfl
  refine pure_ (i := 6) (N := some 14) (v := ?_) (a' := ?_) #[true, true, true, true, true, true, true, false, false] rfl rfl (by kernel_rfl) (fun _ _ _ h => h) (Or.inl ⟨by rfl, ?_⟩) ?_ ?_
  rotate_left
  · intro w'
    go_simp
    with_reducible rfl
  rotate_left
  · simp only [Act.put, List.setIfInBounds_toArray, List.set_cons_zero, List.set_cons_succ, i64_w, i32_w]
    rfl
  refine pure_ (i := 7) (N := some 6) (v := ?_) (a' := ?_) #[true, true, true, true, true, true, true, true, false] rfl rfl (by kernel_rfl) (fun _ _ _ h => h) (Or.inl ⟨by rfl, ?_⟩) ?_ ?_
  rotate_left
  · intro w'
    go_simp
    with_reducible rfl
  rotate_left
  · simp only [Act.put, List.setIfInBounds_toArray, List.set_cons_zero, List.set_cons_succ, i64_w, i32_w]
    rfl
  refine pure_ (i := 8) (N := some 7) (v := ?_) (a' := ?_) #[true, true, true, true, true, true, true, true, true] rfl rfl (by kernel_rfl) (fun _ _ _ h => h) (Or.inl ⟨by rfl, ?_⟩) ?_ ?_
  rotate_left
  · intro w'
    go_simp
    with_reducible rfl
  rotate_left
  · simp only [Act.put, List.setIfInBounds_toArray, List.set_cons_zero, List.set_cons_succ, i64_w, i32_w]
    rfl
  refine done_ (by kernel_rfl) ?_
  have hlen := fun h => soundE_len (par := par) (rate := rate) (xs := xs) (between := withinI t 0 1125899906842624) h
  generalize soundE par rate xs (withinI t 0 1125899906842624) = E0 at *
  rcases hcase with ⟨h0, g, rfl, hg, hF⟩ | ⟨h0, rfl⟩
  case inr =>
    have h0_ := Lib.hid h0
    have hd : (E0 == 0) = false := beq_eq_false_iff_ne.2 h0
    have hd2 : (E0 != 0) = true := by rw [bne, hd]; rfl
    clear h0 hlen
    have f4_0 := blk_frozen m4 0
    have f4_1 := blk_frozen m4 1
    have c4_0 := (blk_cell m4 0).trans rfl
    have c4_1 := (blk_cell m4 1).trans rfl
    go_wp2
    exact bodyPost_ret (results_ct rfl _ _ g4 35 #[.int .i64 0, .int .i64 0] (0, 0) _ rfl (blk_put (blk_put m4 0 _ rfl) 1 _ rfl) Try.underlying35 rfl (by kernel_rfl)) rfl ⟨by rw [HV.out, HEE.out, if_neg h0_.out]; rfl, (mB.setCell hG4 _).setCell hG4 _⟩
  case inl =>
    have hl := hlen h0
    subst h0
    clear hlen
    go_wp2_with fail
    have hcon := at_any g par rate (xs.map (anchorI rate)) (by rw [List.length_map]; omega) t w3 hF.at
    (with_reducible refine hcon.mono ?_)
    clear hcon
    rintro e W4 ⟨rfl, hb⟩
    replace m2 := blk_below m2 hb
    replace m4 := blk_below m4 hb
    replace mB := below_step mB hb
    clear hb
    have hs_W4 : w.heap.size ≤ W4.heap.size := mB.size
    generalize atI rate (xs.map (anchorI rate)) t = R at *
    obtain ⟨P1, P2⟩ := R
    dsimp only
    have f4_0 := blk_frozen m4 0
    have f4_1 := blk_frozen m4 1
    have c4_0 := (blk_cell m4 0).trans rfl
    have c4_1 := (blk_cell m4 1).trans rfl
    go_wp2
    exact bodyPost_ret (results_ct rfl _ _ g4 35 #[.int .i64 P1, .int .i64 P2] (0, 0) _ rfl (blk_put (blk_put m4 0 _ rfl) 1 _ rfl) Try.underlying35 rfl (by kernel_rfl)) rfl ⟨by rw [HV.out, HEE.out, if_pos rfl]; rfl, (mB.setCell hG4 _).setCell hG4 _⟩

def TimeE (cs : List S30) (k t : Int) : Int := if houseE cs ≠ 0 then houseE cs else timeE cs k t
def TimeV (cs : List S30) (k t : Int) : Int × Int := if houseE cs ≠ 0 then (0, 0) else timeV cs k t
set_option maxRecDepth 100000 in
set_option maxHeartbeats 2000000 in
theorem Time_any (A : Option Addr) (c : Nat) (cs : List S30) (k t : Int) (w : World) (hC : Kd.C k30 w A cs.length cs) (hc : cs.length ≤ c) :
    Calls Try.prog 17 #[.slice A cs.length c, .agg #[.int .i64 k, .int .i64 t]] w (RetB (.tuple #[.agg #[.int .i64 (TimeV cs k t).1, .int .i64 (TimeV cs k t).2], .int .i64 (TimeE cs k t)]) w) := by
  have hu35 := Try.underlying35
  have hu41 := Try.underlying41
  have HE : Hid (TimeE cs k t = if houseE cs ≠ 0 then houseE cs else timeE cs k t) := Lib.hid rfl
  have HV : Hid (TimeV cs k t = if houseE cs ≠ 0 then (0, 0) else timeV cs k t) := Lib.hid rfl
  go_enter Try.func17, Try.ntmps17
  go_wp2_with fail
  have m3 : Blk ((w.alloc (.cells #[.int .i64 k, .int .i64 t] 41)).alloc (.cells #[.int .i64 0, .int .i64 0] 35)) (w.heap.size) #[.int .i64 k, .int .i64 t] 41 := (blk_alloc (by have h_ := blk_new w (.cells #[.int .i64 k, .int .i64 t] 41); first | exact h_ | (simp only [World.size_alloc] at h_; exact h_)) _)
  have m4 : Blk ((w.alloc (.cells #[.int .i64 k, .int .i64 t] 41)).alloc (.cells #[.int .i64 0, .int .i64 0] 35)) (w.heap.size + 1) #[.int .i64 0, .int .i64 0] 35 := (by have h_ := blk_new (w.alloc (.cells #[.int .i64 k, .int .i64 t] 41)) (.cells #[.int .i64 0, .int .i64 0] 35); first | exact h_ | (simp only [World.size_alloc] at h_; exact h_))
  have mB : Below w.heap.size w ((w.alloc (.cells #[.int .i64 k, .int .i64 t] 41)).alloc (.cells #[.int .i64 0, .int .i64 0] 35)) := (below_alloc (below_alloc (Below.refl w.heap.size w) _) _)
  have hsz_ : w.heap.size ≤ w.heap.size := Nat.le_refl _
  generalize hW_ : ((w.alloc (.cells #[.int .i64 k, .int .i64 t] 41)).alloc (.cells #[.int .i64 0, .int .i64 0] 35)) = W1 at m3 m4 mB ⊢
  clear hW_
  generalize hg3 : w.heap.size = g3 at m3 m4 ⊢
  have hG3 : w.heap.size ≤ g3 := by omega
  generalize hg4 : g3 + 1 = g4 at m4 ⊢
  have hn_3_4 : g3 ≠ g4 := by omega
  have hn_4_3 : g4 ≠ g3 := hn_3_4.symm
  have hG4 : w.heap.size ≤ g4 := by omega
  clear hsz_
  try clear hg4
  try clear hg3
  have hs_W1 : w.heap.size ≤ W1.heap.size := mB.size
  have hcon := newHouse_any A c cs W1 (Kd.C_below hC mB) hc
  (with_reducible refine hcon.mono ?_)
  clear hcon
  rintro e W2 ⟨v, rfl, hb, hcase⟩
  replace m3 := blk_below m3 hb
  replace m4 := blk_below m4 hb
  replace mB := below_step mB hb
  clear hb
  have hs_W2 : w.heap.size ≤ W2.heap.size := mB.size
  rcases hcase with ⟨h0, hH⟩ | ⟨h0, rfl⟩
  case inr =>
    generalize houseE cs = E0 at *
    have h0_ := Lib.hid h0
    have hd : (E0 == 0) = false := beq_eq_false_iff_ne.2 h0
    have hd2 : (E0 != 0) = true := by rw [bne, hd]; rfl
    clear h0
    have f4_0 := blk_frozen m4 0
    have f4_1 := blk_frozen m4 1
    have c4_0 := (blk_cell m4 0).trans rfl
    have c4_1 := (blk_cell m4 1).trans rfl
    go_wp2
    exact bodyPost_ret (results_ct rfl _ _ g4 35 #[.int .i64 0, .int .i64 0] (0, 0) _ rfl (blk_put (blk_put m4 0 _ rfl) 1 _ rfl) Try.underlying35 rfl (by kernel_rfl)) rfl ⟨by rw [HV.out, HE.out, if_pos h0_.out, if_pos h0_.out]; rfl, (mB.setCell hG4 _).setCell hG4 _⟩
  case inl =>
    have H0 := Lib.hid h0
    rw [h0]
    clear h0
    have c3_0 := (blk_cell m3 0).trans rfl
    have c3_1 := (blk_cell m3 1).trans rfl
    go_wp2_with fail
    clear c3_0
    clear c3_1
    have hcon := time_any _ v cs k t W2 hH H0.out
    (with_reducible refine hcon.mono ?_)
    clear hcon
    rintro e W3 ⟨rfl, hb⟩
    replace m3 := blk_below m3 hb
    replace m4 := blk_below m4 hb
    replace mB := below_step mB hb
    clear hb
    have hs_W3 : w.heap.size ≤ W3.heap.size := mB.size
    have HE2 : Hid (TimeE cs k t = timeE cs k t) := Lib.hid (by rw [HE.out, if_neg (by rw [H0.out]; decide)])
    have HV2 : Hid (TimeV cs k t = timeV cs k t) := Lib.hid (by rw [HV.out, if_neg (by rw [H0.out]; decide)])
    generalize timeE cs k t = E at *
    generalize timeV cs k t = R at *
    obtain ⟨P1, P2⟩ := R
    dsimp only
    have f4_0 := blk_frozen m4 0
    have f4_1 := blk_frozen m4 1
    have c4_0 := (blk_cell m4 0).trans rfl
    have c4_1 := (blk_cell m4 1).trans rfl
    go_wp2
    exact bodyPost_ret (results_ct rfl _ _ g4 35 #[.int .i64 P1, .int .i64 P2] (0, 0) _ rfl (blk_put (blk_put m4 0 _ rfl) 1 _ rfl) Try.underlying35 rfl (by kernel_rfl)) rfl ⟨by rw [HV2.out, HE2.out]; rfl, (mB.setCell hG4 _).setCell hG4 _⟩

end Go.Proofs.Ytcjdhajdoikojaa.Clk
end
section
/- The last anchor, and the reading that is found by halving. -/
namespace Go.Proofs.Ytcjdhajdoikojaa.Clk
open Go.RowKit Go.Shelf Go.Proofs.YtcjdhajdoikojaaW.PrintWords Go.Proofs.YtcjdhajdoikojaaW.PrintLast Go.Proofs.YtcjdhajdoikojaaW.PrintMore Go.Proofs.Ytcjdhajdoikojaa.Pr Go.Proofs.YtcjdhajdoikojaaW.Round
set_option linter.unusedVariables false
set_option linter.unusedSimpArgs false
attribute [local go_sem] max2_int min2_int max_two min_two
section
variable {P : Program} {Q : Exit → Act → World → Prop} {ops : Array Oper}
/-- A call of a function that a temporary holds, in a region that draws. -/
theorem goesV_ {oi : Oper} {N : Option Tmp} {a : Act} {w : World} {K : Act → World → Prop} {f : FuncId} {fn : Func} {cal : Operand} {xs : Array Operand} {ts : Array TypeId} (hf : P.funcs[f]? = some fn) (hname : (fn.name == "runtime.NumGoroutine") = false) (hb : fn.body.isSome = true) (args : Array Value)
    (hw : Region.wanted oi (yielded ops a.tmps) = true) (hN : oi.dst = N) (hop : oi.op = .call { callee := .value cal, args := xs, argTypes := ts }) (hcal : a.eval cal = .func (.func f) #[] #[]) (hargs : xs.map a.eval = args)
    (h : Calls P f args w fun e w' => ∃ v, e = .returned v ∧ K (a.put N v) w') : if Region.wanted oi (yielded ops a.tmps) = true then Oper.wp P oi a w K Q else K (a.put N undef) w := by
  refine call_ f args hw hN ?_ h
  have he := enters_ hf hname hb args w
  unfold execOp
  simp [hop, resolve, Deferred.ofValue, invoke, hcal, hargs, he]
end

def cmpI (a b : S105) : Int := mx (-1) (mn (wrap64 (a.f1 - b.f1)) 1)
set_option maxRecDepth 100000 in
set_option maxHeartbeats 1000000 in
theorem cmp_any (a b : S105) (w : World) : Calls Try.prog 61 #[.agg #[.int .i64 a.f0.f0, .int .i64 a.f0.f1, .int .i64 a.f1], .agg #[.int .i64 b.f0.f0, .int .i64 b.f0.f1, .int .i64 b.f1]] w (RetB (.int .i64 (cmpI a b)) w) := by
  have hu105 := Try.underlying105
  go_enter Try.func61, Try.ntmps61
  go_wp2
  all_goals
    go_ret
    refine ⟨?_, by repeat (first | exact Below.refl _ _ | apply below_alloc)⟩
    show Ending.returned (.int .i64 _) = .returned (.int .i64 (cmpI a b))
    have hcm : cmpI a b = mx (-1) (mn (wrap64 (a.f1 - b.f1)) 1) := rfl
    rw [hcm]
    generalize wrap64 (a.f1 - b.f1) = D at *
    unfold mx mn
    congr 2
    repeat' split
    all_goals first | rfl | omega | (simp_all; done) | (simp_all; omega)

def maxStep (m x : S105) : S105 := if 0 < cmpI x m then x else m
def maxA (ys : List S105) : S105 := (ys.drop 1).foldl maxStep (rd_T105 ys 0)
set_option maxRecDepth 100000 in
set_option maxHeartbeats 4000000 in
theorem maxF_any (A : Option Addr) (c : Nat) (ys : List S105) (w : World) (hC : Kd.C k105 w A ys.length ys) (hl : ys.length ≤ 1000) (h1 : 1 ≤ ys.length) :
    Calls Try.prog 60 #[.slice A ys.length c, .func (.func 61) #[] #[]] w (RetB (.agg #[.int .i64 (maxA ys).f0.f0, .int .i64 (maxA ys).f0.f1, .int .i64 (maxA ys).f1]) w) := by
  have hu105 := Try.underlying105
  obtain ⟨ad, rfl, hx0, hx1, hx2⟩ := at_T105 hC 0 (by omega) (by omega)
  have d1 : decide ((ys.length : Int) < 1) = false := decide_eq_false (by omega)
  have d2 : decide (0 < (ys.length : Int)) = true := decide_eq_true (by omega)
  have d3 : (0 : Int) < (ys.length : Int) := by omega
  have hM : maxA ys = (ys.drop 1).foldl maxStep (rd_T105 ys 0) := rfl
  have HM := Lib.hid hM
  clear hM
  have hm0 : ((ys.take 1).drop 1).foldl maxStep (rd_T105 ys 0) = rd_T105 ys 0 := by rw [List.drop_eq_nil_of_le (by rw [List.length_take]; omega)]; rfl
  have Hm0 := Lib.hid hm0
  clear hm0
  generalize hx : rd_T105 ys 0 = x at *
  have HX := Lib.hid hx
  clear hx
  simp only [Int.toNat_zero, Nat.zero_mul] at hx0 hx1 hx2
  go_enter Try.func60, Try.ntmps60
  have e0 : ad.add 0 = ad := by cases ad; rfl
  rw [e0] at hx0 hx1 hx2
  have y0 : ∀ o_, (w.alloc o_).cell? ad = some (.int .i64 x.f0.f0) := fun o_ => ((below_alloc (Below.refl _ w) o_).cell (World.block_lt_of_cell? w _ hx0)).trans hx0
  have y1 : ∀ o_, (w.alloc o_).cell? ⟨ad.block, ad.off + 1, none⟩ = some (.int .i64 x.f0.f1) := fun o_ => ((below_alloc (Below.refl _ w) o_).cell (World.block_lt_of_cell? w _ hx1)).trans hx1
  have y2 : ∀ o_, (w.alloc o_).cell? ⟨ad.block, ad.off + 2, none⟩ = some (.int .i64 x.f1) := fun o_ => ((below_alloc (Below.refl _ w) o_).cell (World.block_lt_of_cell? w _ hx2)).trans hx2
  go_wp2_with fail
  clear hx0 hx1 hx2 y0 y1 y2 e0 d1 d2
  have m4 : Blk ((w.alloc (.cells #[.int .i64 0, .int .i64 0, .int .i64 0] 105)).alloc (.cells #[.int .i64 x.f0.f0, .int .i64 x.f0.f1, .int .i64 x.f1] 105)) (w.heap.size) #[.int .i64 0, .int .i64 0, .int .i64 0] 105 := (blk_alloc (by have h_ := blk_new w (.cells #[.int .i64 0, .int .i64 0, .int .i64 0] 105); first | exact h_ | (simp only [World.size_alloc] at h_; exact h_)) _)
  have m5 : Blk ((w.alloc (.cells #[.int .i64 0, .int .i64 0, .int .i64 0] 105)).alloc (.cells #[.int .i64 x.f0.f0, .int .i64 x.f0.f1, .int .i64 x.f1] 105)) (w.heap.size + 1) #[.int .i64 x.f0.f0, .int .i64 x.f0.f1, .int .i64 x.f1] 105 := (by have h_ := blk_new (w.alloc (.cells #[.int .i64 0, .int .i64 0, .int .i64 0] 105)) (.cells #[.int .i64 x.f0.f0, .int .i64 x.f0.f1, .int .i64 x.f1] 105); first | exact h_ | (simp only [World.size_alloc] at h_; exact h_))
  have mB : Below w.heap.size w ((w.alloc (.cells #[.int .i64 0, .int .i64 0, .int .i64 0] 105)).alloc (.cells #[.int .i64 x.f0.f0, .int .i64 x.f0.f1, .int .i64 x.f1] 105)) := (below_alloc (below_alloc (Below.refl w.heap.size w) _) _)
  have hsz_ : w.heap.size ≤ w.heap.size := Nat.le_refl _
  generalize hW_ : ((w.alloc (.cells #[.int .i64 0, .int .i64 0, .int .i64 0] 105)).alloc (.cells #[.int .i64 x.f0.f0, .int .i64 x.f0.f1, .int .i64 x.f1] 105)) = W1 at m4 m5 mB ⊢
  clear hW_
  generalize hg4 : w.heap.size = g4 at m4 m5 ⊢
  have hG4 : w.heap.size ≤ g4 := by omega
  generalize hg5 : g4 + 1 = g5 at m5 ⊢
  have hn_4_5 : g4 ≠ g5 := by omega
  have hn_5_4 : g5 ≠ g4 := hn_4_5.symm
  have hG5 : w.heap.size ≤ g5 := by omega
  clear hsz_
  try clear hg5
  try clear hg4
  have hs_W1 : w.heap.size ≤ W1.heap.size := mB.size
  go_loopw [6] (fun i wr => ∃ (k : Nat) (m : S105), 1 ≤ k ∧ k ≤ ys.length ∧ i = .int .i64 k ∧ Hid (m = ((ys.take k).drop 1).foldl maxStep x) ∧ Blk wr g4 #[.int .i64 0, .int .i64 0, .int .i64 0] 105 ∧ Blk wr g5 #[.int .i64 m.f0.f0, .int .i64 m.f0.f1, .int .i64 m.f1] 105 ∧ Below w.heap.size w wr) (fun i _ => ys.length - (intOf i).toNat)
  case atStart => exact ⟨1, x, Nat.le_refl _, h1, rfl, Lib.hid (by rw [Hm0.out]), m4, m5, mB⟩
  case round =>
    clear m4 m5 mB
    obtain ⟨k, m, hk1, hk, rfl, HA, m4, m5, mB⟩ := hrel
    have hs_wr : w.heap.size ≤ wr.heap.size := mB.size
    by_cases hlt : k < ys.length
    case pos =>
      obtain ⟨ad_, e_, hy0, hy1, hy2⟩ := at_T105 hC k (by omega) (by omega)
      cases e_
      simp only [Int.toNat_natCast] at hy0 hy1 hy2
      replace hy0 := (mB.cell (World.block_lt_of_cell? w _ hy0)).trans hy0
      replace hy1 := (mB.cell (World.block_lt_of_cell? w _ hy1)).trans hy1
      replace hy2 := (mB.cell (World.block_lt_of_cell? w _ hy2)).trans hy2
      have hlk : ys[k]? = some (rd_T105 ys (k : Int)) := by simp [rd_T105, List.getD_eq_getElem?_getD, hlt]
      have htk : (ys.take (k + 1)).drop 1 = (ys.take k).drop 1 ++ [rd_T105 ys (k : Int)] := by rw [List.take_add_one, hlk, List.drop_append_of_le_length (by rw [List.length_take]; omega)]; rfl
      generalize rd_T105 ys (k : Int) = y at *
      have HT := Lib.hid htk
      clear htk hlk
      have hm2 : maxStep m y = if 0 < cmpI y m then y else m := rfl
      have HS := Lib.hid hm2
      clear hm2
      go_wp2_with fail
      replace m4 := blk_drew m4
      replace m5 := blk_drew m5
      replace mB := below_drew1 mB
      replace hy0 := ((below_drew1 (Below.refl wr.heap.size wr)).cell (World.block_lt_of_cell? wr _ hy0)).trans hy0
      replace hy1 := ((below_drew1 (Below.refl wr.heap.size wr)).cell (World.block_lt_of_cell? wr _ hy1)).trans hy1
      replace hy2 := ((below_drew1 (Below.refl wr.heap.size wr)).cell (World.block_lt_of_cell? wr _ hy2)).trans hy2
      refine start_ (n := 8) (S := fun w' => w'.cell? ⟨g5, 0, none⟩ = some (.int .i64 m.f0.f0) ∧ w'.cell? ⟨g5, 1, none⟩ = some (.int .i64 m.f0.f1) ∧ w'.cell? ⟨g5, 2, none⟩ = some (.int .i64 m.f1) ∧ w'.cell? (ad.add (k * 3)) = some (.int .i64 y.f0.f0) ∧ w'.cell? ⟨(ad.add (k * 3)).block, (ad.add (k * 3)).off + 1, none⟩ = some (.int .i64 y.f0.f1) ∧ w'.cell? ⟨(ad.add (k * 3)).block, (ad.add (k * 3)).off + 2, none⟩ = some (.int .i64 y.f1)) (ds := []) #[false, false, false, false, false, false, false, false] (by kernel_rfl) rfl rfl ⟨((blk_cell m5 0).trans rfl), ((blk_cell m5 1).trans rfl), ((blk_cell m5 2).trans rfl), hy0, hy1, hy2⟩ (fun hHeld => ?_)
      generalize hWd : World.drew _ = Wx at *
      clear hWd
      refine pure_ (i := 0) (N := some 20) (v := ?_) (a' := ?_) #[true, false, false, false, false, false, false, false] rfl rfl (by kernel_rfl) (fun _ _ _ h => h) (Or.inl ⟨by rfl, ?_⟩) ?_ ?_
      rotate_left
      · intro w'
        go_simp
        with_reducible rfl
      rotate_left
      · simp only [Act.put, List.setIfInBounds_toArray, List.set_cons_zero, List.set_cons_succ, i64_w, i32_w]
        rfl
      refine pure_ (i := 1) (N := some 21) (v := ?_) (a' := ?_) #[true, true, false, false, false, false, false, false] rfl rfl (by kernel_rfl) (fun _ _ _ h => h) (Or.inl ⟨by rfl, ?_⟩) ?_ ?_
      rotate_left
      · intro w'
        go_simp
        with_reducible rfl
      rotate_left
      · simp only [Act.put, List.setIfInBounds_toArray, List.set_cons_zero, List.set_cons_succ, i64_w, i32_w]
        rfl
      refine pure_ (i := 2) (N := some 22) (v := ?_) (a' := ?_) #[true, true, true, false, false, false, false, false] rfl rfl (by kernel_rfl) (fun _ _ _ h => h) (Or.inl ⟨by rfl, ?_⟩) ?_ ?_
      rotate_left
      · intro w'
        go_simp
        with_reducible rfl
      rotate_left
      · simp only [Act.put, List.setIfInBounds_toArray, List.set_cons_zero, List.set_cons_succ, i64_w, i32_w]
        rfl
      refine pure_ (i := 3) (N := some 23) (v := ?_) (a' := ?_) #[true, true, true, true, false, false, false, false] rfl rfl (by kernel_rfl) (fun _ _ _ h => h) (Or.inl ⟨by rfl, ?_⟩) ?_ ?_
      rotate_left
      · intro w'
        go_simp
        with_reducible rfl
      rotate_left
      · simp only [Act.put, List.setIfInBounds_toArray, List.set_cons_zero, List.set_cons_succ, i64_w, i32_w]
        rfl
      refine take_ (i := 4) (N := some 24) (v := ?_) (a' := ?_) #[true, true, true, true, true, false, false, false] rfl rfl (by kernel_rfl) (fun _ _ _ h => h) (Or.inl ⟨by rfl, ?_⟩) hHeld ?_ ?_
      rotate_left
      · rintro w' ⟨s0, s1, s2, s3, s4, s5⟩
        go_simp
        with_reducible rfl
      rotate_left
      · simp only [Act.put, List.setIfInBounds_toArray, List.set_cons_zero, List.set_cons_succ, i64_w, i32_w]
        rfl
      refine take_ (i := 5) (N := some 25) (v := ?_) (a' := ?_) #[true, true, true, true, true, true, false, false] rfl rfl (by kernel_rfl) (fun _ _ _ h => h) (Or.inl ⟨by rfl, ?_⟩) hHeld ?_ ?_
      rotate_left
      · rintro w' ⟨s0, s1, s2, s3, s4, s5⟩
        go_simp
        with_reducible rfl
      rotate_left
      · simp only [Act.put, List.setIfInBounds_toArray, List.set_cons_zero, List.set_cons_succ, i64_w, i32_w]
        rfl
      refine one_ (i := 6) (N := some 26) #[true, true, true, true, true, true, true, false] rfl rfl (by kernel_rfl) (by decide) (fun K hK => ?_)
      have hcon_ := cmp_any y m Wx
      refine goesV_ Try.func61 (by kernel_rfl) rfl #[.agg #[.int .i64 y.f0.f0, .int .i64 y.f0.f1, .int .i64 y.f1], .agg #[.int .i64 m.f0.f0, .int .i64 m.f0.f1, .int .i64 m.f1]] (by rfl) rfl rfl (by rfl) (by simp only [List.map_toArray, List.map_cons, List.map_nil]; rfl) ?_
      with_reducible refine (hcon_).mono ?_
      rintro e w6 ⟨rfl, hb⟩
      refine ⟨_, rfl, ?_⟩
      clear hcon_
      replace m4 := blk_below m4 hb
      replace m5 := blk_below m5 hb
      replace hy0 := (hb.cell (World.block_lt_of_cell? _ _ hy0)).trans hy0
      replace hy1 := (hb.cell (World.block_lt_of_cell? _ _ hy1)).trans hy1
      replace hy2 := (hb.cell (World.block_lt_of_cell? _ _ hy2)).trans hy2
      replace mB := below_step mB hb
      clear hb
      refine hK.out _ _ ⟨((blk_cell m5 0).trans rfl), ((blk_cell m5 1).trans rfl), ((blk_cell m5 2).trans rfl), hy0, hy1, hy2⟩ (fun hHeld => ?_)
      clear hK K
      refine norm_ (a' := ?_) ?_ ?_
      rotate_left
      · show Act.put _ (some 26) _ = _
        simp only [Act.put, List.setIfInBounds_toArray, List.set_cons_zero, List.set_cons_succ, i64_w, i32_w]
        rfl
      refine pure_ (i := 7) (N := some 27) (v := ?_) (a' := ?_) #[true, true, true, true, true, true, true, true] rfl rfl (by kernel_rfl) (fun _ _ _ h => h) (Or.inl ⟨by rfl, ?_⟩) ?_ ?_
      rotate_left
      · intro w'
        go_simp
        with_reducible rfl
      rotate_left
      · simp only [Act.put, List.setIfInBounds_toArray, List.set_cons_zero, List.set_cons_succ, i64_w, i32_w]
        rfl
      refine done_ (by kernel_rfl) ?_
      by_cases hq : 0 < cmpI y m
      case neg =>
        have dq : decide (0 < cmpI y m) = false := decide_eq_false hq
        have dq2 := eq_false hq
        have dq3 : cmpI y m ≤ 0 := by omega
        have HQ := Lib.hid (HS.out.trans (if_neg hq))
        clear hq HS
        go_wp2
        go_roundw
        case rel => exact ⟨k + 1, m, by omega, by omega, by simp, Lib.hid (by rw [HT.out, List.foldl_append, ← HA.out]; exact HQ.out.symm), m4, m5, mB⟩
        case measure => simp [intOf]; omega
      case pos =>
        have dq : decide (0 < cmpI y m) = true := decide_eq_true hq
        have dq2 := eq_true hq
        have dq3 : ¬ cmpI y m ≤ 0 := by omega
        have HQ := Lib.hid (HS.out.trans (if_pos hq))
        clear hq HS
        have f5_0 := blk_frozen m5 0
        have f5_1 := blk_frozen m5 1
        have f5_2 := blk_frozen m5 2
        have c5_0 := (blk_cell m5 0).trans rfl
        have c5_1 := (blk_cell m5 1).trans rfl
        have c5_2 := (blk_cell m5 2).trans rfl
        go_wp2
        go_roundw
        case rel => exact ⟨k + 1, y, by omega, by omega, by simp, Lib.hid (by rw [HT.out, List.foldl_append, ← HA.out]; exact HQ.out.symm), blk_far (p := ⟨g5, 2, none⟩) (blk_far (p := ⟨g5, 1, none⟩) (blk_far (p := ⟨g5, 0, none⟩) m4 hn_4_5 _) hn_4_5 _) hn_4_5 _, blk_put (blk_put (blk_put m5 0 _ rfl) 1 _ rfl) 2 _ rfl, ((mB.setCell hG5 _).setCell hG5 _).setCell hG5 _⟩
        case measure => simp [intOf]; omega
    case neg =>
      obtain rfl : k = ys.length := by omega
      rw [List.take_length, ← HM.out] at HA
      have f4_0 := blk_frozen m4 0
      have f4_1 := blk_frozen m4 1
      have f4_2 := blk_frozen m4 2
      have c4_0 := (blk_cell m4 0).trans rfl
      have c4_1 := (blk_cell m4 1).trans rfl
      have c4_2 := (blk_cell m4 2).trans rfl
      have c5_0 := (blk_cell m5 0).trans rfl
      have c5_1 := (blk_cell m5 1).trans rfl
      have c5_2 := (blk_cell m5 2).trans rfl
      go_wp2
      exact bodyPost_ret (results_cell_row rfl _ _ g4 105 #[.int .i64 m.f0.f0, .int .i64 m.f0.f1, .int .i64 m.f1] (0, 0) _ rfl (blk_put (blk_put (blk_put m4 0 _ rfl) 1 _ rfl) 2 _ rfl) Try.underlying105 rfl (by kernel_rfl)) rfl ⟨by rw [HA.out], ((mB.setCell hG4 _).setCell hG4 _).setCell hG4 _⟩
end Go.Proofs.Ytcjdhajdoikojaa.Clk
end
