/- Part 6 of the proof of ClockMore: what the functions compute. No condition. -/
import Derived.Test.YtcjdhajdoikojaaDmClockMore1
import Derived.Test.YtcjdhajdoikojaaDmClockMore5
section
-- PRINTED by print.py (a twelfth state) out of the translation. Not trusted: Lean checks it.
namespace Go.Proofs.Ytcjdhajdoikojaa.Pr
open Go.RowKit Go.Proofs.YtcjdhajdoikojaaW.PrintWords Go.Proofs.YtcjdhajdoikojaaW.PrintLast Go.Proofs.YtcjdhajdoikojaaW.PrintMore
attribute [local go_sem] max2_int min2_int max_two min_two
set_option linter.unusedVariables false
set_option linter.unusedSimpArgs false
set_option maxHeartbeats 8000000 in
set_option maxRecDepth 100000 in
theorem isobathlaw05_ClockMore.calls (k : Nat) (a0_0 : Int) (a0_1 : Int) (A0_2 : Option Addr) (c0_2 : Nat) (l0_2 : List (S46)) (a1_0 : Int) (a1_1 : Int) (a1_2 : Int) (a1_3 : Int) (a1_4 : Int) (a1_5 : Int) (a1_6 : Int) (a1_7 : Int) (a2 : Int) (a3 : Int) (a4 : Int) (r : Bool) (w : World) (hr0_2 : Kd.C k46 w A0_2 l0_2.length l0_2) (hc0_2 : l0_2.length ≤ c0_2) (h : isobathlaw05_ClockMore.f k a0_0 a0_1 l0_2 a1_0 a1_1 a1_2 a1_3 a1_4 a1_5 a1_6 a1_7 a2 a3 a4 = some r) (hr_ : Aside0 (r = true)) :
    Calls Try.prog 4 #[.agg #[.int .i64 a0_0, .int .i64 a0_1, .slice A0_2 l0_2.length c0_2], .agg #[.int .i64 a1_0, .int .i64 a1_1, .int .i64 a1_2, .int .i64 a1_3, .int .i64 a1_4, .int .i64 a1_5, .int .i64 a1_6, .int .i64 a1_7], .int .i64 a2, .int .u16 a3, .int .u16 a4] w fun e w' => e = .returned (.bool r) ∧ Below w.heap.size w w' := by
  have hu30 := Try.underlying30
  have hu46 := Try.underlying46
  have hu35 := Try.underlying35
  have HR0_2 := Aside0.mk hr0_2
  have HC0_2 := Aside0.mk hc0_2
  clear hr0_2 hc0_2
  have HB := Aside0.mk (Below.refl w.heap.size w)
  have H : ((isobathlaw05_long.f a0_0 a0_1 l0_2).bind fun t264 => (if t264 = true then (isobathlaw05_ClockMore.j0 k a2 a3 a4 true a0_0 a0_1 l0_2 a1_0 a1_1 a1_2 a1_3 a1_4 a1_5 a1_6 a1_7) else (isobathlaw05_ClockMore.j0 k a2 a3 a4 (decide ((l0_2.length : Int) > 12)) a0_0 a0_1 l0_2 a1_0 a1_1 a1_2 a1_3 a1_4 a1_5 a1_6 a1_7))) = some r := h
  clear h
  have HC6 := Aside0.mk H
  clear H
  go_enter Try.func4, Try.ntmps4
  go_upto_region 1 with (first | ((with_reducible refine gate_dst (N := 5) rfl ?_); (try (refine gate_guard (by rfl) ?_; dsimp only)); refine box_event ?hg (N := 5) ?hd (cs := #[.int .i64 a0_0, .int .i64 a0_1, .slice A0_2 l0_2.length c0_2]) (t := 30) ?hr ?_; (case hd => rfl); (case hg => rfl); (case hr => first | (go_simp; done) | (go_simp; rfl)); intro gb262 hg w7 hbox hb; have n0_ := Aside0.mk (below_step (by repeat (first | (with_reducible first | exact HB.out | apply below_alloc | apply pw_below_drewN | apply below_drew1) | exact HB.out)) hb); have n1_ := Aside0.mk (hbox); have n2_ := Aside0.mk ((by rw [hg]; exact (below_size (by repeat (first | (with_reducible first | exact HB.out | apply below_alloc | apply pw_below_drewN | apply below_drew1) | exact HB.out))) : w.heap.size ≤ gb262)); have n3_ := Aside0.mk ((by rw [hg]; exact (below_size (by repeat (first | (with_reducible first | exact HB.out | apply below_alloc | apply pw_below_drewN | apply below_drew1) | exact HB.out))) : w.heap.size ≤ gb262)); clear HB; have HB := n0_; have BK262 := n1_; have GW262 := n2_; have GE262 := n3_; clear n0_ n1_ n2_ n3_; clear hb hbox hg) | ((with_reducible refine gate_dst (N := 6) rfl ?_); (try (refine gate_guard (by rfl) ?_; dsimp only)); refine box_event ?hg (N := 6) ?hd (cs := #[.int .i64 a1_0, .int .i64 a1_1, .int .i64 a1_2, .int .i64 a1_3, .int .i64 a1_4, .int .i64 a1_5, .int .i64 a1_6, .int .i64 a1_7]) (t := 46) ?hr ?_; (case hd => rfl); (case hg => rfl); (case hr => first | (go_simp; done) | (go_simp; rfl)); intro gb263 hg w8 hbox hb; have n0_ := Aside0.mk (blk_below (g := gb262) (o := .cells #[.int .i64 a0_0, .int .i64 a0_1, .slice A0_2 l0_2.length c0_2] 30 (0, 0)) (by exact BK262.out) hb); have n1_ := Aside0.mk (below_step (by repeat (first | (with_reducible first | exact HB.out | apply below_alloc | apply pw_below_drewN | apply below_drew1 | refine below_set ?_ GE262.out) | exact HB.out)) hb); have n2_ := Aside0.mk (hbox); have n3_ := Aside0.mk ((by rw [hg]; exact (below_size (by repeat (first | (with_reducible first | exact HB.out | apply below_alloc | apply pw_below_drewN | apply below_drew1 | refine below_set ?_ GE262.out) | exact HB.out))) : w.heap.size ≤ gb263)); have n4_ := Aside0.mk ((by rw [hg]; exact (below_size (by repeat (first | (with_reducible first | exact HB.out | apply below_alloc | apply pw_below_drewN | apply below_drew1 | refine below_set ?_ GE262.out) | exact HB.out))) : w.heap.size ≤ gb263)); have n5_ := Aside0.mk ((by rw [hg]; exact Nat.ne_of_lt (blk_lt (g := gb262) (o := .cells #[.int .i64 a0_0, .int .i64 a0_1, .slice A0_2 l0_2.length c0_2] 30 (0, 0)) (by exact BK262.out)) : gb262 ≠ gb263)); have n6_ := Aside0.mk ((by rw [hg]; exact Nat.ne_of_gt (blk_lt (g := gb262) (o := .cells #[.int .i64 a0_0, .int .i64 a0_1, .slice A0_2 l0_2.length c0_2] 30 (0, 0)) (by exact BK262.out)) : gb263 ≠ gb262)); clear BK262; clear HB; have BK262 := n0_; have HB := n1_; have BK263 := n2_; have GW263 := n3_; have GE263 := n4_; have NB262_263 := n5_; have NB263_262 := n6_; clear n0_ n1_ n2_ n3_ n4_ n5_ n6_; clear hb hbox hg))
  (try simp only [Act.put, List.setIfInBounds_toArray, List.set_cons_zero, List.set_cons_succ])
  go_cut [26] (fun v26 wc => ∃ (kq : Nat) (x26_5 : Bool), v26 = .bool x26_5 ∧ Aside0 (isobathlaw05_ClockMore.j0 kq a2 a3 a4 x26_5 a0_0 a0_1 l0_2 a1_0 a1_1 a1_2 a1_3 a1_4 a1_5 a1_6 a1_7 = some r) ∧ Aside0 (kq ≤ k) ∧ Aside0 (wc.heap[gb262]? = some (.cells #[.int .i64 a0_0, .int .i64 a0_1, (.slice A0_2 l0_2.length c0_2)] 30 (0, 0))) ∧ Aside0 (wc.heap[gb263]? = some (.cells #[.int .i64 a1_0, .int .i64 a1_1, .int .i64 a1_2, .int .i64 a1_3, .int .i64 a1_4, .int .i64 a1_5, .int .i64 a1_6, .int .i64 a1_7] 46 (0, 0))) ∧ Aside0 (Below w.heap.size w wc))
  case first =>
    have H := HC6.out
    clear HC6
    replace H := Option.bind_eq_some_iff.mp H
    obtain ⟨t264, A90, H⟩ := H
    replace H : (if t264 = true then (isobathlaw05_ClockMore.j0 k a2 a3 a4 true a0_0 a0_1 l0_2 a1_0 a1_1 a1_2 a1_3 a1_4 a1_5 a1_6 a1_7) else (isobathlaw05_ClockMore.j0 k a2 a3 a4 (decide ((l0_2.length : Int) > 12)) a0_0 a0_1 l0_2 a1_0 a1_1 a1_2 a1_3 a1_4 a1_5 a1_6 a1_7)) = some r := H
    have A9 := Aside0.mk A90
    clear A90
    by_cases c10 : t264 = true
    · subst c10
      have H1 : (isobathlaw05_ClockMore.j0 k a2 a3 a4 true a0_0 a0_1 l0_2 a1_0 a1_1 a1_2 a1_3 a1_4 a1_5 a1_6 a1_7) = some r := by rw [if_pos rfl] at H; exact H
      clear H
      have H := H1
      clear H1
      have H' := Aside0.mk H
      clear H
      have hnb11 := NB262_263.out
      have hnc11 := NB263_262.out
      have hcz12_0 : w8.cell? ⟨gb262, 0, none⟩ = some (.int .i64 a0_0) := (blk_cell BK262.out 0).trans rfl
      have hcz12_1 : w8.cell? ⟨gb262, 1, none⟩ = some (.int .i64 a0_1) := (blk_cell BK262.out 1).trans rfl
      have hcz12_2 : w8.cell? ⟨gb262, 2, none⟩ = some (.slice A0_2 l0_2.length c0_2) := (blk_cell BK262.out 2).trans rfl
      have hfz12_0 := blk_frozen BK262.out 0
      have hfz12_1 := blk_frozen BK262.out 1
      have hfz12_2 := blk_frozen BK262.out 2
      go_wp2_with (first | ((with_reducible refine gate_callee (f := 21) rfl ?_); refine goesL_ (some 20) rfl rfl Try.func21 (by kernel_rfl) rfl #[.agg #[.int .i64 a0_0, .int .i64 a0_1, .slice A0_2 l0_2.length c0_2]] rfl (by (try simp only [List.map_toArray, List.map_cons, List.map_nil]); first | done | rfl | (simp only [List.length_drop, List.length_take]; rfl)) ?_; (with_reducible refine (isobathlaw05_long.calls a0_0 a0_1 _ _ l0_2 true _ ?side1 ?side2 A9.out).mono ?_); (case side1 => repeat (first | exact (Kd.C_below HR0_2.out HB.out) | (with_reducible refine Kd.C_alloc ?_ _) | (with_reducible refine Kd.C_drewN ?_ _) | (with_reducible refine Kd.C_drew ?_))); (case side2 => exact HC0_2.out); rintro e w13 ⟨rfl, hb⟩; refine ⟨_, rfl, ?_⟩; have n0_ := Aside0.mk (blk_below (g := gb262) (o := .cells #[.int .i64 a0_0, .int .i64 a0_1, .slice A0_2 l0_2.length c0_2] 30 (0, 0)) (by exact BK262.out) hb); have n1_ := Aside0.mk (blk_below (g := gb263) (o := .cells #[.int .i64 a1_0, .int .i64 a1_1, .int .i64 a1_2, .int .i64 a1_3, .int .i64 a1_4, .int .i64 a1_5, .int .i64 a1_6, .int .i64 a1_7] 46 (0, 0)) (by exact BK263.out) hb); have n2_ := Aside0.mk (below_step (by repeat (first | (with_reducible first | exact HB.out | apply below_alloc | apply pw_below_drewN | apply below_drew1 | refine below_set ?_ GE262.out | refine below_set ?_ GE263.out) | exact HB.out)) hb); clear BK262; clear BK263; clear HB; have BK262 := n0_; have BK263 := n1_; have HB := n2_; clear n0_ n1_ n2_; (try clear hb); (try clear hb2); (try clear hk); (try clear hi)))
      go_meet
      case rel => exact ⟨_, (true), (by first | rfl | (simp; done) | (simp [*]; done)), H', ⟨by first | omega | exact Nat.le_refl _⟩, ⟨by (with_reducible repeat (first | refine blk_drewN ?_ _ | refine blk_drew ?_ | refine blk_alloc ?_ _)); exact BK262.out⟩, ⟨by (with_reducible repeat (first | refine blk_drewN ?_ _ | refine blk_drew ?_ | refine blk_alloc ?_ _)); exact BK263.out⟩, ⟨by repeat (first | (with_reducible first | exact HB.out | apply below_alloc | apply pw_below_drewN | apply below_drew1 | refine below_set ?_ GE262.out | refine below_set ?_ GE263.out) | exact HB.out)⟩⟩
    · replace c10 := Bool.eq_false_iff.mpr c10
      subst c10
      have H1 : (isobathlaw05_ClockMore.j0 k a2 a3 a4 (decide ((l0_2.length : Int) > 12)) a0_0 a0_1 l0_2 a1_0 a1_1 a1_2 a1_3 a1_4 a1_5 a1_6 a1_7) = some r := by rw [if_neg (show ¬ (false = true) by decide)] at H; exact H
      clear H
      have H := H1
      clear H1
      have H' := Aside0.mk H
      clear H
      have hnb14 := NB262_263.out
      have hnc14 := NB263_262.out
      have hcz15_0 : w8.cell? ⟨gb262, 0, none⟩ = some (.int .i64 a0_0) := (blk_cell BK262.out 0).trans rfl
      have hcz15_1 : w8.cell? ⟨gb262, 1, none⟩ = some (.int .i64 a0_1) := (blk_cell BK262.out 1).trans rfl
      have hcz15_2 : w8.cell? ⟨gb262, 2, none⟩ = some (.slice A0_2 l0_2.length c0_2) := (blk_cell BK262.out 2).trans rfl
      have hfz15_0 := blk_frozen BK262.out 0
      have hfz15_1 := blk_frozen BK262.out 1
      have hfz15_2 := blk_frozen BK262.out 2
      go_wp2_with (first | ((with_reducible refine gate_callee (f := 21) rfl ?_); refine goesL_ (some 20) rfl rfl Try.func21 (by kernel_rfl) rfl #[.agg #[.int .i64 a0_0, .int .i64 a0_1, .slice A0_2 l0_2.length c0_2]] rfl (by (try simp only [List.map_toArray, List.map_cons, List.map_nil]); first | done | rfl | (simp only [List.length_drop, List.length_take]; rfl)) ?_; (with_reducible refine (isobathlaw05_long.calls a0_0 a0_1 _ _ l0_2 false _ ?side1 ?side2 A9.out).mono ?_); (case side1 => repeat (first | exact (Kd.C_below HR0_2.out HB.out) | (with_reducible refine Kd.C_alloc ?_ _) | (with_reducible refine Kd.C_drewN ?_ _) | (with_reducible refine Kd.C_drew ?_))); (case side2 => exact HC0_2.out); rintro e w16 ⟨rfl, hb⟩; refine ⟨_, rfl, ?_⟩; have n0_ := Aside0.mk (blk_below (g := gb262) (o := .cells #[.int .i64 a0_0, .int .i64 a0_1, .slice A0_2 l0_2.length c0_2] 30 (0, 0)) (by exact BK262.out) hb); have n1_ := Aside0.mk (blk_below (g := gb263) (o := .cells #[.int .i64 a1_0, .int .i64 a1_1, .int .i64 a1_2, .int .i64 a1_3, .int .i64 a1_4, .int .i64 a1_5, .int .i64 a1_6, .int .i64 a1_7] 46 (0, 0)) (by exact BK263.out) hb); have n2_ := Aside0.mk (below_step (by repeat (first | (with_reducible first | exact HB.out | apply below_alloc | apply pw_below_drewN | apply below_drew1 | refine below_set ?_ GE262.out | refine below_set ?_ GE263.out) | exact HB.out)) hb); clear BK262; clear BK263; clear HB; have BK262 := n0_; have BK263 := n1_; have HB := n2_; clear n0_ n1_ n2_; (try clear hb); (try clear hb2); (try clear hk); (try clear hi); have hcz17_0 : w16.cell? ⟨gb262, 0, none⟩ = some (.int .i64 a0_0) := (blk_cell BK262.out 0).trans rfl; have hcz17_1 : w16.cell? ⟨gb262, 1, none⟩ = some (.int .i64 a0_1) := (blk_cell BK262.out 1).trans rfl; have hcz17_2 : w16.cell? ⟨gb262, 2, none⟩ = some (.slice A0_2 l0_2.length c0_2) := (blk_cell BK262.out 2).trans rfl; have hfz17_0 := blk_frozen BK262.out 0; have hfz17_1 := blk_frozen BK262.out 1; have hfz17_2 := blk_frozen BK262.out 2))
      go_meet
      case rel => exact ⟨_, (decide ((l0_2.length : Int) > 12)), (by first | rfl | (simp; done) | (simp [*]; done)), H', ⟨by first | omega | exact Nat.le_refl _⟩, ⟨by (with_reducible repeat (first | refine blk_drewN ?_ _ | refine blk_drew ?_ | refine blk_alloc ?_ _)); exact BK262.out⟩, ⟨by (with_reducible repeat (first | refine blk_drewN ?_ _ | refine blk_drew ?_ | refine blk_alloc ?_ _)); exact BK263.out⟩, ⟨by repeat (first | (with_reducible first | exact HB.out | apply below_alloc | apply pw_below_drewN | apply below_drew1 | refine below_set ?_ GE262.out | refine below_set ?_ GE263.out) | exact HB.out)⟩⟩
  case rest =>
    clear HC6
    try clear c1
    try clear c2
    try clear p2
    try clear c4
    try clear c10
    try clear c11
    try clear c14
    try clear hcz12_0
    try clear hcz12_1
    try clear hcz12_2
    try clear hcz15_0
    try clear hcz15_1
    try clear hcz15_2
    try clear hcz17_0
    try clear hcz17_1
    try clear hcz17_2
    try clear hfz12_0
    try clear hfz12_1
    try clear hfz12_2
    try clear hfz15_0
    try clear hfz15_1
    try clear hfz15_2
    try clear hfz17_0
    try clear hfz17_1
    try clear hfz17_2
    obtain ⟨kq, x26_5, rfl, HA, HJ5, BK262, BK263, HB⟩ := hcut
    cases kq with
    | zero => exact absurd HA.out (by simp [isobathlaw05_ClockMore.j0])
    | succ kj5 =>
      have H := HA.out
      clear HA
      simp only [isobathlaw05_ClockMore.j0] at H
      by_cases c18 : x26_5 = true
      · subst c18
        have H1 : ((isobathlaw05_Works.f).bind fun t265 => (some t265)) = some r := by rw [if_pos rfl] at H; exact H
        clear H
        have H := H1
        clear H1
        replace H := Option.bind_eq_some_iff.mp H
        obtain ⟨t265, A190, H⟩ := H
        replace H : (some t265) = some r := H
        have A19 := Aside0.mk A190
        clear A190
        obtain rfl := Option.some.inj H
        go_wp2_with (first | ((with_reducible refine gate_callee (f := 16) rfl ?_); refine goesL_ (some 27) rfl rfl Try.func16 (by kernel_rfl) rfl #[] rfl (by (try simp only [List.map_toArray, List.map_cons, List.map_nil]); first | done | rfl | (simp only [List.length_drop, List.length_take]; rfl)) ?_; (with_reducible refine (isobathlaw05_Works.calls  t265 _ A19.out).mono ?_); rintro e w20 ⟨rfl, hb⟩; refine ⟨_, rfl, ?_⟩; have n0_ := Aside0.mk (blk_below (g := gb262) (o := .cells #[.int .i64 a0_0, .int .i64 a0_1, .slice A0_2 l0_2.length c0_2] 30 (0, 0)) (by exact BK262.out) hb); have n1_ := Aside0.mk (blk_below (g := gb263) (o := .cells #[.int .i64 a1_0, .int .i64 a1_1, .int .i64 a1_2, .int .i64 a1_3, .int .i64 a1_4, .int .i64 a1_5, .int .i64 a1_6, .int .i64 a1_7] 46 (0, 0)) (by exact BK263.out) hb); have n2_ := Aside0.mk (below_step (by repeat (first | (with_reducible first | exact HB.out | apply below_alloc | apply pw_below_drewN | apply below_drew1 | refine below_set ?_ GE262.out | refine below_set ?_ GE263.out) | exact HB.out)) hb); clear BK262; clear BK263; clear HB; have BK262 := n0_; have BK263 := n1_; have HB := n2_; clear n0_ n1_ n2_; (try clear hb); (try clear hb2); (try clear hk); (try clear hi)))
        go_ret
        exact ⟨by first | rfl | (simp [errW_none, errW_some] <;> rfl) | (simp [*, errW_none, errW_some] <;> rfl), by repeat (first | (with_reducible first | exact HB.out | apply below_alloc | apply pw_below_drewN | apply below_drew1 | refine below_set ?_ GE262.out | refine below_set ?_ GE263.out) | exact HB.out)⟩
      · replace c18 := Bool.eq_false_iff.mpr c18
        subst c18
        have H1 : ((clock_At.f a0_0 a0_1 l0_2 a2).bind fun bt266 => (if bt266.2.2 = 0 then ((some (([] : List (S46)) : List (S46))).bind fun y272 => (if y272.length + l0_2.length < 2199023255552 then ((some (y272 ++ l0_2 : List (S46))).bind fun y275 => ((some (([(⟨a1_0, a1_1, a1_2, a1_3, (⟨a1_4, a1_5⟩ : S35), (⟨a1_6, a1_7⟩ : S35)⟩ : S46)] : List (S46)) : List (S46))).bind fun y278 => (if y275.length + y278.length < 2199023255552 then ((clock_At.f a0_0 a0_1 (y275 ++ y278) a2).bind fun bt284 => (if bt284.2.2 = 0 then ((isobathlaw05_inside.f bt284.1 bt284.2.1 bt266.1 bt266.2.1).bind fun t288 => (isobathlaw05_ClockMore.j1 kj5 a2 a3 a4 (!t288) a0_0 a0_1 l0_2 bt266.1 bt266.2.1)) else (isobathlaw05_ClockMore.j1 kj5 a2 a3 a4 false a0_0 a0_1 l0_2 bt266.1 bt266.2.1))) else (none)))) else (none))) else ((isobathlaw05_Works.f).bind fun t270 => (some t270)))) = some r := by rw [if_neg (show ¬ (false = true) by decide)] at H; exact H
        clear H
        have H := H1
        clear H1
        replace H := Option.bind_eq_some_iff.mp H
        obtain ⟨⟨t266, t267, t268⟩, A210, H⟩ := H
        replace H : (if t268 = 0 then ((some (([] : List (S46)) : List (S46))).bind fun y272 => (if y272.length + l0_2.length < 2199023255552 then ((some (y272 ++ l0_2 : List (S46))).bind fun y275 => ((some (([(⟨a1_0, a1_1, a1_2, a1_3, (⟨a1_4, a1_5⟩ : S35), (⟨a1_6, a1_7⟩ : S35)⟩ : S46)] : List (S46)) : List (S46))).bind fun y278 => (if y275.length + y278.length < 2199023255552 then ((clock_At.f a0_0 a0_1 (y275 ++ y278) a2).bind fun bt284 => (if bt284.2.2 = 0 then ((isobathlaw05_inside.f bt284.1 bt284.2.1 t266 t267).bind fun t288 => (isobathlaw05_ClockMore.j1 kj5 a2 a3 a4 (!t288) a0_0 a0_1 l0_2 t266 t267)) else (isobathlaw05_ClockMore.j1 kj5 a2 a3 a4 false a0_0 a0_1 l0_2 t266 t267))) else (none)))) else (none))) else ((isobathlaw05_Works.f).bind fun t270 => (some t270))) = some r := H
        have A21 := Aside0.mk A210
        clear A210
        by_cases c22 : t268 = 0
        · rw [if_pos c22] at H
          have c22b0 : (t268 == 0) = true := beq_iff_eq.mpr c22
          have c22b1 : (t268 != 0) = false := bne_eq_false_iff_eq.mpr c22
          clear c22
          obtain ⟨y272, hy272⟩ : ∃ y_ : List (S46), y_ = (([] : List (S46))) := ⟨_, rfl⟩
          replace H : (if y272.length + l0_2.length < 2199023255552 then ((some (y272 ++ l0_2 : List (S46))).bind fun y275 => ((some (([(⟨a1_0, a1_1, a1_2, a1_3, (⟨a1_4, a1_5⟩ : S35), (⟨a1_6, a1_7⟩ : S35)⟩ : S46)] : List (S46)) : List (S46))).bind fun y278 => (if y275.length + y278.length < 2199023255552 then ((clock_At.f a0_0 a0_1 (y275 ++ y278) a2).bind fun bt284 => (if bt284.2.2 = 0 then ((isobathlaw05_inside.f bt284.1 bt284.2.1 t266 t267).bind fun t288 => (isobathlaw05_ClockMore.j1 kj5 a2 a3 a4 (!t288) a0_0 a0_1 l0_2 t266 t267)) else (isobathlaw05_ClockMore.j1 kj5 a2 a3 a4 false a0_0 a0_1 l0_2 t266 t267))) else (none)))) else (none)) = some r := by first | (rw [hy272]; with_reducible exact H) | (have H2_ := (Option.bind_some _ _).symm.trans H; rw [hy272]; with_reducible exact H2_) | (have H2_ := (Option.bind_some _ _).symm.trans H; with_reducible exact H2_) | with_reducible exact H | (rw [hy272]; exact H) | exact H
          have Ny272 := Aside0.mk hy272
          clear hy272
          by_cases c23 : y272.length + l0_2.length < 2199023255552
          · rw [if_pos c23] at H
            have LMc23 := Aside0.mk c23
            clear c23
            obtain ⟨y275, hy275⟩ : ∃ y_ : List (S46), y_ = (y272 ++ l0_2) := ⟨_, rfl⟩
            replace H : ((some (([(⟨a1_0, a1_1, a1_2, a1_3, (⟨a1_4, a1_5⟩ : S35), (⟨a1_6, a1_7⟩ : S35)⟩ : S46)] : List (S46)) : List (S46))).bind fun y278 => (if y275.length + y278.length < 2199023255552 then ((clock_At.f a0_0 a0_1 (y275 ++ y278) a2).bind fun bt284 => (if bt284.2.2 = 0 then ((isobathlaw05_inside.f bt284.1 bt284.2.1 t266 t267).bind fun t288 => (isobathlaw05_ClockMore.j1 kj5 a2 a3 a4 (!t288) a0_0 a0_1 l0_2 t266 t267)) else (isobathlaw05_ClockMore.j1 kj5 a2 a3 a4 false a0_0 a0_1 l0_2 t266 t267))) else (none))) = some r := by first | (rw [hy275]; with_reducible exact H) | (have H2_ := (Option.bind_some _ _).symm.trans H; rw [hy275]; with_reducible exact H2_) | (have H2_ := (Option.bind_some _ _).symm.trans H; with_reducible exact H2_) | with_reducible exact H | (rw [hy275]; exact H) | exact H
            have Ny275 := Aside0.mk hy275
            clear hy275
            obtain ⟨y278, hy278⟩ : ∃ y_ : List (S46), y_ = (([(⟨a1_0, a1_1, a1_2, a1_3, (⟨a1_4, a1_5⟩ : S35), (⟨a1_6, a1_7⟩ : S35)⟩ : S46)] : List (S46))) := ⟨_, rfl⟩
            replace H : (if y275.length + y278.length < 2199023255552 then ((clock_At.f a0_0 a0_1 (y275 ++ y278) a2).bind fun bt284 => (if bt284.2.2 = 0 then ((isobathlaw05_inside.f bt284.1 bt284.2.1 t266 t267).bind fun t288 => (isobathlaw05_ClockMore.j1 kj5 a2 a3 a4 (!t288) a0_0 a0_1 l0_2 t266 t267)) else (isobathlaw05_ClockMore.j1 kj5 a2 a3 a4 false a0_0 a0_1 l0_2 t266 t267))) else (none)) = some r := by first | (rw [hy278]; with_reducible exact H) | (have H2_ := (Option.bind_some _ _).symm.trans H; rw [hy278]; with_reducible exact H2_) | (have H2_ := (Option.bind_some _ _).symm.trans H; with_reducible exact H2_) | with_reducible exact H | (rw [hy278]; exact H) | exact H
            have Ny278 := Aside0.mk hy278
            clear hy278
            by_cases c24 : y275.length + y278.length < 2199023255552
            · rw [if_pos c24] at H
              have LMc24 := Aside0.mk c24
              clear c24
              obtain ⟨y281, hy281⟩ : ∃ y_ : List (S46), y_ = (y275 ++ y278) := ⟨_, rfl⟩
              replace H : ((clock_At.f a0_0 a0_1 y281 a2).bind fun bt284 => (if bt284.2.2 = 0 then ((isobathlaw05_inside.f bt284.1 bt284.2.1 t266 t267).bind fun t288 => (isobathlaw05_ClockMore.j1 kj5 a2 a3 a4 (!t288) a0_0 a0_1 l0_2 t266 t267)) else (isobathlaw05_ClockMore.j1 kj5 a2 a3 a4 false a0_0 a0_1 l0_2 t266 t267))) = some r := by first | (rw [hy281]; with_reducible exact H) | (have H2_ := (Option.bind_some _ _).symm.trans H; rw [hy281]; with_reducible exact H2_) | (have H2_ := (Option.bind_some _ _).symm.trans H; with_reducible exact H2_) | with_reducible exact H | (rw [hy281]; exact H) | exact H
              have Ny281 := Aside0.mk hy281
              clear hy281
              replace H := Option.bind_eq_some_iff.mp H
              obtain ⟨⟨t284, t285, t286⟩, A250, H⟩ := H
              replace H : (if t286 = 0 then ((isobathlaw05_inside.f t284 t285 t266 t267).bind fun t288 => (isobathlaw05_ClockMore.j1 kj5 a2 a3 a4 (!t288) a0_0 a0_1 l0_2 t266 t267)) else (isobathlaw05_ClockMore.j1 kj5 a2 a3 a4 false a0_0 a0_1 l0_2 t266 t267)) = some r := H
              have A25 := Aside0.mk A250
              clear A250
              have HC26 := Aside0.mk H
              clear H
              have hnb27 := NB262_263.out
              have hnc27 := NB263_262.out
              have hcz28_0 : wc.cell? ⟨gb262, 0, none⟩ = some (.int .i64 a0_0) := (blk_cell BK262.out 0).trans rfl
              have hcz28_1 : wc.cell? ⟨gb262, 1, none⟩ = some (.int .i64 a0_1) := (blk_cell BK262.out 1).trans rfl
              have hcz28_2 : wc.cell? ⟨gb262, 2, none⟩ = some (.slice A0_2 l0_2.length c0_2) := (blk_cell BK262.out 2).trans rfl
              have hfz28_0 := blk_frozen BK262.out 0
              have hfz28_1 := blk_frozen BK262.out 1
              have hfz28_2 := blk_frozen BK262.out 2
              try go_wp2_with (first | ((with_reducible refine gate_callee (f := 22) rfl ?_); refine goesL_ (some 31) rfl rfl Try.func22 (by kernel_rfl) rfl #[.agg #[.int .i64 a0_0, .int .i64 a0_1, .slice A0_2 l0_2.length c0_2], .int .i64 a2] rfl (by (try simp only [List.map_toArray, List.map_cons, List.map_nil]); first | done | rfl | (simp only [List.length_drop, List.length_take]; rfl)) ?_; (with_reducible refine (clock_At.calls a0_0 a0_1 _ _ l0_2 a2 t266 t267 t268 _ ?side1 ?side2 A21.out).mono ?_); (case side1 => repeat (first | exact (Kd.C_below HR0_2.out HB.out) | (with_reducible refine Kd.C_alloc ?_ _) | (with_reducible refine Kd.C_drewN ?_ _) | (with_reducible refine Kd.C_drew ?_))); (case side2 => exact HC0_2.out); rintro e w29 ⟨rfl, hb⟩; refine ⟨_, rfl, ?_⟩; have n0_ := Aside0.mk (blk_below (g := gb262) (o := .cells #[.int .i64 a0_0, .int .i64 a0_1, .slice A0_2 l0_2.length c0_2] 30 (0, 0)) (by exact BK262.out) hb); have n1_ := Aside0.mk (blk_below (g := gb263) (o := .cells #[.int .i64 a1_0, .int .i64 a1_1, .int .i64 a1_2, .int .i64 a1_3, .int .i64 a1_4, .int .i64 a1_5, .int .i64 a1_6, .int .i64 a1_7] 46 (0, 0)) (by exact BK263.out) hb); have n2_ := Aside0.mk (below_step (by repeat (first | (with_reducible first | exact HB.out | apply below_alloc | apply pw_below_drewN | apply below_drew1 | refine below_set ?_ GE262.out | refine below_set ?_ GE263.out) | exact HB.out)) hb); clear BK262; clear BK263; clear HB; have BK262 := n0_; have BK263 := n1_; have HB := n2_; clear n0_ n1_ n2_; (try clear hb); (try clear hb2); (try clear hk); (try clear hi)) | ((with_reducible refine gate_dst (N := 11) rfl ?_); (try (refine gate_guard (by rfl) ?_; dsimp only)); refine box_event ?hg (N := 11) ?hd (cs := #[.int .i64 0, .int .i64 0]) (t := 35) ?hr ?_; (case hd => rfl); (case hg => rfl); (case hr => first | (go_simp; done) | (go_simp; rfl)); intro gb269 hg w30 hbox hb; have n0_ := Aside0.mk (blk_below (g := gb262) (o := .cells #[.int .i64 a0_0, .int .i64 a0_1, .slice A0_2 l0_2.length c0_2] 30 (0, 0)) (by exact BK262.out) hb); have n1_ := Aside0.mk (blk_below (g := gb263) (o := .cells #[.int .i64 a1_0, .int .i64 a1_1, .int .i64 a1_2, .int .i64 a1_3, .int .i64 a1_4, .int .i64 a1_5, .int .i64 a1_6, .int .i64 a1_7] 46 (0, 0)) (by exact BK263.out) hb); have n2_ := Aside0.mk (below_step (by repeat (first | (with_reducible first | exact HB.out | apply below_alloc | apply pw_below_drewN | apply below_drew1 | refine below_set ?_ GE262.out | refine below_set ?_ GE263.out) | exact HB.out)) hb); have n3_ := Aside0.mk (hbox); have n4_ := Aside0.mk ((by rw [hg]; exact (below_size (by repeat (first | (with_reducible first | exact HB.out | apply below_alloc | apply pw_below_drewN | apply below_drew1 | refine below_set ?_ GE262.out | refine below_set ?_ GE263.out) | exact HB.out))) : w.heap.size ≤ gb269)); have n5_ := Aside0.mk ((by rw [hg]; exact (below_size (by repeat (first | (with_reducible first | exact HB.out | apply below_alloc | apply pw_below_drewN | apply below_drew1 | refine below_set ?_ GE262.out | refine below_set ?_ GE263.out) | exact HB.out))) : w.heap.size ≤ gb269)); have n6_ := Aside0.mk ((by rw [hg]; exact Nat.ne_of_lt (blk_lt (g := gb262) (o := .cells #[.int .i64 a0_0, .int .i64 a0_1, .slice A0_2 l0_2.length c0_2] 30 (0, 0)) (by exact BK262.out)) : gb262 ≠ gb269)); have n7_ := Aside0.mk ((by rw [hg]; exact Nat.ne_of_gt (blk_lt (g := gb262) (o := .cells #[.int .i64 a0_0, .int .i64 a0_1, .slice A0_2 l0_2.length c0_2] 30 (0, 0)) (by exact BK262.out)) : gb269 ≠ gb262)); have n8_ := Aside0.mk ((by rw [hg]; exact Nat.ne_of_lt (blk_lt (g := gb263) (o := .cells #[.int .i64 a1_0, .int .i64 a1_1, .int .i64 a1_2, .int .i64 a1_3, .int .i64 a1_4, .int .i64 a1_5, .int .i64 a1_6, .int .i64 a1_7] 46 (0, 0)) (by exact BK263.out)) : gb263 ≠ gb269)); have n9_ := Aside0.mk ((by rw [hg]; exact Nat.ne_of_gt (blk_lt (g := gb263) (o := .cells #[.int .i64 a1_0, .int .i64 a1_1, .int .i64 a1_2, .int .i64 a1_3, .int .i64 a1_4, .int .i64 a1_5, .int .i64 a1_6, .int .i64 a1_7] 46 (0, 0)) (by exact BK263.out)) : gb269 ≠ gb263)); clear BK262; clear BK263; clear HB; have BK262 := n0_; have BK263 := n1_; have HB := n2_; have BK269 := n3_; have GW269 := n4_; have GE269 := n5_; have NB262_269 := n6_; have NB269_262 := n7_; have NB263_269 := n8_; have NB269_263 := n9_; clear n0_ n1_ n2_ n3_ n4_ n5_ n6_ n7_ n8_ n9_; clear hb hbox hg; have hnb31 := NB269_262.out; have hnc31 := NB262_269.out; have hnb32 := NB269_263.out; have hnc32 := NB263_269.out; have hcz33_0 : w30.cell? ⟨gb269, 0, none⟩ = some (.int .i64 0) := (blk_cell BK269.out 0).trans rfl; have hcz33_1 : w30.cell? ⟨gb269, 1, none⟩ = some (.int .i64 0) := (blk_cell BK269.out 1).trans rfl; have hfz33_0 := blk_frozen BK269.out 0; have hfz33_1 := blk_frozen BK269.out 1; have hcz34_0 : w30.cell? ⟨gb262, 0, none⟩ = some (.int .i64 a0_0) := (blk_cell BK262.out 0).trans rfl; have hcz34_1 : w30.cell? ⟨gb262, 1, none⟩ = some (.int .i64 a0_1) := (blk_cell BK262.out 1).trans rfl; have hcz34_2 : w30.cell? ⟨gb262, 2, none⟩ = some (.slice A0_2 l0_2.length c0_2) := (blk_cell BK262.out 2).trans rfl; have hfz34_0 := blk_frozen BK262.out 0; have hfz34_1 := blk_frozen BK262.out 1; have hfz34_2 := blk_frozen BK262.out 2) | ((with_reducible refine gate_dst (N := 13) rfl ?_); (try (refine gate_guard (by rfl) ?_; dsimp only)); refine box_event ?hg (N := 13) ?hd (cs := #[.int .i64 0, .int .i64 0, .slice none 0 0]) (t := 30) ?hr ?_; (case hd => rfl); (case hg => rfl); (case hr => first | (go_simp; done) | (go_simp; rfl)); intro gb271 hg w35 hbox hb; have n0_ := Aside0.mk (blk_below (g := gb262) (o := .cells #[.int .i64 a0_0, .int .i64 a0_1, .slice A0_2 l0_2.length c0_2] 30 (0, 0)) (by (with_reducible repeat (first | refine blk_drewN ?_ _ | refine blk_drew ?_ | refine blk_alloc ?_ _)); refine blk_far ?_ NB262_269.out _; (with_reducible repeat (first | refine blk_drewN ?_ _ | refine blk_drew ?_ | refine blk_alloc ?_ _)); refine blk_far ?_ NB262_269.out _; (with_reducible repeat (first | refine blk_drewN ?_ _ | refine blk_drew ?_ | refine blk_alloc ?_ _)); exact BK262.out) hb); have n1_ := Aside0.mk (blk_below (g := gb263) (o := .cells #[.int .i64 a1_0, .int .i64 a1_1, .int .i64 a1_2, .int .i64 a1_3, .int .i64 a1_4, .int .i64 a1_5, .int .i64 a1_6, .int .i64 a1_7] 46 (0, 0)) (by (with_reducible repeat (first | refine blk_drewN ?_ _ | refine blk_drew ?_ | refine blk_alloc ?_ _)); refine blk_far ?_ NB263_269.out _; (with_reducible repeat (first | refine blk_drewN ?_ _ | refine blk_drew ?_ | refine blk_alloc ?_ _)); refine blk_far ?_ NB263_269.out _; (with_reducible repeat (first | refine blk_drewN ?_ _ | refine blk_drew ?_ | refine blk_alloc ?_ _)); exact BK263.out) hb); have n2_ := Aside0.mk (blk_below (g := gb269) (o := .cells #[.int .i64 t266, .int .i64 t267] 35 (0, 0)) (by (with_reducible repeat (first | refine blk_drewN ?_ _ | refine blk_drew ?_ | refine blk_alloc ?_ _)); refine blk_put (cs := #[.int .i64 t266, .int .i64 0]) ?_ 1 _ rfl; (with_reducible repeat (first | refine blk_drewN ?_ _ | refine blk_drew ?_ | refine blk_alloc ?_ _)); refine blk_put (cs := #[.int .i64 0, .int .i64 0]) ?_ 0 _ rfl; (with_reducible repeat (first | refine blk_drewN ?_ _ | refine blk_drew ?_ | refine blk_alloc ?_ _)); exact BK269.out) hb); have n3_ := Aside0.mk (below_step (by repeat (first | (with_reducible first | exact HB.out | apply below_alloc | apply pw_below_drewN | apply below_drew1 | refine below_set ?_ GE262.out | refine below_set ?_ GE263.out | refine below_set ?_ GE269.out) | exact HB.out)) hb); have n4_ := Aside0.mk (hbox); have n5_ := Aside0.mk ((by rw [hg]; exact (below_size (by repeat (first | (with_reducible first | exact HB.out | apply below_alloc | apply pw_below_drewN | apply below_drew1 | refine below_set ?_ GE262.out | refine below_set ?_ GE263.out | refine below_set ?_ GE269.out) | exact HB.out))) : w.heap.size ≤ gb271)); have n6_ := Aside0.mk ((by rw [hg]; exact (below_size (by repeat (first | (with_reducible first | exact HB.out | apply below_alloc | apply pw_below_drewN | apply below_drew1 | refine below_set ?_ GE262.out | refine below_set ?_ GE263.out | refine below_set ?_ GE269.out) | exact HB.out))) : w.heap.size ≤ gb271)); have n7_ := Aside0.mk ((by rw [hg]; exact Nat.ne_of_lt (blk_lt (g := gb262) (o := .cells #[.int .i64 a0_0, .int .i64 a0_1, .slice A0_2 l0_2.length c0_2] 30 (0, 0)) (by (with_reducible repeat (first | refine blk_drewN ?_ _ | refine blk_drew ?_ | refine blk_alloc ?_ _)); refine blk_far ?_ NB262_269.out _; (with_reducible repeat (first | refine blk_drewN ?_ _ | refine blk_drew ?_ | refine blk_alloc ?_ _)); refine blk_far ?_ NB262_269.out _; (with_reducible repeat (first | refine blk_drewN ?_ _ | refine blk_drew ?_ | refine blk_alloc ?_ _)); exact BK262.out)) : gb262 ≠ gb271)); have n8_ := Aside0.mk ((by rw [hg]; exact Nat.ne_of_gt (blk_lt (g := gb262) (o := .cells #[.int .i64 a0_0, .int .i64 a0_1, .slice A0_2 l0_2.length c0_2] 30 (0, 0)) (by (with_reducible repeat (first | refine blk_drewN ?_ _ | refine blk_drew ?_ | refine blk_alloc ?_ _)); refine blk_far ?_ NB262_269.out _; (with_reducible repeat (first | refine blk_drewN ?_ _ | refine blk_drew ?_ | refine blk_alloc ?_ _)); refine blk_far ?_ NB262_269.out _; (with_reducible repeat (first | refine blk_drewN ?_ _ | refine blk_drew ?_ | refine blk_alloc ?_ _)); exact BK262.out)) : gb271 ≠ gb262)); have n9_ := Aside0.mk ((by rw [hg]; exact Nat.ne_of_lt (blk_lt (g := gb263) (o := .cells #[.int .i64 a1_0, .int .i64 a1_1, .int .i64 a1_2, .int .i64 a1_3, .int .i64 a1_4, .int .i64 a1_5, .int .i64 a1_6, .int .i64 a1_7] 46 (0, 0)) (by (with_reducible repeat (first | refine blk_drewN ?_ _ | refine blk_drew ?_ | refine blk_alloc ?_ _)); refine blk_far ?_ NB263_269.out _; (with_reducible repeat (first | refine blk_drewN ?_ _ | refine blk_drew ?_ | refine blk_alloc ?_ _)); refine blk_far ?_ NB263_269.out _; (with_reducible repeat (first | refine blk_drewN ?_ _ | refine blk_drew ?_ | refine blk_alloc ?_ _)); exact BK263.out)) : gb263 ≠ gb271)); have n10_ := Aside0.mk ((by rw [hg]; exact Nat.ne_of_gt (blk_lt (g := gb263) (o := .cells #[.int .i64 a1_0, .int .i64 a1_1, .int .i64 a1_2, .int .i64 a1_3, .int .i64 a1_4, .int .i64 a1_5, .int .i64 a1_6, .int .i64 a1_7] 46 (0, 0)) (by (with_reducible repeat (first | refine blk_drewN ?_ _ | refine blk_drew ?_ | refine blk_alloc ?_ _)); refine blk_far ?_ NB263_269.out _; (with_reducible repeat (first | refine blk_drewN ?_ _ | refine blk_drew ?_ | refine blk_alloc ?_ _)); refine blk_far ?_ NB263_269.out _; (with_reducible repeat (first | refine blk_drewN ?_ _ | refine blk_drew ?_ | refine blk_alloc ?_ _)); exact BK263.out)) : gb271 ≠ gb263)); have n11_ := Aside0.mk ((by rw [hg]; exact Nat.ne_of_lt (blk_lt (g := gb269) (o := .cells #[.int .i64 t266, .int .i64 t267] 35 (0, 0)) (by (with_reducible repeat (first | refine blk_drewN ?_ _ | refine blk_drew ?_ | refine blk_alloc ?_ _)); refine blk_put (cs := #[.int .i64 t266, .int .i64 0]) ?_ 1 _ rfl; (with_reducible repeat (first | refine blk_drewN ?_ _ | refine blk_drew ?_ | refine blk_alloc ?_ _)); refine blk_put (cs := #[.int .i64 0, .int .i64 0]) ?_ 0 _ rfl; (with_reducible repeat (first | refine blk_drewN ?_ _ | refine blk_drew ?_ | refine blk_alloc ?_ _)); exact BK269.out)) : gb269 ≠ gb271)); have n12_ := Aside0.mk ((by rw [hg]; exact Nat.ne_of_gt (blk_lt (g := gb269) (o := .cells #[.int .i64 t266, .int .i64 t267] 35 (0, 0)) (by (with_reducible repeat (first | refine blk_drewN ?_ _ | refine blk_drew ?_ | refine blk_alloc ?_ _)); refine blk_put (cs := #[.int .i64 t266, .int .i64 0]) ?_ 1 _ rfl; (with_reducible repeat (first | refine blk_drewN ?_ _ | refine blk_drew ?_ | refine blk_alloc ?_ _)); refine blk_put (cs := #[.int .i64 0, .int .i64 0]) ?_ 0 _ rfl; (with_reducible repeat (first | refine blk_drewN ?_ _ | refine blk_drew ?_ | refine blk_alloc ?_ _)); exact BK269.out)) : gb271 ≠ gb269)); clear BK262; clear BK263; clear BK269; clear HB; have BK262 := n0_; have BK263 := n1_; have BK269 := n2_; have HB := n3_; have BK271 := n4_; have GW271 := n5_; have GE271 := n6_; have NB262_271 := n7_; have NB271_262 := n8_; have NB263_271 := n9_; have NB271_263 := n10_; have NB269_271 := n11_; have NB271_269 := n12_; clear n0_ n1_ n2_ n3_ n4_ n5_ n6_ n7_ n8_ n9_ n10_ n11_ n12_; clear hb hbox hg; have hnb36 := NB271_262.out; have hnc36 := NB262_271.out; have hnb37 := NB271_263.out; have hnc37 := NB263_271.out; have hnb38 := NB271_269.out; have hnc38 := NB269_271.out; have hcz39_0 : w35.cell? ⟨gb271, 0, none⟩ = some (.int .i64 0) := (blk_cell BK271.out 0).trans rfl; have hcz39_1 : w35.cell? ⟨gb271, 1, none⟩ = some (.int .i64 0) := (blk_cell BK271.out 1).trans rfl; have hcz39_2 : w35.cell? ⟨gb271, 2, none⟩ = some (.slice none 0 0) := (blk_cell BK271.out 2).trans rfl; have hfz39_0 := blk_frozen BK271.out 0; have hfz39_1 := blk_frozen BK271.out 1; have hfz39_2 := blk_frozen BK271.out 2))
              have n0_ : Aside0 ((((w35.setCell ⟨gb271, 0, none⟩ (.int .i64 a0_0)).setCell ⟨gb271, 1, none⟩ (.int .i64 a0_1)).setCell ⟨gb271, 2, none⟩ (.slice A0_2 l0_2.length c0_2)).heap[gb262]? = some (.cells #[.int .i64 a0_0, .int .i64 a0_1, .slice A0_2 l0_2.length c0_2] 30 (0, 0))) := ⟨by (with_reducible repeat (first | refine blk_drewN ?_ _ | refine blk_drew ?_ | refine blk_alloc ?_ _)); refine blk_far ?_ NB262_271.out _; (with_reducible repeat (first | refine blk_drewN ?_ _ | refine blk_drew ?_ | refine blk_alloc ?_ _)); refine blk_far ?_ NB262_271.out _; (with_reducible repeat (first | refine blk_drewN ?_ _ | refine blk_drew ?_ | refine blk_alloc ?_ _)); refine blk_far ?_ NB262_271.out _; (with_reducible repeat (first | refine blk_drewN ?_ _ | refine blk_drew ?_ | refine blk_alloc ?_ _)); exact BK262.out⟩
              have n1_ : Aside0 ((((w35.setCell ⟨gb271, 0, none⟩ (.int .i64 a0_0)).setCell ⟨gb271, 1, none⟩ (.int .i64 a0_1)).setCell ⟨gb271, 2, none⟩ (.slice A0_2 l0_2.length c0_2)).heap[gb263]? = some (.cells #[.int .i64 a1_0, .int .i64 a1_1, .int .i64 a1_2, .int .i64 a1_3, .int .i64 a1_4, .int .i64 a1_5, .int .i64 a1_6, .int .i64 a1_7] 46 (0, 0))) := ⟨by (with_reducible repeat (first | refine blk_drewN ?_ _ | refine blk_drew ?_ | refine blk_alloc ?_ _)); refine blk_far ?_ NB263_271.out _; (with_reducible repeat (first | refine blk_drewN ?_ _ | refine blk_drew ?_ | refine blk_alloc ?_ _)); refine blk_far ?_ NB263_271.out _; (with_reducible repeat (first | refine blk_drewN ?_ _ | refine blk_drew ?_ | refine blk_alloc ?_ _)); refine blk_far ?_ NB263_271.out _; (with_reducible repeat (first | refine blk_drewN ?_ _ | refine blk_drew ?_ | refine blk_alloc ?_ _)); exact BK263.out⟩
              have n2_ : Aside0 ((((w35.setCell ⟨gb271, 0, none⟩ (.int .i64 a0_0)).setCell ⟨gb271, 1, none⟩ (.int .i64 a0_1)).setCell ⟨gb271, 2, none⟩ (.slice A0_2 l0_2.length c0_2)).heap[gb269]? = some (.cells #[.int .i64 t266, .int .i64 t267] 35 (0, 0))) := ⟨by (with_reducible repeat (first | refine blk_drewN ?_ _ | refine blk_drew ?_ | refine blk_alloc ?_ _)); refine blk_far ?_ NB269_271.out _; (with_reducible repeat (first | refine blk_drewN ?_ _ | refine blk_drew ?_ | refine blk_alloc ?_ _)); refine blk_far ?_ NB269_271.out _; (with_reducible repeat (first | refine blk_drewN ?_ _ | refine blk_drew ?_ | refine blk_alloc ?_ _)); refine blk_far ?_ NB269_271.out _; (with_reducible repeat (first | refine blk_drewN ?_ _ | refine blk_drew ?_ | refine blk_alloc ?_ _)); exact BK269.out⟩
              have n3_ : Aside0 ((((w35.setCell ⟨gb271, 0, none⟩ (.int .i64 a0_0)).setCell ⟨gb271, 1, none⟩ (.int .i64 a0_1)).setCell ⟨gb271, 2, none⟩ (.slice A0_2 l0_2.length c0_2)).heap[gb271]? = some (.cells #[.int .i64 a0_0, .int .i64 a0_1, .slice A0_2 l0_2.length c0_2] 30 (0, 0))) := ⟨by (with_reducible repeat (first | refine blk_drewN ?_ _ | refine blk_drew ?_ | refine blk_alloc ?_ _)); refine blk_put (cs := #[.int .i64 a0_0, .int .i64 a0_1, .slice none 0 0]) ?_ 2 _ rfl; (with_reducible repeat (first | refine blk_drewN ?_ _ | refine blk_drew ?_ | refine blk_alloc ?_ _)); refine blk_put (cs := #[.int .i64 a0_0, .int .i64 0, .slice none 0 0]) ?_ 1 _ rfl; (with_reducible repeat (first | refine blk_drewN ?_ _ | refine blk_drew ?_ | refine blk_alloc ?_ _)); refine blk_put (cs := #[.int .i64 0, .int .i64 0, .slice none 0 0]) ?_ 0 _ rfl; (with_reducible repeat (first | refine blk_drewN ?_ _ | refine blk_drew ?_ | refine blk_alloc ?_ _)); exact BK271.out⟩
              have n4_ : Aside0 (Below w.heap.size w (((w35.setCell ⟨gb271, 0, none⟩ (.int .i64 a0_0)).setCell ⟨gb271, 1, none⟩ (.int .i64 a0_1)).setCell ⟨gb271, 2, none⟩ (.slice A0_2 l0_2.length c0_2))) := ⟨by repeat (first | (with_reducible first | exact HB.out | apply below_alloc | apply pw_below_drewN | apply below_drew1 | refine below_set ?_ GE262.out | refine below_set ?_ GE263.out | refine below_set ?_ GE269.out | refine below_set ?_ GE271.out) | exact HB.out)⟩
              (try clear BK262)
              (try clear BK263)
              (try clear BK269)
              (try clear BK271)
              (try clear HB)
              generalize (((w35.setCell ⟨gb271, 0, none⟩ (.int .i64 a0_0)).setCell ⟨gb271, 1, none⟩ (.int .i64 a0_1)).setCell ⟨gb271, 2, none⟩ (.slice A0_2 l0_2.length c0_2)) = w40 at n0_ n1_ n2_ n3_ n4_ ⊢
              have BK262 := n0_
              have BK263 := n1_
              have BK269 := n2_
              have BK271 := n3_
              have HB := n4_
              clear n0_ n1_ n2_ n3_ n4_
              have n0_ := Aside0.mk (blk_drew BK262.out)
              have n1_ := Aside0.mk (blk_drew BK263.out)
              have n2_ := Aside0.mk (blk_drew BK269.out)
              have n3_ := Aside0.mk (blk_drew BK271.out)
              have n4_ := Aside0.mk (below_drew1 HB.out)
              clear BK262
              clear BK263
              clear BK269
              clear BK271
              clear HB
              have BK262 := n0_
              have BK263 := n1_
              have BK269 := n2_
              have BK271 := n3_
              have HB := n4_
              clear n0_ n1_ n2_ n3_ n4_
              refine start_ (n := 9) (S := fun w' => w'.cell? ⟨gb262, 0, none⟩ = some (.int .i64 a0_0) ∧ w'.cell? ⟨gb262, 1, none⟩ = some (.int .i64 a0_1) ∧ w'.cell? ⟨gb262, 2, none⟩ = some (.slice A0_2 l0_2.length c0_2) ∧ w'.cell? ⟨gb263, 0, none⟩ = some (.int .i64 a1_0) ∧ w'.cell? ⟨gb263, 1, none⟩ = some (.int .i64 a1_1) ∧ w'.cell? ⟨gb263, 2, none⟩ = some (.int .i64 a1_2) ∧ w'.cell? ⟨gb263, 3, none⟩ = some (.int .i64 a1_3) ∧ w'.cell? ⟨gb263, 4, none⟩ = some (.int .i64 a1_4) ∧ w'.cell? ⟨gb263, 5, none⟩ = some (.int .i64 a1_5) ∧ w'.cell? ⟨gb263, 6, none⟩ = some (.int .i64 a1_6) ∧ w'.cell? ⟨gb263, 7, none⟩ = some (.int .i64 a1_7)) (ds := []) #[false, false, false, false, false, false, false, false, false] (by kernel_rfl) rfl rfl ⟨(blk_cell BK262.out 0).trans rfl, (blk_cell BK262.out 1).trans rfl, (blk_cell BK262.out 2).trans rfl, (blk_cell BK263.out 0).trans rfl, (blk_cell BK263.out 1).trans rfl, (blk_cell BK263.out 2).trans rfl, (blk_cell BK263.out 3).trans rfl, (blk_cell BK263.out 4).trans rfl, (blk_cell BK263.out 5).trans rfl, (blk_cell BK263.out 6).trans rfl, (blk_cell BK263.out 7).trans rfl⟩ (fun hHeld => ?_); refine with_tabW isobathlaw05_ClockMore.tab7 isobathlaw05_ClockMore.bits7 (fun HT_ HW_ => ?_)
              generalize w40.drew = w41 at BK262 BK263 BK269 BK271 HB hHeld ⊢
              refine pure_ (i := 1) (N := some 39) (v := ?_) (a' := ?_) #[false, true, false, false, false, false, false, false, false] rfl rfl (any_of HT_.out (by kernel_rfl)) (fun _ _ _ h => h) (Or.inl ⟨by rfl, ?_⟩) ?_ ?_
              rotate_left
              · intro w'
                go_simp
                with_reducible rfl
              rotate_left
              · simp only [Act.put, List.setIfInBounds_toArray, List.set_cons_zero, List.set_cons_succ, i64_w, i32_w]
                rfl
              refine take_ (i := 2) (N := some 40) (v := ?_) (a' := ?_) #[false, true, true, false, false, false, false, false, false] rfl rfl (take_ofW HT_.out HW_.out (by kernel_rfl)) (fun _ _ _ h => h) (Or.inl ⟨by rfl, ?_⟩) hHeld ?_ ?_
              rotate_left
              · rintro w' ⟨s0, s1, s2, s3, s4, s5, s6, s7, s8, s9, s10⟩
                go_simp
                with_reducible rfl
              rotate_left
              · simp only [Act.put, List.setIfInBounds_toArray, List.set_cons_zero, List.set_cons_succ, i64_w, i32_w]
                rfl
              refine take_ (i := 4) (N := some 42) (v := ?_) (a' := ?_) #[false, true, true, false, true, false, false, false, false] rfl rfl (take_ofW HT_.out HW_.out (by kernel_rfl)) (fun _ _ _ h => h) (Or.inl ⟨by rfl, ?_⟩) hHeld ?_ ?_
              rotate_left
              · rintro w' ⟨s0, s1, s2, s3, s4, s5, s6, s7, s8, s9, s10⟩
                go_simp
                with_reducible rfl
              rotate_left
              · simp only [Act.put, List.setIfInBounds_toArray, List.set_cons_zero, List.set_cons_succ, i64_w, i32_w]
                rfl
              refine join_ (σ := Value × Value × Value) 3 #[true, true, true, true, true, true, false, false, false] (fun s_ => [(38, s_.1), (41, s_.2.1), (43, s_.2.2)]) (fun s_ w' => (w'.cell? ⟨gb262, 0, none⟩ = some (.int .i64 a0_0) ∧ w'.cell? ⟨gb262, 1, none⟩ = some (.int .i64 a0_1) ∧ w'.cell? ⟨gb262, 2, none⟩ = some (.slice A0_2 l0_2.length c0_2) ∧ w'.cell? ⟨gb263, 0, none⟩ = some (.int .i64 a1_0) ∧ w'.cell? ⟨gb263, 1, none⟩ = some (.int .i64 a1_1) ∧ w'.cell? ⟨gb263, 2, none⟩ = some (.int .i64 a1_2) ∧ w'.cell? ⟨gb263, 3, none⟩ = some (.int .i64 a1_3) ∧ w'.cell? ⟨gb263, 4, none⟩ = some (.int .i64 a1_4) ∧ w'.cell? ⟨gb263, 5, none⟩ = some (.int .i64 a1_5) ∧ w'.cell? ⟨gb263, 6, none⟩ = some (.int .i64 a1_6) ∧ w'.cell? ⟨gb263, 7, none⟩ = some (.int .i64 a1_7)) ∧ (Kd.R k46 46 w' w.heap.size (fun k_ => some k_ ≠ (s_.2.2 : Value).ownBlock ∧ k_ ≠ gb263) s_.2.1 y275) ∧ (Kd.R k46 46 w' w.heap.size (fun k_ => some k_ ≠ (s_.2.1 : Value).ownBlock ∧ k_ ≠ gb263) s_.2.2 y278) ∧ (w'.heap[gb262]? = some (.cells #[.int .i64 a0_0, .int .i64 a0_1, .slice A0_2 l0_2.length c0_2] 30 (0, 0))) ∧ (w'.heap[gb263]? = some (.cells #[.int .i64 a1_0, .int .i64 a1_1, .int .i64 a1_2, .int .i64 a1_3, .int .i64 a1_4, .int .i64 a1_5, .int .i64 a1_6, .int .i64 a1_7] 46 (0, 0))) ∧ (w'.heap[gb269]? = some (.cells #[.int .i64 t266, .int .i64 t267] 35 (0, 0))) ∧ (w'.heap[gb271]? = some (.cells #[.int .i64 a0_0, .int .i64 a0_1, .slice A0_2 l0_2.length c0_2] 30 (0, 0))) ∧ (Below w.heap.size w w')) ?_ ?_
              rotate_left
              · intro hCont
                refine two_ (i := 0) (j := 5) (Ni := some 38) (Nj := some 43) #[true, true, true, false, true, false, false, false, false] #[false, true, true, false, true, true, false, false, false] rfl rfl rfl rfl (two_of HT_.out (by kernel_rfl)) (by decide) (by decide) (fun K hK => ?_) (fun K hK => ?_)
                · skip
                  refine Kd.R_lit_step k46 _ 46 ?hg (N := 38) ?hd (xs := ([] : List (S46))) (inner := []) (ok := fun _ => True) (okp := fun _ => True) ?hr ?hp (fun _ hk => hk) trivial (Below.refl _ _) (Nat.le_refl _) (by simp) ?_; (case hd => rfl); (case hg => rfl); (case hr => first | (go_simp; done) | (go_simp; rfl)); (case hp => exact (Reps.none _ _))
                  intro v273 w42 ho43 hb hg_ hnew_
                  clear hg_ hnew_
                  (first | rw [← Ny272.out] at ho43 | (simp only [Int.reduceToNat] at ho43; rw [← Ny272.out] at ho43))
                  have n0_ := Aside0.mk (Kd.R_lower (Kd.R_newB ho43 (g := gb263) (o := .cells #[.int .i64 a1_0, .int .i64 a1_1, .int .i64 a1_2, .int .i64 a1_3, .int .i64 a1_4, .int .i64 a1_5, .int .i64 a1_6, .int .i64 a1_7] 46 (0, 0)) (by exact BK263.out)) (below_size (by repeat (first | (with_reducible first | exact HB.out | apply below_alloc | apply pw_below_drewN | apply below_drew1 | refine below_set ?_ GE262.out | refine below_set ?_ GE263.out | refine below_set ?_ GE269.out | refine below_set ?_ GE271.out) | exact HB.out))))
                  have n1_ := Aside0.mk (blk_below (g := gb262) (o := .cells #[.int .i64 a0_0, .int .i64 a0_1, .slice A0_2 l0_2.length c0_2] 30 (0, 0)) (by exact BK262.out) hb)
                  have n2_ := Aside0.mk (blk_below (g := gb263) (o := .cells #[.int .i64 a1_0, .int .i64 a1_1, .int .i64 a1_2, .int .i64 a1_3, .int .i64 a1_4, .int .i64 a1_5, .int .i64 a1_6, .int .i64 a1_7] 46 (0, 0)) (by exact BK263.out) hb)
                  have n3_ := Aside0.mk (blk_below (g := gb269) (o := .cells #[.int .i64 t266, .int .i64 t267] 35 (0, 0)) (by exact BK269.out) hb)
                  have n4_ := Aside0.mk (blk_below (g := gb271) (o := .cells #[.int .i64 a0_0, .int .i64 a0_1, .slice A0_2 l0_2.length c0_2] 30 (0, 0)) (by exact BK271.out) hb)
                  have n5_ := Aside0.mk (below_step (by repeat (first | (with_reducible first | exact HB.out | apply below_alloc | apply pw_below_drewN | apply below_drew1 | refine below_set ?_ GE262.out | refine below_set ?_ GE263.out | refine below_set ?_ GE269.out | refine below_set ?_ GE271.out) | exact HB.out)) hb)
                  clear BK262
                  clear BK263
                  clear BK269
                  clear BK271
                  clear HB
                  have HO274 := n0_
                  have BK262 := n1_
                  have BK263 := n2_
                  have BK269 := n3_
                  have BK271 := n4_
                  have HB := n5_
                  clear n0_ n1_ n2_ n3_ n4_ n5_
                  clear hb ho43
                  refine hK.out _ _ ⟨(blk_cell BK262.out 0).trans rfl, (blk_cell BK262.out 1).trans rfl, (blk_cell BK262.out 2).trans rfl, (blk_cell BK263.out 0).trans rfl, (blk_cell BK263.out 1).trans rfl, (blk_cell BK263.out 2).trans rfl, (blk_cell BK263.out 3).trans rfl, (blk_cell BK263.out 4).trans rfl, (blk_cell BK263.out 5).trans rfl, (blk_cell BK263.out 6).trans rfl, (blk_cell BK263.out 7).trans rfl⟩ (fun hHeld => ?_)
                  clear hK K
                  refine norm_ (a' := ?_) ?_ ?_
                  rotate_left
                  · show Act.put _ (some 38) _ = _
                    simp only [Act.put, List.setIfInBounds_toArray, List.set_cons_zero, List.set_cons_succ, i64_w, i32_w]
                    rfl
                  refine two_ (i := 3) (j := 5) (Ni := some 41) (Nj := some 43) #[true, true, true, true, true, false, false, false, false] #[true, true, true, false, true, true, false, false, false] rfl rfl rfl rfl (two_of HT_.out (by kernel_rfl)) (by decide) (by decide) (fun K hK => ?_) (fun K hK => ?_)
                  · skip
                    refine Kd.R_append_rows_step k46 (w0 := w) w.heap.size (by rfl) (.tmp 38) (.tmp 40) 28 46 (.agg #[(.int .i64 0), (.int .i64 0), (.int .i64 0), (.int .i64 0), (.int .i64 0), (.int .i64 0), (.int .i64 0), (.int .i64 0)]) 64 rfl Try.underlying28 info46 rfl (by decide) (by omega) v273 y272 l0_2 _ _ _ (fun k_ => k_ ≠ gb263) (fun _ => False) rfl rfl ?aO ?aR (fun _ _ h => h) (fun _ h => h.elim) ?aF ?aB ?aS ?aL ?_
                    (case aR => repeat (first | exact (Kd.C_below HR0_2.out HB.out) | (with_reducible refine Kd.C_alloc ?_ _) | (with_reducible refine Kd.C_drewN ?_ _) | (with_reducible refine Kd.C_drew ?_)))
                    (case aB => exact (by repeat (first | (with_reducible first | exact HB.out | apply below_alloc | apply pw_below_drewN | apply below_drew1 | refine below_set ?_ GE262.out | refine below_set ?_ GE263.out | refine below_set ?_ GE269.out | refine below_set ?_ GE271.out) | exact HB.out)))
                    (case aF => exact (fun k_ hk => Kd.freshB (g := gb263) (o := .cells #[.int .i64 a1_0, .int .i64 a1_1, .int .i64 a1_2, .int .i64 a1_3, .int .i64 a1_4, .int .i64 a1_5, .int .i64 a1_6, .int .i64 a1_7] 46 (0, 0)) (by exact BK263.out) k_ hk))
                    (case aO => exact (by (with_reducible repeat (first | apply Kd.R_alloc | apply Kd.R_drewN | apply Kd.R_drew)); exact Kd.R_mono HO274.out (fun _ hk => hk.2)))
                    (case aS => exact (below_size (by repeat (first | (with_reducible first | exact HB.out | apply below_alloc | apply pw_below_drewN | apply below_drew1 | refine below_set ?_ GE262.out | refine below_set ?_ GE263.out | refine below_set ?_ GE269.out | refine below_set ?_ GE271.out) | exact HB.out))))
                    (case aL => have := LMc23.out; omega)
                    intro v276 w44 ho hb hg hat
                    rw [← Ny275.out] at ho
                    have n0_ := Aside0.mk (blk_grown (g := gb262) (o := .cells #[.int .i64 a0_0, .int .i64 a0_1, .slice A0_2 l0_2.length c0_2] 30 (0, 0)) (by exact BK262.out) hg (Kd.R_ne HO274.out BK262.out (by decide)))
                    have n1_ := Aside0.mk (blk_grown (g := gb263) (o := .cells #[.int .i64 a1_0, .int .i64 a1_1, .int .i64 a1_2, .int .i64 a1_3, .int .i64 a1_4, .int .i64 a1_5, .int .i64 a1_6, .int .i64 a1_7] 46 (0, 0)) (by exact BK263.out) hg (Kd.R_away HO274.out (fun _ hk => hk.2)))
                    have n2_ := Aside0.mk (blk_grown (g := gb269) (o := .cells #[.int .i64 t266, .int .i64 t267] 35 (0, 0)) (by exact BK269.out) hg (Kd.R_ne HO274.out BK269.out (by decide)))
                    have n3_ := Aside0.mk (blk_grown (g := gb271) (o := .cells #[.int .i64 a0_0, .int .i64 a0_1, .slice A0_2 l0_2.length c0_2] 30 (0, 0)) (by exact BK271.out) hg (Kd.R_ne HO274.out BK271.out (by decide)))
                    have n4_ := Aside0.mk (hb)
                    have n5_ := Aside0.mk (ho)
                    clear BK262
                    clear BK263
                    clear BK269
                    clear BK271
                    clear HB
                    clear HO274
                    have BK262 := n0_
                    have BK263 := n1_
                    have BK269 := n2_
                    have BK271 := n3_
                    have HB := n4_
                    have HO277 := n5_
                    clear n0_ n1_ n2_ n3_ n4_ n5_
                    clear ho hb hg hat
                    refine hK.out _ _ ⟨(blk_cell BK262.out 0).trans rfl, (blk_cell BK262.out 1).trans rfl, (blk_cell BK262.out 2).trans rfl, (blk_cell BK263.out 0).trans rfl, (blk_cell BK263.out 1).trans rfl, (blk_cell BK263.out 2).trans rfl, (blk_cell BK263.out 3).trans rfl, (blk_cell BK263.out 4).trans rfl, (blk_cell BK263.out 5).trans rfl, (blk_cell BK263.out 6).trans rfl, (blk_cell BK263.out 7).trans rfl⟩ (fun hHeld => ?_)
                    clear hK K
                    refine norm_ (a' := ?_) ?_ ?_
                    rotate_left
                    · show Act.put _ (some 41) _ = _
                      simp only [Act.put, List.setIfInBounds_toArray, List.set_cons_zero, List.set_cons_succ, i64_w, i32_w]
                      rfl
                    refine one_ (i := 5) (N := some 43) #[true, true, true, true, true, true, false, false, false] rfl rfl (one_of HT_.out (by kernel_rfl)) (by decide) (fun K hK => ?_)
                    refine Kd.R_lit_step k46 _ 46 ?hg (N := 43) ?hd (xs := ([(⟨a1_0, a1_1, a1_2, a1_3, (⟨a1_4, a1_5⟩ : S35), (⟨a1_6, a1_7⟩ : S35)⟩ : S46)] : List (S46))) (inner := [.int .i64 a1_0, .int .i64 a1_1, .int .i64 a1_2, .int .i64 a1_3, .int .i64 a1_4, .int .i64 a1_5, .int .i64 a1_6, .int .i64 a1_7]) (ok := fun _ => True) (okp := fun _ => True) ?hr ?hp (fun _ hk => hk) trivial (Below.refl _ _) (Nat.le_refl _) (by simp) ?_; (case hd => rfl); (case hg => rfl); (case hr => first | (go_simp; done) | (go_simp; rfl)); (case hp => exact (Reps.c8 (show Kd.M k46 _ _ _ (⟨a1_0, a1_1, a1_2, a1_3, (⟨a1_4, a1_5⟩ : S35), (⟨a1_6, a1_7⟩ : S35)⟩ : S46) [.int .i64 a1_0, .int .i64 a1_1, .int .i64 a1_2, .int .i64 a1_3, .int .i64 a1_4, .int .i64 a1_5, .int .i64 a1_6, .int .i64 a1_7] from (k46_mkM _ _ _ (⟨a1_0, a1_1, a1_2, a1_3, (⟨a1_4, a1_5⟩ : S35), (⟨a1_6, a1_7⟩ : S35)⟩ : S46) )) (Reps.none _ _)))
                    intro v279 w45 ho46 hb hg_ hnew_
                    clear hg_ hnew_
                    (first | rw [← Ny278.out] at ho46 | (simp only [Int.reduceToNat] at ho46; rw [← Ny278.out] at ho46))
                    have n0_ := Aside0.mk (Kd.R_elder' (by (with_reducible repeat (first | apply Kd.R_alloc | apply Kd.R_drewN | apply Kd.R_drew)); exact HO277.out) (Kd.R_base ho46) hb)
                    have n1_ := Aside0.mk (Kd.R_lower (Kd.R_newB (Kd.R_new' ho46 (Kd.R_lt (by (with_reducible repeat (first | apply Kd.R_alloc | apply Kd.R_drewN | apply Kd.R_drew)); exact HO277.out))) (g := gb263) (o := .cells #[.int .i64 a1_0, .int .i64 a1_1, .int .i64 a1_2, .int .i64 a1_3, .int .i64 a1_4, .int .i64 a1_5, .int .i64 a1_6, .int .i64 a1_7] 46 (0, 0)) (by exact BK263.out)) (below_size (by repeat (first | (with_reducible first | exact HB.out | apply below_alloc | apply pw_below_drewN | apply below_drew1 | refine below_set ?_ GE262.out | refine below_set ?_ GE263.out | refine below_set ?_ GE269.out | refine below_set ?_ GE271.out) | exact HB.out))))
                    have n2_ := Aside0.mk (blk_below (g := gb262) (o := .cells #[.int .i64 a0_0, .int .i64 a0_1, .slice A0_2 l0_2.length c0_2] 30 (0, 0)) (by exact BK262.out) hb)
                    have n3_ := Aside0.mk (blk_below (g := gb263) (o := .cells #[.int .i64 a1_0, .int .i64 a1_1, .int .i64 a1_2, .int .i64 a1_3, .int .i64 a1_4, .int .i64 a1_5, .int .i64 a1_6, .int .i64 a1_7] 46 (0, 0)) (by exact BK263.out) hb)
                    have n4_ := Aside0.mk (blk_below (g := gb269) (o := .cells #[.int .i64 t266, .int .i64 t267] 35 (0, 0)) (by exact BK269.out) hb)
                    have n5_ := Aside0.mk (blk_below (g := gb271) (o := .cells #[.int .i64 a0_0, .int .i64 a0_1, .slice A0_2 l0_2.length c0_2] 30 (0, 0)) (by exact BK271.out) hb)
                    have n6_ := Aside0.mk (below_step (by repeat (first | (with_reducible first | exact HB.out | apply below_alloc | apply pw_below_drewN | apply below_drew1 | refine below_set ?_ GE262.out | refine below_set ?_ GE263.out | refine below_set ?_ GE269.out | refine below_set ?_ GE271.out) | exact HB.out)) hb)
                    clear HO277
                    clear BK262
                    clear BK263
                    clear BK269
                    clear BK271
                    clear HB
                    have HO277 := n0_
                    have HO280 := n1_
                    have BK262 := n2_
                    have BK263 := n3_
                    have BK269 := n4_
                    have BK271 := n5_
                    have HB := n6_
                    clear n0_ n1_ n2_ n3_ n4_ n5_ n6_
                    clear hb ho46
                    refine hK.out _ _ ⟨(blk_cell BK262.out 0).trans rfl, (blk_cell BK262.out 1).trans rfl, (blk_cell BK262.out 2).trans rfl, (blk_cell BK263.out 0).trans rfl, (blk_cell BK263.out 1).trans rfl, (blk_cell BK263.out 2).trans rfl, (blk_cell BK263.out 3).trans rfl, (blk_cell BK263.out 4).trans rfl, (blk_cell BK263.out 5).trans rfl, (blk_cell BK263.out 6).trans rfl, (blk_cell BK263.out 7).trans rfl⟩ (fun hHeld => ?_)
                    clear hK K
                    refine norm_ (a' := ?_) ?_ ?_
                    rotate_left
                    · show Act.put _ (some 43) _ = _
                      simp only [Act.put, List.setIfInBounds_toArray, List.set_cons_zero, List.set_cons_succ, i64_w, i32_w]
                      rfl
                    exact norm_ (by simp only [putAll, Act.put, List.setIfInBounds_toArray, List.set_cons_zero, List.set_cons_succ]) (hCont (v273, v276, v279) _ ⟨hHeld, (by (with_reducible repeat (first | apply Kd.R_alloc | apply Kd.R_drewN | apply Kd.R_drew)); exact Kd.R_mono HO277.out (fun _ hk => ⟨hk.2, hk.1⟩)), (by (with_reducible repeat (first | apply Kd.R_alloc | apply Kd.R_drewN | apply Kd.R_drew)); exact Kd.R_mono HO280.out (fun _ hk => ⟨hk.1.2, hk.2⟩)), (by exact BK262.out), (by exact BK263.out), (by exact BK269.out), (by exact BK271.out), (by repeat (first | (with_reducible first | exact HB.out | apply below_alloc | apply pw_below_drewN | apply below_drew1 | refine below_set ?_ GE262.out | refine below_set ?_ GE263.out | refine below_set ?_ GE269.out | refine below_set ?_ GE271.out) | exact HB.out))⟩)
                  · skip
                    refine Kd.R_lit_step k46 _ 46 ?hg (N := 43) ?hd (xs := ([(⟨a1_0, a1_1, a1_2, a1_3, (⟨a1_4, a1_5⟩ : S35), (⟨a1_6, a1_7⟩ : S35)⟩ : S46)] : List (S46))) (inner := [.int .i64 a1_0, .int .i64 a1_1, .int .i64 a1_2, .int .i64 a1_3, .int .i64 a1_4, .int .i64 a1_5, .int .i64 a1_6, .int .i64 a1_7]) (ok := fun _ => True) (okp := fun _ => True) ?hr ?hp (fun _ hk => hk) trivial (Below.refl _ _) (Nat.le_refl _) (by simp) ?_; (case hd => rfl); (case hg => rfl); (case hr => first | (go_simp; done) | (go_simp; rfl)); (case hp => exact (Reps.c8 (show Kd.M k46 _ _ _ (⟨a1_0, a1_1, a1_2, a1_3, (⟨a1_4, a1_5⟩ : S35), (⟨a1_6, a1_7⟩ : S35)⟩ : S46) [.int .i64 a1_0, .int .i64 a1_1, .int .i64 a1_2, .int .i64 a1_3, .int .i64 a1_4, .int .i64 a1_5, .int .i64 a1_6, .int .i64 a1_7] from (k46_mkM _ _ _ (⟨a1_0, a1_1, a1_2, a1_3, (⟨a1_4, a1_5⟩ : S35), (⟨a1_6, a1_7⟩ : S35)⟩ : S46) )) (Reps.none _ _)))
                    intro v279 w44 ho45 hb hg_ hnew_
                    clear hg_ hnew_
                    (first | rw [← Ny278.out] at ho45 | (simp only [Int.reduceToNat] at ho45; rw [← Ny278.out] at ho45))
                    have n0_ := Aside0.mk (Kd.R_elder' (by (with_reducible repeat (first | apply Kd.R_alloc | apply Kd.R_drewN | apply Kd.R_drew)); exact HO274.out) (Kd.R_base ho45) hb)
                    have n1_ := Aside0.mk (Kd.R_lower (Kd.R_newB (Kd.R_new' ho45 (Kd.R_lt (by (with_reducible repeat (first | apply Kd.R_alloc | apply Kd.R_drewN | apply Kd.R_drew)); exact HO274.out))) (g := gb263) (o := .cells #[.int .i64 a1_0, .int .i64 a1_1, .int .i64 a1_2, .int .i64 a1_3, .int .i64 a1_4, .int .i64 a1_5, .int .i64 a1_6, .int .i64 a1_7] 46 (0, 0)) (by exact BK263.out)) (below_size (by repeat (first | (with_reducible first | exact HB.out | apply below_alloc | apply pw_below_drewN | apply below_drew1 | refine below_set ?_ GE262.out | refine below_set ?_ GE263.out | refine below_set ?_ GE269.out | refine below_set ?_ GE271.out) | exact HB.out))))
                    have n2_ := Aside0.mk (blk_below (g := gb262) (o := .cells #[.int .i64 a0_0, .int .i64 a0_1, .slice A0_2 l0_2.length c0_2] 30 (0, 0)) (by exact BK262.out) hb)
                    have n3_ := Aside0.mk (blk_below (g := gb263) (o := .cells #[.int .i64 a1_0, .int .i64 a1_1, .int .i64 a1_2, .int .i64 a1_3, .int .i64 a1_4, .int .i64 a1_5, .int .i64 a1_6, .int .i64 a1_7] 46 (0, 0)) (by exact BK263.out) hb)
                    have n4_ := Aside0.mk (blk_below (g := gb269) (o := .cells #[.int .i64 t266, .int .i64 t267] 35 (0, 0)) (by exact BK269.out) hb)
                    have n5_ := Aside0.mk (blk_below (g := gb271) (o := .cells #[.int .i64 a0_0, .int .i64 a0_1, .slice A0_2 l0_2.length c0_2] 30 (0, 0)) (by exact BK271.out) hb)
                    have n6_ := Aside0.mk (below_step (by repeat (first | (with_reducible first | exact HB.out | apply below_alloc | apply pw_below_drewN | apply below_drew1 | refine below_set ?_ GE262.out | refine below_set ?_ GE263.out | refine below_set ?_ GE269.out | refine below_set ?_ GE271.out) | exact HB.out)) hb)
                    clear HO274
                    clear BK262
                    clear BK263
                    clear BK269
                    clear BK271
                    clear HB
                    have HO274 := n0_
                    have HO280 := n1_
                    have BK262 := n2_
                    have BK263 := n3_
                    have BK269 := n4_
                    have BK271 := n5_
                    have HB := n6_
                    clear n0_ n1_ n2_ n3_ n4_ n5_ n6_
                    clear hb ho45
                    refine hK.out _ _ ⟨(blk_cell BK262.out 0).trans rfl, (blk_cell BK262.out 1).trans rfl, (blk_cell BK262.out 2).trans rfl, (blk_cell BK263.out 0).trans rfl, (blk_cell BK263.out 1).trans rfl, (blk_cell BK263.out 2).trans rfl, (blk_cell BK263.out 3).trans rfl, (blk_cell BK263.out 4).trans rfl, (blk_cell BK263.out 5).trans rfl, (blk_cell BK263.out 6).trans rfl, (blk_cell BK263.out 7).trans rfl⟩ (fun hHeld => ?_)
                    clear hK K
                    refine norm_ (a' := ?_) ?_ ?_
                    rotate_left
                    · show Act.put _ (some 43) _ = _
                      simp only [Act.put, List.setIfInBounds_toArray, List.set_cons_zero, List.set_cons_succ, i64_w, i32_w]
                      rfl
                    refine one_ (i := 3) (N := some 41) #[true, true, true, true, true, true, false, false, false] rfl rfl (one_of HT_.out (by kernel_rfl)) (by decide) (fun K hK => ?_)
                    refine Kd.R_append_rows_step k46 (w0 := w) w.heap.size (by rfl) (.tmp 38) (.tmp 40) 28 46 (.agg #[(.int .i64 0), (.int .i64 0), (.int .i64 0), (.int .i64 0), (.int .i64 0), (.int .i64 0), (.int .i64 0), (.int .i64 0)]) 64 rfl Try.underlying28 info46 rfl (by decide) (by omega) v273 y272 l0_2 _ _ _ (fun k_ => some k_ ≠ (v279 : Value).ownBlock ∧ k_ ≠ gb263) (fun _ => False) rfl rfl ?aO ?aR (fun _ _ h => h) (fun _ h => h.elim) ?aF ?aB ?aS ?aL ?_
                    (case aR => repeat (first | exact (Kd.C_below HR0_2.out HB.out) | (with_reducible refine Kd.C_alloc ?_ _) | (with_reducible refine Kd.C_drewN ?_ _) | (with_reducible refine Kd.C_drew ?_)))
                    (case aB => exact (by repeat (first | (with_reducible first | exact HB.out | apply below_alloc | apply pw_below_drewN | apply below_drew1 | refine below_set ?_ GE262.out | refine below_set ?_ GE263.out | refine below_set ?_ GE269.out | refine below_set ?_ GE271.out) | exact HB.out)))
                    (case aF => exact (fun k_ hk => ⟨Kd.fresh' (Kd.R_lt (by (with_reducible repeat (first | apply Kd.R_alloc | apply Kd.R_drewN | apply Kd.R_drew)); exact HO280.out)) k_ hk, Kd.freshB (g := gb263) (o := .cells #[.int .i64 a1_0, .int .i64 a1_1, .int .i64 a1_2, .int .i64 a1_3, .int .i64 a1_4, .int .i64 a1_5, .int .i64 a1_6, .int .i64 a1_7] 46 (0, 0)) (by exact BK263.out) k_ hk⟩))
                    (case aO => exact (by (with_reducible repeat (first | apply Kd.R_alloc | apply Kd.R_drewN | apply Kd.R_drew)); exact Kd.R_mono HO274.out (fun _ hk => ⟨hk.2, hk.1.2⟩)))
                    (case aS => exact (below_size (by repeat (first | (with_reducible first | exact HB.out | apply below_alloc | apply pw_below_drewN | apply below_drew1 | refine below_set ?_ GE262.out | refine below_set ?_ GE263.out | refine below_set ?_ GE269.out | refine below_set ?_ GE271.out) | exact HB.out))))
                    (case aL => have := LMc23.out; omega)
                    intro v276 w46 ho hb hg hat
                    rw [← Ny275.out] at ho
                    have n0_ := Aside0.mk (blk_grown (g := gb262) (o := .cells #[.int .i64 a0_0, .int .i64 a0_1, .slice A0_2 l0_2.length c0_2] 30 (0, 0)) (by exact BK262.out) hg (Kd.R_ne HO274.out BK262.out (by decide)))
                    have n1_ := Aside0.mk (blk_grown (g := gb263) (o := .cells #[.int .i64 a1_0, .int .i64 a1_1, .int .i64 a1_2, .int .i64 a1_3, .int .i64 a1_4, .int .i64 a1_5, .int .i64 a1_6, .int .i64 a1_7] 46 (0, 0)) (by exact BK263.out) hg (Kd.R_away HO274.out (fun _ hk => hk.1.2)))
                    have n2_ := Aside0.mk (blk_grown (g := gb269) (o := .cells #[.int .i64 t266, .int .i64 t267] 35 (0, 0)) (by exact BK269.out) hg (Kd.R_ne HO274.out BK269.out (by decide)))
                    have n3_ := Aside0.mk (blk_grown (g := gb271) (o := .cells #[.int .i64 a0_0, .int .i64 a0_1, .slice A0_2 l0_2.length c0_2] 30 (0, 0)) (by exact BK271.out) hg (Kd.R_ne HO274.out BK271.out (by decide)))
                    have n4_ := Aside0.mk (Kd.R_after (ok := (fun k_ => k_ ≠ gb263)) (by (with_reducible repeat (first | apply Kd.R_alloc | apply Kd.R_drewN | apply Kd.R_drew)); exact Kd.R_mono HO280.out (fun _ hk => ⟨hk.2, hk.1.2⟩)) hg hat)
                    have n5_ := Aside0.mk (hb)
                    have n6_ := Aside0.mk (ho)
                    clear BK262
                    clear BK263
                    clear BK269
                    clear BK271
                    clear HO280
                    clear HB
                    clear HO274
                    have BK262 := n0_
                    have BK263 := n1_
                    have BK269 := n2_
                    have BK271 := n3_
                    have HO280 := n4_
                    have HB := n5_
                    have HO277 := n6_
                    clear n0_ n1_ n2_ n3_ n4_ n5_ n6_
                    clear ho hb hg hat
                    refine hK.out _ _ ⟨(blk_cell BK262.out 0).trans rfl, (blk_cell BK262.out 1).trans rfl, (blk_cell BK262.out 2).trans rfl, (blk_cell BK263.out 0).trans rfl, (blk_cell BK263.out 1).trans rfl, (blk_cell BK263.out 2).trans rfl, (blk_cell BK263.out 3).trans rfl, (blk_cell BK263.out 4).trans rfl, (blk_cell BK263.out 5).trans rfl, (blk_cell BK263.out 6).trans rfl, (blk_cell BK263.out 7).trans rfl⟩ (fun hHeld => ?_)
                    clear hK K
                    refine norm_ (a' := ?_) ?_ ?_
                    rotate_left
                    · show Act.put _ (some 41) _ = _
                      simp only [Act.put, List.setIfInBounds_toArray, List.set_cons_zero, List.set_cons_succ, i64_w, i32_w]
                      rfl
                    exact norm_ (by simp only [putAll, Act.put, List.setIfInBounds_toArray, List.set_cons_zero, List.set_cons_succ]) (hCont (v273, v276, v279) _ ⟨hHeld, (by (with_reducible repeat (first | apply Kd.R_alloc | apply Kd.R_drewN | apply Kd.R_drew)); exact HO277.out), (by (with_reducible repeat (first | apply Kd.R_alloc | apply Kd.R_drewN | apply Kd.R_drew)); exact Kd.R_mono HO280.out (fun _ hk => ⟨hk.2, hk.1⟩)), (by exact BK262.out), (by exact BK263.out), (by exact BK269.out), (by exact BK271.out), (by repeat (first | (with_reducible first | exact HB.out | apply below_alloc | apply pw_below_drewN | apply below_drew1 | refine below_set ?_ GE262.out | refine below_set ?_ GE263.out | refine below_set ?_ GE269.out | refine below_set ?_ GE271.out) | exact HB.out))⟩)
                · skip
                  refine Kd.R_lit_step k46 _ 46 ?hg (N := 43) ?hd (xs := ([(⟨a1_0, a1_1, a1_2, a1_3, (⟨a1_4, a1_5⟩ : S35), (⟨a1_6, a1_7⟩ : S35)⟩ : S46)] : List (S46))) (inner := [.int .i64 a1_0, .int .i64 a1_1, .int .i64 a1_2, .int .i64 a1_3, .int .i64 a1_4, .int .i64 a1_5, .int .i64 a1_6, .int .i64 a1_7]) (ok := fun _ => True) (okp := fun _ => True) ?hr ?hp (fun _ hk => hk) trivial (Below.refl _ _) (Nat.le_refl _) (by simp) ?_; (case hd => rfl); (case hg => rfl); (case hr => first | (go_simp; done) | (go_simp; rfl)); (case hp => exact (Reps.c8 (show Kd.M k46 _ _ _ (⟨a1_0, a1_1, a1_2, a1_3, (⟨a1_4, a1_5⟩ : S35), (⟨a1_6, a1_7⟩ : S35)⟩ : S46) [.int .i64 a1_0, .int .i64 a1_1, .int .i64 a1_2, .int .i64 a1_3, .int .i64 a1_4, .int .i64 a1_5, .int .i64 a1_6, .int .i64 a1_7] from (k46_mkM _ _ _ (⟨a1_0, a1_1, a1_2, a1_3, (⟨a1_4, a1_5⟩ : S35), (⟨a1_6, a1_7⟩ : S35)⟩ : S46) )) (Reps.none _ _)))
                  intro v279 w42 ho43 hb hg_ hnew_
                  clear hg_ hnew_
                  (first | rw [← Ny278.out] at ho43 | (simp only [Int.reduceToNat] at ho43; rw [← Ny278.out] at ho43))
                  have n0_ := Aside0.mk (Kd.R_lower (Kd.R_newB ho43 (g := gb263) (o := .cells #[.int .i64 a1_0, .int .i64 a1_1, .int .i64 a1_2, .int .i64 a1_3, .int .i64 a1_4, .int .i64 a1_5, .int .i64 a1_6, .int .i64 a1_7] 46 (0, 0)) (by exact BK263.out)) (below_size (by repeat (first | (with_reducible first | exact HB.out | apply below_alloc | apply pw_below_drewN | apply below_drew1 | refine below_set ?_ GE262.out | refine below_set ?_ GE263.out | refine below_set ?_ GE269.out | refine below_set ?_ GE271.out) | exact HB.out))))
                  have n1_ := Aside0.mk (blk_below (g := gb262) (o := .cells #[.int .i64 a0_0, .int .i64 a0_1, .slice A0_2 l0_2.length c0_2] 30 (0, 0)) (by exact BK262.out) hb)
                  have n2_ := Aside0.mk (blk_below (g := gb263) (o := .cells #[.int .i64 a1_0, .int .i64 a1_1, .int .i64 a1_2, .int .i64 a1_3, .int .i64 a1_4, .int .i64 a1_5, .int .i64 a1_6, .int .i64 a1_7] 46 (0, 0)) (by exact BK263.out) hb)
                  have n3_ := Aside0.mk (blk_below (g := gb269) (o := .cells #[.int .i64 t266, .int .i64 t267] 35 (0, 0)) (by exact BK269.out) hb)
                  have n4_ := Aside0.mk (blk_below (g := gb271) (o := .cells #[.int .i64 a0_0, .int .i64 a0_1, .slice A0_2 l0_2.length c0_2] 30 (0, 0)) (by exact BK271.out) hb)
                  have n5_ := Aside0.mk (below_step (by repeat (first | (with_reducible first | exact HB.out | apply below_alloc | apply pw_below_drewN | apply below_drew1 | refine below_set ?_ GE262.out | refine below_set ?_ GE263.out | refine below_set ?_ GE269.out | refine below_set ?_ GE271.out) | exact HB.out)) hb)
                  clear BK262
                  clear BK263
                  clear BK269
                  clear BK271
                  clear HB
                  have HO280 := n0_
                  have BK262 := n1_
                  have BK263 := n2_
                  have BK269 := n3_
                  have BK271 := n4_
                  have HB := n5_
                  clear n0_ n1_ n2_ n3_ n4_ n5_
                  clear hb ho43
                  refine hK.out _ _ ⟨(blk_cell BK262.out 0).trans rfl, (blk_cell BK262.out 1).trans rfl, (blk_cell BK262.out 2).trans rfl, (blk_cell BK263.out 0).trans rfl, (blk_cell BK263.out 1).trans rfl, (blk_cell BK263.out 2).trans rfl, (blk_cell BK263.out 3).trans rfl, (blk_cell BK263.out 4).trans rfl, (blk_cell BK263.out 5).trans rfl, (blk_cell BK263.out 6).trans rfl, (blk_cell BK263.out 7).trans rfl⟩ (fun hHeld => ?_)
                  clear hK K
                  refine norm_ (a' := ?_) ?_ ?_
                  rotate_left
                  · show Act.put _ (some 43) _ = _
                    simp only [Act.put, List.setIfInBounds_toArray, List.set_cons_zero, List.set_cons_succ, i64_w, i32_w]
                    rfl
                  refine one_ (i := 0) (N := some 38) #[true, true, true, false, true, true, false, false, false] rfl rfl (one_of HT_.out (by kernel_rfl)) (by decide) (fun K hK => ?_)
                  refine Kd.R_lit_step k46 _ 46 ?hg (N := 38) ?hd (xs := ([] : List (S46))) (inner := []) (ok := fun _ => True) (okp := fun _ => True) ?hr ?hp (fun _ hk => hk) trivial (Below.refl _ _) (Nat.le_refl _) (by simp) ?_; (case hd => rfl); (case hg => rfl); (case hr => first | (go_simp; done) | (go_simp; rfl)); (case hp => exact (Reps.none _ _))
                  intro v273 w44 ho45 hb hg_ hnew_
                  clear hg_ hnew_
                  (first | rw [← Ny272.out] at ho45 | (simp only [Int.reduceToNat] at ho45; rw [← Ny272.out] at ho45))
                  have n0_ := Aside0.mk (Kd.R_elder' (by (with_reducible repeat (first | apply Kd.R_alloc | apply Kd.R_drewN | apply Kd.R_drew)); exact HO280.out) (Kd.R_base ho45) hb)
                  have n1_ := Aside0.mk (Kd.R_lower (Kd.R_newB (Kd.R_new' ho45 (Kd.R_lt (by (with_reducible repeat (first | apply Kd.R_alloc | apply Kd.R_drewN | apply Kd.R_drew)); exact HO280.out))) (g := gb263) (o := .cells #[.int .i64 a1_0, .int .i64 a1_1, .int .i64 a1_2, .int .i64 a1_3, .int .i64 a1_4, .int .i64 a1_5, .int .i64 a1_6, .int .i64 a1_7] 46 (0, 0)) (by exact BK263.out)) (below_size (by repeat (first | (with_reducible first | exact HB.out | apply below_alloc | apply pw_below_drewN | apply below_drew1 | refine below_set ?_ GE262.out | refine below_set ?_ GE263.out | refine below_set ?_ GE269.out | refine below_set ?_ GE271.out) | exact HB.out))))
                  have n2_ := Aside0.mk (blk_below (g := gb262) (o := .cells #[.int .i64 a0_0, .int .i64 a0_1, .slice A0_2 l0_2.length c0_2] 30 (0, 0)) (by exact BK262.out) hb)
                  have n3_ := Aside0.mk (blk_below (g := gb263) (o := .cells #[.int .i64 a1_0, .int .i64 a1_1, .int .i64 a1_2, .int .i64 a1_3, .int .i64 a1_4, .int .i64 a1_5, .int .i64 a1_6, .int .i64 a1_7] 46 (0, 0)) (by exact BK263.out) hb)
                  have n4_ := Aside0.mk (blk_below (g := gb269) (o := .cells #[.int .i64 t266, .int .i64 t267] 35 (0, 0)) (by exact BK269.out) hb)
                  have n5_ := Aside0.mk (blk_below (g := gb271) (o := .cells #[.int .i64 a0_0, .int .i64 a0_1, .slice A0_2 l0_2.length c0_2] 30 (0, 0)) (by exact BK271.out) hb)
                  have n6_ := Aside0.mk (below_step (by repeat (first | (with_reducible first | exact HB.out | apply below_alloc | apply pw_below_drewN | apply below_drew1 | refine below_set ?_ GE262.out | refine below_set ?_ GE263.out | refine below_set ?_ GE269.out | refine below_set ?_ GE271.out) | exact HB.out)) hb)
                  clear HO280
                  clear BK262
                  clear BK263
                  clear BK269
                  clear BK271
                  clear HB
                  have HO280 := n0_
                  have HO274 := n1_
                  have BK262 := n2_
                  have BK263 := n3_
                  have BK269 := n4_
                  have BK271 := n5_
                  have HB := n6_
                  clear n0_ n1_ n2_ n3_ n4_ n5_ n6_
                  clear hb ho45
                  refine hK.out _ _ ⟨(blk_cell BK262.out 0).trans rfl, (blk_cell BK262.out 1).trans rfl, (blk_cell BK262.out 2).trans rfl, (blk_cell BK263.out 0).trans rfl, (blk_cell BK263.out 1).trans rfl, (blk_cell BK263.out 2).trans rfl, (blk_cell BK263.out 3).trans rfl, (blk_cell BK263.out 4).trans rfl, (blk_cell BK263.out 5).trans rfl, (blk_cell BK263.out 6).trans rfl, (blk_cell BK263.out 7).trans rfl⟩ (fun hHeld => ?_)
                  clear hK K
                  refine norm_ (a' := ?_) ?_ ?_
                  rotate_left
                  · show Act.put _ (some 38) _ = _
                    simp only [Act.put, List.setIfInBounds_toArray, List.set_cons_zero, List.set_cons_succ, i64_w, i32_w]
                    rfl
                  refine one_ (i := 3) (N := some 41) #[true, true, true, true, true, true, false, false, false] rfl rfl (one_of HT_.out (by kernel_rfl)) (by decide) (fun K hK => ?_)
                  refine Kd.R_append_rows_step k46 (w0 := w) w.heap.size (by rfl) (.tmp 38) (.tmp 40) 28 46 (.agg #[(.int .i64 0), (.int .i64 0), (.int .i64 0), (.int .i64 0), (.int .i64 0), (.int .i64 0), (.int .i64 0), (.int .i64 0)]) 64 rfl Try.underlying28 info46 rfl (by decide) (by omega) v273 y272 l0_2 _ _ _ (fun k_ => some k_ ≠ (v279 : Value).ownBlock ∧ k_ ≠ gb263) (fun _ => False) rfl rfl ?aO ?aR (fun _ _ h => h) (fun _ h => h.elim) ?aF ?aB ?aS ?aL ?_
                  (case aR => repeat (first | exact (Kd.C_below HR0_2.out HB.out) | (with_reducible refine Kd.C_alloc ?_ _) | (with_reducible refine Kd.C_drewN ?_ _) | (with_reducible refine Kd.C_drew ?_)))
                  (case aB => exact (by repeat (first | (with_reducible first | exact HB.out | apply below_alloc | apply pw_below_drewN | apply below_drew1 | refine below_set ?_ GE262.out | refine below_set ?_ GE263.out | refine below_set ?_ GE269.out | refine below_set ?_ GE271.out) | exact HB.out)))
                  (case aF => exact (fun k_ hk => ⟨Kd.fresh' (Kd.R_lt (by (with_reducible repeat (first | apply Kd.R_alloc | apply Kd.R_drewN | apply Kd.R_drew)); exact HO280.out)) k_ hk, Kd.freshB (g := gb263) (o := .cells #[.int .i64 a1_0, .int .i64 a1_1, .int .i64 a1_2, .int .i64 a1_3, .int .i64 a1_4, .int .i64 a1_5, .int .i64 a1_6, .int .i64 a1_7] 46 (0, 0)) (by exact BK263.out) k_ hk⟩))
                  (case aO => exact (by (with_reducible repeat (first | apply Kd.R_alloc | apply Kd.R_drewN | apply Kd.R_drew)); exact Kd.R_mono HO274.out (fun _ hk => ⟨hk.1.2, hk.2⟩)))
                  (case aS => exact (below_size (by repeat (first | (with_reducible first | exact HB.out | apply below_alloc | apply pw_below_drewN | apply below_drew1 | refine below_set ?_ GE262.out | refine below_set ?_ GE263.out | refine below_set ?_ GE269.out | refine below_set ?_ GE271.out) | exact HB.out))))
                  (case aL => have := LMc23.out; omega)
                  intro v276 w46 ho hb hg hat
                  rw [← Ny275.out] at ho
                  have n0_ := Aside0.mk (blk_grown (g := gb262) (o := .cells #[.int .i64 a0_0, .int .i64 a0_1, .slice A0_2 l0_2.length c0_2] 30 (0, 0)) (by exact BK262.out) hg (Kd.R_ne HO274.out BK262.out (by decide)))
                  have n1_ := Aside0.mk (blk_grown (g := gb263) (o := .cells #[.int .i64 a1_0, .int .i64 a1_1, .int .i64 a1_2, .int .i64 a1_3, .int .i64 a1_4, .int .i64 a1_5, .int .i64 a1_6, .int .i64 a1_7] 46 (0, 0)) (by exact BK263.out) hg (Kd.R_away HO274.out (fun _ hk => hk.2)))
                  have n2_ := Aside0.mk (blk_grown (g := gb269) (o := .cells #[.int .i64 t266, .int .i64 t267] 35 (0, 0)) (by exact BK269.out) hg (Kd.R_ne HO274.out BK269.out (by decide)))
                  have n3_ := Aside0.mk (blk_grown (g := gb271) (o := .cells #[.int .i64 a0_0, .int .i64 a0_1, .slice A0_2 l0_2.length c0_2] 30 (0, 0)) (by exact BK271.out) hg (Kd.R_ne HO274.out BK271.out (by decide)))
                  have n4_ := Aside0.mk (Kd.R_after (ok := (fun k_ => k_ ≠ gb263)) (by (with_reducible repeat (first | apply Kd.R_alloc | apply Kd.R_drewN | apply Kd.R_drew)); exact Kd.R_mono HO280.out (fun _ hk => ⟨hk.1.2, hk.2⟩)) hg hat)
                  have n5_ := Aside0.mk (hb)
                  have n6_ := Aside0.mk (ho)
                  clear BK262
                  clear BK263
                  clear BK269
                  clear BK271
                  clear HO280
                  clear HB
                  clear HO274
                  have BK262 := n0_
                  have BK263 := n1_
                  have BK269 := n2_
                  have BK271 := n3_
                  have HO280 := n4_
                  have HB := n5_
                  have HO277 := n6_
                  clear n0_ n1_ n2_ n3_ n4_ n5_ n6_
                  clear ho hb hg hat
                  refine hK.out _ _ ⟨(blk_cell BK262.out 0).trans rfl, (blk_cell BK262.out 1).trans rfl, (blk_cell BK262.out 2).trans rfl, (blk_cell BK263.out 0).trans rfl, (blk_cell BK263.out 1).trans rfl, (blk_cell BK263.out 2).trans rfl, (blk_cell BK263.out 3).trans rfl, (blk_cell BK263.out 4).trans rfl, (blk_cell BK263.out 5).trans rfl, (blk_cell BK263.out 6).trans rfl, (blk_cell BK263.out 7).trans rfl⟩ (fun hHeld => ?_)
                  clear hK K
                  refine norm_ (a' := ?_) ?_ ?_
                  rotate_left
                  · show Act.put _ (some 41) _ = _
                    simp only [Act.put, List.setIfInBounds_toArray, List.set_cons_zero, List.set_cons_succ, i64_w, i32_w]
                    rfl
                  exact norm_ (by simp only [putAll, Act.put, List.setIfInBounds_toArray, List.set_cons_zero, List.set_cons_succ]) (hCont (v273, v276, v279) _ ⟨hHeld, (by (with_reducible repeat (first | apply Kd.R_alloc | apply Kd.R_drewN | apply Kd.R_drew)); exact HO277.out), (by (with_reducible repeat (first | apply Kd.R_alloc | apply Kd.R_drewN | apply Kd.R_drew)); exact Kd.R_mono HO280.out (fun _ hk => ⟨hk.2, hk.1⟩)), (by exact BK262.out), (by exact BK263.out), (by exact BK269.out), (by exact BK271.out), (by repeat (first | (with_reducible first | exact HB.out | apply below_alloc | apply pw_below_drewN | apply below_drew1 | refine below_set ?_ GE262.out | refine below_set ?_ GE263.out | refine below_set ?_ GE269.out | refine below_set ?_ GE271.out) | exact HB.out))⟩)
              rintro ⟨v273, v276, v279⟩ w47 ⟨hS_, h0_, h1_, h2_, h3_, h4_, h5_, h6_⟩
              have n0_ : Aside0 (Kd.R k46 46 w47 w.heap.size (fun k_ => some k_ ≠ (v279 : Value).ownBlock ∧ k_ ≠ gb263) v276 y275) := ⟨h0_⟩
              have n1_ : Aside0 (Kd.R k46 46 w47 w.heap.size (fun k_ => some k_ ≠ (v276 : Value).ownBlock ∧ k_ ≠ gb263) v279 y278) := ⟨h1_⟩
              have n2_ : Aside0 (w47.heap[gb262]? = some (.cells #[.int .i64 a0_0, .int .i64 a0_1, .slice A0_2 l0_2.length c0_2] 30 (0, 0))) := ⟨h2_⟩
              have n3_ : Aside0 (w47.heap[gb263]? = some (.cells #[.int .i64 a1_0, .int .i64 a1_1, .int .i64 a1_2, .int .i64 a1_3, .int .i64 a1_4, .int .i64 a1_5, .int .i64 a1_6, .int .i64 a1_7] 46 (0, 0))) := ⟨h3_⟩
              have n4_ : Aside0 (w47.heap[gb269]? = some (.cells #[.int .i64 t266, .int .i64 t267] 35 (0, 0))) := ⟨h4_⟩
              have n5_ : Aside0 (w47.heap[gb271]? = some (.cells #[.int .i64 a0_0, .int .i64 a0_1, .slice A0_2 l0_2.length c0_2] 30 (0, 0))) := ⟨h5_⟩
              have n6_ : Aside0 (Below w.heap.size w w47) := ⟨h6_⟩
              clear BK262
              clear BK263
              clear BK269
              clear BK271
              clear HB
              clear h0_ h1_ h2_ h3_ h4_ h5_ h6_
              have HO277 := n0_
              have HO280 := n1_
              have BK262 := n2_
              have BK263 := n3_
              have BK269 := n4_
              have BK271 := n5_
              have HB := n6_
              clear n0_ n1_ n2_ n3_ n4_ n5_ n6_
              have hHeld : w47.cell? ⟨gb262, 0, none⟩ = some (.int .i64 a0_0) ∧ w47.cell? ⟨gb262, 1, none⟩ = some (.int .i64 a0_1) ∧ w47.cell? ⟨gb262, 2, none⟩ = some (.slice A0_2 l0_2.length c0_2) ∧ w47.cell? ⟨gb263, 0, none⟩ = some (.int .i64 a1_0) ∧ w47.cell? ⟨gb263, 1, none⟩ = some (.int .i64 a1_1) ∧ w47.cell? ⟨gb263, 2, none⟩ = some (.int .i64 a1_2) ∧ w47.cell? ⟨gb263, 3, none⟩ = some (.int .i64 a1_3) ∧ w47.cell? ⟨gb263, 4, none⟩ = some (.int .i64 a1_4) ∧ w47.cell? ⟨gb263, 5, none⟩ = some (.int .i64 a1_5) ∧ w47.cell? ⟨gb263, 6, none⟩ = some (.int .i64 a1_6) ∧ w47.cell? ⟨gb263, 7, none⟩ = some (.int .i64 a1_7) := hS_
              obtain ⟨Ao49, co49, eo49⟩ := Kd.R_slice HO280.out
              (first | subst eo49 | (injection eo49 with f1_ f2_ f3_; have f4_ := f1_.symm; have f5_ := f3_.symm; clear f1_ f2_ f3_; subst f4_; subst f5_))
              refine norm_ (a' := ?_) ?_ ?_
              rotate_left
              · simp only [putAll, Act.put, List.setIfInBounds_toArray, List.set_cons_zero, List.set_cons_succ]
                rfl
              refine one_ (i := 6) (N := some 44) #[true, true, true, true, true, true, true, false, false] rfl rfl (one_of HT_.out (by kernel_rfl)) (by decide) (fun K hK => ?_)
              refine Kd.R_append_rows_step k46 (w0 := w) w.heap.size (by rfl) (.tmp 41) (.tmp 43) 28 46 (.agg #[(.int .i64 0), (.int .i64 0), (.int .i64 0), (.int .i64 0), (.int .i64 0), (.int .i64 0), (.int .i64 0), (.int .i64 0)]) 64 rfl Try.underlying28 info46 rfl (by decide) (by omega) v276 y275 y278 _ _ _ (fun k_ => some k_ ≠ (.slice Ao49 y278.length co49 : Value).ownBlock ∧ k_ ≠ gb263) (fun _ => False) rfl rfl ?aO ?aR (fun _ _ h => h) (fun _ h => h.elim) ?aF ?aB ?aS ?aL ?_
              (case aR => repeat (first | exact (Kd.R_reads' HO280.out).2.2 | (with_reducible refine Kd.C_alloc ?_ _) | (with_reducible refine Kd.C_drewN ?_ _) | (with_reducible refine Kd.C_drew ?_)))
              (case aB => exact (by repeat (first | (with_reducible first | exact HB.out | apply below_alloc | apply pw_below_drewN | apply below_drew1 | refine below_set ?_ GE262.out | refine below_set ?_ GE263.out | refine below_set ?_ GE269.out | refine below_set ?_ GE271.out) | exact HB.out)))
              (case aF => exact (fun k_ hk => ⟨Kd.fresh' (Kd.R_lt (by (with_reducible repeat (first | apply Kd.R_alloc | apply Kd.R_drewN | apply Kd.R_drew)); exact HO280.out)) k_ hk, Kd.freshB (g := gb263) (o := .cells #[.int .i64 a1_0, .int .i64 a1_1, .int .i64 a1_2, .int .i64 a1_3, .int .i64 a1_4, .int .i64 a1_5, .int .i64 a1_6, .int .i64 a1_7] 46 (0, 0)) (by exact BK263.out) k_ hk⟩))
              (case aO => exact (by (with_reducible repeat (first | apply Kd.R_alloc | apply Kd.R_drewN | apply Kd.R_drew)); exact HO277.out))
              (case aS => exact (below_size (by repeat (first | (with_reducible first | exact HB.out | apply below_alloc | apply pw_below_drewN | apply below_drew1 | refine below_set ?_ GE262.out | refine below_set ?_ GE263.out | refine below_set ?_ GE269.out | refine below_set ?_ GE271.out) | exact HB.out))))
              (case aL => have := LMc24.out; omega)
              intro v282 w48 ho hb hg hat
              rw [← Ny281.out] at ho
              have n0_ := Aside0.mk (blk_grown (g := gb262) (o := .cells #[.int .i64 a0_0, .int .i64 a0_1, .slice A0_2 l0_2.length c0_2] 30 (0, 0)) (by exact BK262.out) hg (Kd.R_ne HO277.out BK262.out (by decide)))
              have n1_ := Aside0.mk (blk_grown (g := gb263) (o := .cells #[.int .i64 a1_0, .int .i64 a1_1, .int .i64 a1_2, .int .i64 a1_3, .int .i64 a1_4, .int .i64 a1_5, .int .i64 a1_6, .int .i64 a1_7] 46 (0, 0)) (by exact BK263.out) hg (Kd.R_away HO277.out (fun _ hk => hk.2)))
              have n2_ := Aside0.mk (blk_grown (g := gb269) (o := .cells #[.int .i64 t266, .int .i64 t267] 35 (0, 0)) (by exact BK269.out) hg (Kd.R_ne HO277.out BK269.out (by decide)))
              have n3_ := Aside0.mk (blk_grown (g := gb271) (o := .cells #[.int .i64 a0_0, .int .i64 a0_1, .slice A0_2 l0_2.length c0_2] 30 (0, 0)) (by exact BK271.out) hg (Kd.R_ne HO277.out BK271.out (by decide)))
              have n4_ := Aside0.mk (Kd.R_after (ok := (fun k_ => k_ ≠ gb263)) (by (with_reducible repeat (first | apply Kd.R_alloc | apply Kd.R_drewN | apply Kd.R_drew)); exact Kd.R_mono HO280.out (fun _ hk => ⟨hk.2, hk.1⟩)) hg hat)
              have n5_ := Aside0.mk (hb)
              have n6_ := Aside0.mk (ho)
              clear BK262
              clear BK263
              clear BK269
              clear BK271
              clear HO280
              clear HB
              clear HO277
              have BK262 := n0_
              have BK263 := n1_
              have BK269 := n2_
              have BK271 := n3_
              have HO280 := n4_
              have HB := n5_
              have HO283 := n6_
              clear n0_ n1_ n2_ n3_ n4_ n5_ n6_
              clear ho hb hg hat
              obtain ⟨Ao50, co50, eo50⟩ := Kd.R_slice HO283.out
              (first | subst eo50 | (injection eo50 with f1_ f2_ f3_; have f4_ := f1_.symm; have f5_ := f3_.symm; clear f1_ f2_ f3_; subst f4_; subst f5_))
              refine hK.out _ _ ⟨(blk_cell BK262.out 0).trans rfl, (blk_cell BK262.out 1).trans rfl, (blk_cell BK262.out 2).trans rfl, (blk_cell BK263.out 0).trans rfl, (blk_cell BK263.out 1).trans rfl, (blk_cell BK263.out 2).trans rfl, (blk_cell BK263.out 3).trans rfl, (blk_cell BK263.out 4).trans rfl, (blk_cell BK263.out 5).trans rfl, (blk_cell BK263.out 6).trans rfl, (blk_cell BK263.out 7).trans rfl⟩ (fun hHeld => ?_)
              clear hK K
              refine norm_ (a' := ?_) ?_ ?_
              rotate_left
              · show Act.put _ (some 44) _ = _
                simp only [Act.put, List.setIfInBounds_toArray, List.set_cons_zero, List.set_cons_succ, i64_w, i32_w]
                rfl
              refine pure_ (i := 7) (N := some 45) (v := ?_) (a' := ?_) #[true, true, true, true, true, true, true, true, false] rfl rfl (any_of HT_.out (by kernel_rfl)) (fun _ _ _ h => h) (Or.inl ⟨by rfl, ?_⟩) ?_ ?_
              rotate_left
              · intro w'
                go_simp
                with_reducible rfl
              rotate_left
              · simp only [Act.put, List.setIfInBounds_toArray, List.set_cons_zero, List.set_cons_succ, i64_w, i32_w]
                rfl
              refine one_ (i := 8) (N := none) #[true, true, true, true, true, true, true, true, true] rfl rfl (one_of HT_.out (by kernel_rfl)) (by decide) (fun K hK => ?_)
              have hs51 : w48.cell? ⟨gb271, 2, none⟩ = some (.slice A0_2 l0_2.length c0_2) := (blk_cell BK271.out 2).trans rfl
              have hfs51 := blk_frozen BK271.out 2
              have hns51_0 := NB262_271.out
              have hns51_1 := NB263_271.out
              have hns51_2 := NB269_271.out
              have hms51_0 := NB271_262.out
              have hms51_1 := NB271_263.out
              have hms51_2 := NB271_269.out
              refine skip_ (w1 := ?_) (by rfl) rfl ?_ ?_
              rotate_left
              · go_simp
                rfl
              refine hK.out _ _ ⟨((cell_far (p := ⟨gb271, _, none⟩) NB262_271.out _).trans (hHeld.1)), ((cell_far (p := ⟨gb271, _, none⟩) NB262_271.out _).trans (hHeld.2.1)), ((cell_far (p := ⟨gb271, _, none⟩) NB262_271.out _).trans (hHeld.2.2.1)), ((cell_far (p := ⟨gb271, _, none⟩) NB263_271.out _).trans (hHeld.2.2.2.1)), ((cell_far (p := ⟨gb271, _, none⟩) NB263_271.out _).trans (hHeld.2.2.2.2.1)), ((cell_far (p := ⟨gb271, _, none⟩) NB263_271.out _).trans (hHeld.2.2.2.2.2.1)), ((cell_far (p := ⟨gb271, _, none⟩) NB263_271.out _).trans (hHeld.2.2.2.2.2.2.1)), ((cell_far (p := ⟨gb271, _, none⟩) NB263_271.out _).trans (hHeld.2.2.2.2.2.2.2.1)), ((cell_far (p := ⟨gb271, _, none⟩) NB263_271.out _).trans (hHeld.2.2.2.2.2.2.2.2.1)), ((cell_far (p := ⟨gb271, _, none⟩) NB263_271.out _).trans (hHeld.2.2.2.2.2.2.2.2.2.1)), ((cell_far (p := ⟨gb271, _, none⟩) NB263_271.out _).trans (hHeld.2.2.2.2.2.2.2.2.2.2))⟩ (fun hHeld => ?_)
              clear hK K
              refine done_ (done_of HT_.out (by kernel_rfl)) ?_
              have hcz52_0 : w48.cell? ⟨gb271, 0, none⟩ = some (.int .i64 a0_0) := (blk_cell BK271.out 0).trans rfl
              have hcz52_1 : w48.cell? ⟨gb271, 1, none⟩ = some (.int .i64 a0_1) := (blk_cell BK271.out 1).trans rfl
              have hcz52_2 : w48.cell? ⟨gb271, 2, none⟩ = some (.slice A0_2 l0_2.length c0_2) := (blk_cell BK271.out 2).trans rfl
              have hfz52_0 := blk_frozen BK271.out 0
              have hfz52_1 := blk_frozen BK271.out 1
              have hfz52_2 := blk_frozen BK271.out 2
              go_upto_region 9 with (first | ((with_reducible refine gate_callee (f := 22) rfl ?_); refine goesL_ (some 49) rfl rfl Try.func22 (by kernel_rfl) rfl #[.agg #[.int .i64 a0_0, .int .i64 a0_1, .slice Ao50 y281.length co50], .int .i64 a2] rfl (by (try simp only [List.map_toArray, List.map_cons, List.map_nil]); first | done | rfl | (simp only [List.length_drop, List.length_take]; rfl)) ?_; (with_reducible refine (clock_At.calls a0_0 a0_1 _ _ y281 a2 t284 t285 t286 _ ?side1 ?side2 A25.out).mono ?_); (case side1 => refine (Kd.R_reads' (e := 46) (base := w.heap.size) (ok := fun k_ => (some k_ ≠ (.slice Ao49 y278.length co49 : Value).ownBlock ∧ k_ ≠ gb263)) (n := y281.length) (c := co50) ?_).2.2; exact (by (with_reducible repeat (first | apply Kd.R_alloc | apply Kd.R_drewN | apply Kd.R_drew)); exact (Kd.R_mono (Kd.R_far (p := ⟨gb271, 2, none⟩) (Kd.R_types HO283.out BK271.out (by decide)) (fun _ hk => hk.2) (.slice Ao50 y281.length co50)) (fun _ h_ => h_.1)))); (case side2 => exact (Kd.R_reads' HO283.out).2.1); rintro e w53 ⟨rfl, hb⟩; refine ⟨_, rfl, ?_⟩; have n0_ := Aside0.mk (Kd.R_below (by (with_reducible repeat (first | apply Kd.R_alloc | apply Kd.R_drewN | apply Kd.R_drew)); exact (Kd.R_mono (Kd.R_far (p := ⟨gb271, 2, none⟩) (Kd.R_types HO280.out BK271.out (by decide)) (fun _ hk => hk.2) (.slice Ao50 y281.length co50)) (fun _ h_ => h_.1))) hb); have n1_ := Aside0.mk (Kd.R_below (by (with_reducible repeat (first | apply Kd.R_alloc | apply Kd.R_drewN | apply Kd.R_drew)); exact (Kd.R_mono (Kd.R_far (p := ⟨gb271, 2, none⟩) (Kd.R_types HO283.out BK271.out (by decide)) (fun _ hk => hk.2) (.slice Ao50 y281.length co50)) (fun _ h_ => h_.1))) hb); have n2_ := Aside0.mk (blk_below (g := gb262) (o := .cells #[.int .i64 a0_0, .int .i64 a0_1, .slice A0_2 l0_2.length c0_2] 30 (0, 0)) (by (with_reducible repeat (first | refine blk_drewN ?_ _ | refine blk_drew ?_ | refine blk_alloc ?_ _)); refine blk_far ?_ NB262_271.out _; (with_reducible repeat (first | refine blk_drewN ?_ _ | refine blk_drew ?_ | refine blk_alloc ?_ _)); exact BK262.out) hb); have n3_ := Aside0.mk (blk_below (g := gb263) (o := .cells #[.int .i64 a1_0, .int .i64 a1_1, .int .i64 a1_2, .int .i64 a1_3, .int .i64 a1_4, .int .i64 a1_5, .int .i64 a1_6, .int .i64 a1_7] 46 (0, 0)) (by (with_reducible repeat (first | refine blk_drewN ?_ _ | refine blk_drew ?_ | refine blk_alloc ?_ _)); refine blk_far ?_ NB263_271.out _; (with_reducible repeat (first | refine blk_drewN ?_ _ | refine blk_drew ?_ | refine blk_alloc ?_ _)); exact BK263.out) hb); have n4_ := Aside0.mk (blk_below (g := gb269) (o := .cells #[.int .i64 t266, .int .i64 t267] 35 (0, 0)) (by (with_reducible repeat (first | refine blk_drewN ?_ _ | refine blk_drew ?_ | refine blk_alloc ?_ _)); refine blk_far ?_ NB269_271.out _; (with_reducible repeat (first | refine blk_drewN ?_ _ | refine blk_drew ?_ | refine blk_alloc ?_ _)); exact BK269.out) hb); have n5_ := Aside0.mk (blk_below (g := gb271) (o := .cells #[.int .i64 a0_0, .int .i64 a0_1, .slice Ao50 y281.length co50] 30 (0, 0)) (by (with_reducible repeat (first | refine blk_drewN ?_ _ | refine blk_drew ?_ | refine blk_alloc ?_ _)); refine blk_put (cs := #[.int .i64 a0_0, .int .i64 a0_1, .slice A0_2 l0_2.length c0_2]) ?_ 2 _ rfl; (with_reducible repeat (first | refine blk_drewN ?_ _ | refine blk_drew ?_ | refine blk_alloc ?_ _)); exact BK271.out) hb); have n6_ := Aside0.mk (below_step (by repeat (first | (with_reducible first | exact HB.out | apply below_alloc | apply pw_below_drewN | apply below_drew1 | refine below_set ?_ GE262.out | refine below_set ?_ GE263.out | refine below_set ?_ GE269.out | refine below_set ?_ GE271.out) | exact HB.out)) hb); clear HO280; clear HO283; clear BK262; clear BK263; clear BK269; clear BK271; clear HB; have HO280 := n0_; have HO283 := n1_; have BK262 := n2_; have BK263 := n3_; have BK269 := n4_; have BK271 := n5_; have HB := n6_; clear n0_ n1_ n2_ n3_ n4_ n5_ n6_; (try clear hb); (try clear hb2); (try clear hk); (try clear hi)) | ((with_reducible refine gate_dst (N := 14) rfl ?_); (try (refine gate_guard (by rfl) ?_; dsimp only)); refine box_event ?hg (N := 14) ?hd (cs := #[.int .i64 0, .int .i64 0]) (t := 35) ?hr ?_; (case hd => rfl); (case hg => rfl); (case hr => first | (go_simp; done) | (go_simp; rfl)); intro gb287 hg w54 hbox hb; have n0_ := Aside0.mk (Kd.R_below (by (with_reducible repeat (first | apply Kd.R_alloc | apply Kd.R_drewN | apply Kd.R_drew)); exact HO280.out) hb); have n1_ := Aside0.mk (Kd.R_below (by (with_reducible repeat (first | apply Kd.R_alloc | apply Kd.R_drewN | apply Kd.R_drew)); exact HO283.out) hb); have n2_ := Aside0.mk (blk_below (g := gb262) (o := .cells #[.int .i64 a0_0, .int .i64 a0_1, .slice A0_2 l0_2.length c0_2] 30 (0, 0)) (by exact BK262.out) hb); have n3_ := Aside0.mk (blk_below (g := gb263) (o := .cells #[.int .i64 a1_0, .int .i64 a1_1, .int .i64 a1_2, .int .i64 a1_3, .int .i64 a1_4, .int .i64 a1_5, .int .i64 a1_6, .int .i64 a1_7] 46 (0, 0)) (by exact BK263.out) hb); have n4_ := Aside0.mk (blk_below (g := gb269) (o := .cells #[.int .i64 t266, .int .i64 t267] 35 (0, 0)) (by exact BK269.out) hb); have n5_ := Aside0.mk (blk_below (g := gb271) (o := .cells #[.int .i64 a0_0, .int .i64 a0_1, .slice Ao50 y281.length co50] 30 (0, 0)) (by exact BK271.out) hb); have n6_ := Aside0.mk (below_step (by repeat (first | (with_reducible first | exact HB.out | apply below_alloc | apply pw_below_drewN | apply below_drew1 | refine below_set ?_ GE262.out | refine below_set ?_ GE263.out | refine below_set ?_ GE269.out | refine below_set ?_ GE271.out) | exact HB.out)) hb); have n7_ := Aside0.mk (hbox); have n8_ := Aside0.mk ((by rw [hg]; exact (below_size (by repeat (first | (with_reducible first | exact HB.out | apply below_alloc | apply pw_below_drewN | apply below_drew1 | refine below_set ?_ GE262.out | refine below_set ?_ GE263.out | refine below_set ?_ GE269.out | refine below_set ?_ GE271.out) | exact HB.out))) : w.heap.size ≤ gb287)); have n9_ := Aside0.mk ((by rw [hg]; exact (below_size (by repeat (first | (with_reducible first | exact HB.out | apply below_alloc | apply pw_below_drewN | apply below_drew1 | refine below_set ?_ GE262.out | refine below_set ?_ GE263.out | refine below_set ?_ GE269.out | refine below_set ?_ GE271.out) | exact HB.out))) : w.heap.size ≤ gb287)); have n10_ := Aside0.mk ((by rw [hg]; exact Nat.ne_of_lt (blk_lt (g := gb262) (o := .cells #[.int .i64 a0_0, .int .i64 a0_1, .slice A0_2 l0_2.length c0_2] 30 (0, 0)) (by exact BK262.out)) : gb262 ≠ gb287)); have n11_ := Aside0.mk ((by rw [hg]; exact Nat.ne_of_gt (blk_lt (g := gb262) (o := .cells #[.int .i64 a0_0, .int .i64 a0_1, .slice A0_2 l0_2.length c0_2] 30 (0, 0)) (by exact BK262.out)) : gb287 ≠ gb262)); have n12_ := Aside0.mk ((by rw [hg]; exact Nat.ne_of_lt (blk_lt (g := gb263) (o := .cells #[.int .i64 a1_0, .int .i64 a1_1, .int .i64 a1_2, .int .i64 a1_3, .int .i64 a1_4, .int .i64 a1_5, .int .i64 a1_6, .int .i64 a1_7] 46 (0, 0)) (by exact BK263.out)) : gb263 ≠ gb287)); have n13_ := Aside0.mk ((by rw [hg]; exact Nat.ne_of_gt (blk_lt (g := gb263) (o := .cells #[.int .i64 a1_0, .int .i64 a1_1, .int .i64 a1_2, .int .i64 a1_3, .int .i64 a1_4, .int .i64 a1_5, .int .i64 a1_6, .int .i64 a1_7] 46 (0, 0)) (by exact BK263.out)) : gb287 ≠ gb263)); have n14_ := Aside0.mk ((by rw [hg]; exact Nat.ne_of_lt (blk_lt (g := gb269) (o := .cells #[.int .i64 t266, .int .i64 t267] 35 (0, 0)) (by exact BK269.out)) : gb269 ≠ gb287)); have n15_ := Aside0.mk ((by rw [hg]; exact Nat.ne_of_gt (blk_lt (g := gb269) (o := .cells #[.int .i64 t266, .int .i64 t267] 35 (0, 0)) (by exact BK269.out)) : gb287 ≠ gb269)); have n16_ := Aside0.mk ((by rw [hg]; exact Nat.ne_of_lt (blk_lt (g := gb271) (o := .cells #[.int .i64 a0_0, .int .i64 a0_1, .slice Ao50 y281.length co50] 30 (0, 0)) (by exact BK271.out)) : gb271 ≠ gb287)); have n17_ := Aside0.mk ((by rw [hg]; exact Nat.ne_of_gt (blk_lt (g := gb271) (o := .cells #[.int .i64 a0_0, .int .i64 a0_1, .slice Ao50 y281.length co50] 30 (0, 0)) (by exact BK271.out)) : gb287 ≠ gb271)); clear HO280; clear HO283; clear BK262; clear BK263; clear BK269; clear BK271; clear HB; have HO280 := n0_; have HO283 := n1_; have BK262 := n2_; have BK263 := n3_; have BK269 := n4_; have BK271 := n5_; have HB := n6_; have BK287 := n7_; have GW287 := n8_; have GE287 := n9_; have NB262_287 := n10_; have NB287_262 := n11_; have NB263_287 := n12_; have NB287_263 := n13_; have NB269_287 := n14_; have NB287_269 := n15_; have NB271_287 := n16_; have NB287_271 := n17_; clear n0_ n1_ n2_ n3_ n4_ n5_ n6_ n7_ n8_ n9_ n10_ n11_ n12_ n13_ n14_ n15_ n16_ n17_; clear hb hbox hg; have hnb55 := NB287_262.out; have hnc55 := NB262_287.out; have hnb56 := NB287_263.out; have hnc56 := NB263_287.out; have hnb57 := NB287_269.out; have hnc57 := NB269_287.out; have hnb58 := NB287_271.out; have hnc58 := NB271_287.out; have hcz59_0 : w54.cell? ⟨gb287, 0, none⟩ = some (.int .i64 0) := (blk_cell BK287.out 0).trans rfl; have hcz59_1 : w54.cell? ⟨gb287, 1, none⟩ = some (.int .i64 0) := (blk_cell BK287.out 1).trans rfl; have hfz59_0 := blk_frozen BK287.out 0; have hfz59_1 := blk_frozen BK287.out 1))
              (try simp only [Act.put, List.setIfInBounds_toArray, List.set_cons_zero, List.set_cons_succ])
              go_cut [59] (fun v59 wc => ∃ (kq : Nat) (x59_25 : Bool), v59 = .bool x59_25 ∧ Aside0 (isobathlaw05_ClockMore.j1 kq a2 a3 a4 x59_25 a0_0 a0_1 l0_2 t266 t267 = some r) ∧ Aside0 (kq ≤ kj5) ∧ Aside0 (Kd.R k46 46 wc w.heap.size (fun k_ => k_ ≠ gb263) (.slice Ao50 y281.length co50) y281) ∧ Aside0 (wc.heap[gb262]? = some (.cells #[.int .i64 a0_0, .int .i64 a0_1, (.slice A0_2 l0_2.length c0_2)] 30 (0, 0))) ∧ Aside0 (wc.heap[gb263]? = some (.cells #[.int .i64 a1_0, .int .i64 a1_1, .int .i64 a1_2, .int .i64 a1_3, .int .i64 a1_4, .int .i64 a1_5, .int .i64 a1_6, .int .i64 a1_7] 46 (0, 0))) ∧ Aside0 (wc.heap[gb269]? = some (.cells #[.int .i64 t266, .int .i64 t267] 35 (0, 0))) ∧ Aside0 (wc.heap[gb271]? = some (.cells #[.int .i64 a0_0, .int .i64 a0_1, (.slice Ao50 y281.length co50)] 30 (0, 0))) ∧ Aside0 (wc.heap[gb287]? = some (.cells #[.int .i64 t284, .int .i64 t285] 35 (0, 0))) ∧ Aside0 (Below w.heap.size w wc))
              case first =>
                have H := HC26.out
                clear HC26
                by_cases c60 : t286 = 0
                · rw [if_pos c60] at H
                  have c60b0 : (t286 == 0) = true := beq_iff_eq.mpr c60
                  have c60b1 : (t286 != 0) = false := bne_eq_false_iff_eq.mpr c60
                  clear c60
                  (first | rw [c60b0] | (simp only [i64_w, i32_w]; rw [c60b0]) | skip)
                  replace H := Option.bind_eq_some_iff.mp H
                  obtain ⟨t288, A610, H⟩ := H
                  replace H : (isobathlaw05_ClockMore.j1 kj5 a2 a3 a4 (!t288) a0_0 a0_1 l0_2 t266 t267) = some r := H
                  have A61 := Aside0.mk A610
                  clear A610
                  have H' := Aside0.mk H
                  clear H
                  have hnb62 := NB287_262.out
                  have hnc62 := NB262_287.out
                  have hnb63 := NB287_263.out
                  have hnc63 := NB263_287.out
                  have hnb64 := NB287_269.out
                  have hnc64 := NB269_287.out
                  have hnb65 := NB287_271.out
                  have hnc65 := NB271_287.out
                  have hcz66_0 : w54.cell? ⟨gb287, 0, none⟩ = some (.int .i64 0) := (blk_cell BK287.out 0).trans rfl
                  have hcz66_1 : w54.cell? ⟨gb287, 1, none⟩ = some (.int .i64 0) := (blk_cell BK287.out 1).trans rfl
                  have hfz66_0 := blk_frozen BK287.out 0
                  have hfz66_1 := blk_frozen BK287.out 1
                  have hnb67 := NB269_262.out
                  have hnc67 := NB262_269.out
                  have hnb68 := NB269_263.out
                  have hnc68 := NB263_269.out
                  have hnb69 := NB269_271.out
                  have hnc69 := NB271_269.out
                  have hcz70_0 : w54.cell? ⟨gb269, 0, none⟩ = some (.int .i64 t266) := (blk_cell BK269.out 0).trans rfl
                  have hcz70_1 : w54.cell? ⟨gb269, 1, none⟩ = some (.int .i64 t267) := (blk_cell BK269.out 1).trans rfl
                  have hfz70_0 := blk_frozen BK269.out 0
                  have hfz70_1 := blk_frozen BK269.out 1
                  go_wp2_with (first | (go_at_call 23; (with_reducible refine (isobathlaw05_inside.calls t284 t285 t266 t267 t288 _ A61.out).mono ?_); rintro e w71 ⟨rfl, hb⟩; have n0_ := Aside0.mk (Kd.R_below (by (with_reducible repeat (first | apply Kd.R_alloc | apply Kd.R_drewN | apply Kd.R_drew)); exact (Kd.R_mono (Kd.R_far (p := ⟨gb287, 1, none⟩) (Kd.R_far (p := ⟨gb287, 0, none⟩) (Kd.R_types HO280.out BK287.out (by decide)) (fun _ hk => hk.2) (.int .i64 t284)) (fun _ hk => hk.2) (.int .i64 t285)) (fun _ h_ => h_.1))) hb); have n1_ := Aside0.mk (Kd.R_below (by (with_reducible repeat (first | apply Kd.R_alloc | apply Kd.R_drewN | apply Kd.R_drew)); exact (Kd.R_mono (Kd.R_far (p := ⟨gb287, 1, none⟩) (Kd.R_far (p := ⟨gb287, 0, none⟩) (Kd.R_types HO283.out BK287.out (by decide)) (fun _ hk => hk.2) (.int .i64 t284)) (fun _ hk => hk.2) (.int .i64 t285)) (fun _ h_ => h_.1))) hb); have n2_ := Aside0.mk (blk_below (g := gb262) (o := .cells #[.int .i64 a0_0, .int .i64 a0_1, .slice A0_2 l0_2.length c0_2] 30 (0, 0)) (by (with_reducible repeat (first | refine blk_drewN ?_ _ | refine blk_drew ?_ | refine blk_alloc ?_ _)); refine blk_far ?_ NB262_287.out _; (with_reducible repeat (first | refine blk_drewN ?_ _ | refine blk_drew ?_ | refine blk_alloc ?_ _)); refine blk_far ?_ NB262_287.out _; (with_reducible repeat (first | refine blk_drewN ?_ _ | refine blk_drew ?_ | refine blk_alloc ?_ _)); exact BK262.out) hb); have n3_ := Aside0.mk (blk_below (g := gb263) (o := .cells #[.int .i64 a1_0, .int .i64 a1_1, .int .i64 a1_2, .int .i64 a1_3, .int .i64 a1_4, .int .i64 a1_5, .int .i64 a1_6, .int .i64 a1_7] 46 (0, 0)) (by (with_reducible repeat (first | refine blk_drewN ?_ _ | refine blk_drew ?_ | refine blk_alloc ?_ _)); refine blk_far ?_ NB263_287.out _; (with_reducible repeat (first | refine blk_drewN ?_ _ | refine blk_drew ?_ | refine blk_alloc ?_ _)); refine blk_far ?_ NB263_287.out _; (with_reducible repeat (first | refine blk_drewN ?_ _ | refine blk_drew ?_ | refine blk_alloc ?_ _)); exact BK263.out) hb); have n4_ := Aside0.mk (blk_below (g := gb269) (o := .cells #[.int .i64 t266, .int .i64 t267] 35 (0, 0)) (by (with_reducible repeat (first | refine blk_drewN ?_ _ | refine blk_drew ?_ | refine blk_alloc ?_ _)); refine blk_far ?_ NB269_287.out _; (with_reducible repeat (first | refine blk_drewN ?_ _ | refine blk_drew ?_ | refine blk_alloc ?_ _)); refine blk_far ?_ NB269_287.out _; (with_reducible repeat (first | refine blk_drewN ?_ _ | refine blk_drew ?_ | refine blk_alloc ?_ _)); exact BK269.out) hb); have n5_ := Aside0.mk (blk_below (g := gb271) (o := .cells #[.int .i64 a0_0, .int .i64 a0_1, .slice Ao50 y281.length co50] 30 (0, 0)) (by (with_reducible repeat (first | refine blk_drewN ?_ _ | refine blk_drew ?_ | refine blk_alloc ?_ _)); refine blk_far ?_ NB271_287.out _; (with_reducible repeat (first | refine blk_drewN ?_ _ | refine blk_drew ?_ | refine blk_alloc ?_ _)); refine blk_far ?_ NB271_287.out _; (with_reducible repeat (first | refine blk_drewN ?_ _ | refine blk_drew ?_ | refine blk_alloc ?_ _)); exact BK271.out) hb); have n6_ := Aside0.mk (blk_below (g := gb287) (o := .cells #[.int .i64 t284, .int .i64 t285] 35 (0, 0)) (by (with_reducible repeat (first | refine blk_drewN ?_ _ | refine blk_drew ?_ | refine blk_alloc ?_ _)); refine blk_put (cs := #[.int .i64 t284, .int .i64 0]) ?_ 1 _ rfl; (with_reducible repeat (first | refine blk_drewN ?_ _ | refine blk_drew ?_ | refine blk_alloc ?_ _)); refine blk_put (cs := #[.int .i64 0, .int .i64 0]) ?_ 0 _ rfl; (with_reducible repeat (first | refine blk_drewN ?_ _ | refine blk_drew ?_ | refine blk_alloc ?_ _)); exact BK287.out) hb); have n7_ := Aside0.mk (below_step (by repeat (first | (with_reducible first | exact HB.out | apply below_alloc | apply pw_below_drewN | apply below_drew1 | refine below_set ?_ GE262.out | refine below_set ?_ GE263.out | refine below_set ?_ GE269.out | refine below_set ?_ GE271.out | refine below_set ?_ GE287.out) | exact HB.out)) hb); clear HO280; clear HO283; clear BK262; clear BK263; clear BK269; clear BK271; clear BK287; clear HB; have HO280 := n0_; have HO283 := n1_; have BK262 := n2_; have BK263 := n3_; have BK269 := n4_; have BK271 := n5_; have BK287 := n6_; have HB := n7_; clear n0_ n1_ n2_ n3_ n4_ n5_ n6_ n7_; (try clear hb); (try clear hb2); (try clear hk); (try clear hi)))
                  go_meet
                  case rel => exact ⟨_, (!t288), (by first | rfl | (simp; done) | (simp [*]; done)), H', ⟨by have := HJ5.out; first | omega | exact Nat.le_refl _⟩, ⟨by (with_reducible repeat (first | apply Kd.R_alloc | apply Kd.R_drewN | apply Kd.R_drew)); exact Kd.R_mono HO283.out (fun _ hk => hk.2)⟩, ⟨by (with_reducible repeat (first | refine blk_drewN ?_ _ | refine blk_drew ?_ | refine blk_alloc ?_ _)); exact BK262.out⟩, ⟨by (with_reducible repeat (first | refine blk_drewN ?_ _ | refine blk_drew ?_ | refine blk_alloc ?_ _)); exact BK263.out⟩, ⟨by (with_reducible repeat (first | refine blk_drewN ?_ _ | refine blk_drew ?_ | refine blk_alloc ?_ _)); exact BK269.out⟩, ⟨by (with_reducible repeat (first | refine blk_drewN ?_ _ | refine blk_drew ?_ | refine blk_alloc ?_ _)); exact BK271.out⟩, ⟨by (with_reducible repeat (first | refine blk_drewN ?_ _ | refine blk_drew ?_ | refine blk_alloc ?_ _)); exact BK287.out⟩, ⟨by repeat (first | (with_reducible first | exact HB.out | apply below_alloc | apply pw_below_drewN | apply below_drew1 | refine below_set ?_ GE262.out | refine below_set ?_ GE263.out | refine below_set ?_ GE269.out | refine below_set ?_ GE271.out | refine below_set ?_ GE287.out) | exact HB.out)⟩⟩
                · rw [if_neg c60] at H
                  have c60b0 : (t286 == 0) = false := beq_eq_false_iff_ne.mpr c60
                  have c60b1 : (t286 != 0) = true := bne_iff_ne.mpr c60
                  (first | rw [c60b0] | (simp only [i64_w, i32_w]; rw [c60b0]) | skip)
                  have H' := Aside0.mk H
                  clear H
                  go_wp2
                  go_meet
                  case rel => exact ⟨_, (false), (by first | rfl | (simp; done) | (simp [*]; done)), H', ⟨by have := HJ5.out; first | omega | exact Nat.le_refl _⟩, ⟨by (with_reducible repeat (first | apply Kd.R_alloc | apply Kd.R_drewN | apply Kd.R_drew)); exact Kd.R_mono (Kd.R_far (p := ⟨gb287, 1, none⟩) (Kd.R_far (p := ⟨gb287, 0, none⟩) (Kd.R_types HO283.out BK287.out (by decide)) (fun _ hk => hk.2) (.int .i64 t284)) (fun _ hk => hk.2) (.int .i64 t285)) (fun _ hk => hk.1.2)⟩, ⟨by (with_reducible repeat (first | refine blk_drewN ?_ _ | refine blk_drew ?_ | refine blk_alloc ?_ _)); refine blk_far ?_ NB262_287.out _; (with_reducible repeat (first | refine blk_drewN ?_ _ | refine blk_drew ?_ | refine blk_alloc ?_ _)); refine blk_far ?_ NB262_287.out _; (with_reducible repeat (first | refine blk_drewN ?_ _ | refine blk_drew ?_ | refine blk_alloc ?_ _)); exact BK262.out⟩, ⟨by (with_reducible repeat (first | refine blk_drewN ?_ _ | refine blk_drew ?_ | refine blk_alloc ?_ _)); refine blk_far ?_ NB263_287.out _; (with_reducible repeat (first | refine blk_drewN ?_ _ | refine blk_drew ?_ | refine blk_alloc ?_ _)); refine blk_far ?_ NB263_287.out _; (with_reducible repeat (first | refine blk_drewN ?_ _ | refine blk_drew ?_ | refine blk_alloc ?_ _)); exact BK263.out⟩, ⟨by (with_reducible repeat (first | refine blk_drewN ?_ _ | refine blk_drew ?_ | refine blk_alloc ?_ _)); refine blk_far ?_ NB269_287.out _; (with_reducible repeat (first | refine blk_drewN ?_ _ | refine blk_drew ?_ | refine blk_alloc ?_ _)); refine blk_far ?_ NB269_287.out _; (with_reducible repeat (first | refine blk_drewN ?_ _ | refine blk_drew ?_ | refine blk_alloc ?_ _)); exact BK269.out⟩, ⟨by (with_reducible repeat (first | refine blk_drewN ?_ _ | refine blk_drew ?_ | refine blk_alloc ?_ _)); refine blk_far ?_ NB271_287.out _; (with_reducible repeat (first | refine blk_drewN ?_ _ | refine blk_drew ?_ | refine blk_alloc ?_ _)); refine blk_far ?_ NB271_287.out _; (with_reducible repeat (first | refine blk_drewN ?_ _ | refine blk_drew ?_ | refine blk_alloc ?_ _)); exact BK271.out⟩, ⟨by (with_reducible repeat (first | refine blk_drewN ?_ _ | refine blk_drew ?_ | refine blk_alloc ?_ _)); refine blk_put (cs := #[.int .i64 t284, .int .i64 0]) ?_ 1 _ rfl; (with_reducible repeat (first | refine blk_drewN ?_ _ | refine blk_drew ?_ | refine blk_alloc ?_ _)); refine blk_put (cs := #[.int .i64 0, .int .i64 0]) ?_ 0 _ rfl; (with_reducible repeat (first | refine blk_drewN ?_ _ | refine blk_drew ?_ | refine blk_alloc ?_ _)); exact BK287.out⟩, ⟨by repeat (first | (with_reducible first | exact HB.out | apply below_alloc | apply pw_below_drewN | apply below_drew1 | refine below_set ?_ GE262.out | refine below_set ?_ GE263.out | refine below_set ?_ GE269.out | refine below_set ?_ GE271.out | refine below_set ?_ GE287.out) | exact HB.out)⟩⟩
              case rest =>
                clear HC26
                try clear c1
                try clear c2
                try clear p2
                try clear c3
                try clear c5
                try clear c6
                try clear c8
                try clear c16
                try clear c18
                try clear c22
                try clear c22b0
                try clear c22b1
                try clear c23
                try clear c24
                try clear c27
                try clear c31
                try clear c32
                try clear c36
                try clear c37
                try clear c38
                try clear c55
                try clear c56
                try clear c57
                try clear c58
                try clear c60
                try clear c60b0
                try clear c60b1
                try clear c62
                try clear c63
                try clear c64
                try clear c65
                try clear c67
                try clear c68
                try clear c69
                try clear hcz12_0
                try clear hcz12_1
                try clear hcz12_2
                try clear hcz15_0
                try clear hcz15_1
                try clear hcz15_2
                try clear hcz17_0
                try clear hcz17_1
                try clear hcz17_2
                try clear hcz28_0
                try clear hcz28_1
                try clear hcz28_2
                try clear hcz33_0
                try clear hcz33_1
                try clear hcz34_0
                try clear hcz34_1
                try clear hcz34_2
                try clear hcz39_0
                try clear hcz39_1
                try clear hcz39_2
                try clear hcz52_0
                try clear hcz52_1
                try clear hcz52_2
                try clear hcz59_0
                try clear hcz59_1
                try clear hcz66_0
                try clear hcz66_1
                try clear hcz70_0
                try clear hcz70_1
                try clear hfz12_0
                try clear hfz12_1
                try clear hfz12_2
                try clear hfz15_0
                try clear hfz15_1
                try clear hfz15_2
                try clear hfz17_0
                try clear hfz17_1
                try clear hfz17_2
                try clear hfz28_0
                try clear hfz28_1
                try clear hfz28_2
                try clear hfz33_0
                try clear hfz33_1
                try clear hfz34_0
                try clear hfz34_1
                try clear hfz34_2
                try clear hfz39_0
                try clear hfz39_1
                try clear hfz39_2
                try clear hfz52_0
                try clear hfz52_1
                try clear hfz52_2
                try clear hfz59_0
                try clear hfz59_1
                try clear hfz66_0
                try clear hfz66_1
                try clear hfz70_0
                try clear hfz70_1
                obtain ⟨kq, x59_25, rfl, HA, HJ25, HO_272002, BK262, BK263, BK269, BK271, BK287, HB⟩ := hcut
                cases kq with
                | zero => exact absurd HA.out (by simp [isobathlaw05_ClockMore.j1])
                | succ kj25 =>
                  have H := HA.out
                  clear HA
                  simp only [isobathlaw05_ClockMore.j1] at H
                  by_cases c72 : x59_25 = true
                  · subst c72
                    have H1 : (some false) = some r := by rw [if_pos rfl] at H; exact H
                    clear H
                    have H := H1
                    clear H1
                    have hh_ := Option.some.inj H
                    rw [hr_.out] at hh_
                    cases hh_
                  · replace c72 := Bool.eq_false_iff.mpr c72
                    subst c72
                    have H1 : ((clock_At.f a0_0 (mn 1000000 (wrap64 (a0_1 + (wrap64 (a3))))) l0_2 a2).bind fun bt290 => (if bt290.2.2 = 0 then ((isobathlaw05_inside.f t266 t267 bt290.1 bt290.2.1).bind fun t293 => (isobathlaw05_ClockMore.j2 kj25 a2 a4 (!t293) a0_0 a0_1 l0_2 t266 t267)) else (isobathlaw05_ClockMore.j2 kj25 a2 a4 false a0_0 a0_1 l0_2 t266 t267))) = some r := by rw [if_neg (show ¬ (false = true) by decide)] at H; exact H
                    clear H
                    have H := H1
                    clear H1
                    obtain ⟨ji73, hji73⟩ : ∃ j_ : Int, (mn 1000000 (wrap64 (a0_1 + (wrap64 (a3))))) = j_ := ⟨_, rfl⟩
                    replace H : ((clock_At.f a0_0 (ji73) l0_2 a2).bind fun bt290 => (if bt290.2.2 = 0 then ((isobathlaw05_inside.f t266 t267 bt290.1 bt290.2.1).bind fun t293 => (isobathlaw05_ClockMore.j2 kj25 a2 a4 (!t293) a0_0 a0_1 l0_2 t266 t267)) else (isobathlaw05_ClockMore.j2 kj25 a2 a4 false a0_0 a0_1 l0_2 t266 t267))) = some r := by first | (rw [hji73] at H; exact H) | (simp only [hji73] at H ⊢; exact H)
                    have hji73_ : (if (wrap64 (a0_1 + (wrap64 (a3)))) < 1000000 then (wrap64 (a0_1 + (wrap64 (a3)))) else 1000000) = ji73 := hji73
                    replace H := Option.bind_eq_some_iff.mp H
                    obtain ⟨⟨t290, t291, t292⟩, A740, H⟩ := H
                    replace H : (if t292 = 0 then ((isobathlaw05_inside.f t266 t267 t290 t291).bind fun t293 => (isobathlaw05_ClockMore.j2 kj25 a2 a4 (!t293) a0_0 a0_1 l0_2 t266 t267)) else (isobathlaw05_ClockMore.j2 kj25 a2 a4 false a0_0 a0_1 l0_2 t266 t267)) = some r := H
                    have A74 := Aside0.mk A740
                    clear A740
                    have HC75 := Aside0.mk H
                    clear H
                    have hnb76 := NB262_263.out
                    have hnc76 := NB263_262.out
                    have hnb77 := NB262_269.out
                    have hnc77 := NB269_262.out
                    have hnb78 := NB262_271.out
                    have hnc78 := NB271_262.out
                    have hnb79 := NB262_287.out
                    have hnc79 := NB287_262.out
                    have hcz80_0 : wc.cell? ⟨gb262, 0, none⟩ = some (.int .i64 a0_0) := (blk_cell BK262.out 0).trans rfl
                    have hcz80_1 : wc.cell? ⟨gb262, 1, none⟩ = some (.int .i64 a0_1) := (blk_cell BK262.out 1).trans rfl
                    have hcz80_2 : wc.cell? ⟨gb262, 2, none⟩ = some (.slice A0_2 l0_2.length c0_2) := (blk_cell BK262.out 2).trans rfl
                    have hfz80_0 := blk_frozen BK262.out 0
                    have hfz80_1 := blk_frozen BK262.out 1
                    have hfz80_2 := blk_frozen BK262.out 2
                    go_upto_region 14 with (first | ((with_reducible refine gate_dst (N := 15) rfl ?_); (try (refine gate_guard (by rfl) ?_; dsimp only)); refine box_event ?hg (N := 15) ?hd (cs := #[.int .i64 0, .int .i64 0, .slice none 0 0]) (t := 30) ?hr ?_; (case hd => rfl); (case hg => rfl); (case hr => first | (go_simp; done) | (go_simp; rfl)); intro gb289 hg w81 hbox hb; have n0_ := Aside0.mk (Kd.R_below (by (with_reducible repeat (first | apply Kd.R_alloc | apply Kd.R_drewN | apply Kd.R_drew)); exact HO_272002.out) hb); have n1_ := Aside0.mk (blk_below (g := gb262) (o := .cells #[.int .i64 a0_0, .int .i64 a0_1, .slice A0_2 l0_2.length c0_2] 30 (0, 0)) (by exact BK262.out) hb); have n2_ := Aside0.mk (blk_below (g := gb263) (o := .cells #[.int .i64 a1_0, .int .i64 a1_1, .int .i64 a1_2, .int .i64 a1_3, .int .i64 a1_4, .int .i64 a1_5, .int .i64 a1_6, .int .i64 a1_7] 46 (0, 0)) (by exact BK263.out) hb); have n3_ := Aside0.mk (blk_below (g := gb269) (o := .cells #[.int .i64 t266, .int .i64 t267] 35 (0, 0)) (by exact BK269.out) hb); have n4_ := Aside0.mk (blk_below (g := gb271) (o := .cells #[.int .i64 a0_0, .int .i64 a0_1, .slice Ao50 y281.length co50] 30 (0, 0)) (by exact BK271.out) hb); have n5_ := Aside0.mk (blk_below (g := gb287) (o := .cells #[.int .i64 t284, .int .i64 t285] 35 (0, 0)) (by exact BK287.out) hb); have n6_ := Aside0.mk (below_step (by repeat (first | (with_reducible first | exact HB.out | apply below_alloc | apply pw_below_drewN | apply below_drew1 | refine below_set ?_ GE262.out | refine below_set ?_ GE263.out | refine below_set ?_ GE269.out | refine below_set ?_ GE271.out | refine below_set ?_ GE287.out) | exact HB.out)) hb); have n7_ := Aside0.mk (hbox); have n8_ := Aside0.mk ((by rw [hg]; exact (below_size (by repeat (first | (with_reducible first | exact HB.out | apply below_alloc | apply pw_below_drewN | apply below_drew1 | refine below_set ?_ GE262.out | refine below_set ?_ GE263.out | refine below_set ?_ GE269.out | refine below_set ?_ GE271.out | refine below_set ?_ GE287.out) | exact HB.out))) : w.heap.size ≤ gb289)); have n9_ := Aside0.mk ((by rw [hg]; exact (below_size (by repeat (first | (with_reducible first | exact HB.out | apply below_alloc | apply pw_below_drewN | apply below_drew1 | refine below_set ?_ GE262.out | refine below_set ?_ GE263.out | refine below_set ?_ GE269.out | refine below_set ?_ GE271.out | refine below_set ?_ GE287.out) | exact HB.out))) : w.heap.size ≤ gb289)); have n10_ := Aside0.mk ((by rw [hg]; exact Nat.ne_of_lt (blk_lt (g := gb262) (o := .cells #[.int .i64 a0_0, .int .i64 a0_1, .slice A0_2 l0_2.length c0_2] 30 (0, 0)) (by exact BK262.out)) : gb262 ≠ gb289)); have n11_ := Aside0.mk ((by rw [hg]; exact Nat.ne_of_gt (blk_lt (g := gb262) (o := .cells #[.int .i64 a0_0, .int .i64 a0_1, .slice A0_2 l0_2.length c0_2] 30 (0, 0)) (by exact BK262.out)) : gb289 ≠ gb262)); have n12_ := Aside0.mk ((by rw [hg]; exact Nat.ne_of_lt (blk_lt (g := gb263) (o := .cells #[.int .i64 a1_0, .int .i64 a1_1, .int .i64 a1_2, .int .i64 a1_3, .int .i64 a1_4, .int .i64 a1_5, .int .i64 a1_6, .int .i64 a1_7] 46 (0, 0)) (by exact BK263.out)) : gb263 ≠ gb289)); have n13_ := Aside0.mk ((by rw [hg]; exact Nat.ne_of_gt (blk_lt (g := gb263) (o := .cells #[.int .i64 a1_0, .int .i64 a1_1, .int .i64 a1_2, .int .i64 a1_3, .int .i64 a1_4, .int .i64 a1_5, .int .i64 a1_6, .int .i64 a1_7] 46 (0, 0)) (by exact BK263.out)) : gb289 ≠ gb263)); have n14_ := Aside0.mk ((by rw [hg]; exact Nat.ne_of_lt (blk_lt (g := gb269) (o := .cells #[.int .i64 t266, .int .i64 t267] 35 (0, 0)) (by exact BK269.out)) : gb269 ≠ gb289)); have n15_ := Aside0.mk ((by rw [hg]; exact Nat.ne_of_gt (blk_lt (g := gb269) (o := .cells #[.int .i64 t266, .int .i64 t267] 35 (0, 0)) (by exact BK269.out)) : gb289 ≠ gb269)); have n16_ := Aside0.mk ((by rw [hg]; exact Nat.ne_of_lt (blk_lt (g := gb271) (o := .cells #[.int .i64 a0_0, .int .i64 a0_1, .slice Ao50 y281.length co50] 30 (0, 0)) (by exact BK271.out)) : gb271 ≠ gb289)); have n17_ := Aside0.mk ((by rw [hg]; exact Nat.ne_of_gt (blk_lt (g := gb271) (o := .cells #[.int .i64 a0_0, .int .i64 a0_1, .slice Ao50 y281.length co50] 30 (0, 0)) (by exact BK271.out)) : gb289 ≠ gb271)); have n18_ := Aside0.mk ((by rw [hg]; exact Nat.ne_of_lt (blk_lt (g := gb287) (o := .cells #[.int .i64 t284, .int .i64 t285] 35 (0, 0)) (by exact BK287.out)) : gb287 ≠ gb289)); have n19_ := Aside0.mk ((by rw [hg]; exact Nat.ne_of_gt (blk_lt (g := gb287) (o := .cells #[.int .i64 t284, .int .i64 t285] 35 (0, 0)) (by exact BK287.out)) : gb289 ≠ gb287)); clear HO_272002; clear BK262; clear BK263; clear BK269; clear BK271; clear BK287; clear HB; have HO_272002 := n0_; have BK262 := n1_; have BK263 := n2_; have BK269 := n3_; have BK271 := n4_; have BK287 := n5_; have HB := n6_; have BK289 := n7_; have GW289 := n8_; have GE289 := n9_; have NB262_289 := n10_; have NB289_262 := n11_; have NB263_289 := n12_; have NB289_263 := n13_; have NB269_289 := n14_; have NB289_269 := n15_; have NB271_289 := n16_; have NB289_271 := n17_; have NB287_289 := n18_; have NB289_287 := n19_; clear n0_ n1_ n2_ n3_ n4_ n5_ n6_ n7_ n8_ n9_ n10_ n11_ n12_ n13_ n14_ n15_ n16_ n17_ n18_ n19_; clear hb hbox hg; have hnb82 := NB289_262.out; have hnc82 := NB262_289.out; have hnb83 := NB289_263.out; have hnc83 := NB263_289.out; have hnb84 := NB289_269.out; have hnc84 := NB269_289.out; have hnb85 := NB289_271.out; have hnc85 := NB271_289.out; have hnb86 := NB289_287.out; have hnc86 := NB287_289.out; have hcz87_0 : w81.cell? ⟨gb289, 0, none⟩ = some (.int .i64 0) := (blk_cell BK289.out 0).trans rfl; have hcz87_1 : w81.cell? ⟨gb289, 1, none⟩ = some (.int .i64 0) := (blk_cell BK289.out 1).trans rfl; have hcz87_2 : w81.cell? ⟨gb289, 2, none⟩ = some (.slice none 0 0) := (blk_cell BK289.out 2).trans rfl; have hfz87_0 := blk_frozen BK289.out 0; have hfz87_1 := blk_frozen BK289.out 1; have hfz87_2 := blk_frozen BK289.out 2; have hcz88_0 : w81.cell? ⟨gb262, 0, none⟩ = some (.int .i64 a0_0) := (blk_cell BK262.out 0).trans rfl; have hcz88_1 : w81.cell? ⟨gb262, 1, none⟩ = some (.int .i64 a0_1) := (blk_cell BK262.out 1).trans rfl; have hcz88_2 : w81.cell? ⟨gb262, 2, none⟩ = some (.slice A0_2 l0_2.length c0_2) := (blk_cell BK262.out 2).trans rfl; have hfz88_0 := blk_frozen BK262.out 0; have hfz88_1 := blk_frozen BK262.out 1; have hfz88_2 := blk_frozen BK262.out 2; have hcq0_ : ((((w81.setCell ⟨gb289, 0, none⟩ (.int .i64 a0_0)).setCell ⟨gb289, 1, none⟩ (.int .i64 a0_1)).setCell ⟨gb289, 2, none⟩ (.slice A0_2 l0_2.length c0_2)).setCell ⟨gb289, 1, none⟩ (.int .i64 ji73)).cell? ⟨gb289, 0, none⟩ = some (.int .i64 a0_0) := (blk_cell (blk_put (blk_put (blk_put (blk_put BK289.out 0 (.int .i64 a0_0) rfl) 1 (.int .i64 a0_1) rfl) 2 (.slice A0_2 l0_2.length c0_2) rfl) 1 (.int .i64 ji73) rfl) 0).trans rfl; have hcq1_ : ((((w81.setCell ⟨gb289, 0, none⟩ (.int .i64 a0_0)).setCell ⟨gb289, 1, none⟩ (.int .i64 a0_1)).setCell ⟨gb289, 2, none⟩ (.slice A0_2 l0_2.length c0_2)).setCell ⟨gb289, 1, none⟩ (.int .i64 ji73)).cell? ⟨gb289, 1, none⟩ = some (.int .i64 ji73) := (blk_cell (blk_put (blk_put (blk_put (blk_put BK289.out 0 (.int .i64 a0_0) rfl) 1 (.int .i64 a0_1) rfl) 2 (.slice A0_2 l0_2.length c0_2) rfl) 1 (.int .i64 ji73) rfl) 1).trans rfl; have hcq2_ : ((((w81.setCell ⟨gb289, 0, none⟩ (.int .i64 a0_0)).setCell ⟨gb289, 1, none⟩ (.int .i64 a0_1)).setCell ⟨gb289, 2, none⟩ (.slice A0_2 l0_2.length c0_2)).setCell ⟨gb289, 1, none⟩ (.int .i64 ji73)).cell? ⟨gb289, 2, none⟩ = some (.slice A0_2 l0_2.length c0_2) := (blk_cell (blk_put (blk_put (blk_put (blk_put BK289.out 0 (.int .i64 a0_0) rfl) 1 (.int .i64 a0_1) rfl) 2 (.slice A0_2 l0_2.length c0_2) rfl) 1 (.int .i64 ji73) rfl) 2).trans rfl) | ((with_reducible refine gate_callee (f := 22) rfl ?_); refine goesL_ (some 71) rfl rfl Try.func22 (by kernel_rfl) rfl #[.agg #[.int .i64 a0_0, .int .i64 ji73, .slice A0_2 l0_2.length c0_2], .int .i64 a2] rfl (by (try simp only [List.map_toArray, List.map_cons, List.map_nil]); first | done | (simp only [hji73]; rfl) | rfl | (simp only [List.length_drop, List.length_take]; rfl)) ?_; (with_reducible refine (clock_At.calls a0_0 ji73 _ _ l0_2 a2 t290 t291 t292 _ ?side1 ?side2 A74.out).mono ?_); (case side1 => exact Kd.C_below HR0_2.out (by repeat (first | (with_reducible first | exact HB.out | apply below_alloc | apply pw_below_drewN | apply below_drew1 | refine below_set ?_ GE262.out | refine below_set ?_ GE263.out | refine below_set ?_ GE269.out | refine below_set ?_ GE271.out | refine below_set ?_ GE287.out | refine below_set ?_ GE289.out) | exact HB.out))); (case side2 => exact HC0_2.out); rintro e w89 ⟨rfl, hb⟩; refine ⟨_, rfl, ?_⟩; have n0_ := Aside0.mk (Kd.R_below (by (with_reducible repeat (first | apply Kd.R_alloc | apply Kd.R_drewN | apply Kd.R_drew)); exact (Kd.R_mono (Kd.R_far (p := ⟨gb289, 1, none⟩) (Kd.R_far (p := ⟨gb289, 2, none⟩) (Kd.R_far (p := ⟨gb289, 1, none⟩) (Kd.R_far (p := ⟨gb289, 0, none⟩) (Kd.R_types HO_272002.out BK289.out (by decide)) (fun _ hk => hk.2) (.int .i64 a0_0)) (fun _ hk => hk.2) (.int .i64 a0_1)) (fun _ hk => hk.2) (.slice A0_2 l0_2.length c0_2)) (fun _ hk => hk.2) (.int .i64 ji73)) (fun _ h_ => h_.1))) hb); have n1_ := Aside0.mk (blk_below (g := gb262) (o := .cells #[.int .i64 a0_0, .int .i64 a0_1, .slice A0_2 l0_2.length c0_2] 30 (0, 0)) (by (with_reducible repeat (first | refine blk_drewN ?_ _ | refine blk_drew ?_ | refine blk_alloc ?_ _)); refine blk_far ?_ NB262_289.out _; (with_reducible repeat (first | refine blk_drewN ?_ _ | refine blk_drew ?_ | refine blk_alloc ?_ _)); refine blk_far ?_ NB262_289.out _; (with_reducible repeat (first | refine blk_drewN ?_ _ | refine blk_drew ?_ | refine blk_alloc ?_ _)); refine blk_far ?_ NB262_289.out _; (with_reducible repeat (first | refine blk_drewN ?_ _ | refine blk_drew ?_ | refine blk_alloc ?_ _)); refine blk_far ?_ NB262_289.out _; (with_reducible repeat (first | refine blk_drewN ?_ _ | refine blk_drew ?_ | refine blk_alloc ?_ _)); exact BK262.out) hb); have n2_ := Aside0.mk (blk_below (g := gb263) (o := .cells #[.int .i64 a1_0, .int .i64 a1_1, .int .i64 a1_2, .int .i64 a1_3, .int .i64 a1_4, .int .i64 a1_5, .int .i64 a1_6, .int .i64 a1_7] 46 (0, 0)) (by (with_reducible repeat (first | refine blk_drewN ?_ _ | refine blk_drew ?_ | refine blk_alloc ?_ _)); refine blk_far ?_ NB263_289.out _; (with_reducible repeat (first | refine blk_drewN ?_ _ | refine blk_drew ?_ | refine blk_alloc ?_ _)); refine blk_far ?_ NB263_289.out _; (with_reducible repeat (first | refine blk_drewN ?_ _ | refine blk_drew ?_ | refine blk_alloc ?_ _)); refine blk_far ?_ NB263_289.out _; (with_reducible repeat (first | refine blk_drewN ?_ _ | refine blk_drew ?_ | refine blk_alloc ?_ _)); refine blk_far ?_ NB263_289.out _; (with_reducible repeat (first | refine blk_drewN ?_ _ | refine blk_drew ?_ | refine blk_alloc ?_ _)); exact BK263.out) hb); have n3_ := Aside0.mk (blk_below (g := gb269) (o := .cells #[.int .i64 t266, .int .i64 t267] 35 (0, 0)) (by (with_reducible repeat (first | refine blk_drewN ?_ _ | refine blk_drew ?_ | refine blk_alloc ?_ _)); refine blk_far ?_ NB269_289.out _; (with_reducible repeat (first | refine blk_drewN ?_ _ | refine blk_drew ?_ | refine blk_alloc ?_ _)); refine blk_far ?_ NB269_289.out _; (with_reducible repeat (first | refine blk_drewN ?_ _ | refine blk_drew ?_ | refine blk_alloc ?_ _)); refine blk_far ?_ NB269_289.out _; (with_reducible repeat (first | refine blk_drewN ?_ _ | refine blk_drew ?_ | refine blk_alloc ?_ _)); refine blk_far ?_ NB269_289.out _; (with_reducible repeat (first | refine blk_drewN ?_ _ | refine blk_drew ?_ | refine blk_alloc ?_ _)); exact BK269.out) hb); have n4_ := Aside0.mk (blk_below (g := gb271) (o := .cells #[.int .i64 a0_0, .int .i64 a0_1, .slice Ao50 y281.length co50] 30 (0, 0)) (by (with_reducible repeat (first | refine blk_drewN ?_ _ | refine blk_drew ?_ | refine blk_alloc ?_ _)); refine blk_far ?_ NB271_289.out _; (with_reducible repeat (first | refine blk_drewN ?_ _ | refine blk_drew ?_ | refine blk_alloc ?_ _)); refine blk_far ?_ NB271_289.out _; (with_reducible repeat (first | refine blk_drewN ?_ _ | refine blk_drew ?_ | refine blk_alloc ?_ _)); refine blk_far ?_ NB271_289.out _; (with_reducible repeat (first | refine blk_drewN ?_ _ | refine blk_drew ?_ | refine blk_alloc ?_ _)); refine blk_far ?_ NB271_289.out _; (with_reducible repeat (first | refine blk_drewN ?_ _ | refine blk_drew ?_ | refine blk_alloc ?_ _)); exact BK271.out) hb); have n5_ := Aside0.mk (blk_below (g := gb287) (o := .cells #[.int .i64 t284, .int .i64 t285] 35 (0, 0)) (by (with_reducible repeat (first | refine blk_drewN ?_ _ | refine blk_drew ?_ | refine blk_alloc ?_ _)); refine blk_far ?_ NB287_289.out _; (with_reducible repeat (first | refine blk_drewN ?_ _ | refine blk_drew ?_ | refine blk_alloc ?_ _)); refine blk_far ?_ NB287_289.out _; (with_reducible repeat (first | refine blk_drewN ?_ _ | refine blk_drew ?_ | refine blk_alloc ?_ _)); refine blk_far ?_ NB287_289.out _; (with_reducible repeat (first | refine blk_drewN ?_ _ | refine blk_drew ?_ | refine blk_alloc ?_ _)); refine blk_far ?_ NB287_289.out _; (with_reducible repeat (first | refine blk_drewN ?_ _ | refine blk_drew ?_ | refine blk_alloc ?_ _)); exact BK287.out) hb); have n6_ := Aside0.mk (blk_below (g := gb289) (o := .cells #[.int .i64 a0_0, .int .i64 ji73, .slice A0_2 l0_2.length c0_2] 30 (0, 0)) (by (with_reducible repeat (first | refine blk_drewN ?_ _ | refine blk_drew ?_ | refine blk_alloc ?_ _)); refine blk_put (cs := #[.int .i64 a0_0, .int .i64 a0_1, .slice A0_2 l0_2.length c0_2]) ?_ 1 _ rfl; (with_reducible repeat (first | refine blk_drewN ?_ _ | refine blk_drew ?_ | refine blk_alloc ?_ _)); refine blk_put (cs := #[.int .i64 a0_0, .int .i64 a0_1, .slice none 0 0]) ?_ 2 _ rfl; (with_reducible repeat (first | refine blk_drewN ?_ _ | refine blk_drew ?_ | refine blk_alloc ?_ _)); refine blk_put (cs := #[.int .i64 a0_0, .int .i64 0, .slice none 0 0]) ?_ 1 _ rfl; (with_reducible repeat (first | refine blk_drewN ?_ _ | refine blk_drew ?_ | refine blk_alloc ?_ _)); refine blk_put (cs := #[.int .i64 0, .int .i64 0, .slice none 0 0]) ?_ 0 _ rfl; (with_reducible repeat (first | refine blk_drewN ?_ _ | refine blk_drew ?_ | refine blk_alloc ?_ _)); exact BK289.out) hb); have n7_ := Aside0.mk (below_step (by repeat (first | (with_reducible first | exact HB.out | apply below_alloc | apply pw_below_drewN | apply below_drew1 | refine below_set ?_ GE262.out | refine below_set ?_ GE263.out | refine below_set ?_ GE269.out | refine below_set ?_ GE271.out | refine below_set ?_ GE287.out | refine below_set ?_ GE289.out) | exact HB.out)) hb); clear HO_272002; clear BK262; clear BK263; clear BK269; clear BK271; clear BK287; clear BK289; clear HB; have HO_272002 := n0_; have BK262 := n1_; have BK263 := n2_; have BK269 := n3_; have BK271 := n4_; have BK287 := n5_; have BK289 := n6_; have HB := n7_; clear n0_ n1_ n2_ n3_ n4_ n5_ n6_ n7_; (try clear hb); (try clear hb2); (try clear hk); (try clear hi); have hnb90 := NB287_263.out; have hnc90 := NB263_287.out; have hnb91 := NB287_269.out; have hnc91 := NB269_287.out; have hnb92 := NB287_271.out; have hnc92 := NB271_287.out; have hcz93_0 : w89.cell? ⟨gb287, 0, none⟩ = some (.int .i64 t284) := (blk_cell BK287.out 0).trans rfl; have hcz93_1 : w89.cell? ⟨gb287, 1, none⟩ = some (.int .i64 t285) := (blk_cell BK287.out 1).trans rfl; have hfz93_0 := blk_frozen BK287.out 0; have hfz93_1 := blk_frozen BK287.out 1))
                    (try simp only [Act.put, List.setIfInBounds_toArray, List.set_cons_zero, List.set_cons_succ])
                    go_cut [81] (fun v81 wc => ∃ (kq : Nat) (x81_74 : Bool), v81 = .bool x81_74 ∧ Aside0 (isobathlaw05_ClockMore.j2 kq a2 a4 x81_74 a0_0 a0_1 l0_2 t266 t267 = some r) ∧ Aside0 (kq ≤ kj25) ∧ Aside0 (Kd.R k46 46 wc w.heap.size (fun k_ => k_ ≠ gb263) (.slice Ao50 y281.length co50) y281) ∧ Aside0 (wc.heap[gb262]? = some (.cells #[.int .i64 a0_0, .int .i64 a0_1, (.slice A0_2 l0_2.length c0_2)] 30 (0, 0))) ∧ Aside0 (wc.heap[gb263]? = some (.cells #[.int .i64 a1_0, .int .i64 a1_1, .int .i64 a1_2, .int .i64 a1_3, .int .i64 a1_4, .int .i64 a1_5, .int .i64 a1_6, .int .i64 a1_7] 46 (0, 0))) ∧ Aside0 (wc.heap[gb269]? = some (.cells #[.int .i64 t266, .int .i64 t267] 35 (0, 0))) ∧ Aside0 (wc.heap[gb271]? = some (.cells #[.int .i64 a0_0, .int .i64 a0_1, (.slice Ao50 y281.length co50)] 30 (0, 0))) ∧ Aside0 (wc.heap[gb287]? = some (.cells #[.int .i64 t290, .int .i64 t291] 35 (0, 0))) ∧ Aside0 (wc.heap[gb289]? = some (.cells #[.int .i64 a0_0, .int .i64 ji73, (.slice A0_2 l0_2.length c0_2)] 30 (0, 0))) ∧ Aside0 (Below w.heap.size w wc))
                    case first =>
                      have H := HC75.out
                      clear HC75
                      by_cases c94 : t292 = 0
                      · rw [if_pos c94] at H
                        have c94b0 : (t292 == 0) = true := beq_iff_eq.mpr c94
                        have c94b1 : (t292 != 0) = false := bne_eq_false_iff_eq.mpr c94
                        clear c94
                        (first | rw [c94b0] | (simp only [i64_w, i32_w]; rw [c94b0]) | skip)
                        replace H := Option.bind_eq_some_iff.mp H
                        obtain ⟨t293, A950, H⟩ := H
                        replace H : (isobathlaw05_ClockMore.j2 kj25 a2 a4 (!t293) a0_0 a0_1 l0_2 t266 t267) = some r := H
                        have A95 := Aside0.mk A950
                        clear A950
                        have H' := Aside0.mk H
                        clear H
                        have hnb96 := NB269_262.out
                        have hnc96 := NB262_269.out
                        have hnb97 := NB269_263.out
                        have hnc97 := NB263_269.out
                        have hnb98 := NB269_271.out
                        have hnc98 := NB271_269.out
                        have hnb99 := NB269_287.out
                        have hnc99 := NB287_269.out
                        have hnb100 := NB269_289.out
                        have hnc100 := NB289_269.out
                        have hcz101_0 : w89.cell? ⟨gb269, 0, none⟩ = some (.int .i64 t266) := (blk_cell BK269.out 0).trans rfl
                        have hcz101_1 : w89.cell? ⟨gb269, 1, none⟩ = some (.int .i64 t267) := (blk_cell BK269.out 1).trans rfl
                        have hfz101_0 := blk_frozen BK269.out 0
                        have hfz101_1 := blk_frozen BK269.out 1
                        have hnb102 := NB287_262.out
                        have hnc102 := NB262_287.out
                        have hnb103 := NB287_263.out
                        have hnc103 := NB263_287.out
                        have hnb104 := NB287_271.out
                        have hnc104 := NB271_287.out
                        have hnb105 := NB287_289.out
                        have hnc105 := NB289_287.out
                        have hcz106_0 : w89.cell? ⟨gb287, 0, none⟩ = some (.int .i64 t284) := (blk_cell BK287.out 0).trans rfl
                        have hcz106_1 : w89.cell? ⟨gb287, 1, none⟩ = some (.int .i64 t285) := (blk_cell BK287.out 1).trans rfl
                        have hfz106_0 := blk_frozen BK287.out 0
                        have hfz106_1 := blk_frozen BK287.out 1
                        go_wp2_with (first | (go_at_call 23; (with_reducible refine (isobathlaw05_inside.calls t266 t267 t290 t291 t293 _ A95.out).mono ?_); rintro e w107 ⟨rfl, hb⟩; have n0_ := Aside0.mk (Kd.R_below (by (with_reducible repeat (first | apply Kd.R_alloc | apply Kd.R_drewN | apply Kd.R_drew)); exact (Kd.R_mono (Kd.R_far (p := ⟨gb287, 1, none⟩) (Kd.R_far (p := ⟨gb287, 0, none⟩) (Kd.R_types HO_272002.out BK287.out (by decide)) (fun _ hk => hk.2) (.int .i64 t290)) (fun _ hk => hk.2) (.int .i64 t291)) (fun _ h_ => h_.1))) hb); have n1_ := Aside0.mk (blk_below (g := gb262) (o := .cells #[.int .i64 a0_0, .int .i64 a0_1, .slice A0_2 l0_2.length c0_2] 30 (0, 0)) (by (with_reducible repeat (first | refine blk_drewN ?_ _ | refine blk_drew ?_ | refine blk_alloc ?_ _)); refine blk_far ?_ NB262_287.out _; (with_reducible repeat (first | refine blk_drewN ?_ _ | refine blk_drew ?_ | refine blk_alloc ?_ _)); refine blk_far ?_ NB262_287.out _; (with_reducible repeat (first | refine blk_drewN ?_ _ | refine blk_drew ?_ | refine blk_alloc ?_ _)); exact BK262.out) hb); have n2_ := Aside0.mk (blk_below (g := gb263) (o := .cells #[.int .i64 a1_0, .int .i64 a1_1, .int .i64 a1_2, .int .i64 a1_3, .int .i64 a1_4, .int .i64 a1_5, .int .i64 a1_6, .int .i64 a1_7] 46 (0, 0)) (by (with_reducible repeat (first | refine blk_drewN ?_ _ | refine blk_drew ?_ | refine blk_alloc ?_ _)); refine blk_far ?_ NB263_287.out _; (with_reducible repeat (first | refine blk_drewN ?_ _ | refine blk_drew ?_ | refine blk_alloc ?_ _)); refine blk_far ?_ NB263_287.out _; (with_reducible repeat (first | refine blk_drewN ?_ _ | refine blk_drew ?_ | refine blk_alloc ?_ _)); exact BK263.out) hb); have n3_ := Aside0.mk (blk_below (g := gb269) (o := .cells #[.int .i64 t266, .int .i64 t267] 35 (0, 0)) (by (with_reducible repeat (first | refine blk_drewN ?_ _ | refine blk_drew ?_ | refine blk_alloc ?_ _)); refine blk_far ?_ NB269_287.out _; (with_reducible repeat (first | refine blk_drewN ?_ _ | refine blk_drew ?_ | refine blk_alloc ?_ _)); refine blk_far ?_ NB269_287.out _; (with_reducible repeat (first | refine blk_drewN ?_ _ | refine blk_drew ?_ | refine blk_alloc ?_ _)); exact BK269.out) hb); have n4_ := Aside0.mk (blk_below (g := gb271) (o := .cells #[.int .i64 a0_0, .int .i64 a0_1, .slice Ao50 y281.length co50] 30 (0, 0)) (by (with_reducible repeat (first | refine blk_drewN ?_ _ | refine blk_drew ?_ | refine blk_alloc ?_ _)); refine blk_far ?_ NB271_287.out _; (with_reducible repeat (first | refine blk_drewN ?_ _ | refine blk_drew ?_ | refine blk_alloc ?_ _)); refine blk_far ?_ NB271_287.out _; (with_reducible repeat (first | refine blk_drewN ?_ _ | refine blk_drew ?_ | refine blk_alloc ?_ _)); exact BK271.out) hb); have n5_ := Aside0.mk (blk_below (g := gb287) (o := .cells #[.int .i64 t290, .int .i64 t291] 35 (0, 0)) (by (with_reducible repeat (first | refine blk_drewN ?_ _ | refine blk_drew ?_ | refine blk_alloc ?_ _)); refine blk_put (cs := #[.int .i64 t290, .int .i64 t285]) ?_ 1 _ rfl; (with_reducible repeat (first | refine blk_drewN ?_ _ | refine blk_drew ?_ | refine blk_alloc ?_ _)); refine blk_put (cs := #[.int .i64 t284, .int .i64 t285]) ?_ 0 _ rfl; (with_reducible repeat (first | refine blk_drewN ?_ _ | refine blk_drew ?_ | refine blk_alloc ?_ _)); exact BK287.out) hb); have n6_ := Aside0.mk (blk_below (g := gb289) (o := .cells #[.int .i64 a0_0, .int .i64 ji73, .slice A0_2 l0_2.length c0_2] 30 (0, 0)) (by (with_reducible repeat (first | refine blk_drewN ?_ _ | refine blk_drew ?_ | refine blk_alloc ?_ _)); refine blk_far ?_ NB289_287.out _; (with_reducible repeat (first | refine blk_drewN ?_ _ | refine blk_drew ?_ | refine blk_alloc ?_ _)); refine blk_far ?_ NB289_287.out _; (with_reducible repeat (first | refine blk_drewN ?_ _ | refine blk_drew ?_ | refine blk_alloc ?_ _)); exact BK289.out) hb); have n7_ := Aside0.mk (below_step (by repeat (first | (with_reducible first | exact HB.out | apply below_alloc | apply pw_below_drewN | apply below_drew1 | refine below_set ?_ GE262.out | refine below_set ?_ GE263.out | refine below_set ?_ GE269.out | refine below_set ?_ GE271.out | refine below_set ?_ GE287.out | refine below_set ?_ GE289.out) | exact HB.out)) hb); clear HO_272002; clear BK262; clear BK263; clear BK269; clear BK271; clear BK287; clear BK289; clear HB; have HO_272002 := n0_; have BK262 := n1_; have BK263 := n2_; have BK269 := n3_; have BK271 := n4_; have BK287 := n5_; have BK289 := n6_; have HB := n7_; clear n0_ n1_ n2_ n3_ n4_ n5_ n6_ n7_; (try clear hb); (try clear hb2); (try clear hk); (try clear hi)))
                        go_meet
                        case rel => exact ⟨_, (!t293), (by first | rfl | (simp; done) | (simp [*]; done)), H', ⟨by have := HJ5.out; have := HJ25.out; first | omega | exact Nat.le_refl _⟩, ⟨by (with_reducible repeat (first | apply Kd.R_alloc | apply Kd.R_drewN | apply Kd.R_drew)); exact HO_272002.out⟩, ⟨by (with_reducible repeat (first | refine blk_drewN ?_ _ | refine blk_drew ?_ | refine blk_alloc ?_ _)); exact BK262.out⟩, ⟨by (with_reducible repeat (first | refine blk_drewN ?_ _ | refine blk_drew ?_ | refine blk_alloc ?_ _)); exact BK263.out⟩, ⟨by (with_reducible repeat (first | refine blk_drewN ?_ _ | refine blk_drew ?_ | refine blk_alloc ?_ _)); exact BK269.out⟩, ⟨by (with_reducible repeat (first | refine blk_drewN ?_ _ | refine blk_drew ?_ | refine blk_alloc ?_ _)); exact BK271.out⟩, ⟨by (with_reducible repeat (first | refine blk_drewN ?_ _ | refine blk_drew ?_ | refine blk_alloc ?_ _)); exact BK287.out⟩, ⟨by (with_reducible repeat (first | refine blk_drewN ?_ _ | refine blk_drew ?_ | refine blk_alloc ?_ _)); exact BK289.out⟩, ⟨by repeat (first | (with_reducible first | exact HB.out | apply below_alloc | apply pw_below_drewN | apply below_drew1 | refine below_set ?_ GE262.out | refine below_set ?_ GE263.out | refine below_set ?_ GE269.out | refine below_set ?_ GE271.out | refine below_set ?_ GE287.out | refine below_set ?_ GE289.out) | exact HB.out)⟩⟩
                      · rw [if_neg c94] at H
                        have c94b0 : (t292 == 0) = false := beq_eq_false_iff_ne.mpr c94
                        have c94b1 : (t292 != 0) = true := bne_iff_ne.mpr c94
                        (first | rw [c94b0] | (simp only [i64_w, i32_w]; rw [c94b0]) | skip)
                        have H' := Aside0.mk H
                        clear H
                        go_wp2
                        go_meet
                        case rel => exact ⟨_, (false), (by first | rfl | (simp; done) | (simp [*]; done)), H', ⟨by have := HJ5.out; have := HJ25.out; first | omega | exact Nat.le_refl _⟩, ⟨by (with_reducible repeat (first | apply Kd.R_alloc | apply Kd.R_drewN | apply Kd.R_drew)); exact Kd.R_mono (Kd.R_far (p := ⟨gb287, 1, none⟩) (Kd.R_far (p := ⟨gb287, 0, none⟩) (Kd.R_types HO_272002.out BK287.out (by decide)) (fun _ hk => hk.2) (.int .i64 t290)) (fun _ hk => hk.2) (.int .i64 t291)) (fun _ hk => hk.1)⟩, ⟨by (with_reducible repeat (first | refine blk_drewN ?_ _ | refine blk_drew ?_ | refine blk_alloc ?_ _)); refine blk_far ?_ NB262_287.out _; (with_reducible repeat (first | refine blk_drewN ?_ _ | refine blk_drew ?_ | refine blk_alloc ?_ _)); refine blk_far ?_ NB262_287.out _; (with_reducible repeat (first | refine blk_drewN ?_ _ | refine blk_drew ?_ | refine blk_alloc ?_ _)); exact BK262.out⟩, ⟨by (with_reducible repeat (first | refine blk_drewN ?_ _ | refine blk_drew ?_ | refine blk_alloc ?_ _)); refine blk_far ?_ NB263_287.out _; (with_reducible repeat (first | refine blk_drewN ?_ _ | refine blk_drew ?_ | refine blk_alloc ?_ _)); refine blk_far ?_ NB263_287.out _; (with_reducible repeat (first | refine blk_drewN ?_ _ | refine blk_drew ?_ | refine blk_alloc ?_ _)); exact BK263.out⟩, ⟨by (with_reducible repeat (first | refine blk_drewN ?_ _ | refine blk_drew ?_ | refine blk_alloc ?_ _)); refine blk_far ?_ NB269_287.out _; (with_reducible repeat (first | refine blk_drewN ?_ _ | refine blk_drew ?_ | refine blk_alloc ?_ _)); refine blk_far ?_ NB269_287.out _; (with_reducible repeat (first | refine blk_drewN ?_ _ | refine blk_drew ?_ | refine blk_alloc ?_ _)); exact BK269.out⟩, ⟨by (with_reducible repeat (first | refine blk_drewN ?_ _ | refine blk_drew ?_ | refine blk_alloc ?_ _)); refine blk_far ?_ NB271_287.out _; (with_reducible repeat (first | refine blk_drewN ?_ _ | refine blk_drew ?_ | refine blk_alloc ?_ _)); refine blk_far ?_ NB271_287.out _; (with_reducible repeat (first | refine blk_drewN ?_ _ | refine blk_drew ?_ | refine blk_alloc ?_ _)); exact BK271.out⟩, ⟨by (with_reducible repeat (first | refine blk_drewN ?_ _ | refine blk_drew ?_ | refine blk_alloc ?_ _)); refine blk_put (cs := #[.int .i64 t290, .int .i64 t285]) ?_ 1 _ rfl; (with_reducible repeat (first | refine blk_drewN ?_ _ | refine blk_drew ?_ | refine blk_alloc ?_ _)); refine blk_put (cs := #[.int .i64 t284, .int .i64 t285]) ?_ 0 _ rfl; (with_reducible repeat (first | refine blk_drewN ?_ _ | refine blk_drew ?_ | refine blk_alloc ?_ _)); exact BK287.out⟩, ⟨by (with_reducible repeat (first | refine blk_drewN ?_ _ | refine blk_drew ?_ | refine blk_alloc ?_ _)); refine blk_far ?_ NB289_287.out _; (with_reducible repeat (first | refine blk_drewN ?_ _ | refine blk_drew ?_ | refine blk_alloc ?_ _)); refine blk_far ?_ NB289_287.out _; (with_reducible repeat (first | refine blk_drewN ?_ _ | refine blk_drew ?_ | refine blk_alloc ?_ _)); exact BK289.out⟩, ⟨by repeat (first | (with_reducible first | exact HB.out | apply below_alloc | apply pw_below_drewN | apply below_drew1 | refine below_set ?_ GE262.out | refine below_set ?_ GE263.out | refine below_set ?_ GE269.out | refine below_set ?_ GE271.out | refine below_set ?_ GE287.out | refine below_set ?_ GE289.out) | exact HB.out)⟩⟩
                    case rest =>
                      clear HC75
                      try clear c1
                      try clear c2
                      try clear p2
                      try clear c3
                      try clear c5
                      try clear c6
                      try clear p6
                      try clear c7
                      try clear c8
                      try clear c9
                      try clear c10
                      try clear c16
                      try clear c18
                      try clear c22
                      try clear c22b0
                      try clear c22b1
                      try clear c23
                      try clear c24
                      try clear c27
                      try clear c31
                      try clear c32
                      try clear c36
                      try clear c37
                      try clear c38
                      try clear c55
                      try clear c56
                      try clear c57
                      try clear c58
                      try clear c60
                      try clear c60b0
                      try clear c60b1
                      try clear c62
                      try clear c63
                      try clear c64
                      try clear p64
                      try clear c65
                      try clear c67
                      try clear c68
                      try clear c69
                      try clear c72
                      try clear c76
                      try clear c77
                      try clear c78
                      try clear c79
                      try clear c82
                      try clear c83
                      try clear c84
                      try clear c85
                      try clear c86
                      try clear c90
                      try clear c91
                      try clear c92
                      try clear c94
                      try clear c94b0
                      try clear c94b1
                      try clear c96
                      try clear c97
                      try clear c98
                      try clear c99
                      try clear c100
                      try clear c102
                      try clear c103
                      try clear c104
                      try clear c105
                      try clear hcz101_0
                      try clear hcz101_1
                      try clear hcz106_0
                      try clear hcz106_1
                      try clear hcz12_0
                      try clear hcz12_1
                      try clear hcz12_2
                      try clear hcz15_0
                      try clear hcz15_1
                      try clear hcz15_2
                      try clear hcz17_0
                      try clear hcz17_1
                      try clear hcz17_2
                      try clear hcz28_0
                      try clear hcz28_1
                      try clear hcz28_2
                      try clear hcz33_0
                      try clear hcz33_1
                      try clear hcz34_0
                      try clear hcz34_1
                      try clear hcz34_2
                      try clear hcz39_0
                      try clear hcz39_1
                      try clear hcz39_2
                      try clear hcz52_0
                      try clear hcz52_1
                      try clear hcz52_2
                      try clear hcz59_0
                      try clear hcz59_1
                      try clear hcz66_0
                      try clear hcz66_1
                      try clear hcz70_0
                      try clear hcz70_1
                      try clear hcz80_0
                      try clear hcz80_1
                      try clear hcz80_2
                      try clear hcz87_0
                      try clear hcz87_1
                      try clear hcz87_2
                      try clear hcz88_0
                      try clear hcz88_1
                      try clear hcz88_2
                      try clear hcz93_0
                      try clear hcz93_1
                      try clear hfz101_0
                      try clear hfz101_1
                      try clear hfz106_0
                      try clear hfz106_1
                      try clear hfz12_0
                      try clear hfz12_1
                      try clear hfz12_2
                      try clear hfz15_0
                      try clear hfz15_1
                      try clear hfz15_2
                      try clear hfz17_0
                      try clear hfz17_1
                      try clear hfz17_2
                      try clear hfz28_0
                      try clear hfz28_1
                      try clear hfz28_2
                      try clear hfz33_0
                      try clear hfz33_1
                      try clear hfz34_0
                      try clear hfz34_1
                      try clear hfz34_2
                      try clear hfz39_0
                      try clear hfz39_1
                      try clear hfz39_2
                      try clear hfz52_0
                      try clear hfz52_1
                      try clear hfz52_2
                      try clear hfz59_0
                      try clear hfz59_1
                      try clear hfz66_0
                      try clear hfz66_1
                      try clear hfz70_0
                      try clear hfz70_1
                      try clear hfz80_0
                      try clear hfz80_1
                      try clear hfz80_2
                      try clear hfz87_0
                      try clear hfz87_1
                      try clear hfz87_2
                      try clear hfz88_0
                      try clear hfz88_1
                      try clear hfz88_2
                      try clear hfz93_0
                      try clear hfz93_1
                      try clear p2
                      obtain ⟨kq, x81_74, rfl, HA, HJ74, HO_272002, BK262, BK263, BK269, BK271, BK287, BK289, HB⟩ := hcut
                      cases kq with
                      | zero => exact absurd HA.out (by simp [isobathlaw05_ClockMore.j2])
                      | succ kj74 =>
                        have H := HA.out
                        clear HA
                        simp only [isobathlaw05_ClockMore.j2] at H
                        by_cases c108 : x81_74 = true
                        · subst c108
                          have H1 : (some false) = some r := by rw [if_pos rfl] at H; exact H
                          clear H
                          have H := H1
                          clear H1
                          have hh_ := Option.some.inj H
                          rw [hr_.out] at hh_
                          cases hh_
                        · replace c108 := Bool.eq_false_iff.mpr c108
                          subst c108
                          have H1 : ((some (([] : List (S46)) : List (S46))).bind fun y295 => (if y295.length + l0_2.length < 2199023255552 then (isobathlaw05_ClockMore.l0 kj74 a2 a4 0 t266 t267 a0_0 a0_1 (y295 ++ l0_2)) else (none))) = some r := by rw [if_neg (show ¬ (false = true) by decide)] at H; exact H
                          clear H
                          have H := H1
                          clear H1
                          obtain ⟨y295, hy295⟩ : ∃ y_ : List (S46), y_ = (([] : List (S46))) := ⟨_, rfl⟩
                          replace H : (if y295.length + l0_2.length < 2199023255552 then (isobathlaw05_ClockMore.l0 kj74 a2 a4 0 t266 t267 a0_0 a0_1 (y295 ++ l0_2)) else (none)) = some r := by first | (rw [hy295]; with_reducible exact H) | (have H2_ := (Option.bind_some _ _).symm.trans H; rw [hy295]; with_reducible exact H2_) | (have H2_ := (Option.bind_some _ _).symm.trans H; with_reducible exact H2_) | with_reducible exact H | (rw [hy295]; exact H) | exact H
                          have Ny295 := Aside0.mk hy295
                          clear hy295
                          by_cases c109 : y295.length + l0_2.length < 2199023255552
                          · rw [if_pos c109] at H
                            have LMc109 := Aside0.mk c109
                            clear c109
                            obtain ⟨y298, hy298⟩ : ∃ y_ : List (S46), y_ = (y295 ++ l0_2) := ⟨_, rfl⟩
                            replace H : (isobathlaw05_ClockMore.l0 kj74 a2 a4 0 t266 t267 a0_0 a0_1 y298) = some r := by first | (rw [hy298]; with_reducible exact H) | (have H2_ := (Option.bind_some _ _).symm.trans H; rw [hy298]; with_reducible exact H2_) | (have H2_ := (Option.bind_some _ _).symm.trans H; with_reducible exact H2_) | with_reducible exact H | (rw [hy298]; exact H) | exact H
                            have Ny298 := Aside0.mk hy298
                            clear hy298
                            have H' := Aside0.mk H
                            clear H
                            have hnb110 := NB262_263.out
                            have hnc110 := NB263_262.out
                            have hnb111 := NB262_269.out
                            have hnc111 := NB269_262.out
                            have hnb112 := NB262_271.out
                            have hnc112 := NB271_262.out
                            have hnb113 := NB262_287.out
                            have hnc113 := NB287_262.out
                            have hnb114 := NB262_289.out
                            have hnc114 := NB289_262.out
                            have hcz115_0 : wc.cell? ⟨gb262, 0, none⟩ = some (.int .i64 a0_0) := (blk_cell BK262.out 0).trans rfl
                            have hcz115_1 : wc.cell? ⟨gb262, 1, none⟩ = some (.int .i64 a0_1) := (blk_cell BK262.out 1).trans rfl
                            have hcz115_2 : wc.cell? ⟨gb262, 2, none⟩ = some (.slice A0_2 l0_2.length c0_2) := (blk_cell BK262.out 2).trans rfl
                            have hfz115_0 := blk_frozen BK262.out 0
                            have hfz115_1 := blk_frozen BK262.out 1
                            have hfz115_2 := blk_frozen BK262.out 2
                            go_wp2_with (first | ((with_reducible refine gate_dst (N := 16) rfl ?_); (try (refine gate_guard (by rfl) ?_; dsimp only)); refine box_event ?hg (N := 16) ?hd (cs := #[.int .i64 0, .int .i64 0, .slice none 0 0]) (t := 30) ?hr ?_; (case hd => rfl); (case hg => rfl); (case hr => first | (go_simp; done) | (go_simp; rfl)); intro gb294 hg w116 hbox hb; have n0_ := Aside0.mk (Kd.R_below (by (with_reducible repeat (first | apply Kd.R_alloc | apply Kd.R_drewN | apply Kd.R_drew)); exact HO_272002.out) hb); have n1_ := Aside0.mk (blk_below (g := gb262) (o := .cells #[.int .i64 a0_0, .int .i64 a0_1, .slice A0_2 l0_2.length c0_2] 30 (0, 0)) (by exact BK262.out) hb); have n2_ := Aside0.mk (blk_below (g := gb263) (o := .cells #[.int .i64 a1_0, .int .i64 a1_1, .int .i64 a1_2, .int .i64 a1_3, .int .i64 a1_4, .int .i64 a1_5, .int .i64 a1_6, .int .i64 a1_7] 46 (0, 0)) (by exact BK263.out) hb); have n3_ := Aside0.mk (blk_below (g := gb269) (o := .cells #[.int .i64 t266, .int .i64 t267] 35 (0, 0)) (by exact BK269.out) hb); have n4_ := Aside0.mk (blk_below (g := gb271) (o := .cells #[.int .i64 a0_0, .int .i64 a0_1, .slice Ao50 y281.length co50] 30 (0, 0)) (by exact BK271.out) hb); have n5_ := Aside0.mk (blk_below (g := gb287) (o := .cells #[.int .i64 t290, .int .i64 t291] 35 (0, 0)) (by exact BK287.out) hb); have n6_ := Aside0.mk (blk_below (g := gb289) (o := .cells #[.int .i64 a0_0, .int .i64 ji73, .slice A0_2 l0_2.length c0_2] 30 (0, 0)) (by exact BK289.out) hb); have n7_ := Aside0.mk (below_step (by repeat (first | (with_reducible first | exact HB.out | apply below_alloc | apply pw_below_drewN | apply below_drew1 | refine below_set ?_ GE262.out | refine below_set ?_ GE263.out | refine below_set ?_ GE269.out | refine below_set ?_ GE271.out | refine below_set ?_ GE287.out | refine below_set ?_ GE289.out) | exact HB.out)) hb); have n8_ := Aside0.mk (hbox); have n9_ := Aside0.mk ((by rw [hg]; exact (below_size (by repeat (first | (with_reducible first | exact HB.out | apply below_alloc | apply pw_below_drewN | apply below_drew1 | refine below_set ?_ GE262.out | refine below_set ?_ GE263.out | refine below_set ?_ GE269.out | refine below_set ?_ GE271.out | refine below_set ?_ GE287.out | refine below_set ?_ GE289.out) | exact HB.out))) : w.heap.size ≤ gb294)); have n10_ := Aside0.mk ((by rw [hg]; exact (below_size (by repeat (first | (with_reducible first | exact HB.out | apply below_alloc | apply pw_below_drewN | apply below_drew1 | refine below_set ?_ GE262.out | refine below_set ?_ GE263.out | refine below_set ?_ GE269.out | refine below_set ?_ GE271.out | refine below_set ?_ GE287.out | refine below_set ?_ GE289.out) | exact HB.out))) : w.heap.size ≤ gb294)); have n11_ := Aside0.mk ((by rw [hg]; exact Nat.ne_of_lt (blk_lt (g := gb262) (o := .cells #[.int .i64 a0_0, .int .i64 a0_1, .slice A0_2 l0_2.length c0_2] 30 (0, 0)) (by exact BK262.out)) : gb262 ≠ gb294)); have n12_ := Aside0.mk ((by rw [hg]; exact Nat.ne_of_gt (blk_lt (g := gb262) (o := .cells #[.int .i64 a0_0, .int .i64 a0_1, .slice A0_2 l0_2.length c0_2] 30 (0, 0)) (by exact BK262.out)) : gb294 ≠ gb262)); have n13_ := Aside0.mk ((by rw [hg]; exact Nat.ne_of_lt (blk_lt (g := gb263) (o := .cells #[.int .i64 a1_0, .int .i64 a1_1, .int .i64 a1_2, .int .i64 a1_3, .int .i64 a1_4, .int .i64 a1_5, .int .i64 a1_6, .int .i64 a1_7] 46 (0, 0)) (by exact BK263.out)) : gb263 ≠ gb294)); have n14_ := Aside0.mk ((by rw [hg]; exact Nat.ne_of_gt (blk_lt (g := gb263) (o := .cells #[.int .i64 a1_0, .int .i64 a1_1, .int .i64 a1_2, .int .i64 a1_3, .int .i64 a1_4, .int .i64 a1_5, .int .i64 a1_6, .int .i64 a1_7] 46 (0, 0)) (by exact BK263.out)) : gb294 ≠ gb263)); have n15_ := Aside0.mk ((by rw [hg]; exact Nat.ne_of_lt (blk_lt (g := gb269) (o := .cells #[.int .i64 t266, .int .i64 t267] 35 (0, 0)) (by exact BK269.out)) : gb269 ≠ gb294)); have n16_ := Aside0.mk ((by rw [hg]; exact Nat.ne_of_gt (blk_lt (g := gb269) (o := .cells #[.int .i64 t266, .int .i64 t267] 35 (0, 0)) (by exact BK269.out)) : gb294 ≠ gb269)); have n17_ := Aside0.mk ((by rw [hg]; exact Nat.ne_of_lt (blk_lt (g := gb271) (o := .cells #[.int .i64 a0_0, .int .i64 a0_1, .slice Ao50 y281.length co50] 30 (0, 0)) (by exact BK271.out)) : gb271 ≠ gb294)); have n18_ := Aside0.mk ((by rw [hg]; exact Nat.ne_of_gt (blk_lt (g := gb271) (o := .cells #[.int .i64 a0_0, .int .i64 a0_1, .slice Ao50 y281.length co50] 30 (0, 0)) (by exact BK271.out)) : gb294 ≠ gb271)); have n19_ := Aside0.mk ((by rw [hg]; exact Nat.ne_of_lt (blk_lt (g := gb287) (o := .cells #[.int .i64 t290, .int .i64 t291] 35 (0, 0)) (by exact BK287.out)) : gb287 ≠ gb294)); have n20_ := Aside0.mk ((by rw [hg]; exact Nat.ne_of_gt (blk_lt (g := gb287) (o := .cells #[.int .i64 t290, .int .i64 t291] 35 (0, 0)) (by exact BK287.out)) : gb294 ≠ gb287)); have n21_ := Aside0.mk ((by rw [hg]; exact Nat.ne_of_lt (blk_lt (g := gb289) (o := .cells #[.int .i64 a0_0, .int .i64 ji73, .slice A0_2 l0_2.length c0_2] 30 (0, 0)) (by exact BK289.out)) : gb289 ≠ gb294)); have n22_ := Aside0.mk ((by rw [hg]; exact Nat.ne_of_gt (blk_lt (g := gb289) (o := .cells #[.int .i64 a0_0, .int .i64 ji73, .slice A0_2 l0_2.length c0_2] 30 (0, 0)) (by exact BK289.out)) : gb294 ≠ gb289)); clear HO_272002; clear BK262; clear BK263; clear BK269; clear BK271; clear BK287; clear BK289; clear HB; have HO_272002 := n0_; have BK262 := n1_; have BK263 := n2_; have BK269 := n3_; have BK271 := n4_; have BK287 := n5_; have BK289 := n6_; have HB := n7_; have BK294 := n8_; have GW294 := n9_; have GE294 := n10_; have NB262_294 := n11_; have NB294_262 := n12_; have NB263_294 := n13_; have NB294_263 := n14_; have NB269_294 := n15_; have NB294_269 := n16_; have NB271_294 := n17_; have NB294_271 := n18_; have NB287_294 := n19_; have NB294_287 := n20_; have NB289_294 := n21_; have NB294_289 := n22_; clear n0_ n1_ n2_ n3_ n4_ n5_ n6_ n7_ n8_ n9_ n10_ n11_ n12_ n13_ n14_ n15_ n16_ n17_ n18_ n19_ n20_ n21_ n22_; clear hb hbox hg; have hnb117 := NB294_262.out; have hnc117 := NB262_294.out; have hnb118 := NB294_263.out; have hnc118 := NB263_294.out; have hnb119 := NB294_269.out; have hnc119 := NB269_294.out; have hnb120 := NB294_271.out; have hnc120 := NB271_294.out; have hnb121 := NB294_287.out; have hnc121 := NB287_294.out; have hnb122 := NB294_289.out; have hnc122 := NB289_294.out; have hcz123_0 : w116.cell? ⟨gb294, 0, none⟩ = some (.int .i64 0) := (blk_cell BK294.out 0).trans rfl; have hcz123_1 : w116.cell? ⟨gb294, 1, none⟩ = some (.int .i64 0) := (blk_cell BK294.out 1).trans rfl; have hcz123_2 : w116.cell? ⟨gb294, 2, none⟩ = some (.slice none 0 0) := (blk_cell BK294.out 2).trans rfl; have hfz123_0 := blk_frozen BK294.out 0; have hfz123_1 := blk_frozen BK294.out 1; have hfz123_2 := blk_frozen BK294.out 2) | ((with_reducible refine gate_dst (N := 83) rfl ?_); (try (refine gate_guard (by rfl) ?_; dsimp only)); refine Kd.R_lit k46 _ 46 ?hg (N := 83) ?hd (xs := ([] : List (S46))) (inner := []) (ok := fun _ => True) (okp := fun _ => True) ?hr ?hp (fun _ hk => hk) trivial (Below.refl _ _) (Nat.le_refl _) (by simp) ?_; (case hd => rfl); (case hg => rfl); (case hr => first | (go_simp; done) | (go_simp; rfl)); (case hp => exact (Reps.none _ _)); intro v296 w124 ho125 hb hg_ hnew_; clear hg_ hnew_; (first | rw [← Ny295.out] at ho125 | (simp only [Int.reduceToNat] at ho125; rw [← Ny295.out] at ho125)); have n0_ := Aside0.mk (Kd.R_elder' (by (with_reducible repeat (first | apply Kd.R_alloc | apply Kd.R_drewN | apply Kd.R_drew)); exact (Kd.R_mono (Kd.R_far (p := ⟨gb294, 2, none⟩) (Kd.R_far (p := ⟨gb294, 1, none⟩) (Kd.R_far (p := ⟨gb294, 0, none⟩) (Kd.R_types HO_272002.out BK294.out (by decide)) (fun _ hk => hk.2) (.int .i64 a0_0)) (fun _ hk => hk.2) (.int .i64 a0_1)) (fun _ hk => hk.2) (.slice A0_2 l0_2.length c0_2)) (fun _ h_ => h_.1))) (Kd.R_base ho125) hb); have n1_ := Aside0.mk (Kd.R_lower (Kd.R_newB (Kd.R_new' ho125 (Kd.R_lt (by (with_reducible repeat (first | apply Kd.R_alloc | apply Kd.R_drewN | apply Kd.R_drew)); exact (Kd.R_mono (Kd.R_far (p := ⟨gb294, 2, none⟩) (Kd.R_far (p := ⟨gb294, 1, none⟩) (Kd.R_far (p := ⟨gb294, 0, none⟩) (Kd.R_types HO_272002.out BK294.out (by decide)) (fun _ hk => hk.2) (.int .i64 a0_0)) (fun _ hk => hk.2) (.int .i64 a0_1)) (fun _ hk => hk.2) (.slice A0_2 l0_2.length c0_2)) (fun _ h_ => h_.1))))) (g := gb263) (o := .cells #[.int .i64 a1_0, .int .i64 a1_1, .int .i64 a1_2, .int .i64 a1_3, .int .i64 a1_4, .int .i64 a1_5, .int .i64 a1_6, .int .i64 a1_7] 46 (0, 0)) (by (with_reducible repeat (first | refine blk_drewN ?_ _ | refine blk_drew ?_ | refine blk_alloc ?_ _)); refine blk_far ?_ NB263_294.out _; (with_reducible repeat (first | refine blk_drewN ?_ _ | refine blk_drew ?_ | refine blk_alloc ?_ _)); refine blk_far ?_ NB263_294.out _; (with_reducible repeat (first | refine blk_drewN ?_ _ | refine blk_drew ?_ | refine blk_alloc ?_ _)); refine blk_far ?_ NB263_294.out _; (with_reducible repeat (first | refine blk_drewN ?_ _ | refine blk_drew ?_ | refine blk_alloc ?_ _)); exact BK263.out)) (below_size (by repeat (first | (with_reducible first | exact HB.out | apply below_alloc | apply pw_below_drewN | apply below_drew1 | refine below_set ?_ GE262.out | refine below_set ?_ GE263.out | refine below_set ?_ GE269.out | refine below_set ?_ GE271.out | refine below_set ?_ GE287.out | refine below_set ?_ GE289.out | refine below_set ?_ GE294.out) | exact HB.out)))); have n2_ := Aside0.mk (blk_below (g := gb262) (o := .cells #[.int .i64 a0_0, .int .i64 a0_1, .slice A0_2 l0_2.length c0_2] 30 (0, 0)) (by (with_reducible repeat (first | refine blk_drewN ?_ _ | refine blk_drew ?_ | refine blk_alloc ?_ _)); refine blk_far ?_ NB262_294.out _; (with_reducible repeat (first | refine blk_drewN ?_ _ | refine blk_drew ?_ | refine blk_alloc ?_ _)); refine blk_far ?_ NB262_294.out _; (with_reducible repeat (first | refine blk_drewN ?_ _ | refine blk_drew ?_ | refine blk_alloc ?_ _)); refine blk_far ?_ NB262_294.out _; (with_reducible repeat (first | refine blk_drewN ?_ _ | refine blk_drew ?_ | refine blk_alloc ?_ _)); exact BK262.out) hb); have n3_ := Aside0.mk (blk_below (g := gb263) (o := .cells #[.int .i64 a1_0, .int .i64 a1_1, .int .i64 a1_2, .int .i64 a1_3, .int .i64 a1_4, .int .i64 a1_5, .int .i64 a1_6, .int .i64 a1_7] 46 (0, 0)) (by (with_reducible repeat (first | refine blk_drewN ?_ _ | refine blk_drew ?_ | refine blk_alloc ?_ _)); refine blk_far ?_ NB263_294.out _; (with_reducible repeat (first | refine blk_drewN ?_ _ | refine blk_drew ?_ | refine blk_alloc ?_ _)); refine blk_far ?_ NB263_294.out _; (with_reducible repeat (first | refine blk_drewN ?_ _ | refine blk_drew ?_ | refine blk_alloc ?_ _)); refine blk_far ?_ NB263_294.out _; (with_reducible repeat (first | refine blk_drewN ?_ _ | refine blk_drew ?_ | refine blk_alloc ?_ _)); exact BK263.out) hb); have n4_ := Aside0.mk (blk_below (g := gb269) (o := .cells #[.int .i64 t266, .int .i64 t267] 35 (0, 0)) (by (with_reducible repeat (first | refine blk_drewN ?_ _ | refine blk_drew ?_ | refine blk_alloc ?_ _)); refine blk_far ?_ NB269_294.out _; (with_reducible repeat (first | refine blk_drewN ?_ _ | refine blk_drew ?_ | refine blk_alloc ?_ _)); refine blk_far ?_ NB269_294.out _; (with_reducible repeat (first | refine blk_drewN ?_ _ | refine blk_drew ?_ | refine blk_alloc ?_ _)); refine blk_far ?_ NB269_294.out _; (with_reducible repeat (first | refine blk_drewN ?_ _ | refine blk_drew ?_ | refine blk_alloc ?_ _)); exact BK269.out) hb); have n5_ := Aside0.mk (blk_below (g := gb271) (o := .cells #[.int .i64 a0_0, .int .i64 a0_1, .slice Ao50 y281.length co50] 30 (0, 0)) (by (with_reducible repeat (first | refine blk_drewN ?_ _ | refine blk_drew ?_ | refine blk_alloc ?_ _)); refine blk_far ?_ NB271_294.out _; (with_reducible repeat (first | refine blk_drewN ?_ _ | refine blk_drew ?_ | refine blk_alloc ?_ _)); refine blk_far ?_ NB271_294.out _; (with_reducible repeat (first | refine blk_drewN ?_ _ | refine blk_drew ?_ | refine blk_alloc ?_ _)); refine blk_far ?_ NB271_294.out _; (with_reducible repeat (first | refine blk_drewN ?_ _ | refine blk_drew ?_ | refine blk_alloc ?_ _)); exact BK271.out) hb); have n6_ := Aside0.mk (blk_below (g := gb287) (o := .cells #[.int .i64 t290, .int .i64 t291] 35 (0, 0)) (by (with_reducible repeat (first | refine blk_drewN ?_ _ | refine blk_drew ?_ | refine blk_alloc ?_ _)); refine blk_far ?_ NB287_294.out _; (with_reducible repeat (first | refine blk_drewN ?_ _ | refine blk_drew ?_ | refine blk_alloc ?_ _)); refine blk_far ?_ NB287_294.out _; (with_reducible repeat (first | refine blk_drewN ?_ _ | refine blk_drew ?_ | refine blk_alloc ?_ _)); refine blk_far ?_ NB287_294.out _; (with_reducible repeat (first | refine blk_drewN ?_ _ | refine blk_drew ?_ | refine blk_alloc ?_ _)); exact BK287.out) hb); have n7_ := Aside0.mk (blk_below (g := gb289) (o := .cells #[.int .i64 a0_0, .int .i64 ji73, .slice A0_2 l0_2.length c0_2] 30 (0, 0)) (by (with_reducible repeat (first | refine blk_drewN ?_ _ | refine blk_drew ?_ | refine blk_alloc ?_ _)); refine blk_far ?_ NB289_294.out _; (with_reducible repeat (first | refine blk_drewN ?_ _ | refine blk_drew ?_ | refine blk_alloc ?_ _)); refine blk_far ?_ NB289_294.out _; (with_reducible repeat (first | refine blk_drewN ?_ _ | refine blk_drew ?_ | refine blk_alloc ?_ _)); refine blk_far ?_ NB289_294.out _; (with_reducible repeat (first | refine blk_drewN ?_ _ | refine blk_drew ?_ | refine blk_alloc ?_ _)); exact BK289.out) hb); have n8_ := Aside0.mk (blk_below (g := gb294) (o := .cells #[.int .i64 a0_0, .int .i64 a0_1, .slice A0_2 l0_2.length c0_2] 30 (0, 0)) (by (with_reducible repeat (first | refine blk_drewN ?_ _ | refine blk_drew ?_ | refine blk_alloc ?_ _)); refine blk_put (cs := #[.int .i64 a0_0, .int .i64 a0_1, .slice none 0 0]) ?_ 2 _ rfl; (with_reducible repeat (first | refine blk_drewN ?_ _ | refine blk_drew ?_ | refine blk_alloc ?_ _)); refine blk_put (cs := #[.int .i64 a0_0, .int .i64 0, .slice none 0 0]) ?_ 1 _ rfl; (with_reducible repeat (first | refine blk_drewN ?_ _ | refine blk_drew ?_ | refine blk_alloc ?_ _)); refine blk_put (cs := #[.int .i64 0, .int .i64 0, .slice none 0 0]) ?_ 0 _ rfl; (with_reducible repeat (first | refine blk_drewN ?_ _ | refine blk_drew ?_ | refine blk_alloc ?_ _)); exact BK294.out) hb); have n9_ := Aside0.mk (below_step (by repeat (first | (with_reducible first | exact HB.out | apply below_alloc | apply pw_below_drewN | apply below_drew1 | refine below_set ?_ GE262.out | refine below_set ?_ GE263.out | refine below_set ?_ GE269.out | refine below_set ?_ GE271.out | refine below_set ?_ GE287.out | refine below_set ?_ GE289.out | refine below_set ?_ GE294.out) | exact HB.out)) hb); clear HO_272002; clear BK262; clear BK263; clear BK269; clear BK271; clear BK287; clear BK289; clear BK294; clear HB; have HO_272002 := n0_; have HO297 := n1_; have BK262 := n2_; have BK263 := n3_; have BK269 := n4_; have BK271 := n5_; have BK287 := n6_; have BK289 := n7_; have BK294 := n8_; have HB := n9_; clear n0_ n1_ n2_ n3_ n4_ n5_ n6_ n7_ n8_ n9_; clear hb ho125; have hcz126_0 : w124.cell? ⟨gb262, 0, none⟩ = some (.int .i64 a0_0) := (blk_cell BK262.out 0).trans rfl; have hcz126_1 : w124.cell? ⟨gb262, 1, none⟩ = some (.int .i64 a0_1) := (blk_cell BK262.out 1).trans rfl; have hcz126_2 : w124.cell? ⟨gb262, 2, none⟩ = some (.slice A0_2 l0_2.length c0_2) := (blk_cell BK262.out 2).trans rfl; have hfz126_0 := blk_frozen BK262.out 0; have hfz126_1 := blk_frozen BK262.out 1; have hfz126_2 := blk_frozen BK262.out 2) | ((with_reducible refine gate_builtin (b := .append) (xs := #[.tmp 83, .tmp 85]) rfl ?_); (try (refine gate_guard (by rfl) ?_; dsimp only)); at_builtin; refine Kd.R_append_rows k46 (w0 := w) w.heap.size rfl (.tmp 83) (.tmp 85) 28 46 (.agg #[(.int .i64 0), (.int .i64 0), (.int .i64 0), (.int .i64 0), (.int .i64 0), (.int .i64 0), (.int .i64 0), (.int .i64 0)]) 64 rfl Try.underlying28 info46 rfl (by decide) (by omega) v296 y295 l0_2 _ _ _ (fun k_ => some k_ ≠ (.slice Ao50 y281.length co50 : Value).ownBlock ∧ k_ ≠ gb263) (fun _ => False) rfl rfl ?aO ?aR (fun _ _ h => h) (fun _ h => h.elim) ?aF ?aB ?aS ?aL ?_; (case aR => repeat (first | exact (Kd.C_below HR0_2.out HB.out) | (with_reducible refine Kd.C_alloc ?_ _) | (with_reducible refine Kd.C_drewN ?_ _) | (with_reducible refine Kd.C_drew ?_))); (case aB => exact (by repeat (first | (with_reducible first | exact HB.out | apply below_alloc | apply pw_below_drewN | apply below_drew1 | refine below_set ?_ GE262.out | refine below_set ?_ GE263.out | refine below_set ?_ GE269.out | refine below_set ?_ GE271.out | refine below_set ?_ GE287.out | refine below_set ?_ GE289.out | refine below_set ?_ GE294.out) | exact HB.out))); (case aF => exact (fun k_ hk => ⟨Kd.fresh' (Kd.R_lt (by (with_reducible repeat (first | apply Kd.R_alloc | apply Kd.R_drewN | apply Kd.R_drew)); exact HO_272002.out)) k_ hk, Kd.freshB (g := gb263) (o := .cells #[.int .i64 a1_0, .int .i64 a1_1, .int .i64 a1_2, .int .i64 a1_3, .int .i64 a1_4, .int .i64 a1_5, .int .i64 a1_6, .int .i64 a1_7] 46 (0, 0)) (by exact BK263.out) k_ hk⟩)); (case aO => exact (by (with_reducible repeat (first | apply Kd.R_alloc | apply Kd.R_drewN | apply Kd.R_drew)); exact Kd.R_mono HO297.out (fun _ hk => ⟨hk.1.2, hk.2⟩))); (case aS => exact (below_size (by repeat (first | (with_reducible first | exact HB.out | apply below_alloc | apply pw_below_drewN | apply below_drew1 | refine below_set ?_ GE262.out | refine below_set ?_ GE263.out | refine below_set ?_ GE269.out | refine below_set ?_ GE271.out | refine below_set ?_ GE287.out | refine below_set ?_ GE289.out | refine below_set ?_ GE294.out) | exact HB.out)))); (case aL => have := LMc109.out; omega); intro v299 w127 ho hb hg hat; rw [← Ny298.out] at ho; have n0_ := Aside0.mk (Kd.R_after (ok := (fun k_ => k_ ≠ gb263)) (by (with_reducible repeat (first | apply Kd.R_alloc | apply Kd.R_drewN | apply Kd.R_drew)); exact HO_272002.out) hg hat); have n1_ := Aside0.mk (blk_grown (g := gb262) (o := .cells #[.int .i64 a0_0, .int .i64 a0_1, .slice A0_2 l0_2.length c0_2] 30 (0, 0)) (by exact BK262.out) hg (Kd.R_ne HO297.out BK262.out (by decide))); have n2_ := Aside0.mk (blk_grown (g := gb263) (o := .cells #[.int .i64 a1_0, .int .i64 a1_1, .int .i64 a1_2, .int .i64 a1_3, .int .i64 a1_4, .int .i64 a1_5, .int .i64 a1_6, .int .i64 a1_7] 46 (0, 0)) (by exact BK263.out) hg (Kd.R_away HO297.out (fun _ hk => hk.2))); have n3_ := Aside0.mk (blk_grown (g := gb269) (o := .cells #[.int .i64 t266, .int .i64 t267] 35 (0, 0)) (by exact BK269.out) hg (Kd.R_ne HO297.out BK269.out (by decide))); have n4_ := Aside0.mk (blk_grown (g := gb271) (o := .cells #[.int .i64 a0_0, .int .i64 a0_1, .slice Ao50 y281.length co50] 30 (0, 0)) (by exact BK271.out) hg (Kd.R_ne HO297.out BK271.out (by decide))); have n5_ := Aside0.mk (blk_grown (g := gb287) (o := .cells #[.int .i64 t290, .int .i64 t291] 35 (0, 0)) (by exact BK287.out) hg (Kd.R_ne HO297.out BK287.out (by decide))); have n6_ := Aside0.mk (blk_grown (g := gb289) (o := .cells #[.int .i64 a0_0, .int .i64 ji73, .slice A0_2 l0_2.length c0_2] 30 (0, 0)) (by exact BK289.out) hg (Kd.R_ne HO297.out BK289.out (by decide))); have n7_ := Aside0.mk (blk_grown (g := gb294) (o := .cells #[.int .i64 a0_0, .int .i64 a0_1, .slice A0_2 l0_2.length c0_2] 30 (0, 0)) (by exact BK294.out) hg (Kd.R_ne HO297.out BK294.out (by decide))); have n8_ := Aside0.mk (hb); have n9_ := Aside0.mk (ho); clear HO_272002; clear BK262; clear BK263; clear BK269; clear BK271; clear BK287; clear BK289; clear BK294; clear HB; clear HO297; have HO_272002 := n0_; have BK262 := n1_; have BK263 := n2_; have BK269 := n3_; have BK271 := n4_; have BK287 := n5_; have BK289 := n6_; have BK294 := n7_; have HB := n8_; have HO300 := n9_; clear n0_ n1_ n2_ n3_ n4_ n5_ n6_ n7_ n8_ n9_; clear ho hb hg hat; obtain ⟨Ao128, co128, eo128⟩ := Kd.R_slice HO300.out; subst eo128; have hcz129_0 : w127.cell? ⟨gb294, 0, none⟩ = some (.int .i64 a0_0) := (blk_cell BK294.out 0).trans rfl; have hcz129_1 : w127.cell? ⟨gb294, 1, none⟩ = some (.int .i64 a0_1) := (blk_cell BK294.out 1).trans rfl; have hcz129_2 : w127.cell? ⟨gb294, 2, none⟩ = some (.slice A0_2 l0_2.length c0_2) := (blk_cell BK294.out 2).trans rfl; have hfz129_0 := blk_frozen BK294.out 0; have hfz129_1 := blk_frozen BK294.out 1; have hfz129_2 := blk_frozen BK294.out 2))
                            go_loopg [17] kj74 (fun kq v17 w' => ∃ (x17_4 : Int) (x264004_4 : Int) (x264005_4 : Int) (x264006_4 : Int) (x264007_4 : Int) (x272002_4 : List (S46)) (x295002_4 : List (S46)) (u272002 : Value) (u295002 : Value), v17 = .int .i64 x17_4 ∧ Aside0 (isobathlaw05_ClockMore.l0 kq a2 a4 x17_4 t266 t267 a0_0 a0_1 x295002_4 = some r) ∧ Aside0 (kq ≤ kj74) ∧ Aside0 (Kd.R k46 46 w' w.heap.size (fun k_ => some k_ ≠ (u295002 : Value).ownBlock ∧ k_ ≠ gb263) u272002 x272002_4) ∧ Aside0 (Kd.R k46 46 w' w.heap.size (fun k_ => some k_ ≠ (u272002 : Value).ownBlock ∧ k_ ≠ gb263) u295002 x295002_4) ∧ Aside0 (w'.heap[gb262]? = some (.cells #[.int .i64 a0_0, .int .i64 a0_1, (.slice A0_2 l0_2.length c0_2)] 30 (0, 0))) ∧ Aside0 (w'.heap[gb263]? = some (.cells #[.int .i64 a1_0, .int .i64 a1_1, .int .i64 a1_2, .int .i64 a1_3, .int .i64 x264004_4, .int .i64 x264005_4, .int .i64 x264006_4, .int .i64 x264007_4] 46 (0, 0))) ∧ Aside0 (w'.heap[gb269]? = some (.cells #[.int .i64 t266, .int .i64 t267] 35 (0, 0))) ∧ Aside0 (w'.heap[gb271]? = some (.cells #[.int .i64 a0_0, .int .i64 a0_1, u272002] 30 (0, 0))) ∧ Aside0 (w'.heap[gb287]? = some (.cells #[.int .i64 t290, .int .i64 t291] 35 (0, 0))) ∧ Aside0 (w'.heap[gb289]? = some (.cells #[.int .i64 a0_0, .int .i64 ji73, (.slice A0_2 l0_2.length c0_2)] 30 (0, 0))) ∧ Aside0 (w'.heap[gb294]? = some (.cells #[.int .i64 a0_0, .int .i64 a0_1, u295002] 30 (0, 0))) ∧ Aside0 (Below w.heap.size w w'))
                            case atStart => exact ⟨(0), (a1_4), (a1_5), (a1_6), (a1_7), (y281), (y298), (.slice Ao50 y281.length co50), (.slice Ao128 y298.length co128), (by first | rfl | (simp; done) | (simp [*]; done)), H', ⟨Nat.le_refl _⟩, ⟨by (with_reducible repeat (first | apply Kd.R_alloc | apply Kd.R_drewN | apply Kd.R_drew)); exact Kd.R_mono (Kd.R_far (p := ⟨gb294, 2, none⟩) (Kd.R_types HO_272002.out BK294.out (by decide)) (fun _ hk => hk.2) (.slice Ao128 y298.length co128)) (fun _ hk => ⟨hk.1.2, hk.1.1⟩)⟩, ⟨by (with_reducible repeat (first | apply Kd.R_alloc | apply Kd.R_drewN | apply Kd.R_drew)); exact Kd.R_mono (Kd.R_far (p := ⟨gb294, 2, none⟩) (Kd.R_types HO300.out BK294.out (by decide)) (fun _ hk => hk.2) (.slice Ao128 y298.length co128)) (fun _ hk => ⟨hk.1.1, hk.1.2⟩)⟩, ⟨by (with_reducible repeat (first | refine blk_drewN ?_ _ | refine blk_drew ?_ | refine blk_alloc ?_ _)); refine blk_far ?_ NB262_294.out _; (with_reducible repeat (first | refine blk_drewN ?_ _ | refine blk_drew ?_ | refine blk_alloc ?_ _)); exact BK262.out⟩, ⟨by (with_reducible repeat (first | refine blk_drewN ?_ _ | refine blk_drew ?_ | refine blk_alloc ?_ _)); refine blk_far ?_ NB263_294.out _; (with_reducible repeat (first | refine blk_drewN ?_ _ | refine blk_drew ?_ | refine blk_alloc ?_ _)); exact BK263.out⟩, ⟨by (with_reducible repeat (first | refine blk_drewN ?_ _ | refine blk_drew ?_ | refine blk_alloc ?_ _)); refine blk_far ?_ NB269_294.out _; (with_reducible repeat (first | refine blk_drewN ?_ _ | refine blk_drew ?_ | refine blk_alloc ?_ _)); exact BK269.out⟩, ⟨by (with_reducible repeat (first | refine blk_drewN ?_ _ | refine blk_drew ?_ | refine blk_alloc ?_ _)); refine blk_far ?_ NB271_294.out _; (with_reducible repeat (first | refine blk_drewN ?_ _ | refine blk_drew ?_ | refine blk_alloc ?_ _)); exact BK271.out⟩, ⟨by (with_reducible repeat (first | refine blk_drewN ?_ _ | refine blk_drew ?_ | refine blk_alloc ?_ _)); refine blk_far ?_ NB287_294.out _; (with_reducible repeat (first | refine blk_drewN ?_ _ | refine blk_drew ?_ | refine blk_alloc ?_ _)); exact BK287.out⟩, ⟨by (with_reducible repeat (first | refine blk_drewN ?_ _ | refine blk_drew ?_ | refine blk_alloc ?_ _)); refine blk_far ?_ NB289_294.out _; (with_reducible repeat (first | refine blk_drewN ?_ _ | refine blk_drew ?_ | refine blk_alloc ?_ _)); exact BK289.out⟩, ⟨by (with_reducible repeat (first | refine blk_drewN ?_ _ | refine blk_drew ?_ | refine blk_alloc ?_ _)); refine blk_put (cs := #[.int .i64 a0_0, .int .i64 a0_1, .slice A0_2 l0_2.length c0_2]) ?_ 2 _ rfl; (with_reducible repeat (first | refine blk_drewN ?_ _ | refine blk_drew ?_ | refine blk_alloc ?_ _)); exact BK294.out⟩, ⟨by repeat (first | (with_reducible first | exact HB.out | apply below_alloc | apply pw_below_drewN | apply below_drew1 | refine below_set ?_ GE262.out | refine below_set ?_ GE263.out | refine below_set ?_ GE269.out | refine below_set ?_ GE271.out | refine below_set ?_ GE287.out | refine below_set ?_ GE289.out | refine below_set ?_ GE294.out) | exact HB.out)⟩⟩
                            case round =>
                              clear H'
                              try clear c1
                              try clear c2
                              try clear p2
                              try clear c3
                              try clear c5
                              try clear c6
                              try clear p6
                              try clear c7
                              try clear c8
                              try clear c9
                              try clear c10
                              try clear c11
                              try clear c12
                              try clear c16
                              try clear c18
                              try clear c22
                              try clear c22b0
                              try clear c22b1
                              try clear c23
                              try clear c24
                              try clear c27
                              try clear c31
                              try clear c32
                              try clear c36
                              try clear c37
                              try clear c38
                              try clear c55
                              try clear c56
                              try clear c57
                              try clear c58
                              try clear c60
                              try clear c60b0
                              try clear c60b1
                              try clear c62
                              try clear c63
                              try clear c64
                              try clear p64
                              try clear c65
                              try clear c67
                              try clear c68
                              try clear c69
                              try clear c72
                              try clear c76
                              try clear c77
                              try clear c78
                              try clear c79
                              try clear c82
                              try clear c83
                              try clear c84
                              try clear c85
                              try clear c86
                              try clear c90
                              try clear c91
                              try clear c92
                              try clear c94
                              try clear c94b0
                              try clear c94b1
                              try clear c96
                              try clear c97
                              try clear c98
                              try clear c99
                              try clear c100
                              try clear c102
                              try clear c103
                              try clear c104
                              try clear c105
                              try clear c108
                              try clear c109
                              try clear c110
                              try clear c111
                              try clear c112
                              try clear c113
                              try clear c114
                              try clear c117
                              try clear c118
                              try clear c119
                              try clear c120
                              try clear c121
                              try clear c122
                              try clear hcz101_0
                              try clear hcz101_1
                              try clear hcz106_0
                              try clear hcz106_1
                              try clear hcz115_0
                              try clear hcz115_1
                              try clear hcz115_2
                              try clear hcz123_0
                              try clear hcz123_1
                              try clear hcz123_2
                              try clear hcz126_0
                              try clear hcz126_1
                              try clear hcz126_2
                              try clear hcz129_0
                              try clear hcz129_1
                              try clear hcz129_2
                              try clear hcz12_0
                              try clear hcz12_1
                              try clear hcz12_2
                              try clear hcz15_0
                              try clear hcz15_1
                              try clear hcz15_2
                              try clear hcz17_0
                              try clear hcz17_1
                              try clear hcz17_2
                              try clear hcz28_0
                              try clear hcz28_1
                              try clear hcz28_2
                              try clear hcz33_0
                              try clear hcz33_1
                              try clear hcz34_0
                              try clear hcz34_1
                              try clear hcz34_2
                              try clear hcz39_0
                              try clear hcz39_1
                              try clear hcz39_2
                              try clear hcz52_0
                              try clear hcz52_1
                              try clear hcz52_2
                              try clear hcz59_0
                              try clear hcz59_1
                              try clear hcz66_0
                              try clear hcz66_1
                              try clear hcz70_0
                              try clear hcz70_1
                              try clear hcz80_0
                              try clear hcz80_1
                              try clear hcz80_2
                              try clear hcz87_0
                              try clear hcz87_1
                              try clear hcz87_2
                              try clear hcz88_0
                              try clear hcz88_1
                              try clear hcz88_2
                              try clear hcz93_0
                              try clear hcz93_1
                              try clear hfz101_0
                              try clear hfz101_1
                              try clear hfz106_0
                              try clear hfz106_1
                              try clear hfz115_0
                              try clear hfz115_1
                              try clear hfz115_2
                              try clear hfz123_0
                              try clear hfz123_1
                              try clear hfz123_2
                              try clear hfz126_0
                              try clear hfz126_1
                              try clear hfz126_2
                              try clear hfz129_0
                              try clear hfz129_1
                              try clear hfz129_2
                              try clear hfz12_0
                              try clear hfz12_1
                              try clear hfz12_2
                              try clear hfz15_0
                              try clear hfz15_1
                              try clear hfz15_2
                              try clear hfz17_0
                              try clear hfz17_1
                              try clear hfz17_2
                              try clear hfz28_0
                              try clear hfz28_1
                              try clear hfz28_2
                              try clear hfz33_0
                              try clear hfz33_1
                              try clear hfz34_0
                              try clear hfz34_1
                              try clear hfz34_2
                              try clear hfz39_0
                              try clear hfz39_1
                              try clear hfz39_2
                              try clear hfz52_0
                              try clear hfz52_1
                              try clear hfz52_2
                              try clear hfz59_0
                              try clear hfz59_1
                              try clear hfz66_0
                              try clear hfz66_1
                              try clear hfz70_0
                              try clear hfz70_1
                              try clear hfz80_0
                              try clear hfz80_1
                              try clear hfz80_2
                              try clear hfz87_0
                              try clear hfz87_1
                              try clear hfz87_2
                              try clear hfz88_0
                              try clear hfz88_1
                              try clear hfz88_2
                              try clear hfz93_0
                              try clear hfz93_1
                              try clear p2
                              try clear p6
                              try clear p64
                              obtain ⟨x17_4, x264004_4, x264005_4, x264006_4, x264007_4, x272002_4, x295002_4, u272002, u295002, rfl, HA, HK4, HO_272002, HO_295002, BK262, BK263, BK269, BK271, BK287, BK289, BK294, HB⟩ := hrel
                              cases gk with
                              | zero => exact absurd HA.out (by simp [isobathlaw05_ClockMore.l0])
                              | succ k4 =>
                                have H := HA.out
                                clear HA
                                simp only [isobathlaw05_ClockMore.l0] at H
                                by_cases c130 : x17_4 < (x295002_4.length : Int)
                                · rw [if_pos c130] at H
                                  have c130b0 : decide (x17_4 < (x295002_4.length : Int)) = true := decide_eq_true c130
                                  clear c130
                                  by_cases c131 : 0 ≤ x17_4
                                  · rw [if_pos c131] at H
                                    have c131b0 : decide (0 ≤ x17_4) = true := decide_eq_true c131
                                    clear c131
                                    obtain ⟨ji132, hji132⟩ : ∃ j_ : Int, (mx 0 (wrap64 (((rd_T46 x295002_4 x17_4).f4.f0) - (wrap64 (a4))))) = j_ := ⟨_, rfl⟩
                                    replace H : ((some (x295002_4.set (x17_4 : Int).toNat (⟨(rd_T46 x295002_4 x17_4).f0, (rd_T46 x295002_4 x17_4).f1, (rd_T46 x295002_4 x17_4).f2, (rd_T46 x295002_4 x17_4).f3, (⟨ji132, mn 1073741824 (wrap64 (((rd_T46 x295002_4 x17_4).f4.f1) + (wrap64 (a4))))⟩ : S35), (⟨(rd_T46 x295002_4 x17_4).f5.f0, (rd_T46 x295002_4 x17_4).f5.f1⟩ : S35)⟩ : S46) : List (S46))).bind fun y303 => (isobathlaw05_ClockMore.l0 k4 a2 a4 (wrap64 (x17_4 + 1)) t266 t267 a0_0 a0_1 (y303.set (x17_4 : Int).toNat (⟨(rd_T46 y303 x17_4).f0, (rd_T46 y303 x17_4).f1, (rd_T46 y303 x17_4).f2, (rd_T46 y303 x17_4).f3, (⟨(rd_T46 y303 x17_4).f4.f0, (rd_T46 y303 x17_4).f4.f1⟩ : S35), (⟨mx 0 (wrap64 (((rd_T46 x295002_4 x17_4).f5.f0) - (wrap64 (a4)))), mn 1073741824 (wrap64 (((rd_T46 x295002_4 x17_4).f5.f1) + (wrap64 (a4))))⟩ : S35)⟩ : S46)))) = some r := by first | (rw [hji132] at H; exact H) | (simp only [hji132] at H ⊢; exact H)
                                    have hji132_ : (if 0 < (wrap64 (((rd_T46 x295002_4 x17_4).f4.f0) - (wrap64 (a4)))) then (wrap64 (((rd_T46 x295002_4 x17_4).f4.f0) - (wrap64 (a4)))) else 0) = ji132 := hji132
                                    obtain ⟨ji133, hji133⟩ : ∃ j_ : Int, (mn 1073741824 (wrap64 (((rd_T46 x295002_4 x17_4).f4.f1) + (wrap64 (a4))))) = j_ := ⟨_, rfl⟩
                                    replace H : ((some (x295002_4.set (x17_4 : Int).toNat (⟨(rd_T46 x295002_4 x17_4).f0, (rd_T46 x295002_4 x17_4).f1, (rd_T46 x295002_4 x17_4).f2, (rd_T46 x295002_4 x17_4).f3, (⟨ji132, ji133⟩ : S35), (⟨(rd_T46 x295002_4 x17_4).f5.f0, (rd_T46 x295002_4 x17_4).f5.f1⟩ : S35)⟩ : S46) : List (S46))).bind fun y303 => (isobathlaw05_ClockMore.l0 k4 a2 a4 (wrap64 (x17_4 + 1)) t266 t267 a0_0 a0_1 (y303.set (x17_4 : Int).toNat (⟨(rd_T46 y303 x17_4).f0, (rd_T46 y303 x17_4).f1, (rd_T46 y303 x17_4).f2, (rd_T46 y303 x17_4).f3, (⟨(rd_T46 y303 x17_4).f4.f0, (rd_T46 y303 x17_4).f4.f1⟩ : S35), (⟨mx 0 (wrap64 (((rd_T46 x295002_4 x17_4).f5.f0) - (wrap64 (a4)))), mn 1073741824 (wrap64 (((rd_T46 x295002_4 x17_4).f5.f1) + (wrap64 (a4))))⟩ : S35)⟩ : S46)))) = some r := by first | (rw [hji133] at H; exact H) | (simp only [hji133] at H ⊢; exact H)
                                    have hji133_ : (if (wrap64 (((rd_T46 x295002_4 x17_4).f4.f1) + (wrap64 (a4)))) < 1073741824 then (wrap64 (((rd_T46 x295002_4 x17_4).f4.f1) + (wrap64 (a4)))) else 1073741824) = ji133 := hji133
                                    obtain ⟨y303, hy303⟩ : ∃ y_ : List (S46), y_ = (x295002_4.set (x17_4 : Int).toNat (⟨(rd_T46 x295002_4 x17_4).f0, (rd_T46 x295002_4 x17_4).f1, (rd_T46 x295002_4 x17_4).f2, (rd_T46 x295002_4 x17_4).f3, (⟨ji132, ji133⟩ : S35), (⟨(rd_T46 x295002_4 x17_4).f5.f0, (rd_T46 x295002_4 x17_4).f5.f1⟩ : S35)⟩ : S46)) := ⟨_, rfl⟩
                                    replace H : (isobathlaw05_ClockMore.l0 k4 a2 a4 (wrap64 (x17_4 + 1)) t266 t267 a0_0 a0_1 (y303.set (x17_4 : Int).toNat (⟨(rd_T46 y303 x17_4).f0, (rd_T46 y303 x17_4).f1, (rd_T46 y303 x17_4).f2, (rd_T46 y303 x17_4).f3, (⟨(rd_T46 y303 x17_4).f4.f0, (rd_T46 y303 x17_4).f4.f1⟩ : S35), (⟨mx 0 (wrap64 (((rd_T46 x295002_4 x17_4).f5.f0) - (wrap64 (a4)))), mn 1073741824 (wrap64 (((rd_T46 x295002_4 x17_4).f5.f1) + (wrap64 (a4))))⟩ : S35)⟩ : S46))) = some r := by first | (rw [hy303]; with_reducible exact H) | (have H2_ := (Option.bind_some _ _).symm.trans H; rw [hy303]; with_reducible exact H2_) | (have H2_ := (Option.bind_some _ _).symm.trans H; with_reducible exact H2_) | with_reducible exact H | (rw [hy303]; exact H) | exact H
                                    have Ny303 := Aside0.mk hy303
                                    clear hy303
                                    obtain ⟨ji135, hji135⟩ : ∃ j_ : Int, (mx 0 (wrap64 (((rd_T46 x295002_4 x17_4).f5.f0) - (wrap64 (a4))))) = j_ := ⟨_, rfl⟩
                                    replace H : (isobathlaw05_ClockMore.l0 k4 a2 a4 (wrap64 (x17_4 + 1)) t266 t267 a0_0 a0_1 (y303.set (x17_4 : Int).toNat (⟨(rd_T46 y303 x17_4).f0, (rd_T46 y303 x17_4).f1, (rd_T46 y303 x17_4).f2, (rd_T46 y303 x17_4).f3, (⟨(rd_T46 y303 x17_4).f4.f0, (rd_T46 y303 x17_4).f4.f1⟩ : S35), (⟨ji135, mn 1073741824 (wrap64 (((rd_T46 x295002_4 x17_4).f5.f1) + (wrap64 (a4))))⟩ : S35)⟩ : S46))) = some r := by first | (rw [hji135] at H; exact H) | (simp only [hji135] at H ⊢; exact H)
                                    have hji135_ : (if 0 < (wrap64 (((rd_T46 x295002_4 x17_4).f5.f0) - (wrap64 (a4)))) then (wrap64 (((rd_T46 x295002_4 x17_4).f5.f0) - (wrap64 (a4)))) else 0) = ji135 := hji135
                                    obtain ⟨ji136, hji136⟩ : ∃ j_ : Int, (mn 1073741824 (wrap64 (((rd_T46 x295002_4 x17_4).f5.f1) + (wrap64 (a4))))) = j_ := ⟨_, rfl⟩
                                    replace H : (isobathlaw05_ClockMore.l0 k4 a2 a4 (wrap64 (x17_4 + 1)) t266 t267 a0_0 a0_1 (y303.set (x17_4 : Int).toNat (⟨(rd_T46 y303 x17_4).f0, (rd_T46 y303 x17_4).f1, (rd_T46 y303 x17_4).f2, (rd_T46 y303 x17_4).f3, (⟨(rd_T46 y303 x17_4).f4.f0, (rd_T46 y303 x17_4).f4.f1⟩ : S35), (⟨ji135, ji136⟩ : S35)⟩ : S46))) = some r := by first | (rw [hji136] at H; exact H) | (simp only [hji136] at H ⊢; exact H)
                                    have hji136_ : (if (wrap64 (((rd_T46 x295002_4 x17_4).f5.f1) + (wrap64 (a4)))) < 1073741824 then (wrap64 (((rd_T46 x295002_4 x17_4).f5.f1) + (wrap64 (a4)))) else 1073741824) = ji136 := hji136
                                    obtain ⟨y304, hy304⟩ : ∃ y_ : List (S46), y_ = (y303.set (x17_4 : Int).toNat (⟨(rd_T46 y303 x17_4).f0, (rd_T46 y303 x17_4).f1, (rd_T46 y303 x17_4).f2, (rd_T46 y303 x17_4).f3, (⟨(rd_T46 y303 x17_4).f4.f0, (rd_T46 y303 x17_4).f4.f1⟩ : S35), (⟨ji135, ji136⟩ : S35)⟩ : S46)) := ⟨_, rfl⟩
                                    replace H : (isobathlaw05_ClockMore.l0 k4 a2 a4 (wrap64 (x17_4 + 1)) t266 t267 a0_0 a0_1 y304) = some r := by first | (rw [hy304]; with_reducible exact H) | (have H2_ := (Option.bind_some _ _).symm.trans H; rw [hy304]; with_reducible exact H2_) | (have H2_ := (Option.bind_some _ _).symm.trans H; with_reducible exact H2_) | with_reducible exact H | (rw [hy304]; exact H) | exact H
                                    have Ny304 := Aside0.mk hy304
                                    clear hy304
                                    have H' := Aside0.mk H
                                    clear H
                                    have hnb138 := NB294_262.out
                                    have hnc138 := NB262_294.out
                                    have hnb139 := NB294_263.out
                                    have hnc139 := NB263_294.out
                                    have hnb140 := NB294_269.out
                                    have hnc140 := NB269_294.out
                                    have hnb141 := NB294_271.out
                                    have hnc141 := NB271_294.out
                                    have hnb142 := NB294_287.out
                                    have hnc142 := NB287_294.out
                                    have hnb143 := NB294_289.out
                                    have hnc143 := NB289_294.out
                                    have hcz144_0 : wr.cell? ⟨gb294, 0, none⟩ = some (.int .i64 a0_0) := (blk_cell BK294.out 0).trans rfl
                                    have hcz144_1 : wr.cell? ⟨gb294, 1, none⟩ = some (.int .i64 a0_1) := (blk_cell BK294.out 1).trans rfl
                                    have hcz144_2 : wr.cell? ⟨gb294, 2, none⟩ = some (u295002) := (blk_cell BK294.out 2).trans rfl
                                    have hfz144_0 := blk_frozen BK294.out 0
                                    have hfz144_1 := blk_frozen BK294.out 1
                                    have hfz144_2 := blk_frozen BK294.out 2
                                    obtain ⟨Ao145, co145, eo145⟩ := Kd.R_slice HO_295002.out
                                    subst eo145
                                    have p301 : 0 ≤ (x17_4 : Int) := of_decide_eq_true (by first | (with_reducible assumption) | assumption)
                                    have q301 : x17_4 < (x295002_4.length : Int) := of_decide_eq_true (by first | (with_reducible assumption) | assumption)
                                    obtain ⟨ad301, e301, hx301_0, hx301_1, hx301_2, hx301_3, hx301_4, hx301_5, hx301_6, hx301_7⟩ := at_T46 (Kd.R_reads' HO_295002.out).2.2 x17_4 p301 q301
                                    cases e301
                                    replace p301 := eq_true p301
                                    replace q301 := eq_true q301
                                    go_wp2_with (first | ((with_reducible refine gate_dst (N := 18) rfl ?_); (try (refine gate_guard (by rfl) ?_; dsimp only)); refine box_event ?hg (N := 18) ?hd (cs := #[.int .i64 0, .int .i64 0, .int .i64 0, .int .i64 0, .int .i64 0, .int .i64 0, .int .i64 0, .int .i64 0]) (t := 46) ?hr ?_; (case hd => rfl); (case hg => rfl); (case hr => first | (go_simp; done) | (go_simp; rfl)); intro gb302 hg w146 hbox hb; have n0_ := Aside0.mk (Kd.R_below (Kd.R_elderB (by (with_reducible repeat (first | apply Kd.R_alloc | apply Kd.R_drewN | apply Kd.R_drew)); exact HO_272002.out) gb302 (Nat.le_of_eq hg.symm)) hb); have n1_ := Aside0.mk (Kd.R_below (Kd.R_elderB (by (with_reducible repeat (first | apply Kd.R_alloc | apply Kd.R_drewN | apply Kd.R_drew)); exact HO_295002.out) gb302 (Nat.le_of_eq hg.symm)) hb); have n2_ := Aside0.mk (blk_below (g := gb262) (o := .cells #[.int .i64 a0_0, .int .i64 a0_1, .slice A0_2 l0_2.length c0_2] 30 (0, 0)) (by exact BK262.out) hb); have n3_ := Aside0.mk (blk_below (g := gb263) (o := .cells #[.int .i64 a1_0, .int .i64 a1_1, .int .i64 a1_2, .int .i64 a1_3, .int .i64 x264004_4, .int .i64 x264005_4, .int .i64 x264006_4, .int .i64 x264007_4] 46 (0, 0)) (by exact BK263.out) hb); have n4_ := Aside0.mk (blk_below (g := gb269) (o := .cells #[.int .i64 t266, .int .i64 t267] 35 (0, 0)) (by exact BK269.out) hb); have n5_ := Aside0.mk (blk_below (g := gb271) (o := .cells #[.int .i64 a0_0, .int .i64 a0_1, u272002] 30 (0, 0)) (by exact BK271.out) hb); have n6_ := Aside0.mk (blk_below (g := gb287) (o := .cells #[.int .i64 t290, .int .i64 t291] 35 (0, 0)) (by exact BK287.out) hb); have n7_ := Aside0.mk (blk_below (g := gb289) (o := .cells #[.int .i64 a0_0, .int .i64 ji73, .slice A0_2 l0_2.length c0_2] 30 (0, 0)) (by exact BK289.out) hb); have n8_ := Aside0.mk (blk_below (g := gb294) (o := .cells #[.int .i64 a0_0, .int .i64 a0_1, .slice (some ad301) x295002_4.length co145] 30 (0, 0)) (by exact BK294.out) hb); have n9_ := Aside0.mk (below_step (by repeat (first | (with_reducible first | exact HB.out | apply below_alloc | apply pw_below_drewN | apply below_drew1 | refine below_set ?_ GE262.out | refine below_set ?_ GE263.out | refine below_set ?_ GE269.out | refine below_set ?_ GE271.out | refine below_set ?_ GE287.out | refine below_set ?_ GE289.out | refine below_set ?_ GE294.out) | exact HB.out)) hb); have n10_ := Aside0.mk (hbox); have n11_ := Aside0.mk ((by rw [hg]; exact (below_size (by repeat (first | (with_reducible first | exact HB.out | apply below_alloc | apply pw_below_drewN | apply below_drew1 | refine below_set ?_ GE262.out | refine below_set ?_ GE263.out | refine below_set ?_ GE269.out | refine below_set ?_ GE271.out | refine below_set ?_ GE287.out | refine below_set ?_ GE289.out | refine below_set ?_ GE294.out) | exact HB.out))) : w.heap.size ≤ gb302)); have n12_ := Aside0.mk ((by rw [hg]; exact (below_size (by repeat (first | (with_reducible first | exact HB.out | apply below_alloc | apply pw_below_drewN | apply below_drew1 | refine below_set ?_ GE262.out | refine below_set ?_ GE263.out | refine below_set ?_ GE269.out | refine below_set ?_ GE271.out | refine below_set ?_ GE287.out | refine below_set ?_ GE289.out | refine below_set ?_ GE294.out) | exact HB.out))) : w.heap.size ≤ gb302)); have n13_ := Aside0.mk ((by rw [hg]; exact Nat.ne_of_lt (blk_lt (g := gb262) (o := .cells #[.int .i64 a0_0, .int .i64 a0_1, .slice A0_2 l0_2.length c0_2] 30 (0, 0)) (by exact BK262.out)) : gb262 ≠ gb302)); have n14_ := Aside0.mk ((by rw [hg]; exact Nat.ne_of_gt (blk_lt (g := gb262) (o := .cells #[.int .i64 a0_0, .int .i64 a0_1, .slice A0_2 l0_2.length c0_2] 30 (0, 0)) (by exact BK262.out)) : gb302 ≠ gb262)); have n15_ := Aside0.mk ((by rw [hg]; exact Nat.ne_of_lt (blk_lt (g := gb263) (o := .cells #[.int .i64 a1_0, .int .i64 a1_1, .int .i64 a1_2, .int .i64 a1_3, .int .i64 x264004_4, .int .i64 x264005_4, .int .i64 x264006_4, .int .i64 x264007_4] 46 (0, 0)) (by exact BK263.out)) : gb263 ≠ gb302)); have n16_ := Aside0.mk ((by rw [hg]; exact Nat.ne_of_gt (blk_lt (g := gb263) (o := .cells #[.int .i64 a1_0, .int .i64 a1_1, .int .i64 a1_2, .int .i64 a1_3, .int .i64 x264004_4, .int .i64 x264005_4, .int .i64 x264006_4, .int .i64 x264007_4] 46 (0, 0)) (by exact BK263.out)) : gb302 ≠ gb263)); have n17_ := Aside0.mk ((by rw [hg]; exact Nat.ne_of_lt (blk_lt (g := gb269) (o := .cells #[.int .i64 t266, .int .i64 t267] 35 (0, 0)) (by exact BK269.out)) : gb269 ≠ gb302)); have n18_ := Aside0.mk ((by rw [hg]; exact Nat.ne_of_gt (blk_lt (g := gb269) (o := .cells #[.int .i64 t266, .int .i64 t267] 35 (0, 0)) (by exact BK269.out)) : gb302 ≠ gb269)); have n19_ := Aside0.mk ((by rw [hg]; exact Nat.ne_of_lt (blk_lt (g := gb271) (o := .cells #[.int .i64 a0_0, .int .i64 a0_1, u272002] 30 (0, 0)) (by exact BK271.out)) : gb271 ≠ gb302)); have n20_ := Aside0.mk ((by rw [hg]; exact Nat.ne_of_gt (blk_lt (g := gb271) (o := .cells #[.int .i64 a0_0, .int .i64 a0_1, u272002] 30 (0, 0)) (by exact BK271.out)) : gb302 ≠ gb271)); have n21_ := Aside0.mk ((by rw [hg]; exact Nat.ne_of_lt (blk_lt (g := gb287) (o := .cells #[.int .i64 t290, .int .i64 t291] 35 (0, 0)) (by exact BK287.out)) : gb287 ≠ gb302)); have n22_ := Aside0.mk ((by rw [hg]; exact Nat.ne_of_gt (blk_lt (g := gb287) (o := .cells #[.int .i64 t290, .int .i64 t291] 35 (0, 0)) (by exact BK287.out)) : gb302 ≠ gb287)); have n23_ := Aside0.mk ((by rw [hg]; exact Nat.ne_of_lt (blk_lt (g := gb289) (o := .cells #[.int .i64 a0_0, .int .i64 ji73, .slice A0_2 l0_2.length c0_2] 30 (0, 0)) (by exact BK289.out)) : gb289 ≠ gb302)); have n24_ := Aside0.mk ((by rw [hg]; exact Nat.ne_of_gt (blk_lt (g := gb289) (o := .cells #[.int .i64 a0_0, .int .i64 ji73, .slice A0_2 l0_2.length c0_2] 30 (0, 0)) (by exact BK289.out)) : gb302 ≠ gb289)); have n25_ := Aside0.mk ((by rw [hg]; exact Nat.ne_of_lt (blk_lt (g := gb294) (o := .cells #[.int .i64 a0_0, .int .i64 a0_1, .slice (some ad301) x295002_4.length co145] 30 (0, 0)) (by exact BK294.out)) : gb294 ≠ gb302)); have n26_ := Aside0.mk ((by rw [hg]; exact Nat.ne_of_gt (blk_lt (g := gb294) (o := .cells #[.int .i64 a0_0, .int .i64 a0_1, .slice (some ad301) x295002_4.length co145] 30 (0, 0)) (by exact BK294.out)) : gb302 ≠ gb294)); clear HO_272002; clear HO_295002; clear BK262; clear BK263; clear BK269; clear BK271; clear BK287; clear BK289; clear BK294; clear HB; have HO_272002 := n0_; have HO_295002 := n1_; have BK262 := n2_; have BK263 := n3_; have BK269 := n4_; have BK271 := n5_; have BK287 := n6_; have BK289 := n7_; have BK294 := n8_; have HB := n9_; have BK302 := n10_; have GW302 := n11_; have GE302 := n12_; have NB262_302 := n13_; have NB302_262 := n14_; have NB263_302 := n15_; have NB302_263 := n16_; have NB269_302 := n17_; have NB302_269 := n18_; have NB271_302 := n19_; have NB302_271 := n20_; have NB287_302 := n21_; have NB302_287 := n22_; have NB289_302 := n23_; have NB302_289 := n24_; have NB294_302 := n25_; have NB302_294 := n26_; clear n0_ n1_ n2_ n3_ n4_ n5_ n6_ n7_ n8_ n9_ n10_ n11_ n12_ n13_ n14_ n15_ n16_ n17_ n18_ n19_ n20_ n21_ n22_ n23_ n24_ n25_ n26_; clear hb hbox hg; have hnb147 := NB302_262.out; have hnc147 := NB262_302.out; have hnb148 := NB302_263.out; have hnc148 := NB263_302.out; have hnb149 := NB302_269.out; have hnc149 := NB269_302.out; have hnb150 := NB302_271.out; have hnc150 := NB271_302.out; have hnb151 := NB302_287.out; have hnc151 := NB287_302.out; have hnb152 := NB302_289.out; have hnc152 := NB289_302.out; have hnb153 := NB302_294.out; have hnc153 := NB294_302.out; have hcz154_0 : w146.cell? ⟨gb302, 0, none⟩ = some (.int .i64 0) := (blk_cell BK302.out 0).trans rfl; have hcz154_1 : w146.cell? ⟨gb302, 1, none⟩ = some (.int .i64 0) := (blk_cell BK302.out 1).trans rfl; have hcz154_2 : w146.cell? ⟨gb302, 2, none⟩ = some (.int .i64 0) := (blk_cell BK302.out 2).trans rfl; have hcz154_3 : w146.cell? ⟨gb302, 3, none⟩ = some (.int .i64 0) := (blk_cell BK302.out 3).trans rfl; have hcz154_4 : w146.cell? ⟨gb302, 4, none⟩ = some (.int .i64 0) := (blk_cell BK302.out 4).trans rfl; have hcz154_5 : w146.cell? ⟨gb302, 5, none⟩ = some (.int .i64 0) := (blk_cell BK302.out 5).trans rfl; have hcz154_6 : w146.cell? ⟨gb302, 6, none⟩ = some (.int .i64 0) := (blk_cell BK302.out 6).trans rfl; have hcz154_7 : w146.cell? ⟨gb302, 7, none⟩ = some (.int .i64 0) := (blk_cell BK302.out 7).trans rfl; have hfz154_0 := blk_frozen BK302.out 0; have hfz154_1 := blk_frozen BK302.out 1; have hfz154_2 := blk_frozen BK302.out 2; have hfz154_3 := blk_frozen BK302.out 3; have hfz154_4 := blk_frozen BK302.out 4; have hfz154_5 := blk_frozen BK302.out 5; have hfz154_6 := blk_frozen BK302.out 6; have hfz154_7 := blk_frozen BK302.out 7) | ((with_reducible refine gate_store (t := 46) (p := 18) rfl ?_); refine store_event (t := 46) (p := 18) (v := ?vo_w155) (w1 := ((((((((w146.setCell ⟨gb302, 0, none⟩ (.int .i64 ((rd_T46 x295002_4 x17_4).f0))).setCell ⟨gb302, 1, none⟩ (.int .i64 ((rd_T46 x295002_4 x17_4).f1))).setCell ⟨gb302, 2, none⟩ (.int .i64 ((rd_T46 x295002_4 x17_4).f2))).setCell ⟨gb302, 3, none⟩ (.int .i64 ((rd_T46 x295002_4 x17_4).f3))).setCell ⟨gb302, 4, none⟩ (.int .i64 ((rd_T46 x295002_4 x17_4).f4.f0))).setCell ⟨gb302, 5, none⟩ (.int .i64 ((rd_T46 x295002_4 x17_4).f4.f1))).setCell ⟨gb302, 6, none⟩ (.int .i64 ((rd_T46 x295002_4 x17_4).f5.f0))).setCell ⟨gb302, 7, none⟩ (.int .i64 ((rd_T46 x295002_4 x17_4).f5.f1)))) ?hg ?ho ?hn ?hr ?_; (case ho => rfl); (case hg => rfl); (case hn => rfl); (case hr => first | (go_simp; done) | (go_simp; rfl)); intro w155 hw; have n0_ : Aside0 (Kd.R k46 46 w155 w.heap.size (fun k_ => some k_ ≠ (.slice (some ad301) x295002_4.length co145 : Value).ownBlock ∧ k_ ≠ gb263 ∧ k_ ≠ gb302) u272002 x272002_4) := ⟨(by rw [hw]; exact (by (with_reducible repeat (first | apply Kd.R_alloc | apply Kd.R_drewN | apply Kd.R_drew)); exact Kd.R_mono (Kd.R_far (p := ⟨gb302, 7, none⟩) (Kd.R_far (p := ⟨gb302, 6, none⟩) (Kd.R_far (p := ⟨gb302, 5, none⟩) (Kd.R_far (p := ⟨gb302, 4, none⟩) (Kd.R_far (p := ⟨gb302, 3, none⟩) (Kd.R_far (p := ⟨gb302, 2, none⟩) (Kd.R_far (p := ⟨gb302, 1, none⟩) (Kd.R_far (p := ⟨gb302, 0, none⟩) (Kd.R_mono HO_272002.out (fun k_ hk => (⟨hk, hk.2⟩ : _ ∧ k_ ≠ gb302))) (fun _ hk => hk.2) (.int .i64 ((rd_T46 x295002_4 x17_4).f0))) (fun _ hk => hk.2) (.int .i64 ((rd_T46 x295002_4 x17_4).f1))) (fun _ hk => hk.2) (.int .i64 ((rd_T46 x295002_4 x17_4).f2))) (fun _ hk => hk.2) (.int .i64 ((rd_T46 x295002_4 x17_4).f3))) (fun _ hk => hk.2) (.int .i64 ((rd_T46 x295002_4 x17_4).f4.f0))) (fun _ hk => hk.2) (.int .i64 ((rd_T46 x295002_4 x17_4).f4.f1))) (fun _ hk => hk.2) (.int .i64 ((rd_T46 x295002_4 x17_4).f5.f0))) (fun _ hk => hk.2) (.int .i64 ((rd_T46 x295002_4 x17_4).f5.f1))) (fun _ hk => ⟨hk.1.1.1, ⟨hk.1.1.2, hk.1.2⟩⟩)))⟩; have n1_ : Aside0 (Kd.R k46 46 w155 w.heap.size (fun k_ => some k_ ≠ (u272002 : Value).ownBlock ∧ k_ ≠ gb263 ∧ k_ ≠ gb302) (.slice (some ad301) x295002_4.length co145) x295002_4) := ⟨(by rw [hw]; exact (by (with_reducible repeat (first | apply Kd.R_alloc | apply Kd.R_drewN | apply Kd.R_drew)); exact Kd.R_mono (Kd.R_far (p := ⟨gb302, 7, none⟩) (Kd.R_far (p := ⟨gb302, 6, none⟩) (Kd.R_far (p := ⟨gb302, 5, none⟩) (Kd.R_far (p := ⟨gb302, 4, none⟩) (Kd.R_far (p := ⟨gb302, 3, none⟩) (Kd.R_far (p := ⟨gb302, 2, none⟩) (Kd.R_far (p := ⟨gb302, 1, none⟩) (Kd.R_far (p := ⟨gb302, 0, none⟩) (Kd.R_mono HO_295002.out (fun k_ hk => (⟨hk, hk.2⟩ : _ ∧ k_ ≠ gb302))) (fun _ hk => hk.2) (.int .i64 ((rd_T46 x295002_4 x17_4).f0))) (fun _ hk => hk.2) (.int .i64 ((rd_T46 x295002_4 x17_4).f1))) (fun _ hk => hk.2) (.int .i64 ((rd_T46 x295002_4 x17_4).f2))) (fun _ hk => hk.2) (.int .i64 ((rd_T46 x295002_4 x17_4).f3))) (fun _ hk => hk.2) (.int .i64 ((rd_T46 x295002_4 x17_4).f4.f0))) (fun _ hk => hk.2) (.int .i64 ((rd_T46 x295002_4 x17_4).f4.f1))) (fun _ hk => hk.2) (.int .i64 ((rd_T46 x295002_4 x17_4).f5.f0))) (fun _ hk => hk.2) (.int .i64 ((rd_T46 x295002_4 x17_4).f5.f1))) (fun _ hk => ⟨hk.1.1.1, ⟨hk.1.1.2, hk.1.2⟩⟩)))⟩; have n2_ : Aside0 (w155.heap[gb262]? = some (.cells #[.int .i64 a0_0, .int .i64 a0_1, .slice A0_2 l0_2.length c0_2] 30 (0, 0))) := ⟨(by rw [hw]; exact (by (with_reducible repeat (first | refine blk_drewN ?_ _ | refine blk_drew ?_ | refine blk_alloc ?_ _)); refine blk_far ?_ NB262_302.out _; (with_reducible repeat (first | refine blk_drewN ?_ _ | refine blk_drew ?_ | refine blk_alloc ?_ _)); refine blk_far ?_ NB262_302.out _; (with_reducible repeat (first | refine blk_drewN ?_ _ | refine blk_drew ?_ | refine blk_alloc ?_ _)); refine blk_far ?_ NB262_302.out _; (with_reducible repeat (first | refine blk_drewN ?_ _ | refine blk_drew ?_ | refine blk_alloc ?_ _)); refine blk_far ?_ NB262_302.out _; (with_reducible repeat (first | refine blk_drewN ?_ _ | refine blk_drew ?_ | refine blk_alloc ?_ _)); refine blk_far ?_ NB262_302.out _; (with_reducible repeat (first | refine blk_drewN ?_ _ | refine blk_drew ?_ | refine blk_alloc ?_ _)); refine blk_far ?_ NB262_302.out _; (with_reducible repeat (first | refine blk_drewN ?_ _ | refine blk_drew ?_ | refine blk_alloc ?_ _)); refine blk_far ?_ NB262_302.out _; (with_reducible repeat (first | refine blk_drewN ?_ _ | refine blk_drew ?_ | refine blk_alloc ?_ _)); refine blk_far ?_ NB262_302.out _; (with_reducible repeat (first | refine blk_drewN ?_ _ | refine blk_drew ?_ | refine blk_alloc ?_ _)); exact BK262.out))⟩; have n3_ : Aside0 (w155.heap[gb263]? = some (.cells #[.int .i64 a1_0, .int .i64 a1_1, .int .i64 a1_2, .int .i64 a1_3, .int .i64 x264004_4, .int .i64 x264005_4, .int .i64 x264006_4, .int .i64 x264007_4] 46 (0, 0))) := ⟨(by rw [hw]; exact (by (with_reducible repeat (first | refine blk_drewN ?_ _ | refine blk_drew ?_ | refine blk_alloc ?_ _)); refine blk_far ?_ NB263_302.out _; (with_reducible repeat (first | refine blk_drewN ?_ _ | refine blk_drew ?_ | refine blk_alloc ?_ _)); refine blk_far ?_ NB263_302.out _; (with_reducible repeat (first | refine blk_drewN ?_ _ | refine blk_drew ?_ | refine blk_alloc ?_ _)); refine blk_far ?_ NB263_302.out _; (with_reducible repeat (first | refine blk_drewN ?_ _ | refine blk_drew ?_ | refine blk_alloc ?_ _)); refine blk_far ?_ NB263_302.out _; (with_reducible repeat (first | refine blk_drewN ?_ _ | refine blk_drew ?_ | refine blk_alloc ?_ _)); refine blk_far ?_ NB263_302.out _; (with_reducible repeat (first | refine blk_drewN ?_ _ | refine blk_drew ?_ | refine blk_alloc ?_ _)); refine blk_far ?_ NB263_302.out _; (with_reducible repeat (first | refine blk_drewN ?_ _ | refine blk_drew ?_ | refine blk_alloc ?_ _)); refine blk_far ?_ NB263_302.out _; (with_reducible repeat (first | refine blk_drewN ?_ _ | refine blk_drew ?_ | refine blk_alloc ?_ _)); refine blk_far ?_ NB263_302.out _; (with_reducible repeat (first | refine blk_drewN ?_ _ | refine blk_drew ?_ | refine blk_alloc ?_ _)); exact BK263.out))⟩; have n4_ : Aside0 (w155.heap[gb269]? = some (.cells #[.int .i64 t266, .int .i64 t267] 35 (0, 0))) := ⟨(by rw [hw]; exact (by (with_reducible repeat (first | refine blk_drewN ?_ _ | refine blk_drew ?_ | refine blk_alloc ?_ _)); refine blk_far ?_ NB269_302.out _; (with_reducible repeat (first | refine blk_drewN ?_ _ | refine blk_drew ?_ | refine blk_alloc ?_ _)); refine blk_far ?_ NB269_302.out _; (with_reducible repeat (first | refine blk_drewN ?_ _ | refine blk_drew ?_ | refine blk_alloc ?_ _)); refine blk_far ?_ NB269_302.out _; (with_reducible repeat (first | refine blk_drewN ?_ _ | refine blk_drew ?_ | refine blk_alloc ?_ _)); refine blk_far ?_ NB269_302.out _; (with_reducible repeat (first | refine blk_drewN ?_ _ | refine blk_drew ?_ | refine blk_alloc ?_ _)); refine blk_far ?_ NB269_302.out _; (with_reducible repeat (first | refine blk_drewN ?_ _ | refine blk_drew ?_ | refine blk_alloc ?_ _)); refine blk_far ?_ NB269_302.out _; (with_reducible repeat (first | refine blk_drewN ?_ _ | refine blk_drew ?_ | refine blk_alloc ?_ _)); refine blk_far ?_ NB269_302.out _; (with_reducible repeat (first | refine blk_drewN ?_ _ | refine blk_drew ?_ | refine blk_alloc ?_ _)); refine blk_far ?_ NB269_302.out _; (with_reducible repeat (first | refine blk_drewN ?_ _ | refine blk_drew ?_ | refine blk_alloc ?_ _)); exact BK269.out))⟩; have n5_ : Aside0 (w155.heap[gb271]? = some (.cells #[.int .i64 a0_0, .int .i64 a0_1, u272002] 30 (0, 0))) := ⟨(by rw [hw]; exact (by (with_reducible repeat (first | refine blk_drewN ?_ _ | refine blk_drew ?_ | refine blk_alloc ?_ _)); refine blk_far ?_ NB271_302.out _; (with_reducible repeat (first | refine blk_drewN ?_ _ | refine blk_drew ?_ | refine blk_alloc ?_ _)); refine blk_far ?_ NB271_302.out _; (with_reducible repeat (first | refine blk_drewN ?_ _ | refine blk_drew ?_ | refine blk_alloc ?_ _)); refine blk_far ?_ NB271_302.out _; (with_reducible repeat (first | refine blk_drewN ?_ _ | refine blk_drew ?_ | refine blk_alloc ?_ _)); refine blk_far ?_ NB271_302.out _; (with_reducible repeat (first | refine blk_drewN ?_ _ | refine blk_drew ?_ | refine blk_alloc ?_ _)); refine blk_far ?_ NB271_302.out _; (with_reducible repeat (first | refine blk_drewN ?_ _ | refine blk_drew ?_ | refine blk_alloc ?_ _)); refine blk_far ?_ NB271_302.out _; (with_reducible repeat (first | refine blk_drewN ?_ _ | refine blk_drew ?_ | refine blk_alloc ?_ _)); refine blk_far ?_ NB271_302.out _; (with_reducible repeat (first | refine blk_drewN ?_ _ | refine blk_drew ?_ | refine blk_alloc ?_ _)); refine blk_far ?_ NB271_302.out _; (with_reducible repeat (first | refine blk_drewN ?_ _ | refine blk_drew ?_ | refine blk_alloc ?_ _)); exact BK271.out))⟩; have n6_ : Aside0 (w155.heap[gb287]? = some (.cells #[.int .i64 t290, .int .i64 t291] 35 (0, 0))) := ⟨(by rw [hw]; exact (by (with_reducible repeat (first | refine blk_drewN ?_ _ | refine blk_drew ?_ | refine blk_alloc ?_ _)); refine blk_far ?_ NB287_302.out _; (with_reducible repeat (first | refine blk_drewN ?_ _ | refine blk_drew ?_ | refine blk_alloc ?_ _)); refine blk_far ?_ NB287_302.out _; (with_reducible repeat (first | refine blk_drewN ?_ _ | refine blk_drew ?_ | refine blk_alloc ?_ _)); refine blk_far ?_ NB287_302.out _; (with_reducible repeat (first | refine blk_drewN ?_ _ | refine blk_drew ?_ | refine blk_alloc ?_ _)); refine blk_far ?_ NB287_302.out _; (with_reducible repeat (first | refine blk_drewN ?_ _ | refine blk_drew ?_ | refine blk_alloc ?_ _)); refine blk_far ?_ NB287_302.out _; (with_reducible repeat (first | refine blk_drewN ?_ _ | refine blk_drew ?_ | refine blk_alloc ?_ _)); refine blk_far ?_ NB287_302.out _; (with_reducible repeat (first | refine blk_drewN ?_ _ | refine blk_drew ?_ | refine blk_alloc ?_ _)); refine blk_far ?_ NB287_302.out _; (with_reducible repeat (first | refine blk_drewN ?_ _ | refine blk_drew ?_ | refine blk_alloc ?_ _)); refine blk_far ?_ NB287_302.out _; (with_reducible repeat (first | refine blk_drewN ?_ _ | refine blk_drew ?_ | refine blk_alloc ?_ _)); exact BK287.out))⟩; have n7_ : Aside0 (w155.heap[gb289]? = some (.cells #[.int .i64 a0_0, .int .i64 ji73, .slice A0_2 l0_2.length c0_2] 30 (0, 0))) := ⟨(by rw [hw]; exact (by (with_reducible repeat (first | refine blk_drewN ?_ _ | refine blk_drew ?_ | refine blk_alloc ?_ _)); refine blk_far ?_ NB289_302.out _; (with_reducible repeat (first | refine blk_drewN ?_ _ | refine blk_drew ?_ | refine blk_alloc ?_ _)); refine blk_far ?_ NB289_302.out _; (with_reducible repeat (first | refine blk_drewN ?_ _ | refine blk_drew ?_ | refine blk_alloc ?_ _)); refine blk_far ?_ NB289_302.out _; (with_reducible repeat (first | refine blk_drewN ?_ _ | refine blk_drew ?_ | refine blk_alloc ?_ _)); refine blk_far ?_ NB289_302.out _; (with_reducible repeat (first | refine blk_drewN ?_ _ | refine blk_drew ?_ | refine blk_alloc ?_ _)); refine blk_far ?_ NB289_302.out _; (with_reducible repeat (first | refine blk_drewN ?_ _ | refine blk_drew ?_ | refine blk_alloc ?_ _)); refine blk_far ?_ NB289_302.out _; (with_reducible repeat (first | refine blk_drewN ?_ _ | refine blk_drew ?_ | refine blk_alloc ?_ _)); refine blk_far ?_ NB289_302.out _; (with_reducible repeat (first | refine blk_drewN ?_ _ | refine blk_drew ?_ | refine blk_alloc ?_ _)); refine blk_far ?_ NB289_302.out _; (with_reducible repeat (first | refine blk_drewN ?_ _ | refine blk_drew ?_ | refine blk_alloc ?_ _)); exact BK289.out))⟩; have n8_ : Aside0 (w155.heap[gb294]? = some (.cells #[.int .i64 a0_0, .int .i64 a0_1, .slice (some ad301) x295002_4.length co145] 30 (0, 0))) := ⟨(by rw [hw]; exact (by (with_reducible repeat (first | refine blk_drewN ?_ _ | refine blk_drew ?_ | refine blk_alloc ?_ _)); refine blk_far ?_ NB294_302.out _; (with_reducible repeat (first | refine blk_drewN ?_ _ | refine blk_drew ?_ | refine blk_alloc ?_ _)); refine blk_far ?_ NB294_302.out _; (with_reducible repeat (first | refine blk_drewN ?_ _ | refine blk_drew ?_ | refine blk_alloc ?_ _)); refine blk_far ?_ NB294_302.out _; (with_reducible repeat (first | refine blk_drewN ?_ _ | refine blk_drew ?_ | refine blk_alloc ?_ _)); refine blk_far ?_ NB294_302.out _; (with_reducible repeat (first | refine blk_drewN ?_ _ | refine blk_drew ?_ | refine blk_alloc ?_ _)); refine blk_far ?_ NB294_302.out _; (with_reducible repeat (first | refine blk_drewN ?_ _ | refine blk_drew ?_ | refine blk_alloc ?_ _)); refine blk_far ?_ NB294_302.out _; (with_reducible repeat (first | refine blk_drewN ?_ _ | refine blk_drew ?_ | refine blk_alloc ?_ _)); refine blk_far ?_ NB294_302.out _; (with_reducible repeat (first | refine blk_drewN ?_ _ | refine blk_drew ?_ | refine blk_alloc ?_ _)); refine blk_far ?_ NB294_302.out _; (with_reducible repeat (first | refine blk_drewN ?_ _ | refine blk_drew ?_ | refine blk_alloc ?_ _)); exact BK294.out))⟩; have n9_ : Aside0 (w155.heap[gb302]? = some (.cells #[.int .i64 ((rd_T46 x295002_4 x17_4).f0), .int .i64 ((rd_T46 x295002_4 x17_4).f1), .int .i64 ((rd_T46 x295002_4 x17_4).f2), .int .i64 ((rd_T46 x295002_4 x17_4).f3), .int .i64 ((rd_T46 x295002_4 x17_4).f4.f0), .int .i64 ((rd_T46 x295002_4 x17_4).f4.f1), .int .i64 ((rd_T46 x295002_4 x17_4).f5.f0), .int .i64 ((rd_T46 x295002_4 x17_4).f5.f1)] 46 (0, 0))) := ⟨(by rw [hw]; exact (by (with_reducible repeat (first | refine blk_drewN ?_ _ | refine blk_drew ?_ | refine blk_alloc ?_ _)); refine blk_put (cs := #[.int .i64 ((rd_T46 x295002_4 x17_4).f0), .int .i64 ((rd_T46 x295002_4 x17_4).f1), .int .i64 ((rd_T46 x295002_4 x17_4).f2), .int .i64 ((rd_T46 x295002_4 x17_4).f3), .int .i64 ((rd_T46 x295002_4 x17_4).f4.f0), .int .i64 ((rd_T46 x295002_4 x17_4).f4.f1), .int .i64 ((rd_T46 x295002_4 x17_4).f5.f0), .int .i64 0]) ?_ 7 _ rfl; (with_reducible repeat (first | refine blk_drewN ?_ _ | refine blk_drew ?_ | refine blk_alloc ?_ _)); refine blk_put (cs := #[.int .i64 ((rd_T46 x295002_4 x17_4).f0), .int .i64 ((rd_T46 x295002_4 x17_4).f1), .int .i64 ((rd_T46 x295002_4 x17_4).f2), .int .i64 ((rd_T46 x295002_4 x17_4).f3), .int .i64 ((rd_T46 x295002_4 x17_4).f4.f0), .int .i64 ((rd_T46 x295002_4 x17_4).f4.f1), .int .i64 0, .int .i64 0]) ?_ 6 _ rfl; (with_reducible repeat (first | refine blk_drewN ?_ _ | refine blk_drew ?_ | refine blk_alloc ?_ _)); refine blk_put (cs := #[.int .i64 ((rd_T46 x295002_4 x17_4).f0), .int .i64 ((rd_T46 x295002_4 x17_4).f1), .int .i64 ((rd_T46 x295002_4 x17_4).f2), .int .i64 ((rd_T46 x295002_4 x17_4).f3), .int .i64 ((rd_T46 x295002_4 x17_4).f4.f0), .int .i64 0, .int .i64 0, .int .i64 0]) ?_ 5 _ rfl; (with_reducible repeat (first | refine blk_drewN ?_ _ | refine blk_drew ?_ | refine blk_alloc ?_ _)); refine blk_put (cs := #[.int .i64 ((rd_T46 x295002_4 x17_4).f0), .int .i64 ((rd_T46 x295002_4 x17_4).f1), .int .i64 ((rd_T46 x295002_4 x17_4).f2), .int .i64 ((rd_T46 x295002_4 x17_4).f3), .int .i64 0, .int .i64 0, .int .i64 0, .int .i64 0]) ?_ 4 _ rfl; (with_reducible repeat (first | refine blk_drewN ?_ _ | refine blk_drew ?_ | refine blk_alloc ?_ _)); refine blk_put (cs := #[.int .i64 ((rd_T46 x295002_4 x17_4).f0), .int .i64 ((rd_T46 x295002_4 x17_4).f1), .int .i64 ((rd_T46 x295002_4 x17_4).f2), .int .i64 0, .int .i64 0, .int .i64 0, .int .i64 0, .int .i64 0]) ?_ 3 _ rfl; (with_reducible repeat (first | refine blk_drewN ?_ _ | refine blk_drew ?_ | refine blk_alloc ?_ _)); refine blk_put (cs := #[.int .i64 ((rd_T46 x295002_4 x17_4).f0), .int .i64 ((rd_T46 x295002_4 x17_4).f1), .int .i64 0, .int .i64 0, .int .i64 0, .int .i64 0, .int .i64 0, .int .i64 0]) ?_ 2 _ rfl; (with_reducible repeat (first | refine blk_drewN ?_ _ | refine blk_drew ?_ | refine blk_alloc ?_ _)); refine blk_put (cs := #[.int .i64 ((rd_T46 x295002_4 x17_4).f0), .int .i64 0, .int .i64 0, .int .i64 0, .int .i64 0, .int .i64 0, .int .i64 0, .int .i64 0]) ?_ 1 _ rfl; (with_reducible repeat (first | refine blk_drewN ?_ _ | refine blk_drew ?_ | refine blk_alloc ?_ _)); refine blk_put (cs := #[.int .i64 0, .int .i64 0, .int .i64 0, .int .i64 0, .int .i64 0, .int .i64 0, .int .i64 0, .int .i64 0]) ?_ 0 _ rfl; (with_reducible repeat (first | refine blk_drewN ?_ _ | refine blk_drew ?_ | refine blk_alloc ?_ _)); exact BK302.out))⟩; have n10_ : Aside0 (Below w.heap.size w w155) := ⟨(by rw [hw]; exact (by repeat (first | (with_reducible first | exact HB.out | apply below_alloc | apply pw_below_drewN | apply below_drew1 | refine below_set ?_ GE262.out | refine below_set ?_ GE263.out | refine below_set ?_ GE269.out | refine below_set ?_ GE271.out | refine below_set ?_ GE287.out | refine below_set ?_ GE289.out | refine below_set ?_ GE294.out | refine below_set ?_ GE302.out) | exact HB.out)))⟩; clear hw; clear HO_272002; clear HO_295002; clear BK262; clear BK263; clear BK269; clear BK271; clear BK287; clear BK289; clear BK294; clear BK302; clear HB; have HO_272002 := n0_; have HO_295002 := n1_; have BK262 := n2_; have BK263 := n3_; have BK269 := n4_; have BK271 := n5_; have BK287 := n6_; have BK289 := n7_; have BK294 := n8_; have BK302 := n9_; have HB := n10_; clear n0_ n1_ n2_ n3_ n4_ n5_ n6_ n7_ n8_ n9_ n10_; have hcz156_0 : w155.cell? ⟨gb294, 0, none⟩ = some (.int .i64 a0_0) := (blk_cell BK294.out 0).trans rfl; have hcz156_1 : w155.cell? ⟨gb294, 1, none⟩ = some (.int .i64 a0_1) := (blk_cell BK294.out 1).trans rfl; have hcz156_2 : w155.cell? ⟨gb294, 2, none⟩ = some (.slice (some ad301) x295002_4.length co145) := (blk_cell BK294.out 2).trans rfl; have hfz156_0 := blk_frozen BK294.out 0; have hfz156_1 := blk_frozen BK294.out 1; have hfz156_2 := blk_frozen BK294.out 2; have hcz157_0 : w155.cell? ⟨gb302, 0, none⟩ = some (.int .i64 ((rd_T46 x295002_4 x17_4).f0)) := (blk_cell BK302.out 0).trans rfl; have hcz157_1 : w155.cell? ⟨gb302, 1, none⟩ = some (.int .i64 ((rd_T46 x295002_4 x17_4).f1)) := (blk_cell BK302.out 1).trans rfl; have hcz157_2 : w155.cell? ⟨gb302, 2, none⟩ = some (.int .i64 ((rd_T46 x295002_4 x17_4).f2)) := (blk_cell BK302.out 2).trans rfl; have hcz157_3 : w155.cell? ⟨gb302, 3, none⟩ = some (.int .i64 ((rd_T46 x295002_4 x17_4).f3)) := (blk_cell BK302.out 3).trans rfl; have hcz157_4 : w155.cell? ⟨gb302, 4, none⟩ = some (.int .i64 ((rd_T46 x295002_4 x17_4).f4.f0)) := (blk_cell BK302.out 4).trans rfl; have hcz157_5 : w155.cell? ⟨gb302, 5, none⟩ = some (.int .i64 ((rd_T46 x295002_4 x17_4).f4.f1)) := (blk_cell BK302.out 5).trans rfl; have hcz157_6 : w155.cell? ⟨gb302, 6, none⟩ = some (.int .i64 ((rd_T46 x295002_4 x17_4).f5.f0)) := (blk_cell BK302.out 6).trans rfl; have hcz157_7 : w155.cell? ⟨gb302, 7, none⟩ = some (.int .i64 ((rd_T46 x295002_4 x17_4).f5.f1)) := (blk_cell BK302.out 7).trans rfl; have hfz157_0 := blk_frozen BK302.out 0; have hfz157_1 := blk_frozen BK302.out 1; have hfz157_2 := blk_frozen BK302.out 2; have hfz157_3 := blk_frozen BK302.out 3; have hfz157_4 := blk_frozen BK302.out 4; have hfz157_5 := blk_frozen BK302.out 5; have hfz157_6 := blk_frozen BK302.out 6; have hfz157_7 := blk_frozen BK302.out 7; have p134 : 0 ≤ (x17_4 : Int) := of_decide_eq_true (by first | (with_reducible assumption) | assumption); have q134 : (x17_4 : Int) < ((x295002_4.length : Int) : Int) := of_decide_eq_true (by first | (with_reducible assumption) | assumption); obtain ⟨go134, co134, eo134, gb134, gl134, cl134, HG134⟩ := Kd.R_form HO_295002.out (by omega); (first | cases eo134 | (injection eo134 with ea_ en_ ec_; (first | subst ea_ | (injection ea_ with ea_; subst ea_)); subst ec_; clear en_)); have GB134 := Aside0.mk gb134; have GG134 := Aside0.mk HG134; clear gb134 gl134 HG134; (first | simp only [add_plain] at hx301_0 | skip); (first | simp only [add_plain] at hx301_1 | skip); (first | simp only [add_plain] at hx301_2 | skip); (first | simp only [add_plain] at hx301_3 | skip); (first | simp only [add_plain] at hx301_4 | skip); (first | simp only [add_plain] at hx301_5 | skip); (first | simp only [add_plain] at hx301_6 | skip); (first | simp only [add_plain] at hx301_7 | skip); obtain ⟨ce134, hcl134, hM134, hcc134, hfr134⟩ := Kd.R_elem HO_295002.out z46 (x17_4 : Int) p134 q134; obtain rfl := k46_openM hM134; have hx134_0 : w155.cell? ⟨go134, (x17_4 : Int).toNat * 8, none⟩ = some (.int .i64 ((rd_T46 x295002_4 x17_4).f0)) := hcc134 0 _ rfl; have hx134_1 : w155.cell? ⟨go134, (x17_4 : Int).toNat * 8 + 1, none⟩ = some (.int .i64 ((rd_T46 x295002_4 x17_4).f1)) := hcc134 1 _ rfl; have hx134_2 : w155.cell? ⟨go134, (x17_4 : Int).toNat * 8 + 2, none⟩ = some (.int .i64 ((rd_T46 x295002_4 x17_4).f2)) := hcc134 2 _ rfl; have hx134_3 : w155.cell? ⟨go134, (x17_4 : Int).toNat * 8 + 3, none⟩ = some (.int .i64 ((rd_T46 x295002_4 x17_4).f3)) := hcc134 3 _ rfl; have hx134_4 : w155.cell? ⟨go134, (x17_4 : Int).toNat * 8 + 4, none⟩ = some (.int .i64 ((rd_T46 x295002_4 x17_4).f4.f0)) := hcc134 4 _ rfl; have hx134_5 : w155.cell? ⟨go134, (x17_4 : Int).toNat * 8 + 5, none⟩ = some (.int .i64 ((rd_T46 x295002_4 x17_4).f4.f1)) := hcc134 5 _ rfl; have hx134_6 : w155.cell? ⟨go134, (x17_4 : Int).toNat * 8 + 6, none⟩ = some (.int .i64 ((rd_T46 x295002_4 x17_4).f5.f0)) := hcc134 6 _ rfl; have hx134_7 : w155.cell? ⟨go134, (x17_4 : Int).toNat * 8 + 7, none⟩ = some (.int .i64 ((rd_T46 x295002_4 x17_4).f5.f1)) := hcc134 7 _ rfl; have hf134_0 : w155.frozen? ⟨go134, (x17_4 : Int).toNat * 8, none⟩ = false := hfr134 0; have hf134_1 : w155.frozen? ⟨go134, (x17_4 : Int).toNat * 8 + 1, none⟩ = false := hfr134 1; have hf134_2 : w155.frozen? ⟨go134, (x17_4 : Int).toNat * 8 + 2, none⟩ = false := hfr134 2; have hf134_3 : w155.frozen? ⟨go134, (x17_4 : Int).toNat * 8 + 3, none⟩ = false := hfr134 3; have hf134_4 : w155.frozen? ⟨go134, (x17_4 : Int).toNat * 8 + 4, none⟩ = false := hfr134 4; have hf134_5 : w155.frozen? ⟨go134, (x17_4 : Int).toNat * 8 + 5, none⟩ = false := hfr134 5; have hf134_6 : w155.frozen? ⟨go134, (x17_4 : Int).toNat * 8 + 6, none⟩ = false := hfr134 6; have hf134_7 : w155.frozen? ⟨go134, (x17_4 : Int).toNat * 8 + 7, none⟩ = false := hfr134 7; clear hcl134 hcc134 hfr134 hM134; replace p134 := eq_true p134; replace q134 := eq_true q134; have HX158 := Aside0.mk (show Kd.R k46 46 w155 w.heap.size (fun k_ => some k_ ≠ (u272002 : Value).ownBlock ∧ k_ ≠ gb263 ∧ k_ ≠ gb302) (.slice (some ⟨go134, 0, none⟩) x295002_4.length co145) x295002_4 from (by (with_reducible repeat (first | apply Kd.R_alloc | apply Kd.R_drewN | apply Kd.R_drew)); exact HO_295002.out)); obtain ⟨ce158, hcl158, hM158, hcc158, hfr158⟩ := Kd.R_elem HX158.out z46 (x17_4 : Int) (of_decide_eq_true (by first | (with_reducible assumption) | assumption)) (by have h_ : (x17_4 : Int) < ((x295002_4.length : Int) : Int) := of_decide_eq_true (by first | (with_reducible assumption) | assumption); first | exact h_ | (have e_ := (Kd.R_reads' HO_295002.out).1; omega) | simpa using h_); obtain rfl := k46_openM hM158; have HP158 := Kd.R_seg HX158.out (x17_4 : Int) (of_decide_eq_true (by first | (with_reducible assumption) | assumption)) (by have h_ : (x17_4 : Int) < ((x295002_4.length : Int) : Int) := of_decide_eq_true (by first | (with_reducible assumption) | assumption); first | exact h_ | (have e_ := (Kd.R_reads' HO_295002.out).1; omega) | simpa using h_) (seg := [.int .i64 ji132, .int .i64 ji133]) (j := 4) hcl158 hcc158 (show 6 ≤ 8 from by decide) (x' := (⟨(rd_T46 x295002_4 x17_4).f0, (rd_T46 x295002_4 x17_4).f1, (rd_T46 x295002_4 x17_4).f2, (rd_T46 x295002_4 x17_4).f3, (⟨ji132, ji133⟩ : S35), (⟨(rd_T46 x295002_4 x17_4).f5.f0, (rd_T46 x295002_4 x17_4).f5.f1⟩ : S35)⟩ : S46)) (k46_mkM _ _ _ (⟨(rd_T46 x295002_4 x17_4).f0, (rd_T46 x295002_4 x17_4).f1, (rd_T46 x295002_4 x17_4).f2, (rd_T46 x295002_4 x17_4).f3, (⟨ji132, ji133⟩ : S35), (⟨(rd_T46 x295002_4 x17_4).f5.f0, (rd_T46 x295002_4 x17_4).f5.f1⟩ : S35)⟩ : S46) ) (fun _ hk => hk); have hx158_4 := hcc158 4 _ rfl; (try simp only [show (k46).sz = 8 from rfl, Nat.mul_one, Nat.add_zero] at hx158_4); have hf158_4 := hfr158 4; (try simp only [show (k46).sz = 8 from rfl, Nat.mul_one, Nat.add_zero] at hf158_4); have hx158_5 := hcc158 5 _ rfl; (try simp only [show (k46).sz = 8 from rfl, Nat.mul_one, Nat.add_zero] at hx158_5); have hf158_5 := hfr158 5; (try simp only [show (k46).sz = 8 from rfl, Nat.mul_one, Nat.add_zero] at hf158_5); clear hcl158 hcc158 hfr158 hM158) | ((with_reducible refine gate_store (t := 35) (p := 119) rfl ?_); refine store_event (t := 35) (p := 119) (v := ?vo_w159) (w1 := ((w155.setCell ⟨go134, (x17_4 : Int).toNat * 8 + 4, none⟩ (.int .i64 ji132)).setCell ⟨go134, (x17_4 : Int).toNat * 8 + 5, none⟩ (.int .i64 ji133))) ?hg ?ho ?hn ?hr ?_; (case ho => rfl); (case hg => rfl); (case hn => rfl); (case hr => first | (go_simp; done) | (go_simp; rfl)); intro w159 hw; have hg : w155.grownBy w159 (some go134) := (by rw [hw]; exact HP158.2); have hp_ : Kd.R k46 46 w159 w.heap.size (fun k_ => some k_ ≠ (u272002 : Value).ownBlock ∧ k_ ≠ gb263 ∧ k_ ≠ gb302) (.slice (some ⟨go134, 0, none⟩) x295002_4.length co145) y303 := (by rw [hw, Ny303.out]; exact HP158.1); clear HP158; have n0_ := Aside0.mk (Kd.R_after (v := (.slice (some ⟨go134, 0, none⟩) x295002_4.length co145)) (v1 := (.slice (some ⟨go134, 0, none⟩) x295002_4.length co145)) (ok := (fun k_ => k_ ≠ gb263 ∧ k_ ≠ gb302)) (by (with_reducible repeat (first | apply Kd.R_alloc | apply Kd.R_drewN | apply Kd.R_drew)); exact Kd.R_mono HO_272002.out (fun _ hk => ⟨⟨hk.2.1, hk.2.2⟩, hk.1⟩)) hg (.inl rfl)); have n1_ := Aside0.mk (hp_); have n2_ := Aside0.mk (blk_grown (g := gb262) (o := .cells #[.int .i64 a0_0, .int .i64 a0_1, .slice A0_2 l0_2.length c0_2] 30 (0, 0)) (by exact BK262.out) hg (Kd.R_ne HO_295002.out BK262.out (by decide))); have n3_ := Aside0.mk (blk_grown (g := gb263) (o := .cells #[.int .i64 a1_0, .int .i64 a1_1, .int .i64 a1_2, .int .i64 a1_3, .int .i64 x264004_4, .int .i64 x264005_4, .int .i64 x264006_4, .int .i64 x264007_4] 46 (0, 0)) (by exact BK263.out) hg (Kd.R_away HO_295002.out (fun _ hk => hk.2.1))); have n4_ := Aside0.mk (blk_grown (g := gb269) (o := .cells #[.int .i64 t266, .int .i64 t267] 35 (0, 0)) (by exact BK269.out) hg (Kd.R_ne HO_295002.out BK269.out (by decide))); have n5_ := Aside0.mk (blk_grown (g := gb271) (o := .cells #[.int .i64 a0_0, .int .i64 a0_1, u272002] 30 (0, 0)) (by exact BK271.out) hg (Kd.R_ne HO_295002.out BK271.out (by decide))); have n6_ := Aside0.mk (blk_grown (g := gb287) (o := .cells #[.int .i64 t290, .int .i64 t291] 35 (0, 0)) (by exact BK287.out) hg (Kd.R_ne HO_295002.out BK287.out (by decide))); have n7_ := Aside0.mk (blk_grown (g := gb289) (o := .cells #[.int .i64 a0_0, .int .i64 ji73, .slice A0_2 l0_2.length c0_2] 30 (0, 0)) (by exact BK289.out) hg (Kd.R_ne HO_295002.out BK289.out (by decide))); have n8_ := Aside0.mk (blk_grown (g := gb294) (o := .cells #[.int .i64 a0_0, .int .i64 a0_1, .slice (some ⟨go134, 0, none⟩) x295002_4.length co145] 30 (0, 0)) (by exact BK294.out) hg (Kd.R_ne HO_295002.out BK294.out (by decide))); have n9_ := Aside0.mk (blk_grown (g := gb302) (o := .cells #[.int .i64 ((rd_T46 x295002_4 x17_4).f0), .int .i64 ((rd_T46 x295002_4 x17_4).f1), .int .i64 ((rd_T46 x295002_4 x17_4).f2), .int .i64 ((rd_T46 x295002_4 x17_4).f3), .int .i64 ((rd_T46 x295002_4 x17_4).f4.f0), .int .i64 ((rd_T46 x295002_4 x17_4).f4.f1), .int .i64 ((rd_T46 x295002_4 x17_4).f5.f0), .int .i64 ((rd_T46 x295002_4 x17_4).f5.f1)] 46 (0, 0)) (by exact BK302.out) hg (Kd.R_away HO_295002.out (fun _ hk => hk.2.2))); have n10_ := Aside0.mk ((by rw [hw]; exact below_set (below_set (HB.out) GB134.out) GB134.out : Below w.heap.size w w159)); clear HO_272002; clear HO_295002; clear BK262; clear BK263; clear BK269; clear BK271; clear BK287; clear BK289; clear BK294; clear BK302; clear HB; have HO_272002 := n0_; have HO_295002 := n1_; have BK262 := n2_; have BK263 := n3_; have BK269 := n4_; have BK271 := n5_; have BK287 := n6_; have BK289 := n7_; have BK294 := n8_; have BK302 := n9_; have HB := n10_; clear n0_ n1_ n2_ n3_ n4_ n5_ n6_ n7_ n8_ n9_ n10_; clear hg hw hp_; have hcz160_0 : w159.cell? ⟨gb294, 0, none⟩ = some (.int .i64 a0_0) := (blk_cell BK294.out 0).trans rfl; have hcz160_1 : w159.cell? ⟨gb294, 1, none⟩ = some (.int .i64 a0_1) := (blk_cell BK294.out 1).trans rfl; have hcz160_2 : w159.cell? ⟨gb294, 2, none⟩ = some (.slice (some ⟨go134, 0, none⟩) x295002_4.length co145) := (blk_cell BK294.out 2).trans rfl; have hfz160_0 := blk_frozen BK294.out 0; have hfz160_1 := blk_frozen BK294.out 1; have hfz160_2 := blk_frozen BK294.out 2; have hcz161_0 : w159.cell? ⟨gb302, 0, none⟩ = some (.int .i64 ((rd_T46 x295002_4 x17_4).f0)) := (blk_cell BK302.out 0).trans rfl; have hcz161_1 : w159.cell? ⟨gb302, 1, none⟩ = some (.int .i64 ((rd_T46 x295002_4 x17_4).f1)) := (blk_cell BK302.out 1).trans rfl; have hcz161_2 : w159.cell? ⟨gb302, 2, none⟩ = some (.int .i64 ((rd_T46 x295002_4 x17_4).f2)) := (blk_cell BK302.out 2).trans rfl; have hcz161_3 : w159.cell? ⟨gb302, 3, none⟩ = some (.int .i64 ((rd_T46 x295002_4 x17_4).f3)) := (blk_cell BK302.out 3).trans rfl; have hcz161_4 : w159.cell? ⟨gb302, 4, none⟩ = some (.int .i64 ((rd_T46 x295002_4 x17_4).f4.f0)) := (blk_cell BK302.out 4).trans rfl; have hcz161_5 : w159.cell? ⟨gb302, 5, none⟩ = some (.int .i64 ((rd_T46 x295002_4 x17_4).f4.f1)) := (blk_cell BK302.out 5).trans rfl; have hcz161_6 : w159.cell? ⟨gb302, 6, none⟩ = some (.int .i64 ((rd_T46 x295002_4 x17_4).f5.f0)) := (blk_cell BK302.out 6).trans rfl; have hcz161_7 : w159.cell? ⟨gb302, 7, none⟩ = some (.int .i64 ((rd_T46 x295002_4 x17_4).f5.f1)) := (blk_cell BK302.out 7).trans rfl; have hfz161_0 := blk_frozen BK302.out 0; have hfz161_1 := blk_frozen BK302.out 1; have hfz161_2 := blk_frozen BK302.out 2; have hfz161_3 := blk_frozen BK302.out 3; have hfz161_4 := blk_frozen BK302.out 4; have hfz161_5 := blk_frozen BK302.out 5; have hfz161_6 := blk_frozen BK302.out 6; have hfz161_7 := blk_frozen BK302.out 7; have p137 : 0 ≤ (x17_4 : Int) := of_decide_eq_true (by first | (with_reducible assumption) | assumption); have q137 : (x17_4 : Int) < ((x295002_4.length : Int) : Int) := of_decide_eq_true (by first | (with_reducible assumption) | assumption); obtain ⟨ce137, hcl137, hM137, hcc137, hfr137⟩ := Kd.R_elem HO_295002.out z46 (x17_4 : Int) p137 q137; obtain rfl := k46_openM hM137; have hx137_0 : w159.cell? ⟨go134, (x17_4 : Int).toNat * 8, none⟩ = some (.int .i64 ((rd_T46 y303 x17_4).f0)) := hcc137 0 _ rfl; have hx137_1 : w159.cell? ⟨go134, (x17_4 : Int).toNat * 8 + 1, none⟩ = some (.int .i64 ((rd_T46 y303 x17_4).f1)) := hcc137 1 _ rfl; have hx137_2 : w159.cell? ⟨go134, (x17_4 : Int).toNat * 8 + 2, none⟩ = some (.int .i64 ((rd_T46 y303 x17_4).f2)) := hcc137 2 _ rfl; have hx137_3 : w159.cell? ⟨go134, (x17_4 : Int).toNat * 8 + 3, none⟩ = some (.int .i64 ((rd_T46 y303 x17_4).f3)) := hcc137 3 _ rfl; have hx137_4 : w159.cell? ⟨go134, (x17_4 : Int).toNat * 8 + 4, none⟩ = some (.int .i64 ((rd_T46 y303 x17_4).f4.f0)) := hcc137 4 _ rfl; have hx137_5 : w159.cell? ⟨go134, (x17_4 : Int).toNat * 8 + 5, none⟩ = some (.int .i64 ((rd_T46 y303 x17_4).f4.f1)) := hcc137 5 _ rfl; have hx137_6 : w159.cell? ⟨go134, (x17_4 : Int).toNat * 8 + 6, none⟩ = some (.int .i64 ((rd_T46 y303 x17_4).f5.f0)) := hcc137 6 _ rfl; have hx137_7 : w159.cell? ⟨go134, (x17_4 : Int).toNat * 8 + 7, none⟩ = some (.int .i64 ((rd_T46 y303 x17_4).f5.f1)) := hcc137 7 _ rfl; have hf137_0 : w159.frozen? ⟨go134, (x17_4 : Int).toNat * 8, none⟩ = false := hfr137 0; have hf137_1 : w159.frozen? ⟨go134, (x17_4 : Int).toNat * 8 + 1, none⟩ = false := hfr137 1; have hf137_2 : w159.frozen? ⟨go134, (x17_4 : Int).toNat * 8 + 2, none⟩ = false := hfr137 2; have hf137_3 : w159.frozen? ⟨go134, (x17_4 : Int).toNat * 8 + 3, none⟩ = false := hfr137 3; have hf137_4 : w159.frozen? ⟨go134, (x17_4 : Int).toNat * 8 + 4, none⟩ = false := hfr137 4; have hf137_5 : w159.frozen? ⟨go134, (x17_4 : Int).toNat * 8 + 5, none⟩ = false := hfr137 5; have hf137_6 : w159.frozen? ⟨go134, (x17_4 : Int).toNat * 8 + 6, none⟩ = false := hfr137 6; have hf137_7 : w159.frozen? ⟨go134, (x17_4 : Int).toNat * 8 + 7, none⟩ = false := hfr137 7; clear hcl137 hcc137 hfr137 hM137; replace p137 := eq_true p137; replace q137 := eq_true q137; have HX162 := Aside0.mk (show Kd.R k46 46 w159 w.heap.size (fun k_ => some k_ ≠ (u272002 : Value).ownBlock ∧ k_ ≠ gb263 ∧ k_ ≠ gb302) (.slice (some ⟨go134, 0, none⟩) x295002_4.length co145) y303 from (by (with_reducible repeat (first | apply Kd.R_alloc | apply Kd.R_drewN | apply Kd.R_drew)); exact HO_295002.out)); obtain ⟨ce162, hcl162, hM162, hcc162, hfr162⟩ := Kd.R_elem HX162.out z46 (x17_4 : Int) (of_decide_eq_true (by first | (with_reducible assumption) | assumption)) (by have h_ : (x17_4 : Int) < ((x295002_4.length : Int) : Int) := of_decide_eq_true (by first | (with_reducible assumption) | assumption); first | exact h_ | (have e_ := (Kd.R_reads' HO_295002.out).1; omega) | simpa using h_); obtain rfl := k46_openM hM162; have HP162 := Kd.R_seg HX162.out (x17_4 : Int) (of_decide_eq_true (by first | (with_reducible assumption) | assumption)) (by have h_ : (x17_4 : Int) < ((x295002_4.length : Int) : Int) := of_decide_eq_true (by first | (with_reducible assumption) | assumption); first | exact h_ | (have e_ := (Kd.R_reads' HO_295002.out).1; omega) | simpa using h_) (seg := [.int .i64 ji135, .int .i64 ji136]) (j := 6) hcl162 hcc162 (show 8 ≤ 8 from by decide) (x' := (⟨(rd_T46 y303 x17_4).f0, (rd_T46 y303 x17_4).f1, (rd_T46 y303 x17_4).f2, (rd_T46 y303 x17_4).f3, (⟨(rd_T46 y303 x17_4).f4.f0, (rd_T46 y303 x17_4).f4.f1⟩ : S35), (⟨ji135, ji136⟩ : S35)⟩ : S46)) (k46_mkM _ _ _ (⟨(rd_T46 y303 x17_4).f0, (rd_T46 y303 x17_4).f1, (rd_T46 y303 x17_4).f2, (rd_T46 y303 x17_4).f3, (⟨(rd_T46 y303 x17_4).f4.f0, (rd_T46 y303 x17_4).f4.f1⟩ : S35), (⟨ji135, ji136⟩ : S35)⟩ : S46) ) (fun _ hk => hk); have hx162_6 := hcc162 6 _ rfl; (try simp only [show (k46).sz = 8 from rfl, Nat.mul_one, Nat.add_zero] at hx162_6); have hf162_6 := hfr162 6; (try simp only [show (k46).sz = 8 from rfl, Nat.mul_one, Nat.add_zero] at hf162_6); have hx162_7 := hcc162 7 _ rfl; (try simp only [show (k46).sz = 8 from rfl, Nat.mul_one, Nat.add_zero] at hx162_7); have hf162_7 := hfr162 7; (try simp only [show (k46).sz = 8 from rfl, Nat.mul_one, Nat.add_zero] at hf162_7); clear hcl162 hcc162 hfr162 hM162) | ((with_reducible refine gate_store (t := 35) (p := 139) rfl ?_); refine store_event (t := 35) (p := 139) (v := ?vo_w163) (w1 := ((w159.setCell ⟨go134, (x17_4 : Int).toNat * 8 + 6, none⟩ (.int .i64 ji135)).setCell ⟨go134, (x17_4 : Int).toNat * 8 + 7, none⟩ (.int .i64 ji136))) ?hg ?ho ?hn ?hr ?_; (case ho => rfl); (case hg => rfl); (case hn => rfl); (case hr => first | (go_simp; done) | (go_simp; rfl)); intro w163 hw; have hg : w159.grownBy w163 (some go134) := (by rw [hw]; exact HP162.2); have hp_ : Kd.R k46 46 w163 w.heap.size (fun k_ => some k_ ≠ (u272002 : Value).ownBlock ∧ k_ ≠ gb263 ∧ k_ ≠ gb302) (.slice (some ⟨go134, 0, none⟩) x295002_4.length co145) y304 := (by rw [hw, Ny304.out]; exact HP162.1); clear HP162; have n0_ := Aside0.mk (Kd.R_after (v := (.slice (some ⟨go134, 0, none⟩) x295002_4.length co145)) (v1 := (.slice (some ⟨go134, 0, none⟩) x295002_4.length co145)) (ok := (fun k_ => k_ ≠ gb263 ∧ k_ ≠ gb302)) (by (with_reducible repeat (first | apply Kd.R_alloc | apply Kd.R_drewN | apply Kd.R_drew)); exact HO_272002.out) hg (.inl rfl)); have n1_ := Aside0.mk (hp_); have n2_ := Aside0.mk (blk_grown (g := gb262) (o := .cells #[.int .i64 a0_0, .int .i64 a0_1, .slice A0_2 l0_2.length c0_2] 30 (0, 0)) (by exact BK262.out) hg (Kd.R_ne HO_295002.out BK262.out (by decide))); have n3_ := Aside0.mk (blk_grown (g := gb263) (o := .cells #[.int .i64 a1_0, .int .i64 a1_1, .int .i64 a1_2, .int .i64 a1_3, .int .i64 x264004_4, .int .i64 x264005_4, .int .i64 x264006_4, .int .i64 x264007_4] 46 (0, 0)) (by exact BK263.out) hg (Kd.R_away HO_295002.out (fun _ hk => hk.2.1))); have n4_ := Aside0.mk (blk_grown (g := gb269) (o := .cells #[.int .i64 t266, .int .i64 t267] 35 (0, 0)) (by exact BK269.out) hg (Kd.R_ne HO_295002.out BK269.out (by decide))); have n5_ := Aside0.mk (blk_grown (g := gb271) (o := .cells #[.int .i64 a0_0, .int .i64 a0_1, u272002] 30 (0, 0)) (by exact BK271.out) hg (Kd.R_ne HO_295002.out BK271.out (by decide))); have n6_ := Aside0.mk (blk_grown (g := gb287) (o := .cells #[.int .i64 t290, .int .i64 t291] 35 (0, 0)) (by exact BK287.out) hg (Kd.R_ne HO_295002.out BK287.out (by decide))); have n7_ := Aside0.mk (blk_grown (g := gb289) (o := .cells #[.int .i64 a0_0, .int .i64 ji73, .slice A0_2 l0_2.length c0_2] 30 (0, 0)) (by exact BK289.out) hg (Kd.R_ne HO_295002.out BK289.out (by decide))); have n8_ := Aside0.mk (blk_grown (g := gb294) (o := .cells #[.int .i64 a0_0, .int .i64 a0_1, .slice (some ⟨go134, 0, none⟩) x295002_4.length co145] 30 (0, 0)) (by exact BK294.out) hg (Kd.R_ne HO_295002.out BK294.out (by decide))); have n9_ := Aside0.mk (blk_grown (g := gb302) (o := .cells #[.int .i64 ((rd_T46 x295002_4 x17_4).f0), .int .i64 ((rd_T46 x295002_4 x17_4).f1), .int .i64 ((rd_T46 x295002_4 x17_4).f2), .int .i64 ((rd_T46 x295002_4 x17_4).f3), .int .i64 ((rd_T46 x295002_4 x17_4).f4.f0), .int .i64 ((rd_T46 x295002_4 x17_4).f4.f1), .int .i64 ((rd_T46 x295002_4 x17_4).f5.f0), .int .i64 ((rd_T46 x295002_4 x17_4).f5.f1)] 46 (0, 0)) (by exact BK302.out) hg (Kd.R_away HO_295002.out (fun _ hk => hk.2.2))); have n10_ := Aside0.mk ((by rw [hw]; exact below_set (below_set (HB.out) GB134.out) GB134.out : Below w.heap.size w w163)); clear HO_272002; clear HO_295002; clear BK262; clear BK263; clear BK269; clear BK271; clear BK287; clear BK289; clear BK294; clear BK302; clear HB; have HO_272002 := n0_; have HO_295002 := n1_; have BK262 := n2_; have BK263 := n3_; have BK269 := n4_; have BK271 := n5_; have BK287 := n6_; have BK289 := n7_; have BK294 := n8_; have BK302 := n9_; have HB := n10_; clear n0_ n1_ n2_ n3_ n4_ n5_ n6_ n7_ n8_ n9_ n10_; clear hg hw hp_))
                                    go_roundg k4
                                    case measure => have := HJ5.out; have := HJ25.out; have := HJ74.out; have := HK4.out; omega
                                    case rel => exact ⟨(wrap64 (x17_4 + 1)), (x264004_4), (x264005_4), (x264006_4), (x264007_4), (x272002_4), (y304), (u272002), (.slice (some ⟨go134, 0, none⟩) x295002_4.length co145), (by first | rfl | (simp; done) | (simp [*]; done)), H', ⟨by have := HJ5.out; have := HJ25.out; have := HJ74.out; have := HK4.out; omega⟩, ⟨by (with_reducible repeat (first | apply Kd.R_alloc | apply Kd.R_drewN | apply Kd.R_drew)); exact Kd.R_mono HO_272002.out (fun _ hk => ⟨hk.2, hk.1.1⟩)⟩, ⟨by (with_reducible repeat (first | apply Kd.R_alloc | apply Kd.R_drewN | apply Kd.R_drew)); exact Kd.R_mono HO_295002.out (fun _ hk => ⟨hk.1, hk.2.1⟩)⟩, ⟨by (with_reducible repeat (first | refine blk_drewN ?_ _ | refine blk_drew ?_ | refine blk_alloc ?_ _)); exact BK262.out⟩, ⟨by (with_reducible repeat (first | refine blk_drewN ?_ _ | refine blk_drew ?_ | refine blk_alloc ?_ _)); exact BK263.out⟩, ⟨by (with_reducible repeat (first | refine blk_drewN ?_ _ | refine blk_drew ?_ | refine blk_alloc ?_ _)); exact BK269.out⟩, ⟨by (with_reducible repeat (first | refine blk_drewN ?_ _ | refine blk_drew ?_ | refine blk_alloc ?_ _)); exact BK271.out⟩, ⟨by (with_reducible repeat (first | refine blk_drewN ?_ _ | refine blk_drew ?_ | refine blk_alloc ?_ _)); exact BK287.out⟩, ⟨by (with_reducible repeat (first | refine blk_drewN ?_ _ | refine blk_drew ?_ | refine blk_alloc ?_ _)); exact BK289.out⟩, ⟨by (with_reducible repeat (first | refine blk_drewN ?_ _ | refine blk_drew ?_ | refine blk_alloc ?_ _)); exact BK294.out⟩, ⟨by repeat (first | (with_reducible first | exact HB.out | apply below_alloc | apply pw_below_drewN | apply below_drew1 | refine below_set ?_ GE262.out | refine below_set ?_ GE263.out | refine below_set ?_ GE269.out | refine below_set ?_ GE271.out | refine below_set ?_ GE287.out | refine below_set ?_ GE289.out | refine below_set ?_ GE294.out | refine below_set ?_ GE302.out) | exact HB.out)⟩⟩
                                  · rw [if_neg c131] at H
                                    exact absurd H (by simp)
                                · rw [if_neg c130] at H
                                  have c130b0 : decide (x17_4 < (x295002_4.length : Int)) = false := decide_eq_false c130
                                  clear c130
                                  replace H := Option.bind_eq_some_iff.mp H
                                  obtain ⟨⟨t305, t306, t307⟩, A1640, H⟩ := H
                                  replace H : (if t307 = 0 then ((isobathlaw05_inside.f t266 t267 t305 t306).bind fun t308 => (if t308 = true then ((isobathlaw05_Works.f).bind fun t309 => (some t309)) else (some false))) else ((isobathlaw05_Works.f).bind fun t310 => (some t310))) = some r := H
                                  have A164 := Aside0.mk A1640
                                  clear A1640
                                  by_cases c165 : t307 = 0
                                  · rw [if_pos c165] at H
                                    have c165b0 : (t307 == 0) = true := beq_iff_eq.mpr c165
                                    have c165b1 : (t307 != 0) = false := bne_eq_false_iff_eq.mpr c165
                                    clear c165
                                    replace H := Option.bind_eq_some_iff.mp H
                                    obtain ⟨t308, A1660, H⟩ := H
                                    replace H : (if t308 = true then ((isobathlaw05_Works.f).bind fun t309 => (some t309)) else (some false)) = some r := H
                                    have A166 := Aside0.mk A1660
                                    clear A1660
                                    by_cases c167 : t308 = true
                                    · subst c167
                                      have H1 : ((isobathlaw05_Works.f).bind fun t309 => (some t309)) = some r := by rw [if_pos rfl] at H; exact H
                                      clear H
                                      have H := H1
                                      clear H1
                                      replace H := Option.bind_eq_some_iff.mp H
                                      obtain ⟨t309, A1680, H⟩ := H
                                      replace H : (some t309) = some r := H
                                      have A168 := Aside0.mk A1680
                                      clear A1680
                                      obtain rfl := Option.some.inj H
                                      have hnb169 := NB294_262.out
                                      have hnc169 := NB262_294.out
                                      have hnb170 := NB294_263.out
                                      have hnc170 := NB263_294.out
                                      have hnb171 := NB294_269.out
                                      have hnc171 := NB269_294.out
                                      have hnb172 := NB294_271.out
                                      have hnc172 := NB271_294.out
                                      have hnb173 := NB294_287.out
                                      have hnc173 := NB287_294.out
                                      have hnb174 := NB294_289.out
                                      have hnc174 := NB289_294.out
                                      have hcz175_0 : wr.cell? ⟨gb294, 0, none⟩ = some (.int .i64 a0_0) := (blk_cell BK294.out 0).trans rfl
                                      have hcz175_1 : wr.cell? ⟨gb294, 1, none⟩ = some (.int .i64 a0_1) := (blk_cell BK294.out 1).trans rfl
                                      have hcz175_2 : wr.cell? ⟨gb294, 2, none⟩ = some (u295002) := (blk_cell BK294.out 2).trans rfl
                                      have hfz175_0 := blk_frozen BK294.out 0
                                      have hfz175_1 := blk_frozen BK294.out 1
                                      have hfz175_2 := blk_frozen BK294.out 2
                                      obtain ⟨Ao176, co176, eo176⟩ := Kd.R_slice HO_295002.out
                                      subst eo176
                                      go_wp2_with (first | ((with_reducible refine gate_callee (f := 22) rfl ?_); refine goesL_ (some 143) rfl rfl Try.func22 (by kernel_rfl) rfl #[.agg #[.int .i64 a0_0, .int .i64 a0_1, .slice Ao176 x295002_4.length co176], .int .i64 a2] rfl (by (try simp only [List.map_toArray, List.map_cons, List.map_nil]); first | done | rfl | (simp only [List.length_drop, List.length_take]; rfl)) ?_; (with_reducible refine (clock_At.calls a0_0 a0_1 _ _ x295002_4 a2 t305 t306 t307 _ ?side1 ?side2 A164.out).mono ?_); (case side1 => repeat (first | exact (Kd.R_reads' HO_295002.out).2.2 | (with_reducible refine Kd.C_alloc ?_ _) | (with_reducible refine Kd.C_drewN ?_ _) | (with_reducible refine Kd.C_drew ?_))); (case side2 => exact (Kd.R_reads' HO_295002.out).2.1); rintro e w177 ⟨rfl, hb⟩; refine ⟨_, rfl, ?_⟩; have n0_ := Aside0.mk (Kd.R_below (by (with_reducible repeat (first | apply Kd.R_alloc | apply Kd.R_drewN | apply Kd.R_drew)); exact HO_272002.out) hb); have n1_ := Aside0.mk (Kd.R_below (by (with_reducible repeat (first | apply Kd.R_alloc | apply Kd.R_drewN | apply Kd.R_drew)); exact HO_295002.out) hb); have n2_ := Aside0.mk (blk_below (g := gb262) (o := .cells #[.int .i64 a0_0, .int .i64 a0_1, .slice A0_2 l0_2.length c0_2] 30 (0, 0)) (by exact BK262.out) hb); have n3_ := Aside0.mk (blk_below (g := gb263) (o := .cells #[.int .i64 a1_0, .int .i64 a1_1, .int .i64 a1_2, .int .i64 a1_3, .int .i64 x264004_4, .int .i64 x264005_4, .int .i64 x264006_4, .int .i64 x264007_4] 46 (0, 0)) (by exact BK263.out) hb); have n4_ := Aside0.mk (blk_below (g := gb269) (o := .cells #[.int .i64 t266, .int .i64 t267] 35 (0, 0)) (by exact BK269.out) hb); have n5_ := Aside0.mk (blk_below (g := gb271) (o := .cells #[.int .i64 a0_0, .int .i64 a0_1, u272002] 30 (0, 0)) (by exact BK271.out) hb); have n6_ := Aside0.mk (blk_below (g := gb287) (o := .cells #[.int .i64 t290, .int .i64 t291] 35 (0, 0)) (by exact BK287.out) hb); have n7_ := Aside0.mk (blk_below (g := gb289) (o := .cells #[.int .i64 a0_0, .int .i64 ji73, .slice A0_2 l0_2.length c0_2] 30 (0, 0)) (by exact BK289.out) hb); have n8_ := Aside0.mk (blk_below (g := gb294) (o := .cells #[.int .i64 a0_0, .int .i64 a0_1, .slice Ao176 x295002_4.length co176] 30 (0, 0)) (by exact BK294.out) hb); have n9_ := Aside0.mk (below_step (by repeat (first | (with_reducible first | exact HB.out | apply below_alloc | apply pw_below_drewN | apply below_drew1 | refine below_set ?_ GE262.out | refine below_set ?_ GE263.out | refine below_set ?_ GE269.out | refine below_set ?_ GE271.out | refine below_set ?_ GE287.out | refine below_set ?_ GE289.out | refine below_set ?_ GE294.out) | exact HB.out)) hb); clear HO_272002; clear HO_295002; clear BK262; clear BK263; clear BK269; clear BK271; clear BK287; clear BK289; clear BK294; clear HB; have HO_272002 := n0_; have HO_295002 := n1_; have BK262 := n2_; have BK263 := n3_; have BK269 := n4_; have BK271 := n5_; have BK287 := n6_; have BK289 := n7_; have BK294 := n8_; have HB := n9_; clear n0_ n1_ n2_ n3_ n4_ n5_ n6_ n7_ n8_ n9_; (try clear hb); (try clear hb2); (try clear hk); (try clear hi); have hnb178 := NB287_262.out; have hnc178 := NB262_287.out; have hnb179 := NB287_263.out; have hnc179 := NB263_287.out; have hnb180 := NB287_269.out; have hnc180 := NB269_287.out; have hnb181 := NB287_271.out; have hnc181 := NB271_287.out; have hnb182 := NB287_289.out; have hnc182 := NB289_287.out; have hcz183_0 : w177.cell? ⟨gb287, 0, none⟩ = some (.int .i64 t290) := (blk_cell BK287.out 0).trans rfl; have hcz183_1 : w177.cell? ⟨gb287, 1, none⟩ = some (.int .i64 t291) := (blk_cell BK287.out 1).trans rfl; have hfz183_0 := blk_frozen BK287.out 0; have hfz183_1 := blk_frozen BK287.out 1; have hnb184 := NB269_262.out; have hnc184 := NB262_269.out; have hnb185 := NB269_263.out; have hnc185 := NB263_269.out; have hnb186 := NB269_271.out; have hnc186 := NB271_269.out; have hnb187 := NB269_289.out; have hnc187 := NB289_269.out; have hcz188_0 : w177.cell? ⟨gb269, 0, none⟩ = some (.int .i64 t266) := (blk_cell BK269.out 0).trans rfl; have hcz188_1 : w177.cell? ⟨gb269, 1, none⟩ = some (.int .i64 t267) := (blk_cell BK269.out 1).trans rfl; have hfz188_0 := blk_frozen BK269.out 0; have hfz188_1 := blk_frozen BK269.out 1) | (go_at_call 23; (with_reducible refine (isobathlaw05_inside.calls t266 t267 t305 t306 true _ A166.out).mono ?_); rintro e w189 ⟨rfl, hb⟩; have n0_ := Aside0.mk (Kd.R_below (by (with_reducible repeat (first | apply Kd.R_alloc | apply Kd.R_drewN | apply Kd.R_drew)); exact (Kd.R_mono (Kd.R_far (p := ⟨gb287, 1, none⟩) (Kd.R_far (p := ⟨gb287, 0, none⟩) (Kd.R_types HO_272002.out BK287.out (by decide)) (fun _ hk => hk.2) (.int .i64 t305)) (fun _ hk => hk.2) (.int .i64 t306)) (fun _ h_ => h_.1))) hb); have n1_ := Aside0.mk (Kd.R_below (by (with_reducible repeat (first | apply Kd.R_alloc | apply Kd.R_drewN | apply Kd.R_drew)); exact (Kd.R_mono (Kd.R_far (p := ⟨gb287, 1, none⟩) (Kd.R_far (p := ⟨gb287, 0, none⟩) (Kd.R_types HO_295002.out BK287.out (by decide)) (fun _ hk => hk.2) (.int .i64 t305)) (fun _ hk => hk.2) (.int .i64 t306)) (fun _ h_ => h_.1))) hb); have n2_ := Aside0.mk (blk_below (g := gb262) (o := .cells #[.int .i64 a0_0, .int .i64 a0_1, .slice A0_2 l0_2.length c0_2] 30 (0, 0)) (by (with_reducible repeat (first | refine blk_drewN ?_ _ | refine blk_drew ?_ | refine blk_alloc ?_ _)); refine blk_far ?_ NB262_287.out _; (with_reducible repeat (first | refine blk_drewN ?_ _ | refine blk_drew ?_ | refine blk_alloc ?_ _)); refine blk_far ?_ NB262_287.out _; (with_reducible repeat (first | refine blk_drewN ?_ _ | refine blk_drew ?_ | refine blk_alloc ?_ _)); exact BK262.out) hb); have n3_ := Aside0.mk (blk_below (g := gb263) (o := .cells #[.int .i64 a1_0, .int .i64 a1_1, .int .i64 a1_2, .int .i64 a1_3, .int .i64 x264004_4, .int .i64 x264005_4, .int .i64 x264006_4, .int .i64 x264007_4] 46 (0, 0)) (by (with_reducible repeat (first | refine blk_drewN ?_ _ | refine blk_drew ?_ | refine blk_alloc ?_ _)); refine blk_far ?_ NB263_287.out _; (with_reducible repeat (first | refine blk_drewN ?_ _ | refine blk_drew ?_ | refine blk_alloc ?_ _)); refine blk_far ?_ NB263_287.out _; (with_reducible repeat (first | refine blk_drewN ?_ _ | refine blk_drew ?_ | refine blk_alloc ?_ _)); exact BK263.out) hb); have n4_ := Aside0.mk (blk_below (g := gb269) (o := .cells #[.int .i64 t266, .int .i64 t267] 35 (0, 0)) (by (with_reducible repeat (first | refine blk_drewN ?_ _ | refine blk_drew ?_ | refine blk_alloc ?_ _)); refine blk_far ?_ NB269_287.out _; (with_reducible repeat (first | refine blk_drewN ?_ _ | refine blk_drew ?_ | refine blk_alloc ?_ _)); refine blk_far ?_ NB269_287.out _; (with_reducible repeat (first | refine blk_drewN ?_ _ | refine blk_drew ?_ | refine blk_alloc ?_ _)); exact BK269.out) hb); have n5_ := Aside0.mk (blk_below (g := gb271) (o := .cells #[.int .i64 a0_0, .int .i64 a0_1, u272002] 30 (0, 0)) (by (with_reducible repeat (first | refine blk_drewN ?_ _ | refine blk_drew ?_ | refine blk_alloc ?_ _)); refine blk_far ?_ NB271_287.out _; (with_reducible repeat (first | refine blk_drewN ?_ _ | refine blk_drew ?_ | refine blk_alloc ?_ _)); refine blk_far ?_ NB271_287.out _; (with_reducible repeat (first | refine blk_drewN ?_ _ | refine blk_drew ?_ | refine blk_alloc ?_ _)); exact BK271.out) hb); have n6_ := Aside0.mk (blk_below (g := gb287) (o := .cells #[.int .i64 t305, .int .i64 t306] 35 (0, 0)) (by (with_reducible repeat (first | refine blk_drewN ?_ _ | refine blk_drew ?_ | refine blk_alloc ?_ _)); refine blk_put (cs := #[.int .i64 t305, .int .i64 t291]) ?_ 1 _ rfl; (with_reducible repeat (first | refine blk_drewN ?_ _ | refine blk_drew ?_ | refine blk_alloc ?_ _)); refine blk_put (cs := #[.int .i64 t290, .int .i64 t291]) ?_ 0 _ rfl; (with_reducible repeat (first | refine blk_drewN ?_ _ | refine blk_drew ?_ | refine blk_alloc ?_ _)); exact BK287.out) hb); have n7_ := Aside0.mk (blk_below (g := gb289) (o := .cells #[.int .i64 a0_0, .int .i64 ji73, .slice A0_2 l0_2.length c0_2] 30 (0, 0)) (by (with_reducible repeat (first | refine blk_drewN ?_ _ | refine blk_drew ?_ | refine blk_alloc ?_ _)); refine blk_far ?_ NB289_287.out _; (with_reducible repeat (first | refine blk_drewN ?_ _ | refine blk_drew ?_ | refine blk_alloc ?_ _)); refine blk_far ?_ NB289_287.out _; (with_reducible repeat (first | refine blk_drewN ?_ _ | refine blk_drew ?_ | refine blk_alloc ?_ _)); exact BK289.out) hb); have n8_ := Aside0.mk (blk_below (g := gb294) (o := .cells #[.int .i64 a0_0, .int .i64 a0_1, .slice Ao176 x295002_4.length co176] 30 (0, 0)) (by (with_reducible repeat (first | refine blk_drewN ?_ _ | refine blk_drew ?_ | refine blk_alloc ?_ _)); refine blk_far ?_ NB294_287.out _; (with_reducible repeat (first | refine blk_drewN ?_ _ | refine blk_drew ?_ | refine blk_alloc ?_ _)); refine blk_far ?_ NB294_287.out _; (with_reducible repeat (first | refine blk_drewN ?_ _ | refine blk_drew ?_ | refine blk_alloc ?_ _)); exact BK294.out) hb); have n9_ := Aside0.mk (below_step (by repeat (first | (with_reducible first | exact HB.out | apply below_alloc | apply pw_below_drewN | apply below_drew1 | refine below_set ?_ GE262.out | refine below_set ?_ GE263.out | refine below_set ?_ GE269.out | refine below_set ?_ GE271.out | refine below_set ?_ GE287.out | refine below_set ?_ GE289.out | refine below_set ?_ GE294.out) | exact HB.out)) hb); clear HO_272002; clear HO_295002; clear BK262; clear BK263; clear BK269; clear BK271; clear BK287; clear BK289; clear BK294; clear HB; have HO_272002 := n0_; have HO_295002 := n1_; have BK262 := n2_; have BK263 := n3_; have BK269 := n4_; have BK271 := n5_; have BK287 := n6_; have BK289 := n7_; have BK294 := n8_; have HB := n9_; clear n0_ n1_ n2_ n3_ n4_ n5_ n6_ n7_ n8_ n9_; (try clear hb); (try clear hb2); (try clear hk); (try clear hi)) | (go_at_call 16; (with_reducible refine (isobathlaw05_Works.calls  t309 _ A168.out).mono ?_); rintro e w190 ⟨rfl, hb⟩; have n0_ := Aside0.mk (Kd.R_below (by (with_reducible repeat (first | apply Kd.R_alloc | apply Kd.R_drewN | apply Kd.R_drew)); exact HO_272002.out) hb); have n1_ := Aside0.mk (Kd.R_below (by (with_reducible repeat (first | apply Kd.R_alloc | apply Kd.R_drewN | apply Kd.R_drew)); exact HO_295002.out) hb); have n2_ := Aside0.mk (blk_below (g := gb262) (o := .cells #[.int .i64 a0_0, .int .i64 a0_1, .slice A0_2 l0_2.length c0_2] 30 (0, 0)) (by exact BK262.out) hb); have n3_ := Aside0.mk (blk_below (g := gb263) (o := .cells #[.int .i64 a1_0, .int .i64 a1_1, .int .i64 a1_2, .int .i64 a1_3, .int .i64 x264004_4, .int .i64 x264005_4, .int .i64 x264006_4, .int .i64 x264007_4] 46 (0, 0)) (by exact BK263.out) hb); have n4_ := Aside0.mk (blk_below (g := gb269) (o := .cells #[.int .i64 t266, .int .i64 t267] 35 (0, 0)) (by exact BK269.out) hb); have n5_ := Aside0.mk (blk_below (g := gb271) (o := .cells #[.int .i64 a0_0, .int .i64 a0_1, u272002] 30 (0, 0)) (by exact BK271.out) hb); have n6_ := Aside0.mk (blk_below (g := gb287) (o := .cells #[.int .i64 t305, .int .i64 t306] 35 (0, 0)) (by exact BK287.out) hb); have n7_ := Aside0.mk (blk_below (g := gb289) (o := .cells #[.int .i64 a0_0, .int .i64 ji73, .slice A0_2 l0_2.length c0_2] 30 (0, 0)) (by exact BK289.out) hb); have n8_ := Aside0.mk (blk_below (g := gb294) (o := .cells #[.int .i64 a0_0, .int .i64 a0_1, .slice Ao176 x295002_4.length co176] 30 (0, 0)) (by exact BK294.out) hb); have n9_ := Aside0.mk (below_step (by repeat (first | (with_reducible first | exact HB.out | apply below_alloc | apply pw_below_drewN | apply below_drew1 | refine below_set ?_ GE262.out | refine below_set ?_ GE263.out | refine below_set ?_ GE269.out | refine below_set ?_ GE271.out | refine below_set ?_ GE287.out | refine below_set ?_ GE289.out | refine below_set ?_ GE294.out) | exact HB.out)) hb); clear HO_272002; clear HO_295002; clear BK262; clear BK263; clear BK269; clear BK271; clear BK287; clear BK289; clear BK294; clear HB; have HO_272002 := n0_; have HO_295002 := n1_; have BK262 := n2_; have BK263 := n3_; have BK269 := n4_; have BK271 := n5_; have BK287 := n6_; have BK289 := n7_; have BK294 := n8_; have HB := n9_; clear n0_ n1_ n2_ n3_ n4_ n5_ n6_ n7_ n8_ n9_; (try clear hb); (try clear hb2); (try clear hk); (try clear hi)))
                                      go_ret
                                      exact ⟨by first | rfl | (simp [errW_none, errW_some] <;> rfl) | (simp only [← hji73]; first | rfl | (simp [errW_none, errW_some] <;> rfl)) | (simp [*, errW_none, errW_some] <;> rfl), by repeat (first | (with_reducible first | exact HB.out | apply below_alloc | apply pw_below_drewN | apply below_drew1 | refine below_set ?_ GE262.out | refine below_set ?_ GE263.out | refine below_set ?_ GE269.out | refine below_set ?_ GE271.out | refine below_set ?_ GE287.out | refine below_set ?_ GE289.out | refine below_set ?_ GE294.out) | exact HB.out)⟩
                                    · replace c167 := Bool.eq_false_iff.mpr c167
                                      subst c167
                                      have H1 : (some false) = some r := by rw [if_neg (show ¬ (false = true) by decide)] at H; exact H
                                      clear H
                                      have H := H1
                                      clear H1
                                      have hh_ := Option.some.inj H
                                      rw [hr_.out] at hh_
                                      cases hh_
                                  · rw [if_neg c165] at H
                                    have c165b0 : (t307 == 0) = false := beq_eq_false_iff_ne.mpr c165
                                    have c165b1 : (t307 != 0) = true := bne_iff_ne.mpr c165
                                    replace H := Option.bind_eq_some_iff.mp H
                                    obtain ⟨t310, A2120, H⟩ := H
                                    replace H : (some t310) = some r := H
                                    have A212 := Aside0.mk A2120
                                    clear A2120
                                    obtain rfl := Option.some.inj H
                                    have hnb213 := NB294_262.out
                                    have hnc213 := NB262_294.out
                                    have hnb214 := NB294_263.out
                                    have hnc214 := NB263_294.out
                                    have hnb215 := NB294_269.out
                                    have hnc215 := NB269_294.out
                                    have hnb216 := NB294_271.out
                                    have hnc216 := NB271_294.out
                                    have hnb217 := NB294_287.out
                                    have hnc217 := NB287_294.out
                                    have hnb218 := NB294_289.out
                                    have hnc218 := NB289_294.out
                                    have hcz219_0 : wr.cell? ⟨gb294, 0, none⟩ = some (.int .i64 a0_0) := (blk_cell BK294.out 0).trans rfl
                                    have hcz219_1 : wr.cell? ⟨gb294, 1, none⟩ = some (.int .i64 a0_1) := (blk_cell BK294.out 1).trans rfl
                                    have hcz219_2 : wr.cell? ⟨gb294, 2, none⟩ = some (u295002) := (blk_cell BK294.out 2).trans rfl
                                    have hfz219_0 := blk_frozen BK294.out 0
                                    have hfz219_1 := blk_frozen BK294.out 1
                                    have hfz219_2 := blk_frozen BK294.out 2
                                    obtain ⟨Ao220, co220, eo220⟩ := Kd.R_slice HO_295002.out
                                    subst eo220
                                    go_wp2_with (first | ((with_reducible refine gate_callee (f := 22) rfl ?_); refine goesL_ (some 143) rfl rfl Try.func22 (by kernel_rfl) rfl #[.agg #[.int .i64 a0_0, .int .i64 a0_1, .slice Ao220 x295002_4.length co220], .int .i64 a2] rfl (by (try simp only [List.map_toArray, List.map_cons, List.map_nil]); first | done | rfl | (simp only [List.length_drop, List.length_take]; rfl)) ?_; (with_reducible refine (clock_At.calls a0_0 a0_1 _ _ x295002_4 a2 t305 t306 t307 _ ?side1 ?side2 A164.out).mono ?_); (case side1 => repeat (first | exact (Kd.R_reads' HO_295002.out).2.2 | (with_reducible refine Kd.C_alloc ?_ _) | (with_reducible refine Kd.C_drewN ?_ _) | (with_reducible refine Kd.C_drew ?_))); (case side2 => exact (Kd.R_reads' HO_295002.out).2.1); rintro e w221 ⟨rfl, hb⟩; refine ⟨_, rfl, ?_⟩; have n0_ := Aside0.mk (Kd.R_below (by (with_reducible repeat (first | apply Kd.R_alloc | apply Kd.R_drewN | apply Kd.R_drew)); exact HO_272002.out) hb); have n1_ := Aside0.mk (Kd.R_below (by (with_reducible repeat (first | apply Kd.R_alloc | apply Kd.R_drewN | apply Kd.R_drew)); exact HO_295002.out) hb); have n2_ := Aside0.mk (blk_below (g := gb262) (o := .cells #[.int .i64 a0_0, .int .i64 a0_1, .slice A0_2 l0_2.length c0_2] 30 (0, 0)) (by exact BK262.out) hb); have n3_ := Aside0.mk (blk_below (g := gb263) (o := .cells #[.int .i64 a1_0, .int .i64 a1_1, .int .i64 a1_2, .int .i64 a1_3, .int .i64 x264004_4, .int .i64 x264005_4, .int .i64 x264006_4, .int .i64 x264007_4] 46 (0, 0)) (by exact BK263.out) hb); have n4_ := Aside0.mk (blk_below (g := gb269) (o := .cells #[.int .i64 t266, .int .i64 t267] 35 (0, 0)) (by exact BK269.out) hb); have n5_ := Aside0.mk (blk_below (g := gb271) (o := .cells #[.int .i64 a0_0, .int .i64 a0_1, u272002] 30 (0, 0)) (by exact BK271.out) hb); have n6_ := Aside0.mk (blk_below (g := gb287) (o := .cells #[.int .i64 t290, .int .i64 t291] 35 (0, 0)) (by exact BK287.out) hb); have n7_ := Aside0.mk (blk_below (g := gb289) (o := .cells #[.int .i64 a0_0, .int .i64 ji73, .slice A0_2 l0_2.length c0_2] 30 (0, 0)) (by exact BK289.out) hb); have n8_ := Aside0.mk (blk_below (g := gb294) (o := .cells #[.int .i64 a0_0, .int .i64 a0_1, .slice Ao220 x295002_4.length co220] 30 (0, 0)) (by exact BK294.out) hb); have n9_ := Aside0.mk (below_step (by repeat (first | (with_reducible first | exact HB.out | apply below_alloc | apply pw_below_drewN | apply below_drew1 | refine below_set ?_ GE262.out | refine below_set ?_ GE263.out | refine below_set ?_ GE269.out | refine below_set ?_ GE271.out | refine below_set ?_ GE287.out | refine below_set ?_ GE289.out | refine below_set ?_ GE294.out) | exact HB.out)) hb); clear HO_272002; clear HO_295002; clear BK262; clear BK263; clear BK269; clear BK271; clear BK287; clear BK289; clear BK294; clear HB; have HO_272002 := n0_; have HO_295002 := n1_; have BK262 := n2_; have BK263 := n3_; have BK269 := n4_; have BK271 := n5_; have BK287 := n6_; have BK289 := n7_; have BK294 := n8_; have HB := n9_; clear n0_ n1_ n2_ n3_ n4_ n5_ n6_ n7_ n8_ n9_; (try clear hb); (try clear hb2); (try clear hk); (try clear hi); have hnb222 := NB287_262.out; have hnc222 := NB262_287.out; have hnb223 := NB287_263.out; have hnc223 := NB263_287.out; have hnb224 := NB287_269.out; have hnc224 := NB269_287.out; have hnb225 := NB287_271.out; have hnc225 := NB271_287.out; have hnb226 := NB287_289.out; have hnc226 := NB289_287.out; have hcz227_0 : w221.cell? ⟨gb287, 0, none⟩ = some (.int .i64 t290) := (blk_cell BK287.out 0).trans rfl; have hcz227_1 : w221.cell? ⟨gb287, 1, none⟩ = some (.int .i64 t291) := (blk_cell BK287.out 1).trans rfl; have hfz227_0 := blk_frozen BK287.out 0; have hfz227_1 := blk_frozen BK287.out 1) | (go_at_call 16; (with_reducible refine (isobathlaw05_Works.calls  t310 _ A212.out).mono ?_); rintro e w228 ⟨rfl, hb⟩; have n0_ := Aside0.mk (Kd.R_below (by (with_reducible repeat (first | apply Kd.R_alloc | apply Kd.R_drewN | apply Kd.R_drew)); exact (Kd.R_mono (Kd.R_far (p := ⟨gb287, 1, none⟩) (Kd.R_far (p := ⟨gb287, 0, none⟩) (Kd.R_types HO_272002.out BK287.out (by decide)) (fun _ hk => hk.2) (.int .i64 t305)) (fun _ hk => hk.2) (.int .i64 t306)) (fun _ h_ => h_.1))) hb); have n1_ := Aside0.mk (Kd.R_below (by (with_reducible repeat (first | apply Kd.R_alloc | apply Kd.R_drewN | apply Kd.R_drew)); exact (Kd.R_mono (Kd.R_far (p := ⟨gb287, 1, none⟩) (Kd.R_far (p := ⟨gb287, 0, none⟩) (Kd.R_types HO_295002.out BK287.out (by decide)) (fun _ hk => hk.2) (.int .i64 t305)) (fun _ hk => hk.2) (.int .i64 t306)) (fun _ h_ => h_.1))) hb); have n2_ := Aside0.mk (blk_below (g := gb262) (o := .cells #[.int .i64 a0_0, .int .i64 a0_1, .slice A0_2 l0_2.length c0_2] 30 (0, 0)) (by (with_reducible repeat (first | refine blk_drewN ?_ _ | refine blk_drew ?_ | refine blk_alloc ?_ _)); refine blk_far ?_ NB262_287.out _; (with_reducible repeat (first | refine blk_drewN ?_ _ | refine blk_drew ?_ | refine blk_alloc ?_ _)); refine blk_far ?_ NB262_287.out _; (with_reducible repeat (first | refine blk_drewN ?_ _ | refine blk_drew ?_ | refine blk_alloc ?_ _)); exact BK262.out) hb); have n3_ := Aside0.mk (blk_below (g := gb263) (o := .cells #[.int .i64 a1_0, .int .i64 a1_1, .int .i64 a1_2, .int .i64 a1_3, .int .i64 x264004_4, .int .i64 x264005_4, .int .i64 x264006_4, .int .i64 x264007_4] 46 (0, 0)) (by (with_reducible repeat (first | refine blk_drewN ?_ _ | refine blk_drew ?_ | refine blk_alloc ?_ _)); refine blk_far ?_ NB263_287.out _; (with_reducible repeat (first | refine blk_drewN ?_ _ | refine blk_drew ?_ | refine blk_alloc ?_ _)); refine blk_far ?_ NB263_287.out _; (with_reducible repeat (first | refine blk_drewN ?_ _ | refine blk_drew ?_ | refine blk_alloc ?_ _)); exact BK263.out) hb); have n4_ := Aside0.mk (blk_below (g := gb269) (o := .cells #[.int .i64 t266, .int .i64 t267] 35 (0, 0)) (by (with_reducible repeat (first | refine blk_drewN ?_ _ | refine blk_drew ?_ | refine blk_alloc ?_ _)); refine blk_far ?_ NB269_287.out _; (with_reducible repeat (first | refine blk_drewN ?_ _ | refine blk_drew ?_ | refine blk_alloc ?_ _)); refine blk_far ?_ NB269_287.out _; (with_reducible repeat (first | refine blk_drewN ?_ _ | refine blk_drew ?_ | refine blk_alloc ?_ _)); exact BK269.out) hb); have n5_ := Aside0.mk (blk_below (g := gb271) (o := .cells #[.int .i64 a0_0, .int .i64 a0_1, u272002] 30 (0, 0)) (by (with_reducible repeat (first | refine blk_drewN ?_ _ | refine blk_drew ?_ | refine blk_alloc ?_ _)); refine blk_far ?_ NB271_287.out _; (with_reducible repeat (first | refine blk_drewN ?_ _ | refine blk_drew ?_ | refine blk_alloc ?_ _)); refine blk_far ?_ NB271_287.out _; (with_reducible repeat (first | refine blk_drewN ?_ _ | refine blk_drew ?_ | refine blk_alloc ?_ _)); exact BK271.out) hb); have n6_ := Aside0.mk (blk_below (g := gb287) (o := .cells #[.int .i64 t305, .int .i64 t306] 35 (0, 0)) (by (with_reducible repeat (first | refine blk_drewN ?_ _ | refine blk_drew ?_ | refine blk_alloc ?_ _)); refine blk_put (cs := #[.int .i64 t305, .int .i64 t291]) ?_ 1 _ rfl; (with_reducible repeat (first | refine blk_drewN ?_ _ | refine blk_drew ?_ | refine blk_alloc ?_ _)); refine blk_put (cs := #[.int .i64 t290, .int .i64 t291]) ?_ 0 _ rfl; (with_reducible repeat (first | refine blk_drewN ?_ _ | refine blk_drew ?_ | refine blk_alloc ?_ _)); exact BK287.out) hb); have n7_ := Aside0.mk (blk_below (g := gb289) (o := .cells #[.int .i64 a0_0, .int .i64 ji73, .slice A0_2 l0_2.length c0_2] 30 (0, 0)) (by (with_reducible repeat (first | refine blk_drewN ?_ _ | refine blk_drew ?_ | refine blk_alloc ?_ _)); refine blk_far ?_ NB289_287.out _; (with_reducible repeat (first | refine blk_drewN ?_ _ | refine blk_drew ?_ | refine blk_alloc ?_ _)); refine blk_far ?_ NB289_287.out _; (with_reducible repeat (first | refine blk_drewN ?_ _ | refine blk_drew ?_ | refine blk_alloc ?_ _)); exact BK289.out) hb); have n8_ := Aside0.mk (blk_below (g := gb294) (o := .cells #[.int .i64 a0_0, .int .i64 a0_1, .slice Ao220 x295002_4.length co220] 30 (0, 0)) (by (with_reducible repeat (first | refine blk_drewN ?_ _ | refine blk_drew ?_ | refine blk_alloc ?_ _)); refine blk_far ?_ NB294_287.out _; (with_reducible repeat (first | refine blk_drewN ?_ _ | refine blk_drew ?_ | refine blk_alloc ?_ _)); refine blk_far ?_ NB294_287.out _; (with_reducible repeat (first | refine blk_drewN ?_ _ | refine blk_drew ?_ | refine blk_alloc ?_ _)); exact BK294.out) hb); have n9_ := Aside0.mk (below_step (by repeat (first | (with_reducible first | exact HB.out | apply below_alloc | apply pw_below_drewN | apply below_drew1 | refine below_set ?_ GE262.out | refine below_set ?_ GE263.out | refine below_set ?_ GE269.out | refine below_set ?_ GE271.out | refine below_set ?_ GE287.out | refine below_set ?_ GE289.out | refine below_set ?_ GE294.out) | exact HB.out)) hb); clear HO_272002; clear HO_295002; clear BK262; clear BK263; clear BK269; clear BK271; clear BK287; clear BK289; clear BK294; clear HB; have HO_272002 := n0_; have HO_295002 := n1_; have BK262 := n2_; have BK263 := n3_; have BK269 := n4_; have BK271 := n5_; have BK287 := n6_; have BK289 := n7_; have BK294 := n8_; have HB := n9_; clear n0_ n1_ n2_ n3_ n4_ n5_ n6_ n7_ n8_ n9_; (try clear hb); (try clear hb2); (try clear hk); (try clear hi)))
                                    go_ret
                                    exact ⟨by first | rfl | (simp [errW_none, errW_some] <;> rfl) | (simp only [← hji73]; first | rfl | (simp [errW_none, errW_some] <;> rfl)) | (simp [*, errW_none, errW_some] <;> rfl), by repeat (first | (with_reducible first | exact HB.out | apply below_alloc | apply pw_below_drewN | apply below_drew1 | refine below_set ?_ GE262.out | refine below_set ?_ GE263.out | refine below_set ?_ GE269.out | refine below_set ?_ GE271.out | refine below_set ?_ GE287.out | refine below_set ?_ GE289.out | refine below_set ?_ GE294.out) | exact HB.out)⟩
                          · rw [if_neg c109] at H
                            exact absurd H (by simp)
            · rw [if_neg c24] at H
              exact absurd H (by simp)
          · rw [if_neg c23] at H
            exact absurd H (by simp)
        · rw [if_neg c22] at H
          have c22b0 : (t268 == 0) = false := beq_eq_false_iff_ne.mpr c22
          have c22b1 : (t268 != 0) = true := bne_iff_ne.mpr c22
          replace H := Option.bind_eq_some_iff.mp H
          obtain ⟨t270, A2290, H⟩ := H
          replace H : (some t270) = some r := H
          have A229 := Aside0.mk A2290
          clear A2290
          obtain rfl := Option.some.inj H
          have hnb230 := NB262_263.out
          have hnc230 := NB263_262.out
          have hcz231_0 : wc.cell? ⟨gb262, 0, none⟩ = some (.int .i64 a0_0) := (blk_cell BK262.out 0).trans rfl
          have hcz231_1 : wc.cell? ⟨gb262, 1, none⟩ = some (.int .i64 a0_1) := (blk_cell BK262.out 1).trans rfl
          have hcz231_2 : wc.cell? ⟨gb262, 2, none⟩ = some (.slice A0_2 l0_2.length c0_2) := (blk_cell BK262.out 2).trans rfl
          have hfz231_0 := blk_frozen BK262.out 0
          have hfz231_1 := blk_frozen BK262.out 1
          have hfz231_2 := blk_frozen BK262.out 2
          go_wp2_with (first | ((with_reducible refine gate_callee (f := 22) rfl ?_); refine goesL_ (some 31) rfl rfl Try.func22 (by kernel_rfl) rfl #[.agg #[.int .i64 a0_0, .int .i64 a0_1, .slice A0_2 l0_2.length c0_2], .int .i64 a2] rfl (by (try simp only [List.map_toArray, List.map_cons, List.map_nil]); first | done | rfl | (simp only [List.length_drop, List.length_take]; rfl)) ?_; (with_reducible refine (clock_At.calls a0_0 a0_1 _ _ l0_2 a2 t266 t267 t268 _ ?side1 ?side2 A21.out).mono ?_); (case side1 => repeat (first | exact (Kd.C_below HR0_2.out HB.out) | (with_reducible refine Kd.C_alloc ?_ _) | (with_reducible refine Kd.C_drewN ?_ _) | (with_reducible refine Kd.C_drew ?_))); (case side2 => exact HC0_2.out); rintro e w232 ⟨rfl, hb⟩; refine ⟨_, rfl, ?_⟩; have n0_ := Aside0.mk (blk_below (g := gb262) (o := .cells #[.int .i64 a0_0, .int .i64 a0_1, .slice A0_2 l0_2.length c0_2] 30 (0, 0)) (by exact BK262.out) hb); have n1_ := Aside0.mk (blk_below (g := gb263) (o := .cells #[.int .i64 a1_0, .int .i64 a1_1, .int .i64 a1_2, .int .i64 a1_3, .int .i64 a1_4, .int .i64 a1_5, .int .i64 a1_6, .int .i64 a1_7] 46 (0, 0)) (by exact BK263.out) hb); have n2_ := Aside0.mk (below_step (by repeat (first | (with_reducible first | exact HB.out | apply below_alloc | apply pw_below_drewN | apply below_drew1 | refine below_set ?_ GE262.out | refine below_set ?_ GE263.out) | exact HB.out)) hb); clear BK262; clear BK263; clear HB; have BK262 := n0_; have BK263 := n1_; have HB := n2_; clear n0_ n1_ n2_; (try clear hb); (try clear hb2); (try clear hk); (try clear hi)) | ((with_reducible refine gate_dst (N := 11) rfl ?_); (try (refine gate_guard (by rfl) ?_; dsimp only)); refine box_event ?hg (N := 11) ?hd (cs := #[.int .i64 0, .int .i64 0]) (t := 35) ?hr ?_; (case hd => rfl); (case hg => rfl); (case hr => first | (go_simp; done) | (go_simp; rfl)); intro gb269 hg w233 hbox hb; have n0_ := Aside0.mk (blk_below (g := gb262) (o := .cells #[.int .i64 a0_0, .int .i64 a0_1, .slice A0_2 l0_2.length c0_2] 30 (0, 0)) (by exact BK262.out) hb); have n1_ := Aside0.mk (blk_below (g := gb263) (o := .cells #[.int .i64 a1_0, .int .i64 a1_1, .int .i64 a1_2, .int .i64 a1_3, .int .i64 a1_4, .int .i64 a1_5, .int .i64 a1_6, .int .i64 a1_7] 46 (0, 0)) (by exact BK263.out) hb); have n2_ := Aside0.mk (below_step (by repeat (first | (with_reducible first | exact HB.out | apply below_alloc | apply pw_below_drewN | apply below_drew1 | refine below_set ?_ GE262.out | refine below_set ?_ GE263.out) | exact HB.out)) hb); have n3_ := Aside0.mk (hbox); have n4_ := Aside0.mk ((by rw [hg]; exact (below_size (by repeat (first | (with_reducible first | exact HB.out | apply below_alloc | apply pw_below_drewN | apply below_drew1 | refine below_set ?_ GE262.out | refine below_set ?_ GE263.out) | exact HB.out))) : w.heap.size ≤ gb269)); have n5_ := Aside0.mk ((by rw [hg]; exact (below_size (by repeat (first | (with_reducible first | exact HB.out | apply below_alloc | apply pw_below_drewN | apply below_drew1 | refine below_set ?_ GE262.out | refine below_set ?_ GE263.out) | exact HB.out))) : w.heap.size ≤ gb269)); have n6_ := Aside0.mk ((by rw [hg]; exact Nat.ne_of_lt (blk_lt (g := gb262) (o := .cells #[.int .i64 a0_0, .int .i64 a0_1, .slice A0_2 l0_2.length c0_2] 30 (0, 0)) (by exact BK262.out)) : gb262 ≠ gb269)); have n7_ := Aside0.mk ((by rw [hg]; exact Nat.ne_of_gt (blk_lt (g := gb262) (o := .cells #[.int .i64 a0_0, .int .i64 a0_1, .slice A0_2 l0_2.length c0_2] 30 (0, 0)) (by exact BK262.out)) : gb269 ≠ gb262)); have n8_ := Aside0.mk ((by rw [hg]; exact Nat.ne_of_lt (blk_lt (g := gb263) (o := .cells #[.int .i64 a1_0, .int .i64 a1_1, .int .i64 a1_2, .int .i64 a1_3, .int .i64 a1_4, .int .i64 a1_5, .int .i64 a1_6, .int .i64 a1_7] 46 (0, 0)) (by exact BK263.out)) : gb263 ≠ gb269)); have n9_ := Aside0.mk ((by rw [hg]; exact Nat.ne_of_gt (blk_lt (g := gb263) (o := .cells #[.int .i64 a1_0, .int .i64 a1_1, .int .i64 a1_2, .int .i64 a1_3, .int .i64 a1_4, .int .i64 a1_5, .int .i64 a1_6, .int .i64 a1_7] 46 (0, 0)) (by exact BK263.out)) : gb269 ≠ gb263)); clear BK262; clear BK263; clear HB; have BK262 := n0_; have BK263 := n1_; have HB := n2_; have BK269 := n3_; have GW269 := n4_; have GE269 := n5_; have NB262_269 := n6_; have NB269_262 := n7_; have NB263_269 := n8_; have NB269_263 := n9_; clear n0_ n1_ n2_ n3_ n4_ n5_ n6_ n7_ n8_ n9_; clear hb hbox hg; have hnb234 := NB269_262.out; have hnc234 := NB262_269.out; have hnb235 := NB269_263.out; have hnc235 := NB263_269.out; have hcz236_0 : w233.cell? ⟨gb269, 0, none⟩ = some (.int .i64 0) := (blk_cell BK269.out 0).trans rfl; have hcz236_1 : w233.cell? ⟨gb269, 1, none⟩ = some (.int .i64 0) := (blk_cell BK269.out 1).trans rfl; have hfz236_0 := blk_frozen BK269.out 0; have hfz236_1 := blk_frozen BK269.out 1) | ((with_reducible refine gate_callee (f := 16) rfl ?_); refine goesL_ (some 36) rfl rfl Try.func16 (by kernel_rfl) rfl #[] rfl (by (try simp only [List.map_toArray, List.map_cons, List.map_nil]); first | done | rfl | (simp only [List.length_drop, List.length_take]; rfl)) ?_; (with_reducible refine (isobathlaw05_Works.calls  t270 _ A229.out).mono ?_); rintro e w237 ⟨rfl, hb⟩; refine ⟨_, rfl, ?_⟩; have n0_ := Aside0.mk (blk_below (g := gb262) (o := .cells #[.int .i64 a0_0, .int .i64 a0_1, .slice A0_2 l0_2.length c0_2] 30 (0, 0)) (by (with_reducible repeat (first | refine blk_drewN ?_ _ | refine blk_drew ?_ | refine blk_alloc ?_ _)); refine blk_far ?_ NB262_269.out _; (with_reducible repeat (first | refine blk_drewN ?_ _ | refine blk_drew ?_ | refine blk_alloc ?_ _)); refine blk_far ?_ NB262_269.out _; (with_reducible repeat (first | refine blk_drewN ?_ _ | refine blk_drew ?_ | refine blk_alloc ?_ _)); exact BK262.out) hb); have n1_ := Aside0.mk (blk_below (g := gb263) (o := .cells #[.int .i64 a1_0, .int .i64 a1_1, .int .i64 a1_2, .int .i64 a1_3, .int .i64 a1_4, .int .i64 a1_5, .int .i64 a1_6, .int .i64 a1_7] 46 (0, 0)) (by (with_reducible repeat (first | refine blk_drewN ?_ _ | refine blk_drew ?_ | refine blk_alloc ?_ _)); refine blk_far ?_ NB263_269.out _; (with_reducible repeat (first | refine blk_drewN ?_ _ | refine blk_drew ?_ | refine blk_alloc ?_ _)); refine blk_far ?_ NB263_269.out _; (with_reducible repeat (first | refine blk_drewN ?_ _ | refine blk_drew ?_ | refine blk_alloc ?_ _)); exact BK263.out) hb); have n2_ := Aside0.mk (blk_below (g := gb269) (o := .cells #[.int .i64 t266, .int .i64 t267] 35 (0, 0)) (by (with_reducible repeat (first | refine blk_drewN ?_ _ | refine blk_drew ?_ | refine blk_alloc ?_ _)); refine blk_put (cs := #[.int .i64 t266, .int .i64 0]) ?_ 1 _ rfl; (with_reducible repeat (first | refine blk_drewN ?_ _ | refine blk_drew ?_ | refine blk_alloc ?_ _)); refine blk_put (cs := #[.int .i64 0, .int .i64 0]) ?_ 0 _ rfl; (with_reducible repeat (first | refine blk_drewN ?_ _ | refine blk_drew ?_ | refine blk_alloc ?_ _)); exact BK269.out) hb); have n3_ := Aside0.mk (below_step (by repeat (first | (with_reducible first | exact HB.out | apply below_alloc | apply pw_below_drewN | apply below_drew1 | refine below_set ?_ GE262.out | refine below_set ?_ GE263.out | refine below_set ?_ GE269.out) | exact HB.out)) hb); clear BK262; clear BK263; clear BK269; clear HB; have BK262 := n0_; have BK263 := n1_; have BK269 := n2_; have HB := n3_; clear n0_ n1_ n2_ n3_; (try clear hb); (try clear hb2); (try clear hk); (try clear hi)))
          go_ret
          exact ⟨by first | rfl | (simp [errW_none, errW_some] <;> rfl) | (simp [*, errW_none, errW_some] <;> rfl), by repeat (first | (with_reducible first | exact HB.out | apply below_alloc | apply pw_below_drewN | apply below_drew1 | refine below_set ?_ GE262.out | refine below_set ?_ GE263.out | refine below_set ?_ GE269.out) | exact HB.out)⟩

end Go.Proofs.Ytcjdhajdoikojaa.Pr
end
