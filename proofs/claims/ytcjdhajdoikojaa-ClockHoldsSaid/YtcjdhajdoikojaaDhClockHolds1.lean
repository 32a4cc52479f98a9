/- Part 1 of the proof of ClockHolds: what the functions compute. No condition. -/
import Derived.Test.YtcjdhajdoikojaaDha1
import Derived.Test.YtcjdhajdoikojaaDha5
section
-- PRINTED by print.py (a twelfth state) out of the translation. Not trusted: Lean checks it.
namespace Go.Proofs.Ytcjdhajdoikojaa.Pr
open Go.RowKit Go.Proofs.YtcjdhajdoikojaaW.PrintWords Go.Proofs.YtcjdhajdoikojaaW.PrintLast Go.Proofs.YtcjdhajdoikojaaW.PrintMore
attribute [local go_sem] max2_int min2_int max_two min_two max_four
set_option linter.unusedVariables false
set_option linter.unusedSimpArgs false

/-! ### isobathlaw05_Truth_offset: function 18 -/
def isobathlaw05_Truth_offset.l0 : Nat → Int → Int → Int → Int → Int → List Int → Option (Int)
  | 0, _, _, _, _, _, _ => none
  | k + 1, x1, x2, x7, x8, x136000, x136001 => if x8 < (x136001.length : Int) then (if x8 < 20 then (if 0 ≤ x8 then (isobathlaw05_Truth_offset.l0 k x1 x2 (wrap64 (x7 + (wrap64 ((mn 1000000 (mx 0 (wrap64 (x2 - (wrap64 (x8 * 1000000)))))) * (wrap64 (Int.tdiv (wrap64 (x1 * (wrap64 (rd x136001 x8)))) 128)))))) (wrap64 (x8 + 1)) x136000 x136001) else (none)) else (some x7)) else (some x7)
def isobathlaw05_Truth_offset.f (k : Nat) (a0_0 : Int) (l0_1 : List Int) (a1 : Int) (a2 : Int) : Option (Int) := isobathlaw05_Truth_offset.l0 k a1 a2 (wrap64 ((wrap64 (a0_0)) * 1000000000)) 0 a0_0 l0_1
set_option maxHeartbeats 8000000 in
set_option maxRecDepth 100000 in
theorem isobathlaw05_Truth_offset.calls (k : Nat) (a0_0 : Int) (A0_1 : Option Addr) (c0_1 : Nat) (l0_1 : List Int) (a1 : Int) (a2 : Int) (r : Int) (w : World) (hr0_1 : Kd.C (Kd.int .i8) w A0_1 l0_1.length l0_1) (hc0_1 : l0_1.length ≤ c0_1) (h : isobathlaw05_Truth_offset.f k a0_0 l0_1 a1 a2 = some r) :
    Calls Try.prog 18 #[.agg #[.int .i32 a0_0, .slice A0_1 l0_1.length c0_1], .int .i64 a1, .int .i64 a2] w fun e w' => e = .returned (.int .i64 r) ∧ Below w.heap.size w w' := by
  have hu24 := Try.underlying24
  have HR0_1 := Aside0.mk hr0_1
  have HC0_1 := Aside0.mk hc0_1
  clear hr0_1 hc0_1
  have HB := Aside0.mk (Below.refl w.heap.size w)
  have H : (isobathlaw05_Truth_offset.l0 k a1 a2 (wrap64 ((wrap64 (a0_0)) * 1000000000)) 0 a0_0 l0_1) = some r := h
  clear h
  have H' := Aside0.mk H
  clear H
  go_enter Try.func18, Try.ntmps18
  go_wp2_with (first | ((with_reducible refine gate_dst (N := 3) rfl ?_); refine box_event ?hg (N := 3) ?hd (cs := #[.int .i32 a0_0, .slice A0_1 l0_1.length c0_1]) (t := 24) ?hr ?_; (case hd => rfl); (case hg => rfl); (case hr => first | (go_simp; done) | (go_simp; rfl)); intro gb135 hg w4 hbox hb; have n0_ := Aside0.mk (below_step (by repeat (first | (with_reducible first | exact HB.out | apply below_alloc | apply pw_below_drewN | apply below_drew1) | exact HB.out)) hb); have n1_ := Aside0.mk (hbox); have n2_ := Aside0.mk ((by rw [hg]; exact (below_size (by repeat (first | (with_reducible first | exact HB.out | apply below_alloc | apply pw_below_drewN | apply below_drew1) | exact HB.out))) : w.heap.size ≤ gb135)); have n3_ := Aside0.mk ((by rw [hg]; exact (below_size (by repeat (first | (with_reducible first | exact HB.out | apply below_alloc | apply pw_below_drewN | apply below_drew1) | exact HB.out))) : w.heap.size ≤ gb135)); clear HB; have HB := n0_; have BK135 := n1_; have GW135 := n2_; have GE135 := n3_; clear n0_ n1_ n2_ n3_; clear hb hbox hg; have hcz5_0 : w4.cell? ⟨gb135, 0, none⟩ = some (.int .i32 a0_0) := (blk_cell BK135.out 0).trans rfl; have hcz5_1 : w4.cell? ⟨gb135, 1, none⟩ = some (.slice A0_1 l0_1.length c0_1) := (blk_cell BK135.out 1).trans rfl; have hfz5_0 := blk_frozen BK135.out 0; have hfz5_1 := blk_frozen BK135.out 1))
  go_loopg [7, 8] k (fun kq v7 v8 w' => ∃ (x7_1 : Int) (x8_1 : Int), v7 = .int .i64 x7_1 ∧ v8 = .int .i64 x8_1 ∧ Aside0 (isobathlaw05_Truth_offset.l0 kq a1 a2 x7_1 x8_1 a0_0 l0_1 = some r) ∧ Aside0 (kq ≤ k) ∧ Aside0 (w'.heap[gb135]? = some (.cells #[.int .i32 a0_0, (.slice A0_1 l0_1.length c0_1)] 24 (0, 0))) ∧ Aside0 (Below w.heap.size w w'))
  case atStart => exact ⟨(wrap64 ((wrap64 (a0_0)) * 1000000000)), (0), (by first | rfl | (simp; done) | (simp [*]; done)), (by first | rfl | (simp; done) | (simp [*]; done)), H', ⟨Nat.le_refl _⟩, ⟨by (with_reducible repeat (first | refine blk_drewN ?_ _ | refine blk_drew ?_ | refine blk_alloc ?_ _)); exact BK135.out⟩, ⟨by repeat (first | (with_reducible first | exact HB.out | apply below_alloc | apply pw_below_drewN | apply below_drew1 | refine below_set ?_ GE135.out) | exact HB.out)⟩⟩
  case round =>
    clear H'
    try clear c1
    try clear p2
    try clear hcz5_0
    try clear hcz5_1
    try clear hfz5_0
    try clear hfz5_1
    obtain ⟨x7_1, x8_1, rfl, rfl, HA, HK1, BK135, HB⟩ := hrel
    cases gk with
    | zero => exact absurd HA.out (by simp [isobathlaw05_Truth_offset.l0])
    | succ k1 =>
      have H := HA.out
      clear HA
      simp only [isobathlaw05_Truth_offset.l0] at H
      by_cases c6 : x8_1 < (l0_1.length : Int)
      · rw [if_pos c6] at H
        have c6b0 : decide (x8_1 < (l0_1.length : Int)) = true := decide_eq_true c6
        clear c6
        by_cases c7 : x8_1 < 20
        · rw [if_pos c7] at H
          have c7b0 : decide (x8_1 < 20) = true := decide_eq_true c7
          clear c7
          obtain ⟨ji8, hji8⟩ : ∃ j_ : Int, (mx 0 (wrap64 (a2 - (wrap64 (x8_1 * 1000000))))) = j_ := ⟨_, rfl⟩
          replace H : (if 0 ≤ x8_1 then (isobathlaw05_Truth_offset.l0 k1 a1 a2 (wrap64 (x7_1 + (wrap64 ((mn 1000000 (ji8)) * (wrap64 (Int.tdiv (wrap64 (a1 * (wrap64 (rd l0_1 x8_1)))) 128)))))) (wrap64 (x8_1 + 1)) a0_0 l0_1) else (none)) = some r := by first | (rw [hji8] at H; exact H) | (simp only [hji8] at H ⊢; exact H)
          have hji8_ : (if 0 < (wrap64 (a2 - (wrap64 (x8_1 * 1000000)))) then (wrap64 (a2 - (wrap64 (x8_1 * 1000000)))) else 0) = ji8 := hji8
          obtain ⟨ji9, hji9⟩ : ∃ j_ : Int, (mn 1000000 (ji8)) = j_ := ⟨_, rfl⟩
          replace H : (if 0 ≤ x8_1 then (isobathlaw05_Truth_offset.l0 k1 a1 a2 (wrap64 (x7_1 + (wrap64 ((ji9) * (wrap64 (Int.tdiv (wrap64 (a1 * (wrap64 (rd l0_1 x8_1)))) 128)))))) (wrap64 (x8_1 + 1)) a0_0 l0_1) else (none)) = some r := by first | (rw [hji9] at H; exact H) | (simp only [hji9] at H ⊢; exact H)
          have hji9_ : (if (ji8) < 1000000 then (ji8) else 1000000) = ji9 := hji9
          by_cases c10 : 0 ≤ x8_1
          · rw [if_pos c10] at H
            have c10b0 : decide (0 ≤ x8_1) = true := decide_eq_true c10
            clear c10
            have H' := Aside0.mk H
            clear H
            have hcz11_0 : wr.cell? ⟨gb135, 0, none⟩ = some (.int .i32 a0_0) := (blk_cell BK135.out 0).trans rfl
            have hcz11_1 : wr.cell? ⟨gb135, 1, none⟩ = some (.slice A0_1 l0_1.length c0_1) := (blk_cell BK135.out 1).trans rfl
            have hfz11_0 := blk_frozen BK135.out 0
            have hfz11_1 := blk_frozen BK135.out 1
            have p136 : 0 ≤ (x8_1 : Int) := of_decide_eq_true (by first | (with_reducible assumption) | assumption)
            have q136 : x8_1 < (l0_1.length : Int) := of_decide_eq_true (by first | (with_reducible assumption) | assumption)
            obtain ⟨ad136, e136, hx136_0⟩ := Kd.at_int HR0_1.out x8_1 p136 q136
            cases e136
            replace hx136_0 := (HB.out.cell (World.block_lt_of_cell? w _ hx136_0)).trans hx136_0
            replace p136 := eq_true p136
            replace q136 := eq_true q136
            go_wp2
            go_roundg k1
            case measure => have := HK1.out; omega
            case rel => exact ⟨(wrap64 (x7_1 + (wrap64 ((ji9) * (wrap64 (Int.tdiv (wrap64 (a1 * (wrap64 (rd l0_1 x8_1)))) 128)))))), (wrap64 (x8_1 + 1)), (by first | rfl | (simp; done) | (simp only [← hji9] <;> (first | rfl | simp)) | (simp [*]; done)), (by first | rfl | (simp; done) | (simp [*]; done)), H', ⟨by have := HK1.out; omega⟩, ⟨by (with_reducible repeat (first | refine blk_drewN ?_ _ | refine blk_drew ?_ | refine blk_alloc ?_ _)); exact BK135.out⟩, ⟨by repeat (first | (with_reducible first | exact HB.out | apply below_alloc | apply pw_below_drewN | apply below_drew1 | refine below_set ?_ GE135.out) | exact HB.out)⟩⟩
          · rw [if_neg c10] at H
            exact absurd H (by simp)
        · rw [if_neg c7] at H
          have c7b0 : decide (x8_1 < 20) = false := decide_eq_false c7
          clear c7
          obtain rfl := Option.some.inj H
          have hcz12_0 : wr.cell? ⟨gb135, 0, none⟩ = some (.int .i32 a0_0) := (blk_cell BK135.out 0).trans rfl
          have hcz12_1 : wr.cell? ⟨gb135, 1, none⟩ = some (.slice A0_1 l0_1.length c0_1) := (blk_cell BK135.out 1).trans rfl
          have hfz12_0 := blk_frozen BK135.out 0
          have hfz12_1 := blk_frozen BK135.out 1
          go_wp2
          go_ret
          exact ⟨by first | rfl | (simp [errW_none, errW_some] <;> rfl) | (simp [*, errW_none, errW_some] <;> rfl), by repeat (first | (with_reducible first | exact HB.out | apply below_alloc | apply pw_below_drewN | apply below_drew1 | refine below_set ?_ GE135.out) | exact HB.out)⟩
      · rw [if_neg c6] at H
        have c6b0 : decide (x8_1 < (l0_1.length : Int)) = false := decide_eq_false c6
        clear c6
        obtain rfl := Option.some.inj H
        have hcz13_0 : wr.cell? ⟨gb135, 0, none⟩ = some (.int .i32 a0_0) := (blk_cell BK135.out 0).trans rfl
        have hcz13_1 : wr.cell? ⟨gb135, 1, none⟩ = some (.slice A0_1 l0_1.length c0_1) := (blk_cell BK135.out 1).trans rfl
        have hfz13_0 := blk_frozen BK135.out 0
        have hfz13_1 := blk_frozen BK135.out 1
        go_wp2
        go_ret
        exact ⟨by first | rfl | (simp [errW_none, errW_some] <;> rfl) | (simp [*, errW_none, errW_some] <;> rfl), by repeat (first | (with_reducible first | exact HB.out | apply below_alloc | apply pw_below_drewN | apply below_drew1 | refine below_set ?_ GE135.out) | exact HB.out)⟩

end Go.Proofs.Ytcjdhajdoikojaa.Pr
end
section
-- PRINTED by print.py (a twelfth state) out of the translation. Not trusted: Lean checks it.
namespace Go.Proofs.Ytcjdhajdoikojaa.Pr
open Go.RowKit Go.Proofs.YtcjdhajdoikojaaW.PrintWords Go.Proofs.YtcjdhajdoikojaaW.PrintLast Go.Proofs.YtcjdhajdoikojaaW.PrintMore
attribute [local go_sem] max2_int min2_int max_two min_two max_four
set_option linter.unusedVariables false
set_option linter.unusedSimpArgs false

/-! ### isobathlaw05_down: function 19 -/
def isobathlaw05_down.f (a0 : Int) : Option (Int) := if (Int.tmod a0 1000000000) < 0 then (some (wrap64 ((wrap64 (Int.tdiv a0 1000000000)) - 1))) else (some (wrap64 (Int.tdiv a0 1000000000)))
set_option maxHeartbeats 8000000 in
set_option maxRecDepth 100000 in
theorem isobathlaw05_down.calls (a0 : Int) (r : Int) (w : World) (h : isobathlaw05_down.f a0 = some r) :
    Calls Try.prog 19 #[.int .i64 a0] w fun e w' => e = .returned (.int .i64 r) ∧ Drawn0 w w' := by
  have H : (if (Int.tmod a0 1000000000) < 0 then (some (wrap64 ((wrap64 (Int.tdiv a0 1000000000)) - 1))) else (some (wrap64 (Int.tdiv a0 1000000000)))) = some r := h
  clear h
  by_cases c2 : (Int.tmod a0 1000000000) < 0
  · rw [if_pos c2] at H
    have c2b0 : decide ((Int.tmod a0 1000000000) < 0) = true := decide_eq_true c2
    clear c2
    obtain rfl := Option.some.inj H
    go_enter Try.func19, Try.ntmps19
    go_wp2
    go_ret
    exact ⟨by first | rfl | (simp; done) | (simp [*]; done), by repeat (first | exact Drawn0.refl _ | apply Drawn0.step)⟩
  · rw [if_neg c2] at H
    have c2b0 : decide ((Int.tmod a0 1000000000) < 0) = false := decide_eq_false c2
    clear c2
    obtain rfl := Option.some.inj H
    go_enter Try.func19, Try.ntmps19
    go_wp2
    go_ret
    exact ⟨by first | rfl | (simp; done) | (simp [*]; done), by repeat (first | exact Drawn0.refl _ | apply Drawn0.step)⟩

end Go.Proofs.Ytcjdhajdoikojaa.Pr
end
section
-- PRINTED by print.py (a twelfth state) out of the translation. Not trusted: Lean checks it.
namespace Go.Proofs.Ytcjdhajdoikojaa.Pr
open Go.RowKit Go.Proofs.YtcjdhajdoikojaaW.PrintWords Go.Proofs.YtcjdhajdoikojaaW.PrintLast Go.Proofs.YtcjdhajdoikojaaW.PrintMore
attribute [local go_sem] max2_int min2_int max_two min_two max_four
set_option linter.unusedVariables false
set_option linter.unusedSimpArgs false

/-! ### isobathlaw05_up: function 20 -/
def isobathlaw05_up.f (a0 : Int) : Option (Int) := (isobathlaw05_down.f (wrap64 (-a0))).bind fun t137 => (some (wrap64 (-t137)))
set_option maxHeartbeats 8000000 in
set_option maxRecDepth 100000 in
theorem isobathlaw05_up.calls (a0 : Int) (r : Int) (w : World) (h : isobathlaw05_up.f a0 = some r) :
    Calls Try.prog 20 #[.int .i64 a0] w fun e w' => e = .returned (.int .i64 r) ∧ Drawn0 w w' := by
  have H : ((isobathlaw05_down.f (wrap64 (-a0))).bind fun t137 => (some (wrap64 (-t137)))) = some r := h
  clear h
  replace H := Option.bind_eq_some_iff.mp H
  obtain ⟨t137, A20, H⟩ := H
  replace H : (some (wrap64 (-t137))) = some r := H
  have A2 := Aside0.mk A20
  clear A20
  obtain rfl := Option.some.inj H
  go_enter Try.func20, Try.ntmps20
  go_wp2_with (first | ((with_reducible refine gate_callee (f := 19) rfl ?_); refine goesL_ (some 5) rfl rfl Try.func19 (by kernel_rfl) rfl #[.int .i64 (wrap64 (-a0))] rfl (by (try simp only [List.map_toArray, List.map_cons, List.map_nil]); first | done | rfl | (simp only [List.length_drop, List.length_take]; rfl)) ?_; (with_reducible refine (isobathlaw05_down.calls (wrap64 (-a0)) t137 _ A2.out).mono ?_); rintro e w' ⟨rfl, ⟨nd, rfl⟩⟩; refine ⟨_, rfl, ?_⟩))
  go_ret
  exact ⟨by first | rfl | (simp; done) | (simp [*]; done), by repeat (first | exact Drawn0.refl _ | apply Drawn0.step)⟩

end Go.Proofs.Ytcjdhajdoikojaa.Pr
end
section
/- The exchange of a talk, as the statement computes it. -/
namespace Go.Proofs.Ytcjdhajdoikojaa.Clk
open Go.RowKit Go.Shelf Go.Proofs.YtcjdhajdoikojaaW.PrintWords Go.Proofs.YtcjdhajdoikojaaW.PrintLast Go.Proofs.YtcjdhajdoikojaaW.PrintMore Go.Proofs.Ytcjdhajdoikojaa.Pr Go.Proofs.YtcjdhajdoikojaaW.Round
set_option linter.unusedVariables false
set_option linter.unusedSimpArgs false
attribute [local go_sem] max2_int min2_int max_two min_two max_four
theorem tof_loop (rate at_ start : Int) (slow : List Int) : ∀ (m : Nat) (i k : Nat) (acc : Int), i + m = 20 → m + 1 ≤ k → ∃ v, isobathlaw05_Truth_offset.l0 k rate at_ acc (i : Int) start slow = some v := by
  intro m
  induction m with
  | zero =>
    intro i k acc h hk
    obtain ⟨k, rfl⟩ : ∃ q, k = q + 1 := ⟨k - 1, by omega⟩
    rw [isobathlaw05_Truth_offset.l0, if_neg (show ¬ ((i : Int) < 20) by omega)]
    split <;> exact ⟨_, rfl⟩
  | succ m ih =>
    intro i k acc h hk
    obtain ⟨k, rfl⟩ : ∃ q, k = q + 1 := ⟨k - 1, by omega⟩
    rw [isobathlaw05_Truth_offset.l0, if_pos (show (i : Int) < 20 by omega), if_pos (show 0 ≤ (i : Int) by omega), show wrap64 ((i : Int) + 1) = ((i + 1 : Nat) : Int) by unfold wrap64; omega]
    split
    · exact ih (i + 1) k _ (by omega) (by omega)
    · exact ⟨_, rfl⟩
/-- The true offset at a reading, in milliardths. -/
def tofI (start : Int) (slow : List Int) (rate at_ : Int) : Int := (isobathlaw05_Truth_offset.f 30 start slow rate at_).getD 0
theorem tof_some (start : Int) (slow : List Int) (rate at_ : Int) : isobathlaw05_Truth_offset.f 30 start slow rate at_ = some (tofI start slow rate at_) := by
  obtain ⟨v, hv⟩ := tof_loop rate at_ start slow 20 0 30 (wrap64 (wrap64 start * 1000000000)) rfl (by omega)
  have e : isobathlaw05_Truth_offset.f 30 start slow rate at_ = some v := hv
  unfold tofI
  rw [e]
  rfl
def downI (a : Int) : Int := (isobathlaw05_down.f a).getD 0
theorem down_some' (a : Int) : isobathlaw05_down.f a = some (downI a) := by
  unfold downI isobathlaw05_down.f
  split <;> rfl
def upwI (a : Int) : Int := wrap64 (-(downI (wrap64 (-a))))
theorem up_some' (a : Int) : isobathlaw05_up.f a = some (upwI a) := by
  unfold isobathlaw05_up.f upwI
  rw [down_some']
  rfl
theorem tof_any (start : Int) (A : Option Addr) (c : Nat) (slow : List Int) (rate at_ : Int) (w : World) (hC : Kd.C (Kd.int .i8) w A slow.length slow) (hc : slow.length ≤ c) :
    Calls Try.prog 18 #[.agg #[.int .i32 start, .slice A slow.length c], .int .i64 rate, .int .i64 at_] w fun e w' => e = .returned (.int .i64 (tofI start slow rate at_)) ∧ Below w.heap.size w w' :=
  isobathlaw05_Truth_offset.calls 30 _ _ _ _ _ _ _ w hC hc (tof_some start slow rate at_)
theorem down_any' (a : Int) (w : World) : Calls Try.prog 19 #[.int .i64 a] w fun e w' => e = .returned (.int .i64 (downI a)) ∧ Below w.heap.size w w' := (isobathlaw05_down.calls a _ w (down_some' a)).mono fun _ _ h => ⟨h.1, h.2.below⟩
theorem upw_any (a : Int) (w : World) : Calls Try.prog 20 #[.int .i64 a] w fun e w' => e = .returned (.int .i64 (upwI a)) ∧ Below w.heap.size w w' := (isobathlaw05_up.calls a _ w (up_some' a)).mono fun _ _ h => ⟨h.1, h.2.below⟩

def xSent (a0 : Int) : Int := Int.tmod (wrap64 a0) 15000000
def xBack (a0 a1 : Int) : Int := wrap64 (xSent a0 + wrap64 a1)
def xHeard (start : Int) (slow : List Int) (rate a0 a2 : Int) : Int := wrap64 (upwI (wrap64 (wrap64 (xSent a0 * 1000000000) + tofI start slow rate (xSent a0))) + wrap64 a2)
def xAns (start : Int) (slow : List Int) (rate a0 a1 a3 : Int) : Int := wrap64 (downI (wrap64 (wrap64 (xBack a0 a1 * 1000000000) + tofI start slow rate (xBack a0 a1))) - wrap64 a3)
def xLo (a b : Int) : Int := mx 0 (wrap64 (wrap64 a - wrap64 b))
def xHi (a b : Int) : Int := wrap64 (wrap64 (wrap64 a + 1) + wrap64 b)
set_option maxRecDepth 100000 in
set_option maxHeartbeats 4000000 in
theorem exchange_any (start : Int) (A : Option Addr) (c : Nat) (slow : List Int) (rate a0 a1 a2 a3 b0 b1 b2 b3 : Int) (w : World) (hC : Kd.C (Kd.int .i8) w A slow.length slow) (hc : slow.length ≤ c) :
    Calls Try.prog 53 #[.agg #[.int .i32 start, .slice A slow.length c], .int .i64 rate, .agg #[.int .u32 a0, .int .u16 a1, .int .u16 a2, .int .u16 a3, .int .u16 b0, .int .u16 b1, .int .u16 b2, .int .u16 b3]] w fun e w' =>
      e = .returned (.agg #[.int .i64 (xSent a0), .int .i64 (xHeard start slow rate a0 a2), .int .i64 (xAns start slow rate a0 a1 a3), .int .i64 (xBack a0 a1), .int .i64 (xLo a2 b0), .int .i64 (xHi a2 b1), .int .i64 (xLo a3 b2), .int .i64 (xHi a3 b3)]) ∧ Below w.heap.size w w' := by
  have hu35 := Try.underlying35
  have hu46 := Try.underlying46
  have hu24 := Try.underlying24
  have hu93 := Try.underlying93
  go_enter Try.func53, Try.ntmps53
  go_wp2
  have m3 : Blk (((w.alloc (.cells #[.int .i32 start, .slice A slow.length c] 24)).alloc (.cells #[.int .u32 a0, .int .u16 a1, .int .u16 a2, .int .u16 a3, .int .u16 b0, .int .u16 b1, .int .u16 b2, .int .u16 b3] 93)).alloc (.cells #[.int .i64 0, .int .i64 0, .int .i64 0, .int .i64 0, .int .i64 0, .int .i64 0, .int .i64 0, .int .i64 0] 46)) (w.heap.size) #[.int .i32 start, .slice A slow.length c] 24 := (blk_alloc (blk_alloc (by have h_ := blk_new w (.cells #[.int .i32 start, .slice A slow.length c] 24); first | exact h_ | (simp only [World.size_alloc] at h_; exact h_)) _) _)
  have m5 : Blk (((w.alloc (.cells #[.int .i32 start, .slice A slow.length c] 24)).alloc (.cells #[.int .u32 a0, .int .u16 a1, .int .u16 a2, .int .u16 a3, .int .u16 b0, .int .u16 b1, .int .u16 b2, .int .u16 b3] 93)).alloc (.cells #[.int .i64 0, .int .i64 0, .int .i64 0, .int .i64 0, .int .i64 0, .int .i64 0, .int .i64 0, .int .i64 0] 46)) (w.heap.size + 1) #[.int .u32 a0, .int .u16 a1, .int .u16 a2, .int .u16 a3, .int .u16 b0, .int .u16 b1, .int .u16 b2, .int .u16 b3] 93 := (blk_alloc (by have h_ := blk_new (w.alloc (.cells #[.int .i32 start, .slice A slow.length c] 24)) (.cells #[.int .u32 a0, .int .u16 a1, .int .u16 a2, .int .u16 a3, .int .u16 b0, .int .u16 b1, .int .u16 b2, .int .u16 b3] 93); first | exact h_ | (simp only [World.size_alloc] at h_; exact h_)) _)
  have m6 : Blk (((w.alloc (.cells #[.int .i32 start, .slice A slow.length c] 24)).alloc (.cells #[.int .u32 a0, .int .u16 a1, .int .u16 a2, .int .u16 a3, .int .u16 b0, .int .u16 b1, .int .u16 b2, .int .u16 b3] 93)).alloc (.cells #[.int .i64 0, .int .i64 0, .int .i64 0, .int .i64 0, .int .i64 0, .int .i64 0, .int .i64 0, .int .i64 0] 46)) (w.heap.size + 1 + 1) #[.int .i64 0, .int .i64 0, .int .i64 0, .int .i64 0, .int .i64 0, .int .i64 0, .int .i64 0, .int .i64 0] 46 := (by have h_ := blk_new ((w.alloc (.cells #[.int .i32 start, .slice A slow.length c] 24)).alloc (.cells #[.int .u32 a0, .int .u16 a1, .int .u16 a2, .int .u16 a3, .int .u16 b0, .int .u16 b1, .int .u16 b2, .int .u16 b3] 93)) (.cells #[.int .i64 0, .int .i64 0, .int .i64 0, .int .i64 0, .int .i64 0, .int .i64 0, .int .i64 0, .int .i64 0] 46); first | exact h_ | (simp only [World.size_alloc] at h_; exact h_))
  have mB : Below w.heap.size w (((w.alloc (.cells #[.int .i32 start, .slice A slow.length c] 24)).alloc (.cells #[.int .u32 a0, .int .u16 a1, .int .u16 a2, .int .u16 a3, .int .u16 b0, .int .u16 b1, .int .u16 b2, .int .u16 b3] 93)).alloc (.cells #[.int .i64 0, .int .i64 0, .int .i64 0, .int .i64 0, .int .i64 0, .int .i64 0, .int .i64 0, .int .i64 0] 46)) := (below_alloc (below_alloc (below_alloc (Below.refl w.heap.size w) _) _) _)
  have hsz_ : w.heap.size ≤ w.heap.size := Nat.le_refl _
  generalize hW_ : (((w.alloc (.cells #[.int .i32 start, .slice A slow.length c] 24)).alloc (.cells #[.int .u32 a0, .int .u16 a1, .int .u16 a2, .int .u16 a3, .int .u16 b0, .int .u16 b1, .int .u16 b2, .int .u16 b3] 93)).alloc (.cells #[.int .i64 0, .int .i64 0, .int .i64 0, .int .i64 0, .int .i64 0, .int .i64 0, .int .i64 0, .int .i64 0] 46)) = W1 at m3 m5 m6 mB ⊢
  clear hW_
  generalize hg3 : w.heap.size = g3 at m3 m5 m6 ⊢
  have hG3 : w.heap.size ≤ g3 := by omega
  generalize hg5 : g3 + 1 = g5 at m5 m6 ⊢
  have hn_3_5 : g3 ≠ g5 := by omega
  have hn_5_3 : g5 ≠ g3 := hn_3_5.symm
  have hG5 : w.heap.size ≤ g5 := by omega
  generalize hg6 : g5 + 1 = g6 at m6 ⊢
  have hn_3_6 : g3 ≠ g6 := by omega
  have hn_5_6 : g5 ≠ g6 := by omega
  have hn_6_3 : g6 ≠ g3 := hn_3_6.symm
  have hn_6_5 : g6 ≠ g5 := hn_5_6.symm
  have hG6 : w.heap.size ≤ g6 := by omega
  clear hsz_
  try clear hg6
  try clear hg5
  try clear hg3
  have hs_W1 : w.heap.size ≤ W1.heap.size := mB.size
  replace m3 := blk_drew m3
  replace m5 := blk_drew m5
  replace m6 := blk_drew m6
  replace mB := below_drew1 mB
  generalize hs_ : Int.tmod (wrap64 a0) 15000000 = sent
  generalize hb_ : wrap64 (sent + wrap64 a1) = back
  have HS := Lib.hid hs_
  have HB_ := Lib.hid hb_
  clear hs_ hb_
  refine start_ (n := 13) (S := fun w' => w'.cell? ⟨g3, 0, none⟩ = some (.int .i32 start) ∧ w'.cell? ⟨g3, 1, none⟩ = some (.slice A slow.length c) ∧ w'.cell? ⟨g5, 0, none⟩ = some (.int .u32 a0) ∧ w'.cell? ⟨g5, 1, none⟩ = some (.int .u16 a1) ∧ w'.cell? ⟨g5, 2, none⟩ = some (.int .u16 a2) ∧ w'.cell? ⟨g5, 3, none⟩ = some (.int .u16 a3) ∧ w'.cell? ⟨g5, 4, none⟩ = some (.int .u16 b0) ∧ w'.cell? ⟨g5, 5, none⟩ = some (.int .u16 b1) ∧ w'.cell? ⟨g5, 6, none⟩ = some (.int .u16 b2) ∧ w'.cell? ⟨g5, 7, none⟩ = some (.int .u16 b3)) (ds := []) #[false, false, false, false, false, false, false, false, false, false, false, false, false] (by kernel_rfl) rfl rfl ⟨((blk_cell m3 0).trans rfl), ((blk_cell m3 1).trans rfl), ((blk_cell m5 0).trans rfl), ((blk_cell m5 1).trans rfl), ((blk_cell m5 2).trans rfl), ((blk_cell m5 3).trans rfl), ((blk_cell m5 4).trans rfl), ((blk_cell m5 5).trans rfl), ((blk_cell m5 6).trans rfl), ((blk_cell m5 7).trans rfl)⟩ (fun hHeld => ?_)
  generalize hWd : World.drew _ = Wd at *
  clear hWd
  refine pure_ (i := 0) (N := some 21) (v := ?_) (a' := ?_) #[true, false, false, false, false, false, false, false, false, false, false, false, false] rfl rfl (by kernel_rfl) (fun _ _ _ h => h) (Or.inl ⟨by rfl, ?_⟩) ?_ ?_
  rotate_left
  · intro w'
    go_simp
    with_reducible rfl
  rotate_left
  · simp only [Act.put, List.setIfInBounds_toArray, List.set_cons_zero, List.set_cons_succ, i64_w, i32_w]
    rfl
  refine pure_ (i := 1) (N := some 22) (v := ?_) (a' := ?_) #[true, true, false, false, false, false, false, false, false, false, false, false, false] rfl rfl (by kernel_rfl) (fun _ _ _ h => h) (Or.inl ⟨by rfl, ?_⟩) ?_ ?_
  rotate_left
  · intro w'
    go_simp
    with_reducible rfl
  rotate_left
  · simp only [Act.put, List.setIfInBounds_toArray, List.set_cons_zero, List.set_cons_succ, i64_w, i32_w]
    rfl
  refine pure_ (i := 3) (N := some 24) (v := ?_) (a' := ?_) #[true, true, false, true, false, false, false, false, false, false, false, false, false] rfl rfl (by kernel_rfl) (fun _ _ _ h => h) (Or.inl ⟨by rfl, ?_⟩) ?_ ?_
  rotate_left
  · intro w'
    go_simp
    with_reducible rfl
  rotate_left
  · simp only [Act.put, List.setIfInBounds_toArray, List.set_cons_zero, List.set_cons_succ, i64_w, i32_w]
    rfl
  refine pure_ (i := 4) (N := some 25) (v := ?_) (a' := ?_) #[true, true, false, true, true, false, false, false, false, false, false, false, false] rfl rfl (by kernel_rfl) (fun _ _ _ h => h) (Or.inl ⟨by rfl, ?_⟩) ?_ ?_
  rotate_left
  · intro w'
    go_simp
    with_reducible rfl
  rotate_left
  · simp only [Act.put, List.setIfInBounds_toArray, List.set_cons_zero, List.set_cons_succ, i64_w, i32_w]
    rfl
  refine pure_ (i := 8) (N := some 29) (v := ?_) (a' := ?_) #[true, true, false, true, true, false, false, false, true, false, false, false, false] rfl rfl (by kernel_rfl) (fun _ _ _ h => h) (Or.inl ⟨by rfl, ?_⟩) ?_ ?_
  rotate_left
  · intro w'
    go_simp
    with_reducible rfl
  rotate_left
  · simp only [Act.put, List.setIfInBounds_toArray, List.set_cons_zero, List.set_cons_succ, i64_w, i32_w]
    rfl
  refine take_ (i := 2) (N := some 23) (v := ?_) (a' := ?_) #[true, true, true, true, true, false, false, false, true, false, false, false, false] rfl rfl (by kernel_rfl) (fun _ _ _ h => h) (Or.inl ⟨by rfl, ?_⟩) hHeld ?_ ?_
  rotate_left
  · rintro w' ⟨s0, s1, s2, s3, s4, s5, s6, s7, s8, s9⟩
    go_simp
    with_reducible rfl
  rotate_left
  · simp only [Act.put, List.setIfInBounds_toArray, List.set_cons_zero, List.set_cons_succ, i64_w, i32_w]
    rfl
  refine take_ (i := 9) (N := some 30) (v := ?_) (a' := ?_) #[true, true, true, true, true, false, false, false, true, true, false, false, false] rfl rfl (by kernel_rfl) (fun _ _ _ h => h) (Or.inl ⟨by rfl, ?_⟩) hHeld ?_ ?_
  rotate_left
  · rintro w' ⟨s0, s1, s2, s3, s4, s5, s6, s7, s8, s9⟩
    go_simp
    with_reducible rfl
  rotate_left
  · simp only [Act.put, List.setIfInBounds_toArray, List.set_cons_zero, List.set_cons_succ, i64_w, i32_w]
    rfl
  refine pure_ (i := 10) (N := some 31) (v := ?_) (a' := ?_) #[true, true, true, true, true, false, false, false, true, true, true, false, false] rfl rfl (by kernel_rfl) (fun _ _ _ h => h) (Or.inl ⟨by rfl, ?_⟩) ?_ ?_
  rotate_left
  · intro w'
    go_simp
    with_reducible rfl
  rotate_left
  · simp only [Act.put, List.setIfInBounds_toArray, List.set_cons_zero, List.set_cons_succ, i64_w, i32_w]
    rfl
  refine one_ (i := 5) (N := some 26) #[true, true, true, true, true, true, false, false, true, true, true, false, false] rfl rfl (by kernel_rfl) (by decide) (fun K hK => ?_)
  refine goes_ Try.func18 (by kernel_rfl) rfl #[.agg #[.int .i32 start, .slice A slow.length c], .int .i64 rate, .int .i64 sent] (by rfl) rfl rfl (by simp only [List.map_toArray, List.map_cons, List.map_nil]; rfl) ?_
  with_reducible refine (tof_any start A c slow rate sent _ (Kd.C_below hC mB) hc).mono ?_
  rintro e w5_3 ⟨rfl, hb⟩
  refine ⟨_, rfl, ?_⟩
  replace m3 := blk_below m3 hb
  replace m5 := blk_below m5 hb
  replace m6 := blk_below m6 hb
  replace mB := below_step mB hb
  clear hb
  refine hK.out _ _ ⟨((blk_cell m3 0).trans rfl), ((blk_cell m3 1).trans rfl), ((blk_cell m5 0).trans rfl), ((blk_cell m5 1).trans rfl), ((blk_cell m5 2).trans rfl), ((blk_cell m5 3).trans rfl), ((blk_cell m5 4).trans rfl), ((blk_cell m5 5).trans rfl), ((blk_cell m5 6).trans rfl), ((blk_cell m5 7).trans rfl)⟩ (fun hHeld => ?_)
  clear hK K
  refine norm_ (a' := ?_) ?_ ?_
  rotate_left
  · show Act.put _ (some 26) _ = _
    simp only [Act.put, List.setIfInBounds_toArray, List.set_cons_zero, List.set_cons_succ, i64_w, i32_w]
    rfl
  refine pure_ (i := 6) (N := some 27) (v := ?_) (a' := ?_) #[true, true, true, true, true, true, true, false, true, true, true, false, false] rfl rfl (by kernel_rfl) (fun _ _ _ h => h) (Or.inl ⟨by rfl, ?_⟩) ?_ ?_
  rotate_left
  · intro w'
    go_simp
    with_reducible rfl
  rotate_left
  · simp only [Act.put, List.setIfInBounds_toArray, List.set_cons_zero, List.set_cons_succ, i64_w, i32_w]
    rfl
  refine one_ (i := 7) (N := some 28) #[true, true, true, true, true, true, true, true, true, true, true, false, false] rfl rfl (by kernel_rfl) (by decide) (fun K hK => ?_)
  refine goes_ Try.func20 (by kernel_rfl) rfl #[.int .i64 (wrap64 (wrap64 (sent * 1000000000) + tofI start slow rate sent))] (by rfl) rfl rfl (by simp only [List.map_toArray, List.map_cons, List.map_nil]; rfl) ?_
  with_reducible refine (upw_any (wrap64 (wrap64 (sent * 1000000000) + tofI start slow rate sent)) _).mono ?_
  rintro e w7_3 ⟨rfl, hb⟩
  refine ⟨_, rfl, ?_⟩
  replace m3 := blk_below m3 hb
  replace m5 := blk_below m5 hb
  replace m6 := blk_below m6 hb
  replace mB := below_step mB hb
  clear hb
  refine hK.out _ _ ⟨((blk_cell m3 0).trans rfl), ((blk_cell m3 1).trans rfl), ((blk_cell m5 0).trans rfl), ((blk_cell m5 1).trans rfl), ((blk_cell m5 2).trans rfl), ((blk_cell m5 3).trans rfl), ((blk_cell m5 4).trans rfl), ((blk_cell m5 5).trans rfl), ((blk_cell m5 6).trans rfl), ((blk_cell m5 7).trans rfl)⟩ (fun hHeld => ?_)
  clear hK K
  refine norm_ (a' := ?_) ?_ ?_
  rotate_left
  · show Act.put _ (some 28) _ = _
    simp only [Act.put, List.setIfInBounds_toArray, List.set_cons_zero, List.set_cons_succ, i64_w, i32_w]
    rfl
  refine pure_ (i := 11) (N := some 32) (v := ?_) (a' := ?_) #[true, true, true, true, true, true, true, true, true, true, true, true, false] rfl rfl (by kernel_rfl) (fun _ _ _ h => h) (Or.inl ⟨by rfl, ?_⟩) ?_ ?_
  rotate_left
  · intro w'
    go_simp
    with_reducible rfl
  rotate_left
  · simp only [Act.put, List.setIfInBounds_toArray, List.set_cons_zero, List.set_cons_succ, i64_w, i32_w]
    rfl
  refine pure_ (i := 12) (N := some 9) (v := ?_) (a' := ?_) #[true, true, true, true, true, true, true, true, true, true, true, true, true] rfl rfl (by kernel_rfl) (fun _ _ _ h => h) (Or.inl ⟨by rfl, ?_⟩) ?_ ?_
  rotate_left
  · intro w'
    go_simp
    with_reducible rfl
  rotate_left
  · simp only [Act.put, List.setIfInBounds_toArray, List.set_cons_zero, List.set_cons_succ, i64_w, i32_w]
    rfl
  refine done_ (by kernel_rfl) ?_
  generalize hh_ : wrap64 (upwI (wrap64 (wrap64 (sent * 1000000000) + tofI start slow rate sent)) + wrap64 a2) = heard
  have HH := Lib.hid hh_
  clear hh_
  try clear hHeld
  go_wp2
  replace m3 := blk_drew m3
  replace m5 := blk_drew m5
  replace m6 := blk_drew m6
  replace mB := below_drew1 mB
  refine start_ (n := 13) (S := fun w' => w'.cell? ⟨g3, 0, none⟩ = some (.int .i32 start) ∧ w'.cell? ⟨g3, 1, none⟩ = some (.slice A slow.length c) ∧ w'.cell? ⟨g5, 0, none⟩ = some (.int .u32 a0) ∧ w'.cell? ⟨g5, 1, none⟩ = some (.int .u16 a1) ∧ w'.cell? ⟨g5, 2, none⟩ = some (.int .u16 a2) ∧ w'.cell? ⟨g5, 3, none⟩ = some (.int .u16 a3) ∧ w'.cell? ⟨g5, 4, none⟩ = some (.int .u16 b0) ∧ w'.cell? ⟨g5, 5, none⟩ = some (.int .u16 b1) ∧ w'.cell? ⟨g5, 6, none⟩ = some (.int .u16 b2) ∧ w'.cell? ⟨g5, 7, none⟩ = some (.int .u16 b3)) (ds := []) #[false, false, false, false, false, false, false, false, false, false, false, false, false] (by kernel_rfl) rfl rfl ⟨((blk_cell m3 0).trans rfl), ((blk_cell m3 1).trans rfl), ((blk_cell m5 0).trans rfl), ((blk_cell m5 1).trans rfl), ((blk_cell m5 2).trans rfl), ((blk_cell m5 3).trans rfl), ((blk_cell m5 4).trans rfl), ((blk_cell m5 5).trans rfl), ((blk_cell m5 6).trans rfl), ((blk_cell m5 7).trans rfl)⟩ (fun hHeld => ?_)
  generalize hWd : World.drew _ = We at *
  clear hWd
  refine pure_ (i := 0) (N := some 33) (v := ?_) (a' := ?_) #[true, false, false, false, false, false, false, false, false, false, false, false, false] rfl rfl (by kernel_rfl) (fun _ _ _ h => h) (Or.inl ⟨by rfl, ?_⟩) ?_ ?_
  rotate_left
  · intro w'
    go_simp
    with_reducible rfl
  rotate_left
  · simp only [Act.put, List.setIfInBounds_toArray, List.set_cons_zero, List.set_cons_succ, i64_w, i32_w]
    rfl
  refine pure_ (i := 1) (N := some 34) (v := ?_) (a' := ?_) #[true, true, false, false, false, false, false, false, false, false, false, false, false] rfl rfl (by kernel_rfl) (fun _ _ _ h => h) (Or.inl ⟨by rfl, ?_⟩) ?_ ?_
  rotate_left
  · intro w'
    go_simp
    with_reducible rfl
  rotate_left
  · simp only [Act.put, List.setIfInBounds_toArray, List.set_cons_zero, List.set_cons_succ, i64_w, i32_w]
    rfl
  refine pure_ (i := 3) (N := some 36) (v := ?_) (a' := ?_) #[true, true, false, true, false, false, false, false, false, false, false, false, false] rfl rfl (by kernel_rfl) (fun _ _ _ h => h) (Or.inl ⟨by rfl, ?_⟩) ?_ ?_
  rotate_left
  · intro w'
    go_simp
    with_reducible rfl
  rotate_left
  · simp only [Act.put, List.setIfInBounds_toArray, List.set_cons_zero, List.set_cons_succ, i64_w, i32_w]
    rfl
  refine pure_ (i := 4) (N := some 37) (v := ?_) (a' := ?_) #[true, true, false, true, true, false, false, false, false, false, false, false, false] rfl rfl (by kernel_rfl) (fun _ _ _ h => h) (Or.inl ⟨by rfl, ?_⟩) ?_ ?_
  rotate_left
  · intro w'
    go_simp
    with_reducible rfl
  rotate_left
  · simp only [Act.put, List.setIfInBounds_toArray, List.set_cons_zero, List.set_cons_succ, i64_w, i32_w]
    rfl
  refine pure_ (i := 8) (N := some 41) (v := ?_) (a' := ?_) #[true, true, false, true, true, false, false, false, true, false, false, false, false] rfl rfl (by kernel_rfl) (fun _ _ _ h => h) (Or.inl ⟨by rfl, ?_⟩) ?_ ?_
  rotate_left
  · intro w'
    go_simp
    with_reducible rfl
  rotate_left
  · simp only [Act.put, List.setIfInBounds_toArray, List.set_cons_zero, List.set_cons_succ, i64_w, i32_w]
    rfl
  refine take_ (i := 2) (N := some 35) (v := ?_) (a' := ?_) #[true, true, true, true, true, false, false, false, true, false, false, false, false] rfl rfl (by kernel_rfl) (fun _ _ _ h => h) (Or.inl ⟨by rfl, ?_⟩) hHeld ?_ ?_
  rotate_left
  · rintro w' ⟨s0, s1, s2, s3, s4, s5, s6, s7, s8, s9⟩
    go_simp
    with_reducible rfl
  rotate_left
  · simp only [Act.put, List.setIfInBounds_toArray, List.set_cons_zero, List.set_cons_succ, i64_w, i32_w]
    rfl
  refine take_ (i := 9) (N := some 42) (v := ?_) (a' := ?_) #[true, true, true, true, true, false, false, false, true, true, false, false, false] rfl rfl (by kernel_rfl) (fun _ _ _ h => h) (Or.inl ⟨by rfl, ?_⟩) hHeld ?_ ?_
  rotate_left
  · rintro w' ⟨s0, s1, s2, s3, s4, s5, s6, s7, s8, s9⟩
    go_simp
    with_reducible rfl
  rotate_left
  · simp only [Act.put, List.setIfInBounds_toArray, List.set_cons_zero, List.set_cons_succ, i64_w, i32_w]
    rfl
  refine pure_ (i := 10) (N := some 43) (v := ?_) (a' := ?_) #[true, true, true, true, true, false, false, false, true, true, true, false, false] rfl rfl (by kernel_rfl) (fun _ _ _ h => h) (Or.inl ⟨by rfl, ?_⟩) ?_ ?_
  rotate_left
  · intro w'
    go_simp
    with_reducible rfl
  rotate_left
  · simp only [Act.put, List.setIfInBounds_toArray, List.set_cons_zero, List.set_cons_succ, i64_w, i32_w]
    rfl
  refine one_ (i := 5) (N := some 38) #[true, true, true, true, true, true, false, false, true, true, true, false, false] rfl rfl (by kernel_rfl) (by decide) (fun K hK => ?_)
  refine goes_ Try.func18 (by kernel_rfl) rfl #[.agg #[.int .i32 start, .slice A slow.length c], .int .i64 rate, .int .i64 back] (by rfl) rfl rfl (by simp only [List.map_toArray, List.map_cons, List.map_nil]; rfl) ?_
  with_reducible refine (tof_any start A c slow rate back _ (Kd.C_below hC mB) hc).mono ?_
  rintro e w5_4 ⟨rfl, hb⟩
  refine ⟨_, rfl, ?_⟩
  replace m3 := blk_below m3 hb
  replace m5 := blk_below m5 hb
  replace m6 := blk_below m6 hb
  replace mB := below_step mB hb
  clear hb
  refine hK.out _ _ ⟨((blk_cell m3 0).trans rfl), ((blk_cell m3 1).trans rfl), ((blk_cell m5 0).trans rfl), ((blk_cell m5 1).trans rfl), ((blk_cell m5 2).trans rfl), ((blk_cell m5 3).trans rfl), ((blk_cell m5 4).trans rfl), ((blk_cell m5 5).trans rfl), ((blk_cell m5 6).trans rfl), ((blk_cell m5 7).trans rfl)⟩ (fun hHeld => ?_)
  clear hK K
  refine norm_ (a' := ?_) ?_ ?_
  rotate_left
  · show Act.put _ (some 38) _ = _
    simp only [Act.put, List.setIfInBounds_toArray, List.set_cons_zero, List.set_cons_succ, i64_w, i32_w]
    rfl
  refine pure_ (i := 6) (N := some 39) (v := ?_) (a' := ?_) #[true, true, true, true, true, true, true, false, true, true, true, false, false] rfl rfl (by kernel_rfl) (fun _ _ _ h => h) (Or.inl ⟨by rfl, ?_⟩) ?_ ?_
  rotate_left
  · intro w'
    go_simp
    with_reducible rfl
  rotate_left
  · simp only [Act.put, List.setIfInBounds_toArray, List.set_cons_zero, List.set_cons_succ, i64_w, i32_w]
    rfl
  refine one_ (i := 7) (N := some 40) #[true, true, true, true, true, true, true, true, true, true, true, false, false] rfl rfl (by kernel_rfl) (by decide) (fun K hK => ?_)
  refine goes_ Try.func19 (by kernel_rfl) rfl #[.int .i64 (wrap64 (wrap64 (back * 1000000000) + tofI start slow rate back))] (by rfl) rfl rfl (by simp only [List.map_toArray, List.map_cons, List.map_nil]; rfl) ?_
  with_reducible refine (down_any' (wrap64 (wrap64 (back * 1000000000) + tofI start slow rate back)) _).mono ?_
  rintro e w7_4 ⟨rfl, hb⟩
  refine ⟨_, rfl, ?_⟩
  replace m3 := blk_below m3 hb
  replace m5 := blk_below m5 hb
  replace m6 := blk_below m6 hb
  replace mB := below_step mB hb
  clear hb
  refine hK.out _ _ ⟨((blk_cell m3 0).trans rfl), ((blk_cell m3 1).trans rfl), ((blk_cell m5 0).trans rfl), ((blk_cell m5 1).trans rfl), ((blk_cell m5 2).trans rfl), ((blk_cell m5 3).trans rfl), ((blk_cell m5 4).trans rfl), ((blk_cell m5 5).trans rfl), ((blk_cell m5 6).trans rfl), ((blk_cell m5 7).trans rfl)⟩ (fun hHeld => ?_)
  clear hK K
  refine norm_ (a' := ?_) ?_ ?_
  rotate_left
  · show Act.put _ (some 40) _ = _
    simp only [Act.put, List.setIfInBounds_toArray, List.set_cons_zero, List.set_cons_succ, i64_w, i32_w]
    rfl
  refine pure_ (i := 11) (N := some 44) (v := ?_) (a' := ?_) #[true, true, true, true, true, true, true, true, true, true, true, true, false] rfl rfl (by kernel_rfl) (fun _ _ _ h => h) (Or.inl ⟨by rfl, ?_⟩) ?_ ?_
  rotate_left
  · intro w'
    go_simp
    with_reducible rfl
  rotate_left
  · simp only [Act.put, List.setIfInBounds_toArray, List.set_cons_zero, List.set_cons_succ, i64_w, i32_w]
    rfl
  refine pure_ (i := 12) (N := some 10) (v := ?_) (a' := ?_) #[true, true, true, true, true, true, true, true, true, true, true, true, true] rfl rfl (by kernel_rfl) (fun _ _ _ h => h) (Or.inl ⟨by rfl, ?_⟩) ?_ ?_
  rotate_left
  · intro w'
    go_simp
    with_reducible rfl
  rotate_left
  · simp only [Act.put, List.setIfInBounds_toArray, List.set_cons_zero, List.set_cons_succ, i64_w, i32_w]
    rfl
  refine done_ (by kernel_rfl) ?_
  generalize ha_ : wrap64 (downI (wrap64 (wrap64 (back * 1000000000) + tofI start slow rate back)) - wrap64 a3) = answered
  have HA := Lib.hid ha_
  clear ha_
  try clear hHeld
  have hs_w7_4 : w.heap.size ≤ w7_4.heap.size := mB.size
  have c5_0 : ∀ o_, (w7_4.alloc o_).cell? ⟨g5, 0, none⟩ = some (.int .u32 a0) := fun o_ => (blk_cell (blk_alloc m5 o_) 0).trans rfl
  have c5_1 : ∀ o_, (w7_4.alloc o_).cell? ⟨g5, 1, none⟩ = some (.int .u16 a1) := fun o_ => (blk_cell (blk_alloc m5 o_) 1).trans rfl
  have c5_2 : ∀ o_, (w7_4.alloc o_).cell? ⟨g5, 2, none⟩ = some (.int .u16 a2) := fun o_ => (blk_cell (blk_alloc m5 o_) 2).trans rfl
  have c5_3 : ∀ o_, (w7_4.alloc o_).cell? ⟨g5, 3, none⟩ = some (.int .u16 a3) := fun o_ => (blk_cell (blk_alloc m5 o_) 3).trans rfl
  have c5_4 : ∀ o_, (w7_4.alloc o_).cell? ⟨g5, 4, none⟩ = some (.int .u16 b0) := fun o_ => (blk_cell (blk_alloc m5 o_) 4).trans rfl
  have c5_5 : ∀ o_, (w7_4.alloc o_).cell? ⟨g5, 5, none⟩ = some (.int .u16 b1) := fun o_ => (blk_cell (blk_alloc m5 o_) 5).trans rfl
  have c5_6 : ∀ o_, (w7_4.alloc o_).cell? ⟨g5, 6, none⟩ = some (.int .u16 b2) := fun o_ => (blk_cell (blk_alloc m5 o_) 6).trans rfl
  have c5_7 : ∀ o_, (w7_4.alloc o_).cell? ⟨g5, 7, none⟩ = some (.int .u16 b3) := fun o_ => (blk_cell (blk_alloc m5 o_) 7).trans rfl
  have c6_0 : ∀ o_, (w7_4.alloc o_).cell? ⟨g6, 0, none⟩ = some (.int .i64 0) := fun o_ => (blk_cell (blk_alloc m6 o_) 0).trans rfl
  have c6_1 : ∀ o_, (w7_4.alloc o_).cell? ⟨g6, 1, none⟩ = some (.int .i64 0) := fun o_ => (blk_cell (blk_alloc m6 o_) 1).trans rfl
  have c6_2 : ∀ o_, (w7_4.alloc o_).cell? ⟨g6, 2, none⟩ = some (.int .i64 0) := fun o_ => (blk_cell (blk_alloc m6 o_) 2).trans rfl
  have c6_3 : ∀ o_, (w7_4.alloc o_).cell? ⟨g6, 3, none⟩ = some (.int .i64 0) := fun o_ => (blk_cell (blk_alloc m6 o_) 3).trans rfl
  have c6_4 : ∀ o_, (w7_4.alloc o_).cell? ⟨g6, 4, none⟩ = some (.int .i64 0) := fun o_ => (blk_cell (blk_alloc m6 o_) 4).trans rfl
  have c6_5 : ∀ o_, (w7_4.alloc o_).cell? ⟨g6, 5, none⟩ = some (.int .i64 0) := fun o_ => (blk_cell (blk_alloc m6 o_) 5).trans rfl
  have c6_6 : ∀ o_, (w7_4.alloc o_).cell? ⟨g6, 6, none⟩ = some (.int .i64 0) := fun o_ => (blk_cell (blk_alloc m6 o_) 6).trans rfl
  have c6_7 : ∀ o_, (w7_4.alloc o_).cell? ⟨g6, 7, none⟩ = some (.int .i64 0) := fun o_ => (blk_cell (blk_alloc m6 o_) 7).trans rfl
  have f6_0 : ∀ o_, (w7_4.alloc o_).frozen? ⟨g6, 0, none⟩ = false := fun o_ => blk_frozen (blk_alloc m6 o_) 0
  have f6_1 : ∀ o_, (w7_4.alloc o_).frozen? ⟨g6, 1, none⟩ = false := fun o_ => blk_frozen (blk_alloc m6 o_) 1
  have f6_2 : ∀ o_, (w7_4.alloc o_).frozen? ⟨g6, 2, none⟩ = false := fun o_ => blk_frozen (blk_alloc m6 o_) 2
  have f6_3 : ∀ o_, (w7_4.alloc o_).frozen? ⟨g6, 3, none⟩ = false := fun o_ => blk_frozen (blk_alloc m6 o_) 3
  have f6_4 : ∀ o_, (w7_4.alloc o_).frozen? ⟨g6, 4, none⟩ = false := fun o_ => blk_frozen (blk_alloc m6 o_) 4
  have f6_5 : ∀ o_, (w7_4.alloc o_).frozen? ⟨g6, 5, none⟩ = false := fun o_ => blk_frozen (blk_alloc m6 o_) 5
  have f6_6 : ∀ o_, (w7_4.alloc o_).frozen? ⟨g6, 6, none⟩ = false := fun o_ => blk_frozen (blk_alloc m6 o_) 6
  have f6_7 : ∀ o_, (w7_4.alloc o_).frozen? ⟨g6, 7, none⟩ = false := fun o_ => blk_frozen (blk_alloc m6 o_) 7
  have hne6 : g6 ≠ w7_4.heap.size := by have h_ := blk_lt m6; omega
  have hne6b : w7_4.heap.size ≠ g6 := hne6.symm
  by_cases h1 : 0 < (wrap64 (wrap64 a2 - wrap64 b0))
  case pos =>
    have k1_ := eq_true h1
    by_cases h2 : 0 < (wrap64 (wrap64 a3 - wrap64 b2))
    case pos =>
      have k2_ := eq_true h2
      go_wp2
      have p0_ : Blk (w7_4.alloc (.cells #[.int .i64 sent, .int .i64 heard, .int .i64 answered, .int .i64 back, .int .i64 (wrap64 (wrap64 a2 - wrap64 b0)), .int .i64 (wrap64 (wrap64 (wrap64 a2 + 1) + wrap64 b1)), .int .i64 (wrap64 (wrap64 a3 - wrap64 b2)), .int .i64 (wrap64 (wrap64 (wrap64 a3 + 1) + wrap64 b3))] 46)) g6 #[.int .i64 0, .int .i64 0, .int .i64 0, .int .i64 0, .int .i64 0, .int .i64 0, .int .i64 0, .int .i64 0] 46 := blk_alloc m6 _
      have q0_ : Below w.heap.size w (w7_4.alloc (.cells #[.int .i64 sent, .int .i64 heard, .int .i64 answered, .int .i64 back, .int .i64 (wrap64 (wrap64 a2 - wrap64 b0)), .int .i64 (wrap64 (wrap64 (wrap64 a2 + 1) + wrap64 b1)), .int .i64 (wrap64 (wrap64 a3 - wrap64 b2)), .int .i64 (wrap64 (wrap64 (wrap64 a3 + 1) + wrap64 b3))] 46)) := below_alloc mB _
      have p1_ : Blk ((w7_4.alloc (.cells #[.int .i64 sent, .int .i64 heard, .int .i64 answered, .int .i64 back, .int .i64 (wrap64 (wrap64 a2 - wrap64 b0)), .int .i64 (wrap64 (wrap64 (wrap64 a2 + 1) + wrap64 b1)), .int .i64 (wrap64 (wrap64 a3 - wrap64 b2)), .int .i64 (wrap64 (wrap64 (wrap64 a3 + 1) + wrap64 b3))] 46)).setCell ⟨g6, 0, none⟩ (.int .i64 sent)) g6 #[.int .i64 sent, .int .i64 0, .int .i64 0, .int .i64 0, .int .i64 0, .int .i64 0, .int .i64 0, .int .i64 0] 46 := blk_put p0_ 0 _ rfl
      have q1_ : Below w.heap.size w ((w7_4.alloc (.cells #[.int .i64 sent, .int .i64 heard, .int .i64 answered, .int .i64 back, .int .i64 (wrap64 (wrap64 a2 - wrap64 b0)), .int .i64 (wrap64 (wrap64 (wrap64 a2 + 1) + wrap64 b1)), .int .i64 (wrap64 (wrap64 a3 - wrap64 b2)), .int .i64 (wrap64 (wrap64 (wrap64 a3 + 1) + wrap64 b3))] 46)).setCell ⟨g6, 0, none⟩ (.int .i64 sent)) := q0_.setCell (p := ⟨g6, 0, none⟩) hG6 _
      clear p0_ q0_
      have p2_ : Blk (((w7_4.alloc (.cells #[.int .i64 sent, .int .i64 heard, .int .i64 answered, .int .i64 back, .int .i64 (wrap64 (wrap64 a2 - wrap64 b0)), .int .i64 (wrap64 (wrap64 (wrap64 a2 + 1) + wrap64 b1)), .int .i64 (wrap64 (wrap64 a3 - wrap64 b2)), .int .i64 (wrap64 (wrap64 (wrap64 a3 + 1) + wrap64 b3))] 46)).setCell ⟨g6, 0, none⟩ (.int .i64 sent)).setCell ⟨g6, 1, none⟩ (.int .i64 heard)) g6 #[.int .i64 sent, .int .i64 heard, .int .i64 0, .int .i64 0, .int .i64 0, .int .i64 0, .int .i64 0, .int .i64 0] 46 := blk_put p1_ 1 _ rfl
      have q2_ : Below w.heap.size w (((w7_4.alloc (.cells #[.int .i64 sent, .int .i64 heard, .int .i64 answered, .int .i64 back, .int .i64 (wrap64 (wrap64 a2 - wrap64 b0)), .int .i64 (wrap64 (wrap64 (wrap64 a2 + 1) + wrap64 b1)), .int .i64 (wrap64 (wrap64 a3 - wrap64 b2)), .int .i64 (wrap64 (wrap64 (wrap64 a3 + 1) + wrap64 b3))] 46)).setCell ⟨g6, 0, none⟩ (.int .i64 sent)).setCell ⟨g6, 1, none⟩ (.int .i64 heard)) := q1_.setCell (p := ⟨g6, 1, none⟩) hG6 _
      clear p1_ q1_
      have p3_ : Blk ((((w7_4.alloc (.cells #[.int .i64 sent, .int .i64 heard, .int .i64 answered, .int .i64 back, .int .i64 (wrap64 (wrap64 a2 - wrap64 b0)), .int .i64 (wrap64 (wrap64 (wrap64 a2 + 1) + wrap64 b1)), .int .i64 (wrap64 (wrap64 a3 - wrap64 b2)), .int .i64 (wrap64 (wrap64 (wrap64 a3 + 1) + wrap64 b3))] 46)).setCell ⟨g6, 0, none⟩ (.int .i64 sent)).setCell ⟨g6, 1, none⟩ (.int .i64 heard)).setCell ⟨g6, 2, none⟩ (.int .i64 answered)) g6 #[.int .i64 sent, .int .i64 heard, .int .i64 answered, .int .i64 0, .int .i64 0, .int .i64 0, .int .i64 0, .int .i64 0] 46 := blk_put p2_ 2 _ rfl
      have q3_ : Below w.heap.size w ((((w7_4.alloc (.cells #[.int .i64 sent, .int .i64 heard, .int .i64 answered, .int .i64 back, .int .i64 (wrap64 (wrap64 a2 - wrap64 b0)), .int .i64 (wrap64 (wrap64 (wrap64 a2 + 1) + wrap64 b1)), .int .i64 (wrap64 (wrap64 a3 - wrap64 b2)), .int .i64 (wrap64 (wrap64 (wrap64 a3 + 1) + wrap64 b3))] 46)).setCell ⟨g6, 0, none⟩ (.int .i64 sent)).setCell ⟨g6, 1, none⟩ (.int .i64 heard)).setCell ⟨g6, 2, none⟩ (.int .i64 answered)) := q2_.setCell (p := ⟨g6, 2, none⟩) hG6 _
      clear p2_ q2_
      have p4_ : Blk (((((w7_4.alloc (.cells #[.int .i64 sent, .int .i64 heard, .int .i64 answered, .int .i64 back, .int .i64 (wrap64 (wrap64 a2 - wrap64 b0)), .int .i64 (wrap64 (wrap64 (wrap64 a2 + 1) + wrap64 b1)), .int .i64 (wrap64 (wrap64 a3 - wrap64 b2)), .int .i64 (wrap64 (wrap64 (wrap64 a3 + 1) + wrap64 b3))] 46)).setCell ⟨g6, 0, none⟩ (.int .i64 sent)).setCell ⟨g6, 1, none⟩ (.int .i64 heard)).setCell ⟨g6, 2, none⟩ (.int .i64 answered)).setCell ⟨g6, 3, none⟩ (.int .i64 back)) g6 #[.int .i64 sent, .int .i64 heard, .int .i64 answered, .int .i64 back, .int .i64 0, .int .i64 0, .int .i64 0, .int .i64 0] 46 := blk_put p3_ 3 _ rfl
      have q4_ : Below w.heap.size w (((((w7_4.alloc (.cells #[.int .i64 sent, .int .i64 heard, .int .i64 answered, .int .i64 back, .int .i64 (wrap64 (wrap64 a2 - wrap64 b0)), .int .i64 (wrap64 (wrap64 (wrap64 a2 + 1) + wrap64 b1)), .int .i64 (wrap64 (wrap64 a3 - wrap64 b2)), .int .i64 (wrap64 (wrap64 (wrap64 a3 + 1) + wrap64 b3))] 46)).setCell ⟨g6, 0, none⟩ (.int .i64 sent)).setCell ⟨g6, 1, none⟩ (.int .i64 heard)).setCell ⟨g6, 2, none⟩ (.int .i64 answered)).setCell ⟨g6, 3, none⟩ (.int .i64 back)) := q3_.setCell (p := ⟨g6, 3, none⟩) hG6 _
      clear p3_ q3_
      have p5_ : Blk ((((((w7_4.alloc (.cells #[.int .i64 sent, .int .i64 heard, .int .i64 answered, .int .i64 back, .int .i64 (wrap64 (wrap64 a2 - wrap64 b0)), .int .i64 (wrap64 (wrap64 (wrap64 a2 + 1) + wrap64 b1)), .int .i64 (wrap64 (wrap64 a3 - wrap64 b2)), .int .i64 (wrap64 (wrap64 (wrap64 a3 + 1) + wrap64 b3))] 46)).setCell ⟨g6, 0, none⟩ (.int .i64 sent)).setCell ⟨g6, 1, none⟩ (.int .i64 heard)).setCell ⟨g6, 2, none⟩ (.int .i64 answered)).setCell ⟨g6, 3, none⟩ (.int .i64 back)).setCell ⟨g6, 4, none⟩ (.int .i64 (wrap64 (wrap64 a2 - wrap64 b0)))) g6 #[.int .i64 sent, .int .i64 heard, .int .i64 answered, .int .i64 back, .int .i64 (wrap64 (wrap64 a2 - wrap64 b0)), .int .i64 0, .int .i64 0, .int .i64 0] 46 := blk_put p4_ 4 _ rfl
      have q5_ : Below w.heap.size w ((((((w7_4.alloc (.cells #[.int .i64 sent, .int .i64 heard, .int .i64 answered, .int .i64 back, .int .i64 (wrap64 (wrap64 a2 - wrap64 b0)), .int .i64 (wrap64 (wrap64 (wrap64 a2 + 1) + wrap64 b1)), .int .i64 (wrap64 (wrap64 a3 - wrap64 b2)), .int .i64 (wrap64 (wrap64 (wrap64 a3 + 1) + wrap64 b3))] 46)).setCell ⟨g6, 0, none⟩ (.int .i64 sent)).setCell ⟨g6, 1, none⟩ (.int .i64 heard)).setCell ⟨g6, 2, none⟩ (.int .i64 answered)).setCell ⟨g6, 3, none⟩ (.int .i64 back)).setCell ⟨g6, 4, none⟩ (.int .i64 (wrap64 (wrap64 a2 - wrap64 b0)))) := q4_.setCell (p := ⟨g6, 4, none⟩) hG6 _
      clear p4_ q4_
      have p6_ : Blk (((((((w7_4.alloc (.cells #[.int .i64 sent, .int .i64 heard, .int .i64 answered, .int .i64 back, .int .i64 (wrap64 (wrap64 a2 - wrap64 b0)), .int .i64 (wrap64 (wrap64 (wrap64 a2 + 1) + wrap64 b1)), .int .i64 (wrap64 (wrap64 a3 - wrap64 b2)), .int .i64 (wrap64 (wrap64 (wrap64 a3 + 1) + wrap64 b3))] 46)).setCell ⟨g6, 0, none⟩ (.int .i64 sent)).setCell ⟨g6, 1, none⟩ (.int .i64 heard)).setCell ⟨g6, 2, none⟩ (.int .i64 answered)).setCell ⟨g6, 3, none⟩ (.int .i64 back)).setCell ⟨g6, 4, none⟩ (.int .i64 (wrap64 (wrap64 a2 - wrap64 b0)))).setCell ⟨g6, 5, none⟩ (.int .i64 (wrap64 (wrap64 (wrap64 a2 + 1) + wrap64 b1)))) g6 #[.int .i64 sent, .int .i64 heard, .int .i64 answered, .int .i64 back, .int .i64 (wrap64 (wrap64 a2 - wrap64 b0)), .int .i64 (wrap64 (wrap64 (wrap64 a2 + 1) + wrap64 b1)), .int .i64 0, .int .i64 0] 46 := blk_put p5_ 5 _ rfl
      have q6_ : Below w.heap.size w (((((((w7_4.alloc (.cells #[.int .i64 sent, .int .i64 heard, .int .i64 answered, .int .i64 back, .int .i64 (wrap64 (wrap64 a2 - wrap64 b0)), .int .i64 (wrap64 (wrap64 (wrap64 a2 + 1) + wrap64 b1)), .int .i64 (wrap64 (wrap64 a3 - wrap64 b2)), .int .i64 (wrap64 (wrap64 (wrap64 a3 + 1) + wrap64 b3))] 46)).setCell ⟨g6, 0, none⟩ (.int .i64 sent)).setCell ⟨g6, 1, none⟩ (.int .i64 heard)).setCell ⟨g6, 2, none⟩ (.int .i64 answered)).setCell ⟨g6, 3, none⟩ (.int .i64 back)).setCell ⟨g6, 4, none⟩ (.int .i64 (wrap64 (wrap64 a2 - wrap64 b0)))).setCell ⟨g6, 5, none⟩ (.int .i64 (wrap64 (wrap64 (wrap64 a2 + 1) + wrap64 b1)))) := q5_.setCell (p := ⟨g6, 5, none⟩) hG6 _
      clear p5_ q5_
      have p7_ : Blk ((((((((w7_4.alloc (.cells #[.int .i64 sent, .int .i64 heard, .int .i64 answered, .int .i64 back, .int .i64 (wrap64 (wrap64 a2 - wrap64 b0)), .int .i64 (wrap64 (wrap64 (wrap64 a2 + 1) + wrap64 b1)), .int .i64 (wrap64 (wrap64 a3 - wrap64 b2)), .int .i64 (wrap64 (wrap64 (wrap64 a3 + 1) + wrap64 b3))] 46)).setCell ⟨g6, 0, none⟩ (.int .i64 sent)).setCell ⟨g6, 1, none⟩ (.int .i64 heard)).setCell ⟨g6, 2, none⟩ (.int .i64 answered)).setCell ⟨g6, 3, none⟩ (.int .i64 back)).setCell ⟨g6, 4, none⟩ (.int .i64 (wrap64 (wrap64 a2 - wrap64 b0)))).setCell ⟨g6, 5, none⟩ (.int .i64 (wrap64 (wrap64 (wrap64 a2 + 1) + wrap64 b1)))).setCell ⟨g6, 6, none⟩ (.int .i64 (wrap64 (wrap64 a3 - wrap64 b2)))) g6 #[.int .i64 sent, .int .i64 heard, .int .i64 answered, .int .i64 back, .int .i64 (wrap64 (wrap64 a2 - wrap64 b0)), .int .i64 (wrap64 (wrap64 (wrap64 a2 + 1) + wrap64 b1)), .int .i64 (wrap64 (wrap64 a3 - wrap64 b2)), .int .i64 0] 46 := blk_put p6_ 6 _ rfl
      have q7_ : Below w.heap.size w ((((((((w7_4.alloc (.cells #[.int .i64 sent, .int .i64 heard, .int .i64 answered, .int .i64 back, .int .i64 (wrap64 (wrap64 a2 - wrap64 b0)), .int .i64 (wrap64 (wrap64 (wrap64 a2 + 1) + wrap64 b1)), .int .i64 (wrap64 (wrap64 a3 - wrap64 b2)), .int .i64 (wrap64 (wrap64 (wrap64 a3 + 1) + wrap64 b3))] 46)).setCell ⟨g6, 0, none⟩ (.int .i64 sent)).setCell ⟨g6, 1, none⟩ (.int .i64 heard)).setCell ⟨g6, 2, none⟩ (.int .i64 answered)).setCell ⟨g6, 3, none⟩ (.int .i64 back)).setCell ⟨g6, 4, none⟩ (.int .i64 (wrap64 (wrap64 a2 - wrap64 b0)))).setCell ⟨g6, 5, none⟩ (.int .i64 (wrap64 (wrap64 (wrap64 a2 + 1) + wrap64 b1)))).setCell ⟨g6, 6, none⟩ (.int .i64 (wrap64 (wrap64 a3 - wrap64 b2)))) := q6_.setCell (p := ⟨g6, 6, none⟩) hG6 _
      clear p6_ q6_
      have p8_ : Blk (((((((((w7_4.alloc (.cells #[.int .i64 sent, .int .i64 heard, .int .i64 answered, .int .i64 back, .int .i64 (wrap64 (wrap64 a2 - wrap64 b0)), .int .i64 (wrap64 (wrap64 (wrap64 a2 + 1) + wrap64 b1)), .int .i64 (wrap64 (wrap64 a3 - wrap64 b2)), .int .i64 (wrap64 (wrap64 (wrap64 a3 + 1) + wrap64 b3))] 46)).setCell ⟨g6, 0, none⟩ (.int .i64 sent)).setCell ⟨g6, 1, none⟩ (.int .i64 heard)).setCell ⟨g6, 2, none⟩ (.int .i64 answered)).setCell ⟨g6, 3, none⟩ (.int .i64 back)).setCell ⟨g6, 4, none⟩ (.int .i64 (wrap64 (wrap64 a2 - wrap64 b0)))).setCell ⟨g6, 5, none⟩ (.int .i64 (wrap64 (wrap64 (wrap64 a2 + 1) + wrap64 b1)))).setCell ⟨g6, 6, none⟩ (.int .i64 (wrap64 (wrap64 a3 - wrap64 b2)))).setCell ⟨g6, 7, none⟩ (.int .i64 (wrap64 (wrap64 (wrap64 a3 + 1) + wrap64 b3)))) g6 #[.int .i64 sent, .int .i64 heard, .int .i64 answered, .int .i64 back, .int .i64 (wrap64 (wrap64 a2 - wrap64 b0)), .int .i64 (wrap64 (wrap64 (wrap64 a2 + 1) + wrap64 b1)), .int .i64 (wrap64 (wrap64 a3 - wrap64 b2)), .int .i64 (wrap64 (wrap64 (wrap64 a3 + 1) + wrap64 b3))] 46 := blk_put p7_ 7 _ rfl
      have q8_ : Below w.heap.size w (((((((((w7_4.alloc (.cells #[.int .i64 sent, .int .i64 heard, .int .i64 answered, .int .i64 back, .int .i64 (wrap64 (wrap64 a2 - wrap64 b0)), .int .i64 (wrap64 (wrap64 (wrap64 a2 + 1) + wrap64 b1)), .int .i64 (wrap64 (wrap64 a3 - wrap64 b2)), .int .i64 (wrap64 (wrap64 (wrap64 a3 + 1) + wrap64 b3))] 46)).setCell ⟨g6, 0, none⟩ (.int .i64 sent)).setCell ⟨g6, 1, none⟩ (.int .i64 heard)).setCell ⟨g6, 2, none⟩ (.int .i64 answered)).setCell ⟨g6, 3, none⟩ (.int .i64 back)).setCell ⟨g6, 4, none⟩ (.int .i64 (wrap64 (wrap64 a2 - wrap64 b0)))).setCell ⟨g6, 5, none⟩ (.int .i64 (wrap64 (wrap64 (wrap64 a2 + 1) + wrap64 b1)))).setCell ⟨g6, 6, none⟩ (.int .i64 (wrap64 (wrap64 a3 - wrap64 b2)))).setCell ⟨g6, 7, none⟩ (.int .i64 (wrap64 (wrap64 (wrap64 a3 + 1) + wrap64 b3)))) := q7_.setCell (p := ⟨g6, 7, none⟩) hG6 _
      clear p7_ q7_
      generalize hE_ : (((((((((w7_4.alloc (.cells #[.int .i64 sent, .int .i64 heard, .int .i64 answered, .int .i64 back, .int .i64 (wrap64 (wrap64 a2 - wrap64 b0)), .int .i64 (wrap64 (wrap64 (wrap64 a2 + 1) + wrap64 b1)), .int .i64 (wrap64 (wrap64 a3 - wrap64 b2)), .int .i64 (wrap64 (wrap64 (wrap64 a3 + 1) + wrap64 b3))] 46)).setCell ⟨g6, 0, none⟩ (.int .i64 sent)).setCell ⟨g6, 1, none⟩ (.int .i64 heard)).setCell ⟨g6, 2, none⟩ (.int .i64 answered)).setCell ⟨g6, 3, none⟩ (.int .i64 back)).setCell ⟨g6, 4, none⟩ (.int .i64 (wrap64 (wrap64 a2 - wrap64 b0)))).setCell ⟨g6, 5, none⟩ (.int .i64 (wrap64 (wrap64 (wrap64 a2 + 1) + wrap64 b1)))).setCell ⟨g6, 6, none⟩ (.int .i64 (wrap64 (wrap64 a3 - wrap64 b2)))).setCell ⟨g6, 7, none⟩ (.int .i64 (wrap64 (wrap64 (wrap64 a3 + 1) + wrap64 b3)))) = WF at p8_ q8_ ⊢
      clear hE_
      have HL1 : Hid (xLo a2 b0 = (wrap64 (wrap64 a2 - wrap64 b0))) := Lib.hid (by unfold xLo mx; first | exact if_pos h1 | exact if_neg (Int.not_lt.2 h1))
      have HL2 : Hid (xLo a3 b2 = (wrap64 (wrap64 a3 - wrap64 b2))) := Lib.hid (by unfold xLo mx; first | exact if_pos h2 | exact if_neg (Int.not_lt.2 h2))
      exact bodyPost_ret (results_cell_row rfl _ _ g6 46 #[.int .i64 sent, .int .i64 heard, .int .i64 answered, .int .i64 back, .int .i64 (wrap64 (wrap64 a2 - wrap64 b0)), .int .i64 (wrap64 (wrap64 (wrap64 a2 + 1) + wrap64 b1)), .int .i64 (wrap64 (wrap64 a3 - wrap64 b2)), .int .i64 (wrap64 (wrap64 (wrap64 a3 + 1) + wrap64 b3))] (0, 0) _ rfl p8_ Try.underlying46 rfl (by kernel_rfl)) rfl ⟨by rw [HL1.out, HL2.out]; unfold xHeard xAns xHi xBack xSent; rw [HS.out, HB_.out, HH.out, HA.out], q8_⟩
    case neg =>
      have k2_ := eq_false h2
      go_wp2
      have p0_ : Blk (w7_4.alloc (.cells #[.int .i64 sent, .int .i64 heard, .int .i64 answered, .int .i64 back, .int .i64 (wrap64 (wrap64 a2 - wrap64 b0)), .int .i64 (wrap64 (wrap64 (wrap64 a2 + 1) + wrap64 b1)), .int .i64 0, .int .i64 (wrap64 (wrap64 (wrap64 a3 + 1) + wrap64 b3))] 46)) g6 #[.int .i64 0, .int .i64 0, .int .i64 0, .int .i64 0, .int .i64 0, .int .i64 0, .int .i64 0, .int .i64 0] 46 := blk_alloc m6 _
      have q0_ : Below w.heap.size w (w7_4.alloc (.cells #[.int .i64 sent, .int .i64 heard, .int .i64 answered, .int .i64 back, .int .i64 (wrap64 (wrap64 a2 - wrap64 b0)), .int .i64 (wrap64 (wrap64 (wrap64 a2 + 1) + wrap64 b1)), .int .i64 0, .int .i64 (wrap64 (wrap64 (wrap64 a3 + 1) + wrap64 b3))] 46)) := below_alloc mB _
      have p1_ : Blk ((w7_4.alloc (.cells #[.int .i64 sent, .int .i64 heard, .int .i64 answered, .int .i64 back, .int .i64 (wrap64 (wrap64 a2 - wrap64 b0)), .int .i64 (wrap64 (wrap64 (wrap64 a2 + 1) + wrap64 b1)), .int .i64 0, .int .i64 (wrap64 (wrap64 (wrap64 a3 + 1) + wrap64 b3))] 46)).setCell ⟨g6, 0, none⟩ (.int .i64 sent)) g6 #[.int .i64 sent, .int .i64 0, .int .i64 0, .int .i64 0, .int .i64 0, .int .i64 0, .int .i64 0, .int .i64 0] 46 := blk_put p0_ 0 _ rfl
      have q1_ : Below w.heap.size w ((w7_4.alloc (.cells #[.int .i64 sent, .int .i64 heard, .int .i64 answered, .int .i64 back, .int .i64 (wrap64 (wrap64 a2 - wrap64 b0)), .int .i64 (wrap64 (wrap64 (wrap64 a2 + 1) + wrap64 b1)), .int .i64 0, .int .i64 (wrap64 (wrap64 (wrap64 a3 + 1) + wrap64 b3))] 46)).setCell ⟨g6, 0, none⟩ (.int .i64 sent)) := q0_.setCell (p := ⟨g6, 0, none⟩) hG6 _
      clear p0_ q0_
      have p2_ : Blk (((w7_4.alloc (.cells #[.int .i64 sent, .int .i64 heard, .int .i64 answered, .int .i64 back, .int .i64 (wrap64 (wrap64 a2 - wrap64 b0)), .int .i64 (wrap64 (wrap64 (wrap64 a2 + 1) + wrap64 b1)), .int .i64 0, .int .i64 (wrap64 (wrap64 (wrap64 a3 + 1) + wrap64 b3))] 46)).setCell ⟨g6, 0, none⟩ (.int .i64 sent)).setCell ⟨g6, 1, none⟩ (.int .i64 heard)) g6 #[.int .i64 sent, .int .i64 heard, .int .i64 0, .int .i64 0, .int .i64 0, .int .i64 0, .int .i64 0, .int .i64 0] 46 := blk_put p1_ 1 _ rfl
      have q2_ : Below w.heap.size w (((w7_4.alloc (.cells #[.int .i64 sent, .int .i64 heard, .int .i64 answered, .int .i64 back, .int .i64 (wrap64 (wrap64 a2 - wrap64 b0)), .int .i64 (wrap64 (wrap64 (wrap64 a2 + 1) + wrap64 b1)), .int .i64 0, .int .i64 (wrap64 (wrap64 (wrap64 a3 + 1) + wrap64 b3))] 46)).setCell ⟨g6, 0, none⟩ (.int .i64 sent)).setCell ⟨g6, 1, none⟩ (.int .i64 heard)) := q1_.setCell (p := ⟨g6, 1, none⟩) hG6 _
      clear p1_ q1_
      have p3_ : Blk ((((w7_4.alloc (.cells #[.int .i64 sent, .int .i64 heard, .int .i64 answered, .int .i64 back, .int .i64 (wrap64 (wrap64 a2 - wrap64 b0)), .int .i64 (wrap64 (wrap64 (wrap64 a2 + 1) + wrap64 b1)), .int .i64 0, .int .i64 (wrap64 (wrap64 (wrap64 a3 + 1) + wrap64 b3))] 46)).setCell ⟨g6, 0, none⟩ (.int .i64 sent)).setCell ⟨g6, 1, none⟩ (.int .i64 heard)).setCell ⟨g6, 2, none⟩ (.int .i64 answered)) g6 #[.int .i64 sent, .int .i64 heard, .int .i64 answered, .int .i64 0, .int .i64 0, .int .i64 0, .int .i64 0, .int .i64 0] 46 := blk_put p2_ 2 _ rfl
      have q3_ : Below w.heap.size w ((((w7_4.alloc (.cells #[.int .i64 sent, .int .i64 heard, .int .i64 answered, .int .i64 back, .int .i64 (wrap64 (wrap64 a2 - wrap64 b0)), .int .i64 (wrap64 (wrap64 (wrap64 a2 + 1) + wrap64 b1)), .int .i64 0, .int .i64 (wrap64 (wrap64 (wrap64 a3 + 1) + wrap64 b3))] 46)).setCell ⟨g6, 0, none⟩ (.int .i64 sent)).setCell ⟨g6, 1, none⟩ (.int .i64 heard)).setCell ⟨g6, 2, none⟩ (.int .i64 answered)) := q2_.setCell (p := ⟨g6, 2, none⟩) hG6 _
      clear p2_ q2_
      have p4_ : Blk (((((w7_4.alloc (.cells #[.int .i64 sent, .int .i64 heard, .int .i64 answered, .int .i64 back, .int .i64 (wrap64 (wrap64 a2 - wrap64 b0)), .int .i64 (wrap64 (wrap64 (wrap64 a2 + 1) + wrap64 b1)), .int .i64 0, .int .i64 (wrap64 (wrap64 (wrap64 a3 + 1) + wrap64 b3))] 46)).setCell ⟨g6, 0, none⟩ (.int .i64 sent)).setCell ⟨g6, 1, none⟩ (.int .i64 heard)).setCell ⟨g6, 2, none⟩ (.int .i64 answered)).setCell ⟨g6, 3, none⟩ (.int .i64 back)) g6 #[.int .i64 sent, .int .i64 heard, .int .i64 answered, .int .i64 back, .int .i64 0, .int .i64 0, .int .i64 0, .int .i64 0] 46 := blk_put p3_ 3 _ rfl
      have q4_ : Below w.heap.size w (((((w7_4.alloc (.cells #[.int .i64 sent, .int .i64 heard, .int .i64 answered, .int .i64 back, .int .i64 (wrap64 (wrap64 a2 - wrap64 b0)), .int .i64 (wrap64 (wrap64 (wrap64 a2 + 1) + wrap64 b1)), .int .i64 0, .int .i64 (wrap64 (wrap64 (wrap64 a3 + 1) + wrap64 b3))] 46)).setCell ⟨g6, 0, none⟩ (.int .i64 sent)).setCell ⟨g6, 1, none⟩ (.int .i64 heard)).setCell ⟨g6, 2, none⟩ (.int .i64 answered)).setCell ⟨g6, 3, none⟩ (.int .i64 back)) := q3_.setCell (p := ⟨g6, 3, none⟩) hG6 _
      clear p3_ q3_
      have p5_ : Blk ((((((w7_4.alloc (.cells #[.int .i64 sent, .int .i64 heard, .int .i64 answered, .int .i64 back, .int .i64 (wrap64 (wrap64 a2 - wrap64 b0)), .int .i64 (wrap64 (wrap64 (wrap64 a2 + 1) + wrap64 b1)), .int .i64 0, .int .i64 (wrap64 (wrap64 (wrap64 a3 + 1) + wrap64 b3))] 46)).setCell ⟨g6, 0, none⟩ (.int .i64 sent)).setCell ⟨g6, 1, none⟩ (.int .i64 heard)).setCell ⟨g6, 2, none⟩ (.int .i64 answered)).setCell ⟨g6, 3, none⟩ (.int .i64 back)).setCell ⟨g6, 4, none⟩ (.int .i64 (wrap64 (wrap64 a2 - wrap64 b0)))) g6 #[.int .i64 sent, .int .i64 heard, .int .i64 answered, .int .i64 back, .int .i64 (wrap64 (wrap64 a2 - wrap64 b0)), .int .i64 0, .int .i64 0, .int .i64 0] 46 := blk_put p4_ 4 _ rfl
      have q5_ : Below w.heap.size w ((((((w7_4.alloc (.cells #[.int .i64 sent, .int .i64 heard, .int .i64 answered, .int .i64 back, .int .i64 (wrap64 (wrap64 a2 - wrap64 b0)), .int .i64 (wrap64 (wrap64 (wrap64 a2 + 1) + wrap64 b1)), .int .i64 0, .int .i64 (wrap64 (wrap64 (wrap64 a3 + 1) + wrap64 b3))] 46)).setCell ⟨g6, 0, none⟩ (.int .i64 sent)).setCell ⟨g6, 1, none⟩ (.int .i64 heard)).setCell ⟨g6, 2, none⟩ (.int .i64 answered)).setCell ⟨g6, 3, none⟩ (.int .i64 back)).setCell ⟨g6, 4, none⟩ (.int .i64 (wrap64 (wrap64 a2 - wrap64 b0)))) := q4_.setCell (p := ⟨g6, 4, none⟩) hG6 _
      clear p4_ q4_
      have p6_ : Blk (((((((w7_4.alloc (.cells #[.int .i64 sent, .int .i64 heard, .int .i64 answered, .int .i64 back, .int .i64 (wrap64 (wrap64 a2 - wrap64 b0)), .int .i64 (wrap64 (wrap64 (wrap64 a2 + 1) + wrap64 b1)), .int .i64 0, .int .i64 (wrap64 (wrap64 (wrap64 a3 + 1) + wrap64 b3))] 46)).setCell ⟨g6, 0, none⟩ (.int .i64 sent)).setCell ⟨g6, 1, none⟩ (.int .i64 heard)).setCell ⟨g6, 2, none⟩ (.int .i64 answered)).setCell ⟨g6, 3, none⟩ (.int .i64 back)).setCell ⟨g6, 4, none⟩ (.int .i64 (wrap64 (wrap64 a2 - wrap64 b0)))).setCell ⟨g6, 5, none⟩ (.int .i64 (wrap64 (wrap64 (wrap64 a2 + 1) + wrap64 b1)))) g6 #[.int .i64 sent, .int .i64 heard, .int .i64 answered, .int .i64 back, .int .i64 (wrap64 (wrap64 a2 - wrap64 b0)), .int .i64 (wrap64 (wrap64 (wrap64 a2 + 1) + wrap64 b1)), .int .i64 0, .int .i64 0] 46 := blk_put p5_ 5 _ rfl
      have q6_ : Below w.heap.size w (((((((w7_4.alloc (.cells #[.int .i64 sent, .int .i64 heard, .int .i64 answered, .int .i64 back, .int .i64 (wrap64 (wrap64 a2 - wrap64 b0)), .int .i64 (wrap64 (wrap64 (wrap64 a2 + 1) + wrap64 b1)), .int .i64 0, .int .i64 (wrap64 (wrap64 (wrap64 a3 + 1) + wrap64 b3))] 46)).setCell ⟨g6, 0, none⟩ (.int .i64 sent)).setCell ⟨g6, 1, none⟩ (.int .i64 heard)).setCell ⟨g6, 2, none⟩ (.int .i64 answered)).setCell ⟨g6, 3, none⟩ (.int .i64 back)).setCell ⟨g6, 4, none⟩ (.int .i64 (wrap64 (wrap64 a2 - wrap64 b0)))).setCell ⟨g6, 5, none⟩ (.int .i64 (wrap64 (wrap64 (wrap64 a2 + 1) + wrap64 b1)))) := q5_.setCell (p := ⟨g6, 5, none⟩) hG6 _
      clear p5_ q5_
      have p7_ : Blk ((((((((w7_4.alloc (.cells #[.int .i64 sent, .int .i64 heard, .int .i64 answered, .int .i64 back, .int .i64 (wrap64 (wrap64 a2 - wrap64 b0)), .int .i64 (wrap64 (wrap64 (wrap64 a2 + 1) + wrap64 b1)), .int .i64 0, .int .i64 (wrap64 (wrap64 (wrap64 a3 + 1) + wrap64 b3))] 46)).setCell ⟨g6, 0, none⟩ (.int .i64 sent)).setCell ⟨g6, 1, none⟩ (.int .i64 heard)).setCell ⟨g6, 2, none⟩ (.int .i64 answered)).setCell ⟨g6, 3, none⟩ (.int .i64 back)).setCell ⟨g6, 4, none⟩ (.int .i64 (wrap64 (wrap64 a2 - wrap64 b0)))).setCell ⟨g6, 5, none⟩ (.int .i64 (wrap64 (wrap64 (wrap64 a2 + 1) + wrap64 b1)))).setCell ⟨g6, 6, none⟩ (.int .i64 0)) g6 #[.int .i64 sent, .int .i64 heard, .int .i64 answered, .int .i64 back, .int .i64 (wrap64 (wrap64 a2 - wrap64 b0)), .int .i64 (wrap64 (wrap64 (wrap64 a2 + 1) + wrap64 b1)), .int .i64 0, .int .i64 0] 46 := blk_put p6_ 6 _ rfl
      have q7_ : Below w.heap.size w ((((((((w7_4.alloc (.cells #[.int .i64 sent, .int .i64 heard, .int .i64 answered, .int .i64 back, .int .i64 (wrap64 (wrap64 a2 - wrap64 b0)), .int .i64 (wrap64 (wrap64 (wrap64 a2 + 1) + wrap64 b1)), .int .i64 0, .int .i64 (wrap64 (wrap64 (wrap64 a3 + 1) + wrap64 b3))] 46)).setCell ⟨g6, 0, none⟩ (.int .i64 sent)).setCell ⟨g6, 1, none⟩ (.int .i64 heard)).setCell ⟨g6, 2, none⟩ (.int .i64 answered)).setCell ⟨g6, 3, none⟩ (.int .i64 back)).setCell ⟨g6, 4, none⟩ (.int .i64 (wrap64 (wrap64 a2 - wrap64 b0)))).setCell ⟨g6, 5, none⟩ (.int .i64 (wrap64 (wrap64 (wrap64 a2 + 1) + wrap64 b1)))).setCell ⟨g6, 6, none⟩ (.int .i64 0)) := q6_.setCell (p := ⟨g6, 6, none⟩) hG6 _
      clear p6_ q6_
      have p8_ : Blk (((((((((w7_4.alloc (.cells #[.int .i64 sent, .int .i64 heard, .int .i64 answered, .int .i64 back, .int .i64 (wrap64 (wrap64 a2 - wrap64 b0)), .int .i64 (wrap64 (wrap64 (wrap64 a2 + 1) + wrap64 b1)), .int .i64 0, .int .i64 (wrap64 (wrap64 (wrap64 a3 + 1) + wrap64 b3))] 46)).setCell ⟨g6, 0, none⟩ (.int .i64 sent)).setCell ⟨g6, 1, none⟩ (.int .i64 heard)).setCell ⟨g6, 2, none⟩ (.int .i64 answered)).setCell ⟨g6, 3, none⟩ (.int .i64 back)).setCell ⟨g6, 4, none⟩ (.int .i64 (wrap64 (wrap64 a2 - wrap64 b0)))).setCell ⟨g6, 5, none⟩ (.int .i64 (wrap64 (wrap64 (wrap64 a2 + 1) + wrap64 b1)))).setCell ⟨g6, 6, none⟩ (.int .i64 0)).setCell ⟨g6, 7, none⟩ (.int .i64 (wrap64 (wrap64 (wrap64 a3 + 1) + wrap64 b3)))) g6 #[.int .i64 sent, .int .i64 heard, .int .i64 answered, .int .i64 back, .int .i64 (wrap64 (wrap64 a2 - wrap64 b0)), .int .i64 (wrap64 (wrap64 (wrap64 a2 + 1) + wrap64 b1)), .int .i64 0, .int .i64 (wrap64 (wrap64 (wrap64 a3 + 1) + wrap64 b3))] 46 := blk_put p7_ 7 _ rfl
      have q8_ : Below w.heap.size w (((((((((w7_4.alloc (.cells #[.int .i64 sent, .int .i64 heard, .int .i64 answered, .int .i64 back, .int .i64 (wrap64 (wrap64 a2 - wrap64 b0)), .int .i64 (wrap64 (wrap64 (wrap64 a2 + 1) + wrap64 b1)), .int .i64 0, .int .i64 (wrap64 (wrap64 (wrap64 a3 + 1) + wrap64 b3))] 46)).setCell ⟨g6, 0, none⟩ (.int .i64 sent)).setCell ⟨g6, 1, none⟩ (.int .i64 heard)).setCell ⟨g6, 2, none⟩ (.int .i64 answered)).setCell ⟨g6, 3, none⟩ (.int .i64 back)).setCell ⟨g6, 4, none⟩ (.int .i64 (wrap64 (wrap64 a2 - wrap64 b0)))).setCell ⟨g6, 5, none⟩ (.int .i64 (wrap64 (wrap64 (wrap64 a2 + 1) + wrap64 b1)))).setCell ⟨g6, 6, none⟩ (.int .i64 0)).setCell ⟨g6, 7, none⟩ (.int .i64 (wrap64 (wrap64 (wrap64 a3 + 1) + wrap64 b3)))) := q7_.setCell (p := ⟨g6, 7, none⟩) hG6 _
      clear p7_ q7_
      generalize hE_ : (((((((((w7_4.alloc (.cells #[.int .i64 sent, .int .i64 heard, .int .i64 answered, .int .i64 back, .int .i64 (wrap64 (wrap64 a2 - wrap64 b0)), .int .i64 (wrap64 (wrap64 (wrap64 a2 + 1) + wrap64 b1)), .int .i64 0, .int .i64 (wrap64 (wrap64 (wrap64 a3 + 1) + wrap64 b3))] 46)).setCell ⟨g6, 0, none⟩ (.int .i64 sent)).setCell ⟨g6, 1, none⟩ (.int .i64 heard)).setCell ⟨g6, 2, none⟩ (.int .i64 answered)).setCell ⟨g6, 3, none⟩ (.int .i64 back)).setCell ⟨g6, 4, none⟩ (.int .i64 (wrap64 (wrap64 a2 - wrap64 b0)))).setCell ⟨g6, 5, none⟩ (.int .i64 (wrap64 (wrap64 (wrap64 a2 + 1) + wrap64 b1)))).setCell ⟨g6, 6, none⟩ (.int .i64 0)).setCell ⟨g6, 7, none⟩ (.int .i64 (wrap64 (wrap64 (wrap64 a3 + 1) + wrap64 b3)))) = WF at p8_ q8_ ⊢
      clear hE_
      have HL1 : Hid (xLo a2 b0 = (wrap64 (wrap64 a2 - wrap64 b0))) := Lib.hid (by unfold xLo mx; first | exact if_pos h1 | exact if_neg (Int.not_lt.2 h1))
      have HL2 : Hid (xLo a3 b2 = 0) := Lib.hid (by unfold xLo mx; first | exact if_pos h2 | exact if_neg (Int.not_lt.2 h2))
      exact bodyPost_ret (results_cell_row rfl _ _ g6 46 #[.int .i64 sent, .int .i64 heard, .int .i64 answered, .int .i64 back, .int .i64 (wrap64 (wrap64 a2 - wrap64 b0)), .int .i64 (wrap64 (wrap64 (wrap64 a2 + 1) + wrap64 b1)), .int .i64 0, .int .i64 (wrap64 (wrap64 (wrap64 a3 + 1) + wrap64 b3))] (0, 0) _ rfl p8_ Try.underlying46 rfl (by kernel_rfl)) rfl ⟨by rw [HL1.out, HL2.out]; unfold xHeard xAns xHi xBack xSent; rw [HS.out, HB_.out, HH.out, HA.out], q8_⟩
  case neg =>
    have k1_ := eq_false h1
    by_cases h2 : 0 < (wrap64 (wrap64 a3 - wrap64 b2))
    case pos =>
      have k2_ := eq_true h2
      go_wp2
      have p0_ : Blk (w7_4.alloc (.cells #[.int .i64 sent, .int .i64 heard, .int .i64 answered, .int .i64 back, .int .i64 0, .int .i64 (wrap64 (wrap64 (wrap64 a2 + 1) + wrap64 b1)), .int .i64 (wrap64 (wrap64 a3 - wrap64 b2)), .int .i64 (wrap64 (wrap64 (wrap64 a3 + 1) + wrap64 b3))] 46)) g6 #[.int .i64 0, .int .i64 0, .int .i64 0, .int .i64 0, .int .i64 0, .int .i64 0, .int .i64 0, .int .i64 0] 46 := blk_alloc m6 _
      have q0_ : Below w.heap.size w (w7_4.alloc (.cells #[.int .i64 sent, .int .i64 heard, .int .i64 answered, .int .i64 back, .int .i64 0, .int .i64 (wrap64 (wrap64 (wrap64 a2 + 1) + wrap64 b1)), .int .i64 (wrap64 (wrap64 a3 - wrap64 b2)), .int .i64 (wrap64 (wrap64 (wrap64 a3 + 1) + wrap64 b3))] 46)) := below_alloc mB _
      have p1_ : Blk ((w7_4.alloc (.cells #[.int .i64 sent, .int .i64 heard, .int .i64 answered, .int .i64 back, .int .i64 0, .int .i64 (wrap64 (wrap64 (wrap64 a2 + 1) + wrap64 b1)), .int .i64 (wrap64 (wrap64 a3 - wrap64 b2)), .int .i64 (wrap64 (wrap64 (wrap64 a3 + 1) + wrap64 b3))] 46)).setCell ⟨g6, 0, none⟩ (.int .i64 sent)) g6 #[.int .i64 sent, .int .i64 0, .int .i64 0, .int .i64 0, .int .i64 0, .int .i64 0, .int .i64 0, .int .i64 0] 46 := blk_put p0_ 0 _ rfl
      have q1_ : Below w.heap.size w ((w7_4.alloc (.cells #[.int .i64 sent, .int .i64 heard, .int .i64 answered, .int .i64 back, .int .i64 0, .int .i64 (wrap64 (wrap64 (wrap64 a2 + 1) + wrap64 b1)), .int .i64 (wrap64 (wrap64 a3 - wrap64 b2)), .int .i64 (wrap64 (wrap64 (wrap64 a3 + 1) + wrap64 b3))] 46)).setCell ⟨g6, 0, none⟩ (.int .i64 sent)) := q0_.setCell (p := ⟨g6, 0, none⟩) hG6 _
      clear p0_ q0_
      have p2_ : Blk (((w7_4.alloc (.cells #[.int .i64 sent, .int .i64 heard, .int .i64 answered, .int .i64 back, .int .i64 0, .int .i64 (wrap64 (wrap64 (wrap64 a2 + 1) + wrap64 b1)), .int .i64 (wrap64 (wrap64 a3 - wrap64 b2)), .int .i64 (wrap64 (wrap64 (wrap64 a3 + 1) + wrap64 b3))] 46)).setCell ⟨g6, 0, none⟩ (.int .i64 sent)).setCell ⟨g6, 1, none⟩ (.int .i64 heard)) g6 #[.int .i64 sent, .int .i64 heard, .int .i64 0, .int .i64 0, .int .i64 0, .int .i64 0, .int .i64 0, .int .i64 0] 46 := blk_put p1_ 1 _ rfl
      have q2_ : Below w.heap.size w (((w7_4.alloc (.cells #[.int .i64 sent, .int .i64 heard, .int .i64 answered, .int .i64 back, .int .i64 0, .int .i64 (wrap64 (wrap64 (wrap64 a2 + 1) + wrap64 b1)), .int .i64 (wrap64 (wrap64 a3 - wrap64 b2)), .int .i64 (wrap64 (wrap64 (wrap64 a3 + 1) + wrap64 b3))] 46)).setCell ⟨g6, 0, none⟩ (.int .i64 sent)).setCell ⟨g6, 1, none⟩ (.int .i64 heard)) := q1_.setCell (p := ⟨g6, 1, none⟩) hG6 _
      clear p1_ q1_
      have p3_ : Blk ((((w7_4.alloc (.cells #[.int .i64 sent, .int .i64 heard, .int .i64 answered, .int .i64 back, .int .i64 0, .int .i64 (wrap64 (wrap64 (wrap64 a2 + 1) + wrap64 b1)), .int .i64 (wrap64 (wrap64 a3 - wrap64 b2)), .int .i64 (wrap64 (wrap64 (wrap64 a3 + 1) + wrap64 b3))] 46)).setCell ⟨g6, 0, none⟩ (.int .i64 sent)).setCell ⟨g6, 1, none⟩ (.int .i64 heard)).setCell ⟨g6, 2, none⟩ (.int .i64 answered)) g6 #[.int .i64 sent, .int .i64 heard, .int .i64 answered, .int .i64 0, .int .i64 0, .int .i64 0, .int .i64 0, .int .i64 0] 46 := blk_put p2_ 2 _ rfl
      have q3_ : Below w.heap.size w ((((w7_4.alloc (.cells #[.int .i64 sent, .int .i64 heard, .int .i64 answered, .int .i64 back, .int .i64 0, .int .i64 (wrap64 (wrap64 (wrap64 a2 + 1) + wrap64 b1)), .int .i64 (wrap64 (wrap64 a3 - wrap64 b2)), .int .i64 (wrap64 (wrap64 (wrap64 a3 + 1) + wrap64 b3))] 46)).setCell ⟨g6, 0, none⟩ (.int .i64 sent)).setCell ⟨g6, 1, none⟩ (.int .i64 heard)).setCell ⟨g6, 2, none⟩ (.int .i64 answered)) := q2_.setCell (p := ⟨g6, 2, none⟩) hG6 _
      clear p2_ q2_
      have p4_ : Blk (((((w7_4.alloc (.cells #[.int .i64 sent, .int .i64 heard, .int .i64 answered, .int .i64 back, .int .i64 0, .int .i64 (wrap64 (wrap64 (wrap64 a2 + 1) + wrap64 b1)), .int .i64 (wrap64 (wrap64 a3 - wrap64 b2)), .int .i64 (wrap64 (wrap64 (wrap64 a3 + 1) + wrap64 b3))] 46)).setCell ⟨g6, 0, none⟩ (.int .i64 sent)).setCell ⟨g6, 1, none⟩ (.int .i64 heard)).setCell ⟨g6, 2, none⟩ (.int .i64 answered)).setCell ⟨g6, 3, none⟩ (.int .i64 back)) g6 #[.int .i64 sent, .int .i64 heard, .int .i64 answered, .int .i64 back, .int .i64 0, .int .i64 0, .int .i64 0, .int .i64 0] 46 := blk_put p3_ 3 _ rfl
      have q4_ : Below w.heap.size w (((((w7_4.alloc (.cells #[.int .i64 sent, .int .i64 heard, .int .i64 answered, .int .i64 back, .int .i64 0, .int .i64 (wrap64 (wrap64 (wrap64 a2 + 1) + wrap64 b1)), .int .i64 (wrap64 (wrap64 a3 - wrap64 b2)), .int .i64 (wrap64 (wrap64 (wrap64 a3 + 1) + wrap64 b3))] 46)).setCell ⟨g6, 0, none⟩ (.int .i64 sent)).setCell ⟨g6, 1, none⟩ (.int .i64 heard)).setCell ⟨g6, 2, none⟩ (.int .i64 answered)).setCell ⟨g6, 3, none⟩ (.int .i64 back)) := q3_.setCell (p := ⟨g6, 3, none⟩) hG6 _
      clear p3_ q3_
      have p5_ : Blk ((((((w7_4.alloc (.cells #[.int .i64 sent, .int .i64 heard, .int .i64 answered, .int .i64 back, .int .i64 0, .int .i64 (wrap64 (wrap64 (wrap64 a2 + 1) + wrap64 b1)), .int .i64 (wrap64 (wrap64 a3 - wrap64 b2)), .int .i64 (wrap64 (wrap64 (wrap64 a3 + 1) + wrap64 b3))] 46)).setCell ⟨g6, 0, none⟩ (.int .i64 sent)).setCell ⟨g6, 1, none⟩ (.int .i64 heard)).setCell ⟨g6, 2, none⟩ (.int .i64 answered)).setCell ⟨g6, 3, none⟩ (.int .i64 back)).setCell ⟨g6, 4, none⟩ (.int .i64 0)) g6 #[.int .i64 sent, .int .i64 heard, .int .i64 answered, .int .i64 back, .int .i64 0, .int .i64 0, .int .i64 0, .int .i64 0] 46 := blk_put p4_ 4 _ rfl
      have q5_ : Below w.heap.size w ((((((w7_4.alloc (.cells #[.int .i64 sent, .int .i64 heard, .int .i64 answered, .int .i64 back, .int .i64 0, .int .i64 (wrap64 (wrap64 (wrap64 a2 + 1) + wrap64 b1)), .int .i64 (wrap64 (wrap64 a3 - wrap64 b2)), .int .i64 (wrap64 (wrap64 (wrap64 a3 + 1) + wrap64 b3))] 46)).setCell ⟨g6, 0, none⟩ (.int .i64 sent)).setCell ⟨g6, 1, none⟩ (.int .i64 heard)).setCell ⟨g6, 2, none⟩ (.int .i64 answered)).setCell ⟨g6, 3, none⟩ (.int .i64 back)).setCell ⟨g6, 4, none⟩ (.int .i64 0)) := q4_.setCell (p := ⟨g6, 4, none⟩) hG6 _
      clear p4_ q4_
      have p6_ : Blk (((((((w7_4.alloc (.cells #[.int .i64 sent, .int .i64 heard, .int .i64 answered, .int .i64 back, .int .i64 0, .int .i64 (wrap64 (wrap64 (wrap64 a2 + 1) + wrap64 b1)), .int .i64 (wrap64 (wrap64 a3 - wrap64 b2)), .int .i64 (wrap64 (wrap64 (wrap64 a3 + 1) + wrap64 b3))] 46)).setCell ⟨g6, 0, none⟩ (.int .i64 sent)).setCell ⟨g6, 1, none⟩ (.int .i64 heard)).setCell ⟨g6, 2, none⟩ (.int .i64 answered)).setCell ⟨g6, 3, none⟩ (.int .i64 back)).setCell ⟨g6, 4, none⟩ (.int .i64 0)).setCell ⟨g6, 5, none⟩ (.int .i64 (wrap64 (wrap64 (wrap64 a2 + 1) + wrap64 b1)))) g6 #[.int .i64 sent, .int .i64 heard, .int .i64 answered, .int .i64 back, .int .i64 0, .int .i64 (wrap64 (wrap64 (wrap64 a2 + 1) + wrap64 b1)), .int .i64 0, .int .i64 0] 46 := blk_put p5_ 5 _ rfl
      have q6_ : Below w.heap.size w (((((((w7_4.alloc (.cells #[.int .i64 sent, .int .i64 heard, .int .i64 answered, .int .i64 back, .int .i64 0, .int .i64 (wrap64 (wrap64 (wrap64 a2 + 1) + wrap64 b1)), .int .i64 (wrap64 (wrap64 a3 - wrap64 b2)), .int .i64 (wrap64 (wrap64 (wrap64 a3 + 1) + wrap64 b3))] 46)).setCell ⟨g6, 0, none⟩ (.int .i64 sent)).setCell ⟨g6, 1, none⟩ (.int .i64 heard)).setCell ⟨g6, 2, none⟩ (.int .i64 answered)).setCell ⟨g6, 3, none⟩ (.int .i64 back)).setCell ⟨g6, 4, none⟩ (.int .i64 0)).setCell ⟨g6, 5, none⟩ (.int .i64 (wrap64 (wrap64 (wrap64 a2 + 1) + wrap64 b1)))) := q5_.setCell (p := ⟨g6, 5, none⟩) hG6 _
      clear p5_ q5_
      have p7_ : Blk ((((((((w7_4.alloc (.cells #[.int .i64 sent, .int .i64 heard, .int .i64 answered, .int .i64 back, .int .i64 0, .int .i64 (wrap64 (wrap64 (wrap64 a2 + 1) + wrap64 b1)), .int .i64 (wrap64 (wrap64 a3 - wrap64 b2)), .int .i64 (wrap64 (wrap64 (wrap64 a3 + 1) + wrap64 b3))] 46)).setCell ⟨g6, 0, none⟩ (.int .i64 sent)).setCell ⟨g6, 1, none⟩ (.int .i64 heard)).setCell ⟨g6, 2, none⟩ (.int .i64 answered)).setCell ⟨g6, 3, none⟩ (.int .i64 back)).setCell ⟨g6, 4, none⟩ (.int .i64 0)).setCell ⟨g6, 5, none⟩ (.int .i64 (wrap64 (wrap64 (wrap64 a2 + 1) + wrap64 b1)))).setCell ⟨g6, 6, none⟩ (.int .i64 (wrap64 (wrap64 a3 - wrap64 b2)))) g6 #[.int .i64 sent, .int .i64 heard, .int .i64 answered, .int .i64 back, .int .i64 0, .int .i64 (wrap64 (wrap64 (wrap64 a2 + 1) + wrap64 b1)), .int .i64 (wrap64 (wrap64 a3 - wrap64 b2)), .int .i64 0] 46 := blk_put p6_ 6 _ rfl
      have q7_ : Below w.heap.size w ((((((((w7_4.alloc (.cells #[.int .i64 sent, .int .i64 heard, .int .i64 answered, .int .i64 back, .int .i64 0, .int .i64 (wrap64 (wrap64 (wrap64 a2 + 1) + wrap64 b1)), .int .i64 (wrap64 (wrap64 a3 - wrap64 b2)), .int .i64 (wrap64 (wrap64 (wrap64 a3 + 1) + wrap64 b3))] 46)).setCell ⟨g6, 0, none⟩ (.int .i64 sent)).setCell ⟨g6, 1, none⟩ (.int .i64 heard)).setCell ⟨g6, 2, none⟩ (.int .i64 answered)).setCell ⟨g6, 3, none⟩ (.int .i64 back)).setCell ⟨g6, 4, none⟩ (.int .i64 0)).setCell ⟨g6, 5, none⟩ (.int .i64 (wrap64 (wrap64 (wrap64 a2 + 1) + wrap64 b1)))).setCell ⟨g6, 6, none⟩ (.int .i64 (wrap64 (wrap64 a3 - wrap64 b2)))) := q6_.setCell (p := ⟨g6, 6, none⟩) hG6 _
      clear p6_ q6_
      have p8_ : Blk (((((((((w7_4.alloc (.cells #[.int .i64 sent, .int .i64 heard, .int .i64 answered, .int .i64 back, .int .i64 0, .int .i64 (wrap64 (wrap64 (wrap64 a2 + 1) + wrap64 b1)), .int .i64 (wrap64 (wrap64 a3 - wrap64 b2)), .int .i64 (wrap64 (wrap64 (wrap64 a3 + 1) + wrap64 b3))] 46)).setCell ⟨g6, 0, none⟩ (.int .i64 sent)).setCell ⟨g6, 1, none⟩ (.int .i64 heard)).setCell ⟨g6, 2, none⟩ (.int .i64 answered)).setCell ⟨g6, 3, none⟩ (.int .i64 back)).setCell ⟨g6, 4, none⟩ (.int .i64 0)).setCell ⟨g6, 5, none⟩ (.int .i64 (wrap64 (wrap64 (wrap64 a2 + 1) + wrap64 b1)))).setCell ⟨g6, 6, none⟩ (.int .i64 (wrap64 (wrap64 a3 - wrap64 b2)))).setCell ⟨g6, 7, none⟩ (.int .i64 (wrap64 (wrap64 (wrap64 a3 + 1) + wrap64 b3)))) g6 #[.int .i64 sent, .int .i64 heard, .int .i64 answered, .int .i64 back, .int .i64 0, .int .i64 (wrap64 (wrap64 (wrap64 a2 + 1) + wrap64 b1)), .int .i64 (wrap64 (wrap64 a3 - wrap64 b2)), .int .i64 (wrap64 (wrap64 (wrap64 a3 + 1) + wrap64 b3))] 46 := blk_put p7_ 7 _ rfl
      have q8_ : Below w.heap.size w (((((((((w7_4.alloc (.cells #[.int .i64 sent, .int .i64 heard, .int .i64 answered, .int .i64 back, .int .i64 0, .int .i64 (wrap64 (wrap64 (wrap64 a2 + 1) + wrap64 b1)), .int .i64 (wrap64 (wrap64 a3 - wrap64 b2)), .int .i64 (wrap64 (wrap64 (wrap64 a3 + 1) + wrap64 b3))] 46)).setCell ⟨g6, 0, none⟩ (.int .i64 sent)).setCell ⟨g6, 1, none⟩ (.int .i64 heard)).setCell ⟨g6, 2, none⟩ (.int .i64 answered)).setCell ⟨g6, 3, none⟩ (.int .i64 back)).setCell ⟨g6, 4, none⟩ (.int .i64 0)).setCell ⟨g6, 5, none⟩ (.int .i64 (wrap64 (wrap64 (wrap64 a2 + 1) + wrap64 b1)))).setCell ⟨g6, 6, none⟩ (.int .i64 (wrap64 (wrap64 a3 - wrap64 b2)))).setCell ⟨g6, 7, none⟩ (.int .i64 (wrap64 (wrap64 (wrap64 a3 + 1) + wrap64 b3)))) := q7_.setCell (p := ⟨g6, 7, none⟩) hG6 _
      clear p7_ q7_
      generalize hE_ : (((((((((w7_4.alloc (.cells #[.int .i64 sent, .int .i64 heard, .int .i64 answered, .int .i64 back, .int .i64 0, .int .i64 (wrap64 (wrap64 (wrap64 a2 + 1) + wrap64 b1)), .int .i64 (wrap64 (wrap64 a3 - wrap64 b2)), .int .i64 (wrap64 (wrap64 (wrap64 a3 + 1) + wrap64 b3))] 46)).setCell ⟨g6, 0, none⟩ (.int .i64 sent)).setCell ⟨g6, 1, none⟩ (.int .i64 heard)).setCell ⟨g6, 2, none⟩ (.int .i64 answered)).setCell ⟨g6, 3, none⟩ (.int .i64 back)).setCell ⟨g6, 4, none⟩ (.int .i64 0)).setCell ⟨g6, 5, none⟩ (.int .i64 (wrap64 (wrap64 (wrap64 a2 + 1) + wrap64 b1)))).setCell ⟨g6, 6, none⟩ (.int .i64 (wrap64 (wrap64 a3 - wrap64 b2)))).setCell ⟨g6, 7, none⟩ (.int .i64 (wrap64 (wrap64 (wrap64 a3 + 1) + wrap64 b3)))) = WF at p8_ q8_ ⊢
      clear hE_
      have HL1 : Hid (xLo a2 b0 = 0) := Lib.hid (by unfold xLo mx; first | exact if_pos h1 | exact if_neg (Int.not_lt.2 h1))
      have HL2 : Hid (xLo a3 b2 = (wrap64 (wrap64 a3 - wrap64 b2))) := Lib.hid (by unfold xLo mx; first | exact if_pos h2 | exact if_neg (Int.not_lt.2 h2))
      exact bodyPost_ret (results_cell_row rfl _ _ g6 46 #[.int .i64 sent, .int .i64 heard, .int .i64 answered, .int .i64 back, .int .i64 0, .int .i64 (wrap64 (wrap64 (wrap64 a2 + 1) + wrap64 b1)), .int .i64 (wrap64 (wrap64 a3 - wrap64 b2)), .int .i64 (wrap64 (wrap64 (wrap64 a3 + 1) + wrap64 b3))] (0, 0) _ rfl p8_ Try.underlying46 rfl (by kernel_rfl)) rfl ⟨by rw [HL1.out, HL2.out]; unfold xHeard xAns xHi xBack xSent; rw [HS.out, HB_.out, HH.out, HA.out], q8_⟩
    case neg =>
      have k2_ := eq_false h2
      go_wp2
      have p0_ : Blk (w7_4.alloc (.cells #[.int .i64 sent, .int .i64 heard, .int .i64 answered, .int .i64 back, .int .i64 0, .int .i64 (wrap64 (wrap64 (wrap64 a2 + 1) + wrap64 b1)), .int .i64 0, .int .i64 (wrap64 (wrap64 (wrap64 a3 + 1) + wrap64 b3))] 46)) g6 #[.int .i64 0, .int .i64 0, .int .i64 0, .int .i64 0, .int .i64 0, .int .i64 0, .int .i64 0, .int .i64 0] 46 := blk_alloc m6 _
      have q0_ : Below w.heap.size w (w7_4.alloc (.cells #[.int .i64 sent, .int .i64 heard, .int .i64 answered, .int .i64 back, .int .i64 0, .int .i64 (wrap64 (wrap64 (wrap64 a2 + 1) + wrap64 b1)), .int .i64 0, .int .i64 (wrap64 (wrap64 (wrap64 a3 + 1) + wrap64 b3))] 46)) := below_alloc mB _
      have p1_ : Blk ((w7_4.alloc (.cells #[.int .i64 sent, .int .i64 heard, .int .i64 answered, .int .i64 back, .int .i64 0, .int .i64 (wrap64 (wrap64 (wrap64 a2 + 1) + wrap64 b1)), .int .i64 0, .int .i64 (wrap64 (wrap64 (wrap64 a3 + 1) + wrap64 b3))] 46)).setCell ⟨g6, 0, none⟩ (.int .i64 sent)) g6 #[.int .i64 sent, .int .i64 0, .int .i64 0, .int .i64 0, .int .i64 0, .int .i64 0, .int .i64 0, .int .i64 0] 46 := blk_put p0_ 0 _ rfl
      have q1_ : Below w.heap.size w ((w7_4.alloc (.cells #[.int .i64 sent, .int .i64 heard, .int .i64 answered, .int .i64 back, .int .i64 0, .int .i64 (wrap64 (wrap64 (wrap64 a2 + 1) + wrap64 b1)), .int .i64 0, .int .i64 (wrap64 (wrap64 (wrap64 a3 + 1) + wrap64 b3))] 46)).setCell ⟨g6, 0, none⟩ (.int .i64 sent)) := q0_.setCell (p := ⟨g6, 0, none⟩) hG6 _
      clear p0_ q0_
      have p2_ : Blk (((w7_4.alloc (.cells #[.int .i64 sent, .int .i64 heard, .int .i64 answered, .int .i64 back, .int .i64 0, .int .i64 (wrap64 (wrap64 (wrap64 a2 + 1) + wrap64 b1)), .int .i64 0, .int .i64 (wrap64 (wrap64 (wrap64 a3 + 1) + wrap64 b3))] 46)).setCell ⟨g6, 0, none⟩ (.int .i64 sent)).setCell ⟨g6, 1, none⟩ (.int .i64 heard)) g6 #[.int .i64 sent, .int .i64 heard, .int .i64 0, .int .i64 0, .int .i64 0, .int .i64 0, .int .i64 0, .int .i64 0] 46 := blk_put p1_ 1 _ rfl
      have q2_ : Below w.heap.size w (((w7_4.alloc (.cells #[.int .i64 sent, .int .i64 heard, .int .i64 answered, .int .i64 back, .int .i64 0, .int .i64 (wrap64 (wrap64 (wrap64 a2 + 1) + wrap64 b1)), .int .i64 0, .int .i64 (wrap64 (wrap64 (wrap64 a3 + 1) + wrap64 b3))] 46)).setCell ⟨g6, 0, none⟩ (.int .i64 sent)).setCell ⟨g6, 1, none⟩ (.int .i64 heard)) := q1_.setCell (p := ⟨g6, 1, none⟩) hG6 _
      clear p1_ q1_
      have p3_ : Blk ((((w7_4.alloc (.cells #[.int .i64 sent, .int .i64 heard, .int .i64 answered, .int .i64 back, .int .i64 0, .int .i64 (wrap64 (wrap64 (wrap64 a2 + 1) + wrap64 b1)), .int .i64 0, .int .i64 (wrap64 (wrap64 (wrap64 a3 + 1) + wrap64 b3))] 46)).setCell ⟨g6, 0, none⟩ (.int .i64 sent)).setCell ⟨g6, 1, none⟩ (.int .i64 heard)).setCell ⟨g6, 2, none⟩ (.int .i64 answered)) g6 #[.int .i64 sent, .int .i64 heard, .int .i64 answered, .int .i64 0, .int .i64 0, .int .i64 0, .int .i64 0, .int .i64 0] 46 := blk_put p2_ 2 _ rfl
      have q3_ : Below w.heap.size w ((((w7_4.alloc (.cells #[.int .i64 sent, .int .i64 heard, .int .i64 answered, .int .i64 back, .int .i64 0, .int .i64 (wrap64 (wrap64 (wrap64 a2 + 1) + wrap64 b1)), .int .i64 0, .int .i64 (wrap64 (wrap64 (wrap64 a3 + 1) + wrap64 b3))] 46)).setCell ⟨g6, 0, none⟩ (.int .i64 sent)).setCell ⟨g6, 1, none⟩ (.int .i64 heard)).setCell ⟨g6, 2, none⟩ (.int .i64 answered)) := q2_.setCell (p := ⟨g6, 2, none⟩) hG6 _
      clear p2_ q2_
      have p4_ : Blk (((((w7_4.alloc (.cells #[.int .i64 sent, .int .i64 heard, .int .i64 answered, .int .i64 back, .int .i64 0, .int .i64 (wrap64 (wrap64 (wrap64 a2 + 1) + wrap64 b1)), .int .i64 0, .int .i64 (wrap64 (wrap64 (wrap64 a3 + 1) + wrap64 b3))] 46)).setCell ⟨g6, 0, none⟩ (.int .i64 sent)).setCell ⟨g6, 1, none⟩ (.int .i64 heard)).setCell ⟨g6, 2, none⟩ (.int .i64 answered)).setCell ⟨g6, 3, none⟩ (.int .i64 back)) g6 #[.int .i64 sent, .int .i64 heard, .int .i64 answered, .int .i64 back, .int .i64 0, .int .i64 0, .int .i64 0, .int .i64 0] 46 := blk_put p3_ 3 _ rfl
      have q4_ : Below w.heap.size w (((((w7_4.alloc (.cells #[.int .i64 sent, .int .i64 heard, .int .i64 answered, .int .i64 back, .int .i64 0, .int .i64 (wrap64 (wrap64 (wrap64 a2 + 1) + wrap64 b1)), .int .i64 0, .int .i64 (wrap64 (wrap64 (wrap64 a3 + 1) + wrap64 b3))] 46)).setCell ⟨g6, 0, none⟩ (.int .i64 sent)).setCell ⟨g6, 1, none⟩ (.int .i64 heard)).setCell ⟨g6, 2, none⟩ (.int .i64 answered)).setCell ⟨g6, 3, none⟩ (.int .i64 back)) := q3_.setCell (p := ⟨g6, 3, none⟩) hG6 _
      clear p3_ q3_
      have p5_ : Blk ((((((w7_4.alloc (.cells #[.int .i64 sent, .int .i64 heard, .int .i64 answered, .int .i64 back, .int .i64 0, .int .i64 (wrap64 (wrap64 (wrap64 a2 + 1) + wrap64 b1)), .int .i64 0, .int .i64 (wrap64 (wrap64 (wrap64 a3 + 1) + wrap64 b3))] 46)).setCell ⟨g6, 0, none⟩ (.int .i64 sent)).setCell ⟨g6, 1, none⟩ (.int .i64 heard)).setCell ⟨g6, 2, none⟩ (.int .i64 answered)).setCell ⟨g6, 3, none⟩ (.int .i64 back)).setCell ⟨g6, 4, none⟩ (.int .i64 0)) g6 #[.int .i64 sent, .int .i64 heard, .int .i64 answered, .int .i64 back, .int .i64 0, .int .i64 0, .int .i64 0, .int .i64 0] 46 := blk_put p4_ 4 _ rfl
      have q5_ : Below w.heap.size w ((((((w7_4.alloc (.cells #[.int .i64 sent, .int .i64 heard, .int .i64 answered, .int .i64 back, .int .i64 0, .int .i64 (wrap64 (wrap64 (wrap64 a2 + 1) + wrap64 b1)), .int .i64 0, .int .i64 (wrap64 (wrap64 (wrap64 a3 + 1) + wrap64 b3))] 46)).setCell ⟨g6, 0, none⟩ (.int .i64 sent)).setCell ⟨g6, 1, none⟩ (.int .i64 heard)).setCell ⟨g6, 2, none⟩ (.int .i64 answered)).setCell ⟨g6, 3, none⟩ (.int .i64 back)).setCell ⟨g6, 4, none⟩ (.int .i64 0)) := q4_.setCell (p := ⟨g6, 4, none⟩) hG6 _
      clear p4_ q4_
      have p6_ : Blk (((((((w7_4.alloc (.cells #[.int .i64 sent, .int .i64 heard, .int .i64 answered, .int .i64 back, .int .i64 0, .int .i64 (wrap64 (wrap64 (wrap64 a2 + 1) + wrap64 b1)), .int .i64 0, .int .i64 (wrap64 (wrap64 (wrap64 a3 + 1) + wrap64 b3))] 46)).setCell ⟨g6, 0, none⟩ (.int .i64 sent)).setCell ⟨g6, 1, none⟩ (.int .i64 heard)).setCell ⟨g6, 2, none⟩ (.int .i64 answered)).setCell ⟨g6, 3, none⟩ (.int .i64 back)).setCell ⟨g6, 4, none⟩ (.int .i64 0)).setCell ⟨g6, 5, none⟩ (.int .i64 (wrap64 (wrap64 (wrap64 a2 + 1) + wrap64 b1)))) g6 #[.int .i64 sent, .int .i64 heard, .int .i64 answered, .int .i64 back, .int .i64 0, .int .i64 (wrap64 (wrap64 (wrap64 a2 + 1) + wrap64 b1)), .int .i64 0, .int .i64 0] 46 := blk_put p5_ 5 _ rfl
      have q6_ : Below w.heap.size w (((((((w7_4.alloc (.cells #[.int .i64 sent, .int .i64 heard, .int .i64 answered, .int .i64 back, .int .i64 0, .int .i64 (wrap64 (wrap64 (wrap64 a2 + 1) + wrap64 b1)), .int .i64 0, .int .i64 (wrap64 (wrap64 (wrap64 a3 + 1) + wrap64 b3))] 46)).setCell ⟨g6, 0, none⟩ (.int .i64 sent)).setCell ⟨g6, 1, none⟩ (.int .i64 heard)).setCell ⟨g6, 2, none⟩ (.int .i64 answered)).setCell ⟨g6, 3, none⟩ (.int .i64 back)).setCell ⟨g6, 4, none⟩ (.int .i64 0)).setCell ⟨g6, 5, none⟩ (.int .i64 (wrap64 (wrap64 (wrap64 a2 + 1) + wrap64 b1)))) := q5_.setCell (p := ⟨g6, 5, none⟩) hG6 _
      clear p5_ q5_
      have p7_ : Blk ((((((((w7_4.alloc (.cells #[.int .i64 sent, .int .i64 heard, .int .i64 answered, .int .i64 back, .int .i64 0, .int .i64 (wrap64 (wrap64 (wrap64 a2 + 1) + wrap64 b1)), .int .i64 0, .int .i64 (wrap64 (wrap64 (wrap64 a3 + 1) + wrap64 b3))] 46)).setCell ⟨g6, 0, none⟩ (.int .i64 sent)).setCell ⟨g6, 1, none⟩ (.int .i64 heard)).setCell ⟨g6, 2, none⟩ (.int .i64 answered)).setCell ⟨g6, 3, none⟩ (.int .i64 back)).setCell ⟨g6, 4, none⟩ (.int .i64 0)).setCell ⟨g6, 5, none⟩ (.int .i64 (wrap64 (wrap64 (wrap64 a2 + 1) + wrap64 b1)))).setCell ⟨g6, 6, none⟩ (.int .i64 0)) g6 #[.int .i64 sent, .int .i64 heard, .int .i64 answered, .int .i64 back, .int .i64 0, .int .i64 (wrap64 (wrap64 (wrap64 a2 + 1) + wrap64 b1)), .int .i64 0, .int .i64 0] 46 := blk_put p6_ 6 _ rfl
      have q7_ : Below w.heap.size w ((((((((w7_4.alloc (.cells #[.int .i64 sent, .int .i64 heard, .int .i64 answered, .int .i64 back, .int .i64 0, .int .i64 (wrap64 (wrap64 (wrap64 a2 + 1) + wrap64 b1)), .int .i64 0, .int .i64 (wrap64 (wrap64 (wrap64 a3 + 1) + wrap64 b3))] 46)).setCell ⟨g6, 0, none⟩ (.int .i64 sent)).setCell ⟨g6, 1, none⟩ (.int .i64 heard)).setCell ⟨g6, 2, none⟩ (.int .i64 answered)).setCell ⟨g6, 3, none⟩ (.int .i64 back)).setCell ⟨g6, 4, none⟩ (.int .i64 0)).setCell ⟨g6, 5, none⟩ (.int .i64 (wrap64 (wrap64 (wrap64 a2 + 1) + wrap64 b1)))).setCell ⟨g6, 6, none⟩ (.int .i64 0)) := q6_.setCell (p := ⟨g6, 6, none⟩) hG6 _
      clear p6_ q6_
      have p8_ : Blk (((((((((w7_4.alloc (.cells #[.int .i64 sent, .int .i64 heard, .int .i64 answered, .int .i64 back, .int .i64 0, .int .i64 (wrap64 (wrap64 (wrap64 a2 + 1) + wrap64 b1)), .int .i64 0, .int .i64 (wrap64 (wrap64 (wrap64 a3 + 1) + wrap64 b3))] 46)).setCell ⟨g6, 0, none⟩ (.int .i64 sent)).setCell ⟨g6, 1, none⟩ (.int .i64 heard)).setCell ⟨g6, 2, none⟩ (.int .i64 answered)).setCell ⟨g6, 3, none⟩ (.int .i64 back)).setCell ⟨g6, 4, none⟩ (.int .i64 0)).setCell ⟨g6, 5, none⟩ (.int .i64 (wrap64 (wrap64 (wrap64 a2 + 1) + wrap64 b1)))).setCell ⟨g6, 6, none⟩ (.int .i64 0)).setCell ⟨g6, 7, none⟩ (.int .i64 (wrap64 (wrap64 (wrap64 a3 + 1) + wrap64 b3)))) g6 #[.int .i64 sent, .int .i64 heard, .int .i64 answered, .int .i64 back, .int .i64 0, .int .i64 (wrap64 (wrap64 (wrap64 a2 + 1) + wrap64 b1)), .int .i64 0, .int .i64 (wrap64 (wrap64 (wrap64 a3 + 1) + wrap64 b3))] 46 := blk_put p7_ 7 _ rfl
      have q8_ : Below w.heap.size w (((((((((w7_4.alloc (.cells #[.int .i64 sent, .int .i64 heard, .int .i64 answered, .int .i64 back, .int .i64 0, .int .i64 (wrap64 (wrap64 (wrap64 a2 + 1) + wrap64 b1)), .int .i64 0, .int .i64 (wrap64 (wrap64 (wrap64 a3 + 1) + wrap64 b3))] 46)).setCell ⟨g6, 0, none⟩ (.int .i64 sent)).setCell ⟨g6, 1, none⟩ (.int .i64 heard)).setCell ⟨g6, 2, none⟩ (.int .i64 answered)).setCell ⟨g6, 3, none⟩ (.int .i64 back)).setCell ⟨g6, 4, none⟩ (.int .i64 0)).setCell ⟨g6, 5, none⟩ (.int .i64 (wrap64 (wrap64 (wrap64 a2 + 1) + wrap64 b1)))).setCell ⟨g6, 6, none⟩ (.int .i64 0)).setCell ⟨g6, 7, none⟩ (.int .i64 (wrap64 (wrap64 (wrap64 a3 + 1) + wrap64 b3)))) := q7_.setCell (p := ⟨g6, 7, none⟩) hG6 _
      clear p7_ q7_
      generalize hE_ : (((((((((w7_4.alloc (.cells #[.int .i64 sent, .int .i64 heard, .int .i64 answered, .int .i64 back, .int .i64 0, .int .i64 (wrap64 (wrap64 (wrap64 a2 + 1) + wrap64 b1)), .int .i64 0, .int .i64 (wrap64 (wrap64 (wrap64 a3 + 1) + wrap64 b3))] 46)).setCell ⟨g6, 0, none⟩ (.int .i64 sent)).setCell ⟨g6, 1, none⟩ (.int .i64 heard)).setCell ⟨g6, 2, none⟩ (.int .i64 answered)).setCell ⟨g6, 3, none⟩ (.int .i64 back)).setCell ⟨g6, 4, none⟩ (.int .i64 0)).setCell ⟨g6, 5, none⟩ (.int .i64 (wrap64 (wrap64 (wrap64 a2 + 1) + wrap64 b1)))).setCell ⟨g6, 6, none⟩ (.int .i64 0)).setCell ⟨g6, 7, none⟩ (.int .i64 (wrap64 (wrap64 (wrap64 a3 + 1) + wrap64 b3)))) = WF at p8_ q8_ ⊢
      clear hE_
      have HL1 : Hid (xLo a2 b0 = 0) := Lib.hid (by unfold xLo mx; first | exact if_pos h1 | exact if_neg (Int.not_lt.2 h1))
      have HL2 : Hid (xLo a3 b2 = 0) := Lib.hid (by unfold xLo mx; first | exact if_pos h2 | exact if_neg (Int.not_lt.2 h2))
      exact bodyPost_ret (results_cell_row rfl _ _ g6 46 #[.int .i64 sent, .int .i64 heard, .int .i64 answered, .int .i64 back, .int .i64 0, .int .i64 (wrap64 (wrap64 (wrap64 a2 + 1) + wrap64 b1)), .int .i64 0, .int .i64 (wrap64 (wrap64 (wrap64 a3 + 1) + wrap64 b3))] (0, 0) _ rfl p8_ Try.underlying46 rfl (by kernel_rfl)) rfl ⟨by rw [HL1.out, HL2.out]; unfold xHeard xAns xHi xBack xSent; rw [HS.out, HB_.out, HH.out, HA.out], q8_⟩
end Go.Proofs.Ytcjdhajdoikojaa.Clk
namespace Go.Proofs.Ytcjdhajdoikojaa.Pr
open Go.RowKit Go.Proofs.YtcjdhajdoikojaaW.PrintWords Go.Proofs.YtcjdhajdoikojaaW.PrintLast Go.Proofs.YtcjdhajdoikojaaW.PrintMore Go.Proofs.Ytcjdhajdoikojaa.Clk
set_option linter.unusedVariables false
def isobathlaw05_exchange.f (a0_0 : Int) (l0_1 : List Int) (a1 : Int) (a2_0 : Int) (a2_1 : Int) (a2_2 : Int) (a2_3 : Int) (a2_4 : Int) (a2_5 : Int) (a2_6 : Int) (a2_7 : Int) : Option (Int × Int × Int × Int × Int × Int × Int × Int) :=
  some (xSent a2_0, xHeard a0_0 l0_1 a1 a2_0 a2_2, xAns a0_0 l0_1 a1 a2_0 a2_1 a2_3, xBack a2_0 a2_1, xLo a2_2 a2_4, xHi a2_2 a2_5, xLo a2_3 a2_6, xHi a2_3 a2_7)
theorem isobathlaw05_exchange.calls (a0_0 : Int) (A0_1 : Option Addr) (c0_1 : Nat) (l0_1 : List Int) (a1 : Int) (a2_0 : Int) (a2_1 : Int) (a2_2 : Int) (a2_3 : Int) (a2_4 : Int) (a2_5 : Int) (a2_6 : Int) (a2_7 : Int) (r1 : Int) (r2 : Int) (r3 : Int) (r4 : Int) (r5 : Int) (r6 : Int) (r7 : Int) (r8 : Int) (w : World) (hr0_1 : Kd.C (Kd.int .i8) w A0_1 l0_1.length l0_1) (hc0_1 : l0_1.length ≤ c0_1) (h : isobathlaw05_exchange.f a0_0 l0_1 a1 a2_0 a2_1 a2_2 a2_3 a2_4 a2_5 a2_6 a2_7 = some (r1, r2, r3, r4, r5, r6, r7, r8)) :
    Calls Try.prog 53 #[.agg #[.int .i32 a0_0, .slice A0_1 l0_1.length c0_1], .int .i64 a1, .agg #[.int .u32 a2_0, .int .u16 a2_1, .int .u16 a2_2, .int .u16 a2_3, .int .u16 a2_4, .int .u16 a2_5, .int .u16 a2_6, .int .u16 a2_7]] w fun e w' => e = .returned (.agg #[.int .i64 r1, .int .i64 r2, .int .i64 r3, .int .i64 r4, .int .i64 r5, .int .i64 r6, .int .i64 r7, .int .i64 r8]) ∧ Below w.heap.size w w' := by
  cases h
  exact exchange_any a0_0 A0_1 c0_1 l0_1 a1 a2_0 a2_1 a2_2 a2_3 a2_4 a2_5 a2_6 a2_7 w hr0_1 hc0_1
end Go.Proofs.Ytcjdhajdoikojaa.Pr
end
section
/- The true offset of a clock: it changes no faster than the rate, and every exchange that is made of it holds it. -/
namespace Go.Proofs.Ytcjdhajdoikojaa.Clk
open Go.RowKit Go.Proofs.YtcjdhajdoikojaaW.PrintWords Go.Proofs.YtcjdhajdoikojaaW.PrintMore Go.Proofs.Ytcjdhajdoikojaa.Pr

theorem tdiv_bound {rate s : Int} (hr0 : 0 ≤ rate) (h0 : -128 ≤ s) (h1 : s ≤ 128) : -rate ≤ Int.tdiv (rate * s) 128 ∧ Int.tdiv (rate * s) 128 ≤ rate := by
  have a1 := Int.mul_le_mul_of_nonneg_left h1 hr0
  have a2 := Int.mul_le_mul_of_nonneg_left h0 hr0
  generalize rate * s = x at *
  rw [Int.tdiv_eq_ediv]
  simp only [show Int.sign 128 = 1 from rfl]
  split <;> omega
/-- How many readings of part i lie before a reading. -/
def partD (t : Int) (i : Nat) : Int := min 1000000 (max 0 (t - (i : Int) * 1000000))
def pieceSum (rate t : Int) : List Int → Nat → Int
  | [], _ => 0
  | s :: l, i => partD t i * Int.tdiv (rate * s) 128 + pieceSum rate t l (i + 1)
def clampC (t : Int) (i n : Nat) : Int := min ((n : Int) * 1000000) (max 0 (t - (i : Int) * 1000000))
theorem clamp_cons (t : Int) (i n : Nat) : clampC t i (n + 1) = partD t i + clampC t (i + 1) n := by
  unfold clampC partD
  omega
theorem mul_abs {k rate x : Int} (h0 : -rate ≤ k) (h1 : k ≤ rate) (hx : 0 ≤ x) : -(rate * x) ≤ x * k ∧ x * k ≤ rate * x := by
  have a1 := Int.mul_le_mul_of_nonneg_left h1 hx
  have a2 := Int.mul_le_mul_of_nonneg_left h0 hx
  rw [Int.mul_neg] at a2
  rw [Int.mul_comm rate x]
  omega
theorem piece_lip {rate s t : Int} (hr0 : 0 ≤ rate) (hst : s ≤ t) : ∀ (l : List Int) (i : Nat), (∀ x ∈ l, -128 ≤ x ∧ x ≤ 128) → -(rate * (clampC t i l.length - clampC s i l.length)) ≤ pieceSum rate t l i - pieceSum rate s l i ∧ pieceSum rate t l i - pieceSum rate s l i ≤ rate * (clampC t i l.length - clampC s i l.length)
  | [], i, _ => by
    have h : ∀ t, clampC t i 0 = 0 := fun t => by unfold clampC; omega
    rw [List.length_nil, h, h]
    simp [pieceSum]
  | x :: l, i, h => by
    have ih := piece_lip hr0 hst l (i + 1) (fun y hy => h y (List.mem_cons_of_mem _ hy))
    have hx := h x List.mem_cons_self
    have hk := tdiv_bound hr0 hx.1 hx.2
    have hd : 0 ≤ partD t i - partD s i := by unfold partD; omega
    have hm := mul_abs hk.1 hk.2 hd
    rw [List.length_cons, clamp_cons, clamp_cons]
    have e : pieceSum rate t (x :: l) i - pieceSum rate s (x :: l) i = (partD t i - partD s i) * Int.tdiv (rate * x) 128 + (pieceSum rate t l (i + 1) - pieceSum rate s l (i + 1)) := by
      show partD t i * Int.tdiv (rate * x) 128 + pieceSum rate t l (i + 1) - (partD s i * Int.tdiv (rate * x) 128 + pieceSum rate s l (i + 1)) = _
      rw [Int.sub_mul]
      omega
    rw [e, show partD t i + clampC t (i + 1) l.length - (partD s i + clampC s (i + 1) l.length) = (partD t i - partD s i) + (clampC t (i + 1) l.length - clampC s (i + 1) l.length) by omega, Int.mul_add]
    omega
/-- The true offset, in clean numbers. -/
def truthC (start : Int) (slow : List Int) (rate t : Int) : Int := start * 1000000000 + pieceSum rate t (slow.take 20) 0
theorem truth_lip {start rate s t : Int} {slow : List Int} (hr0 : 0 ≤ rate) (hs : ∀ x ∈ slow, -128 ≤ x ∧ x ≤ 128) (hst : s ≤ t) : -(rate * (t - s)) ≤ truthC start slow rate t - truthC start slow rate s ∧ truthC start slow rate t - truthC start slow rate s ≤ rate * (t - s) := by
  have h := piece_lip hr0 hst (slow.take 20) 0 (fun x hx => hs x (List.mem_of_mem_take hx))
  have hc : clampC t 0 (slow.take 20).length - clampC s 0 (slow.take 20).length ≤ t - s := by unfold clampC; omega
  have hm := Int.mul_le_mul_of_nonneg_left hc hr0
  unfold truthC
  omega
theorem rd_int_lt {l : List Int} {i : Nat} (h : i < l.length) : rd l (i : Int) = l[i] := by
  unfold rd
  rw [List.getD_eq_getElem?_getD, Int.toNat_natCast, List.getElem?_eq_getElem h]
  rfl
theorem tof_loop_eq {rate t start : Int} {slow : List Int} (hr0 : 0 ≤ rate) (hr1 : rate ≤ 1000000) (ht0 : -1000000000000000 ≤ t) (ht1 : t ≤ 1000000000000000) (hs : ∀ x ∈ slow, -128 ≤ x ∧ x ≤ 127) : ∀ (m i k : Nat) (acc : Int), i + m = 20 → m + 1 ≤ k → -2147483648000000000 - (i : Int) * 1000000000000 ≤ acc → acc ≤ 2147483648000000000 + (i : Int) * 1000000000000 →
    isobathlaw05_Truth_offset.l0 k rate t acc (i : Int) start slow = some (acc + pieceSum rate t ((slow.take 20).drop i) i) ∧ (-2147483648000000000 - 20 * 1000000000000 ≤ acc + pieceSum rate t ((slow.take 20).drop i) i ∧ acc + pieceSum rate t ((slow.take 20).drop i) i ≤ 2147483648000000000 + 20 * 1000000000000) := by
  intro m
  induction m with
  | zero =>
    intro i k acc h hk h0 h1
    obtain ⟨k, rfl⟩ : ∃ q, k = q + 1 := ⟨k - 1, by omega⟩
    have hd : (slow.take 20).drop i = [] := List.drop_of_length_le (by rw [List.length_take]; omega)
    rw [isobathlaw05_Truth_offset.l0, if_neg (show ¬ ((i : Int) < 20) by omega), hd]
    refine ⟨?_, by show _ ≤ acc + 0 ∧ acc + 0 ≤ _; omega⟩
    split <;> simp [pieceSum]
  | succ m ih =>
    intro i k acc h hk h0 h1
    obtain ⟨k, rfl⟩ : ∃ q, k = q + 1 := ⟨k - 1, by omega⟩
    by_cases hi : i < slow.length
    · have hd : (slow.take 20).drop i = slow[i] :: (slow.take 20).drop (i + 1) := by
        rw [List.drop_eq_getElem_cons (by rw [List.length_take]; omega), List.getElem_take]
      have hx := hs slow[i] (List.getElem_mem hi)
      have hk1 := tdiv_bound hr0 hx.1 (show slow[i] ≤ 128 by omega)
      have hp := mul_bound hr0 hr1 (show 0 ≤ slow[i] + 128 by omega) (show slow[i] + 128 ≤ 255 by omega)
      rw [Int.mul_add] at hp
      have hD : 0 ≤ partD t i ∧ partD t i ≤ 1000000 := by unfold partD; omega
      have hm := mul_abs hk1.1 hk1.2 hD.1
      have hrD := mul_bound hr0 hr1 hD.1 hD.2
      rw [isobathlaw05_Truth_offset.l0, if_pos (by omega), if_pos (by omega), if_pos (by omega), rd_int_lt hi, wrap_id (n := slow[i]) (by omega) (by omega), wrap_id (n := rate * slow[i]) (by omega) (by omega), wrap_id (n := Int.tdiv (rate * slow[i]) 128) (by omega) (by omega), wrap_id (n := (i : Int) * 1000000) (by omega) (by omega), wrap_id (n := t - (i : Int) * 1000000) (by omega) (by omega), mn_min, mx_max]
      have e : min 1000000 (max 0 (t - (i : Int) * 1000000)) = partD t i := rfl
      rw [e, wrap_id (n := partD t i * Int.tdiv (rate * slow[i]) 128) (by omega) (by omega), wrap_id (n := acc + _) (by omega) (by omega), wrap_id (n := (i : Int) + 1) (by omega) (by omega), show ((i : Int) + 1) = ((i + 1 : Nat) : Int) by omega]
      have hh := ih (i + 1) k (acc + partD t i * Int.tdiv (rate * slow[i]) 128) (by omega) (by omega) (by omega) (by omega)
      have e2 : acc + pieceSum rate t ((slow.take 20).drop i) i = acc + partD t i * Int.tdiv (rate * slow[i]) 128 + pieceSum rate t ((slow.take 20).drop (i + 1)) (i + 1) := by
        rw [hd]
        show acc + (partD t i * Int.tdiv (rate * slow[i]) 128 + pieceSum rate t ((slow.take 20).drop (i + 1)) (i + 1)) = _
        omega
      rw [e2]
      exact hh
    · have hd : (slow.take 20).drop i = [] := List.drop_of_length_le (by rw [List.length_take]; omega)
      rw [isobathlaw05_Truth_offset.l0, if_neg (by omega), hd]
      exact ⟨by simp [pieceSum], by show _ ≤ acc + 0 ∧ acc + 0 ≤ _; omega⟩
theorem tof_eq {rate t start : Int} {slow : List Int} (hr0 : 0 ≤ rate) (hr1 : rate ≤ 1000000) (ht0 : -1000000000000000 ≤ t) (ht1 : t ≤ 1000000000000000) (hs : ∀ x ∈ slow, -128 ≤ x ∧ x ≤ 127) (h0 : -2147483648 ≤ start) (h1 : start ≤ 2147483647) :
    (∀ k, 21 ≤ k → isobathlaw05_Truth_offset.f k start slow rate t = some (truthC start slow rate t)) ∧ tofI start slow rate t = truthC start slow rate t ∧ (-2147503648000000000 ≤ truthC start slow rate t ∧ truthC start slow rate t ≤ 2147503648000000000) := by
  have hh : ∀ k, 21 ≤ k → _ := fun k hk => tof_loop_eq hr0 hr1 ht0 ht1 hs 20 0 k (start * 1000000000) (by omega) hk (start := start) (by omega) (by omega)
  have hw : wrap64 (wrap64 start * 1000000000) = start * 1000000000 := by
    rw [wrap_id (n := start) (by omega) (by omega), wrap_id (by omega) (by omega)]
  have hf : ∀ k, 21 ≤ k → isobathlaw05_Truth_offset.f k start slow rate t = some (truthC start slow rate t) := fun k hk => by
    unfold isobathlaw05_Truth_offset.f truthC
    rw [hw]
    have := (hh k hk).1
    rw [List.drop_zero] at this
    exact this
  refine ⟨hf, ?_, ?_⟩
  · have := hf 30 (by omega)
    rw [tof_some] at this
    exact Option.some.inj this
  · have := (hh 30 (by omega)).2
    rw [List.drop_zero] at this
    unfold truthC
    omega
theorem downI_eq {a : Int} (h0 : -9000000000000000000 ≤ a) (h1 : a ≤ 9000000000000000000) : downI a = a / 1000000000 := by
  unfold downI isobathlaw05_down.f
  rw [Int.tmod_eq_emod, Int.tdiv_eq_ediv]
  simp only [show Int.sign 1000000000 = 1 from rfl]
  by_cases h : 0 ≤ a ∨ (1000000000 : Int) ∣ a
  · rw [if_pos h, if_pos h, if_neg (by omega), Option.getD_some, wrap_id (by omega) (by omega)]
    omega
  · rw [if_neg h, if_neg h, if_pos (by simp; omega), Option.getD_some, wrap_id (n := a / 1000000000 + 1) (by omega) (by omega), wrap_id (by omega) (by omega)]
    omega
theorem upwI_eq {a : Int} (h0 : -9000000000000000000 ≤ a) (h1 : a ≤ 9000000000000000000) : upwI a = -((-a) / 1000000000) := by
  unfold upwI
  rw [wrap_id (n := -a) (by omega) (by omega), downI_eq (by omega) (by omega), wrap_id (by omega) (by omega)]
/-- The exchange of a talk. -/
def talkX (start : Int) (slow : List Int) (rate : Int) (x : S93) : S46 :=
  ⟨xSent x.f0, xHeard start slow rate x.f0 x.f2, xAns start slow rate x.f0 x.f1 x.f3, xBack x.f0 x.f1, ⟨xLo x.f2 x.f4.f0, xHi x.f2 x.f4.f1⟩, ⟨xLo x.f3 x.f4.f2, xHi x.f3 x.f4.f3⟩⟩
/-- An exchange holds the truth at its reading. -/
def HoldsX (rate : Int) (T : Int → Int) (x : S46) : Prop := (offC rate x).1 * 1000000000 ≤ T x.f3 ∧ T x.f3 ≤ (offC rate x).2 * 1000000000
theorem gro_mul {rate d : Int} : rate * d ≤ gro rate d * 1000000000 := by
  rw [gro_ceil]
  omega
end Go.Proofs.Ytcjdhajdoikojaa.Clk
end
