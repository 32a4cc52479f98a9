/- Part 4 of the proof of GliderKnown: what the functions compute. No condition. -/
import Derived.Test.YtmhaiihjfgfaoaaGkGliderKnown3
set_option linter.unusedVariables false
set_option linter.unusedSimpArgs false
section
namespace Go.Proofs.Ytmhaiihjfgfaoaa.Pr
open Go.RowKit Go.Proofs.YtmhaiihjfgfaoaaW.PrintWords Go.Proofs.YtmhaiihjfgfaoaaW.PrintLast Go.Proofs.YtmhaiihjfgfaoaaW.PrintMore
attribute [local go_sem] max2_int min2_int max_two min_two max_four
set_option linter.unusedVariables false
set_option linter.unusedSimpArgs false

/-! ### bound_check: function 116 -/
def bound_check.l0 : Nat → List (S27) → Int → Int → Option (Int)
 | 0, _, _, _ => none
 | k + 1, x5, x6, x7 => if x7 < x6 then (if 0 ≤ x7 then (if x7 < (x5.length : Int) then (if ((rd_T27 x5 x7).f0) > ((rd_T27 x5 x7).f1) then (some 2) else (if ((rd_T27 x5 x7).f0) < (-1073741824) then (some 2) else (if ((rd_T27 x5 x7).f1) > 1073741824 then (some 2) else (bound_check.l0 k x5 x6 (wrap64 (x7 + 1)))))) else (none)) else (none)) else (some 0)
def bound_check.f (k : Nat) (l0 : List (S27)) : Option (Int) := bound_check.l0 k l0 (l0.length : Int) 0
theorem bound_check.mono_l : ∀ k, (∀ y0 y1 y2, LeO (bound_check.l0 k y0 y1 y2) (bound_check.l0 (k + 1) y0 y1 y2))
 | 0 => fun _ _ _ r h => by simp [bound_check.l0] at h
 | k + 1 => by
  have ih0 := bound_check.mono_l k
  ·intro y0 y1 y2
   unfold bound_check.l0
   repeat' first
   | (with_reducible exact ih0 _ _ _)
   | (with_reducible exact LeO.refl _)
   | (with_reducible exact LeO.none _)
   | (with_reducible refine LeO.ite ?_ ?_)
   | (with_reducible refine LeO.bind ?_ (fun _ => ?_))
   | exact ih0 _ _ _
   | exact LeO.none _
   | refine LeO.ite ?_ ?_
   | refine LeO.bind ?_ (fun _ => ?_)
theorem bound_check.mono : ∀ a0 k, LeO (bound_check.f k a0) (bound_check.f (k + 1) a0) := by
 intro a0 k
 have ih0 := bound_check.mono_l k
 unfold bound_check.f
 repeat' first
   | (with_reducible exact ih0 _ _ _)
   | (with_reducible exact LeO.refl _)
   | (with_reducible exact LeO.none _)
   | (with_reducible refine LeO.ite ?_ ?_)
   | (with_reducible refine LeO.bind ?_ (fun _ => ?_))
   | exact ih0 _ _ _
   | exact LeO.none _
   | refine LeO.ite ?_ ?_
   | refine LeO.bind ?_ (fun _ => ?_)
set_option maxHeartbeats 8000000 in
set_option maxRecDepth 100000 in
theorem bound_check.calls (k : Nat) (A0 : Option Addr) (c0 : Nat) (l0 : List (S27)) (r : Int) (w : World) (hr0 : Kd.C k27 w A0 l0.length l0) (hc0 : l0.length ≤ c0) (h : bound_check.f k l0 = some r) :
  Calls Try.prog 116 #[.slice A0 l0.length c0] w fun e w' => e = .returned (.int .i64 r) ∧ Below w.heap.size w w' := by
 have hu27 := Try.underlying27
 have HR0 := Aside0.mk hr0
 have HC0 := Aside0.mk hc0
 clear hr0 hc0
 have HB := Aside0.mk (Below.refl w.heap.size w)
 have H : (bound_check.l0 k l0 (l0.length : Int) 0) = some r := h
 clear h
 have H' := Aside0.mk H
 clear H
 go_enter Try.func116, Try.ntmps116
 go_wp2
 go_loopg [7] k (fun kq v7 w' => ∃ (x7_1 : Int), v7 = .int .i64 x7_1 ∧ Aside0 (bound_check.l0 kq l0 (l0.length : Int) x7_1 = some r) ∧ Aside0 (kq ≤ k) ∧ Aside0 (Below w.heap.size w w'))
 case atStart => exact ⟨(0), zq2, H', ⟨Nat.le_refl _⟩, ⟨zbz⟩⟩
 case round =>
  clear H'
  try clear c1
  obtain ⟨x7_1, rfl, HA, HK1, HB⟩ := hrel
  cases gk with
  | zero => exact absurd HA.out (by simp [bound_check.l0])
  | succ k1 =>
   have H := HA.out
   clear HA
   simp only [bound_check.l0] at H
   by_cases c2 : x7_1 < (l0.length : Int)
   ·rw [if_pos c2] at H
    have c2b0 : decide (x7_1 < (l0.length : Int)) = true := decide_eq_true c2
    clear c2
    by_cases c3 : 0 ≤ x7_1
    ·rw [if_pos c3] at H
     have c3b0 : decide (0 ≤ x7_1) = true := decide_eq_true c3
     clear c3
     by_cases c4 : x7_1 < (l0.length : Int)
     ·rw [if_pos c4] at H
      have c4b0 : decide (x7_1 < (l0.length : Int)) = true := decide_eq_true c4
      clear c4
      by_cases c5 : ((rd_T27 l0 x7_1).f0) > ((rd_T27 l0 x7_1).f1)
      ·rw [if_pos c5] at H
       have c5b0 : decide (((rd_T27 l0 x7_1).f1) < ((rd_T27 l0 x7_1).f0)) = true := decide_eq_true c5
       clear c5
       obtain rfl := Option.some.inj H
       have p129 : 0 ≤ (x7_1 : Int) := of_decide_eq_true zq3
       have q129 : x7_1 < (l0.length : Int) := of_decide_eq_true zq3
       obtain ⟨ad129, e129, hx129_0, hx129_1⟩ := at_T27 HR0.out x7_1 p129 q129
       cases e129
       replace hx129_0 := (HB.out.cell (World.block_lt_of_cell? w _ hx129_0)).trans hx129_0
       replace hx129_1 := (HB.out.cell (World.block_lt_of_cell? w _ hx129_1)).trans hx129_1
       replace p129 := eq_true p129
       replace q129 := eq_true q129
       go_wp2_with (first | ((with_reducible refine gate_dst (N := 4) rfl ?_); refine box_event (by rfl) (N := 4) (by rfl) (cs := #[.int .i64 0, .int .i64 0]) (t := 27) zq4 ?_; intro gb130 hg w6 hbox hb; have BK130 := Aside0.mk (hbox); have GW130 := zgs HB hg; have GE130 := zgs HB hg; replace HB := zbs HB hb; clear hb hbox hg; obtain ⟨hcz7_0, hcz7_1, hfz7_0, hfz7_1⟩ := zce2 BK130.out))
       go_ret
       exact ⟨zq5, zbz⟩
      ·rw [if_neg c5] at H
       have c5b0 : decide (((rd_T27 l0 x7_1).f1) < ((rd_T27 l0 x7_1).f0)) = false := decide_eq_false c5
       clear c5
       by_cases c8 : ((rd_T27 l0 x7_1).f0) < (-1073741824)
       ·rw [if_pos c8] at H
        have c8b0 : decide (((rd_T27 l0 x7_1).f0) < (-1073741824)) = true := decide_eq_true c8
        clear c8
        obtain rfl := Option.some.inj H
        have p129 : 0 ≤ (x7_1 : Int) := of_decide_eq_true zq3
        have q129 : x7_1 < (l0.length : Int) := of_decide_eq_true zq3
        obtain ⟨ad129, e129, hx129_0, hx129_1⟩ := at_T27 HR0.out x7_1 p129 q129
        cases e129
        replace hx129_0 := (HB.out.cell (World.block_lt_of_cell? w _ hx129_0)).trans hx129_0
        replace hx129_1 := (HB.out.cell (World.block_lt_of_cell? w _ hx129_1)).trans hx129_1
        replace p129 := eq_true p129
        replace q129 := eq_true q129
        go_wp2_with (first | ((with_reducible refine gate_dst (N := 4) rfl ?_); refine box_event (by rfl) (N := 4) (by rfl) (cs := #[.int .i64 0, .int .i64 0]) (t := 27) zq4 ?_; intro gb130 hg w9 hbox hb; have BK130 := Aside0.mk (hbox); have GW130 := zgs HB hg; have GE130 := zgs HB hg; replace HB := zbs HB hb; clear hb hbox hg; obtain ⟨hcz10_0, hcz10_1, hfz10_0, hfz10_1⟩ := zce2 BK130.out))
        go_ret
        exact ⟨zq5, zbz⟩
       ·rw [if_neg c8] at H
        have c8b0 : decide (((rd_T27 l0 x7_1).f0) < (-1073741824)) = false := decide_eq_false c8
        clear c8
        by_cases c11 : ((rd_T27 l0 x7_1).f1) > 1073741824
        ·rw [if_pos c11] at H
         have c11b0 : decide (1073741824 < ((rd_T27 l0 x7_1).f1)) = true := decide_eq_true c11
         clear c11
         obtain rfl := Option.some.inj H
         have p129 : 0 ≤ (x7_1 : Int) := of_decide_eq_true zq3
         have q129 : x7_1 < (l0.length : Int) := of_decide_eq_true zq3
         obtain ⟨ad129, e129, hx129_0, hx129_1⟩ := at_T27 HR0.out x7_1 p129 q129
         cases e129
         replace hx129_0 := (HB.out.cell (World.block_lt_of_cell? w _ hx129_0)).trans hx129_0
         replace hx129_1 := (HB.out.cell (World.block_lt_of_cell? w _ hx129_1)).trans hx129_1
         replace p129 := eq_true p129
         replace q129 := eq_true q129
         go_wp2_with (first | ((with_reducible refine gate_dst (N := 4) rfl ?_); refine box_event (by rfl) (N := 4) (by rfl) (cs := #[.int .i64 0, .int .i64 0]) (t := 27) zq4 ?_; intro gb130 hg w12 hbox hb; have BK130 := Aside0.mk (hbox); have GW130 := zgs HB hg; have GE130 := zgs HB hg; replace HB := zbs HB hb; clear hb hbox hg; obtain ⟨hcz13_0, hcz13_1, hfz13_0, hfz13_1⟩ := zce2 BK130.out))
         go_ret
         exact ⟨zq5, zbz⟩
        ·rw [if_neg c11] at H
         have c11b0 : decide (1073741824 < ((rd_T27 l0 x7_1).f1)) = false := decide_eq_false c11
         clear c11
         have H' := Aside0.mk H
         clear H
         have p129 : 0 ≤ (x7_1 : Int) := of_decide_eq_true zq3
         have q129 : x7_1 < (l0.length : Int) := of_decide_eq_true zq3
         obtain ⟨ad129, e129, hx129_0, hx129_1⟩ := at_T27 HR0.out x7_1 p129 q129
         cases e129
         replace hx129_0 := (HB.out.cell (World.block_lt_of_cell? w _ hx129_0)).trans hx129_0
         replace hx129_1 := (HB.out.cell (World.block_lt_of_cell? w _ hx129_1)).trans hx129_1
         replace p129 := eq_true p129
         replace q129 := eq_true q129
         go_wp2_with (first | ((with_reducible refine gate_dst (N := 4) rfl ?_); refine box_event (by rfl) (N := 4) (by rfl) (cs := #[.int .i64 0, .int .i64 0]) (t := 27) zq4 ?_; intro gb130 hg w14 hbox hb; have BK130 := Aside0.mk (hbox); have GW130 := zgs HB hg; have GE130 := zgs HB hg; replace HB := zbs HB hb; clear hb hbox hg; obtain ⟨hcz15_0, hcz15_1, hfz15_0, hfz15_1⟩ := zce2 BK130.out))
         go_roundg k1
         case measure => have := HK1.out; omega
         case rel => exact ⟨(wrap64 (x7_1 + 1)), zq2, H', ⟨by have := HK1.out; omega⟩, ⟨zbz⟩⟩
     ·rw [if_neg c4] at H
      exact absurd H (by simp)
    ·rw [if_neg c3] at H
     exact absurd H (by simp)
   ·rw [if_neg c2] at H
    have c2b0 : decide (x7_1 < (l0.length : Int)) = false := decide_eq_false c2
    clear c2
    obtain rfl := Option.some.inj H
    go_wp2
    go_ret
    exact ⟨zq5, zbz⟩

end Go.Proofs.Ytmhaiihjfgfaoaa.Pr
end
section
namespace Go.Proofs.Ytmhaiihjfgfaoaa.Pr
open Go.RowKit Go.Proofs.YtmhaiihjfgfaoaaW.PrintWords Go.Proofs.YtmhaiihjfgfaoaaW.PrintLast Go.Proofs.YtmhaiihjfgfaoaaW.PrintMore
attribute [local go_sem] max2_int min2_int max_two min_two max_four
set_option linter.unusedVariables false
set_option linter.unusedSimpArgs false

/-! ### bound_Check: function 122 -/
def bound_Check.f (k : Nat) (a0_0 : Int) (a0_1 : Int) : Option (Int) := (bound_check.f k (([(⟨a0_0, a0_1⟩ : S27)] : List (S27)))).bind fun t135 => (some t135)
theorem bound_Check.mono : ∀ a0 a1 k, LeO (bound_Check.f k a0 a1) (bound_Check.f (k + 1) a0 a1) := by
 intro a0 a1 k
 unfold bound_Check.f
 repeat' first
   | (with_reducible exact bound_check.mono _ _)
   | (with_reducible exact LeO.refl _)
   | (with_reducible exact LeO.none _)
   | (with_reducible refine LeO.ite ?_ ?_)
   | (with_reducible refine LeO.bind ?_ (fun _ => ?_))
   | exact bound_check.mono _ _
   | exact LeO.none _
   | refine LeO.ite ?_ ?_
   | refine LeO.bind ?_ (fun _ => ?_)
set_option maxHeartbeats 8000000 in
set_option maxRecDepth 100000 in
theorem bound_Check.calls (k : Nat) (a0_0 : Int) (a0_1 : Int) (r : Int) (w : World) (h : bound_Check.f k a0_0 a0_1 = some r) :
  Calls Try.prog 122 #[.agg #[.int .i64 a0_0, .int .i64 a0_1]] w fun e w' => e = .returned (.int .i64 r) ∧ Below w.heap.size w w' := by
 have hu27 := Try.underlying27
 have HB := Aside0.mk (Below.refl w.heap.size w)
 have H : ((bound_check.f k (([(⟨a0_0, a0_1⟩ : S27)] : List (S27)))).bind fun t135 => (some t135)) = some r := h
 clear h
 obtain ⟨y132, hy132⟩ : ∃ y_ : List (S27), y_ = (([(⟨a0_0, a0_1⟩ : S27)] : List (S27))) := ⟨_, rfl⟩
 replace H : ((bound_check.f k y132).bind fun t135 => (some t135)) = some r := by first | (rw [hy132]; with_reducible exact H) | (have H2_ := (Option.bind_some _ _).symm.trans H; rw [hy132]; with_reducible exact H2_) | (have H2_ := (Option.bind_some _ _).symm.trans H; with_reducible exact H2_) | with_reducible exact H | (rw [hy132]; exact H) | exact H
 have Ny132 := Aside0.mk hy132
 clear hy132
 replace H := Option.bind_eq_some_iff.mp H
 obtain ⟨t135, A20, H⟩ := H
 replace H : (some t135) = some r := H
 have A2 := Aside0.mk A20
 clear A20
 obtain rfl := Option.some.inj H
 go_enter Try.func122, Try.ntmps122
 go_wp2_with (first | ((with_reducible refine gate_dst (N := 1) rfl ?_); refine box_event (by rfl) (N := 1) (by rfl) (cs := #[.int .i64 a0_0, .int .i64 a0_1]) (t := 27) zq4 ?_; intro gb131 hg w3 hbox hb; have BK131 := Aside0.mk (hbox); have GW131 := zgs HB hg; have GE131 := zgs HB hg; replace HB := zbs HB hb; clear hb hbox hg; obtain ⟨hcz4_0, hcz4_1, hfz4_0, hfz4_1⟩ := zce2 BK131.out) | ((with_reducible refine gate_dst (N := 4) rfl ?_); refine Kd.R_lit k27 _ 27 (by rfl) (N := 4) (by rfl) (xs := ([(⟨a0_0, a0_1⟩ : S27)] : List (S27))) (inner := [.int .i64 a0_0, .int .i64 a0_1]) (ok := fun _ => True) (okp := fun _ => True) zq4 (by exact (Reps.c2 (show Kd.M k27 _ _ _ (⟨a0_0, a0_1⟩ : S27) [.int .i64 a0_0, .int .i64 a0_1] from (k27_mkM _ _ _ (⟨a0_0, a0_1⟩ : S27) )) (Reps.none _ _))) (fun _ hk => hk) trivial (Below.refl _ _) (Nat.le_refl _) (by simp) ?_; intro v133 w5 ho6 hb hg_ hnew_; clear hg_ hnew_; (first | rw [← Ny132.out] at ho6 | (simp only [Int.reduceToNat] at ho6; rw [← Ny132.out] at ho6)); have HO134 := Aside0.mk (Kd.R_lower (Kd.R_newB ho6 (g := gb131) (o := .cells #[.int .i64 a0_0, .int .i64 a0_1] 27 (0, 0)) zbf) (below_size zbz)); replace BK131 := zbb BK131 hb; replace HB := zbs HB hb; clear hb ho6; obtain ⟨Ao7, co7, eo7⟩ := Kd.R_slice HO134.out; subst eo7) | ((with_reducible refine gate_callee (f := 116) rfl ?_); refine goesL_ (some 5) rfl rfl Try.func116 zq1 rfl #[.slice Ao7 y132.length co7] rfl zq6 ?_; (with_reducible refine (bound_check.calls k _ _ y132 t135 _ ?side1 ?side2 A2.out).mono ?_); (case side1 => repeat (first | exact (Kd.R_reads' HO134.out).2.2 | (with_reducible refine Kd.C_alloc ?_ _) | (with_reducible refine Kd.C_drewN ?_ _) | (with_reducible refine Kd.C_drew ?_))); (case side2 => exact (Kd.R_reads' HO134.out).2.1); rintro e w8 ⟨rfl, hb⟩; refine ⟨_, rfl, ?_⟩; replace HO134 := zrb HO134 hb; replace BK131 := zbb BK131 hb; replace HB := zbs HB hb; (try clear hb); (try clear hb2); (try clear hk); (try clear hi)))
 go_ret
 exact ⟨zq5, zbz⟩

end Go.Proofs.Ytmhaiihjfgfaoaa.Pr
end
section
namespace Go.Proofs.Ytmhaiihjfgfaoaa.Pr
open Go.RowKit Go.Proofs.YtmhaiihjfgfaoaaW.PrintWords Go.Proofs.YtmhaiihjfgfaoaaW.PrintLast Go.Proofs.YtmhaiihjfgfaoaaW.PrintMore
attribute [local go_sem] max2_int min2_int max_two min_two max_four
set_option linter.unusedVariables false
set_option linter.unusedSimpArgs false

/-! ### glider_bounded: function 77 -/
def glider_bounded.f (k : Nat) (a0_0 : Int) (a0_1 : Int) (a1 : Int) (a2 : Int) : Option (Bool) := (bound_Check.f k a0_0 a0_1).bind fun t137 => (if t137 = 0 then (if a0_0 ≥ a1 then (some (decide (a0_1 ≤ a2))) else (some false)) else (some false))
theorem glider_bounded.mono : ∀ a0 a1 a2 a3 k, LeO (glider_bounded.f k a0 a1 a2 a3) (glider_bounded.f (k + 1) a0 a1 a2 a3) := by
 intro a0 a1 a2 a3 k
 unfold glider_bounded.f
 repeat' first
   | (with_reducible exact bound_Check.mono _ _ _)
   | (with_reducible exact LeO.refl _)
   | (with_reducible exact LeO.none _)
   | (with_reducible refine LeO.ite ?_ ?_)
   | (with_reducible refine LeO.bind ?_ (fun _ => ?_))
   | exact bound_Check.mono _ _ _
   | exact LeO.none _
   | refine LeO.ite ?_ ?_
   | refine LeO.bind ?_ (fun _ => ?_)
set_option maxHeartbeats 8000000 in
set_option maxRecDepth 100000 in
theorem glider_bounded.calls (k : Nat) (a0_0 : Int) (a0_1 : Int) (a1 : Int) (a2 : Int) (r : Bool) (w : World) (h : glider_bounded.f k a0_0 a0_1 a1 a2 = some r) :
  Calls Try.prog 77 #[.agg #[.int .i64 a0_0, .int .i64 a0_1], .int .i64 a1, .int .i64 a2] w fun e w' => e = .returned (.bool r) ∧ Below w.heap.size w w' := by
 have hu27 := Try.underlying27
 have HB := Aside0.mk (Below.refl w.heap.size w)
 have H : ((bound_Check.f k a0_0 a0_1).bind fun t137 => (if t137 = 0 then (if a0_0 ≥ a1 then (some (decide (a0_1 ≤ a2))) else (some false)) else (some false))) = some r := h
 clear h
 replace H := Option.bind_eq_some_iff.mp H
 obtain ⟨t137, A40, H⟩ := H
 replace H : (if t137 = 0 then (if a0_0 ≥ a1 then (some (decide (a0_1 ≤ a2))) else (some false)) else (some false)) = some r := H
 have A4 := Aside0.mk A40
 clear A40
 by_cases c5 : t137 = 0
 ·rw [if_pos c5] at H
  have c5b0 : (t137 == 0) = true := beq_iff_eq.mpr c5
  have c5b1 : (t137 != 0) = false := bne_eq_false_iff_eq.mpr c5
  clear c5
  by_cases c6 : a0_0 ≥ a1
  ·rw [if_pos c6] at H
   have c6b0 : decide (a1 ≤ a0_0) = true := decide_eq_true c6
   clear c6
   obtain rfl := Option.some.inj H
   go_enter Try.func77, Try.ntmps77
   go_wp2_with (first | ((with_reducible refine gate_dst (N := 3) rfl ?_); refine box_event (by rfl) (N := 3) (by rfl) (cs := #[.int .i64 a0_0, .int .i64 a0_1]) (t := 27) zq4 ?_; intro gb136 hg w7 hbox hb; have BK136 := Aside0.mk (hbox); have GW136 := zgs HB hg; have GE136 := zgs HB hg; replace HB := zbs HB hb; clear hb hbox hg; obtain ⟨hcz8_0, hcz8_1, hfz8_0, hfz8_1⟩ := zce2 BK136.out) | ((with_reducible refine gate_callee (f := 122) rfl ?_); refine goesL_ (some 8) rfl rfl Try.func122 zq1 rfl #[.agg #[.int .i64 a0_0, .int .i64 a0_1]] rfl zq6 ?_; (with_reducible refine (bound_Check.calls k a0_0 a0_1 t137 _ A4.out).mono ?_); rintro e w9 ⟨rfl, hb⟩; refine ⟨_, rfl, ?_⟩; replace BK136 := zbb BK136 hb; replace HB := zbs HB hb; (try clear hb); (try clear hb2); (try clear hk); (try clear hi); obtain ⟨hcz10_0, hcz10_1, hfz10_0, hfz10_1⟩ := zce2 BK136.out))
   go_ret
   exact ⟨zq5, zbz⟩
  ·rw [if_neg c6] at H
   have c6b0 : decide (a1 ≤ a0_0) = false := decide_eq_false c6
   clear c6
   obtain rfl := Option.some.inj H
   go_enter Try.func77, Try.ntmps77
   go_wp2_with (first | ((with_reducible refine gate_dst (N := 3) rfl ?_); refine box_event (by rfl) (N := 3) (by rfl) (cs := #[.int .i64 a0_0, .int .i64 a0_1]) (t := 27) zq4 ?_; intro gb136 hg w11 hbox hb; have BK136 := Aside0.mk (hbox); have GW136 := zgs HB hg; have GE136 := zgs HB hg; replace HB := zbs HB hb; clear hb hbox hg; obtain ⟨hcz12_0, hcz12_1, hfz12_0, hfz12_1⟩ := zce2 BK136.out) | ((with_reducible refine gate_callee (f := 122) rfl ?_); refine goesL_ (some 8) rfl rfl Try.func122 zq1 rfl #[.agg #[.int .i64 a0_0, .int .i64 a0_1]] rfl zq6 ?_; (with_reducible refine (bound_Check.calls k a0_0 a0_1 t137 _ A4.out).mono ?_); rintro e w13 ⟨rfl, hb⟩; refine ⟨_, rfl, ?_⟩; replace BK136 := zbb BK136 hb; replace HB := zbs HB hb; (try clear hb); (try clear hb2); (try clear hk); (try clear hi); obtain ⟨hcz14_0, hcz14_1, hfz14_0, hfz14_1⟩ := zce2 BK136.out))
   go_ret
   exact ⟨zq5, zbz⟩
 ·rw [if_neg c5] at H
  have c5b0 : (t137 == 0) = false := beq_eq_false_iff_ne.mpr c5
  have c5b1 : (t137 != 0) = true := bne_iff_ne.mpr c5
  obtain rfl := Option.some.inj H
  go_enter Try.func77, Try.ntmps77
  go_wp2_with (first | ((with_reducible refine gate_dst (N := 3) rfl ?_); refine box_event (by rfl) (N := 3) (by rfl) (cs := #[.int .i64 a0_0, .int .i64 a0_1]) (t := 27) zq4 ?_; intro gb136 hg w15 hbox hb; have BK136 := Aside0.mk (hbox); have GW136 := zgs HB hg; have GE136 := zgs HB hg; replace HB := zbs HB hb; clear hb hbox hg; obtain ⟨hcz16_0, hcz16_1, hfz16_0, hfz16_1⟩ := zce2 BK136.out) | ((with_reducible refine gate_callee (f := 122) rfl ?_); refine goesL_ (some 8) rfl rfl Try.func122 zq1 rfl #[.agg #[.int .i64 a0_0, .int .i64 a0_1]] rfl zq6 ?_; (with_reducible refine (bound_Check.calls k a0_0 a0_1 t137 _ A4.out).mono ?_); rintro e w17 ⟨rfl, hb⟩; refine ⟨_, rfl, ?_⟩; replace BK136 := zbb BK136 hb; replace HB := zbs HB hb; (try clear hb); (try clear hb2); (try clear hk); (try clear hi)))
  go_ret
  exact ⟨zq5, zbz⟩

end Go.Proofs.Ytmhaiihjfgfaoaa.Pr
end
section
namespace Go.Proofs.Ytmhaiihjfgfaoaa.Pr
open Go.RowKit Go.Proofs.YtmhaiihjfgfaoaaW.PrintWords Go.Proofs.YtmhaiihjfgfaoaaW.PrintLast Go.Proofs.YtmhaiihjfgfaoaaW.PrintMore
attribute [local go_sem] max2_int min2_int max_two min_two max_four
set_option linter.unusedVariables false
set_option linter.unusedSimpArgs false

/-! ### glider_CheckVehicle: function 27 -/
def glider_CheckVehicle.f (k : Nat) (a0_0 : Int) (a0_1 : Int) (a0_2 : Int) (a0_3 : Int) (a0_4 : Int) (a0_5 : Int) (a0_6 : Int) : Option (Int) := (glider_between.f a0_0 0 5000).bind fun t139 => (if t139 = true then ((glider_between.f a0_1 1 131072).bind fun t140 => (if t140 = true then ((glider_bounded.f k a0_2 a0_3 0 1073741824).bind fun t141 => (if t141 = true then ((glider_bounded.f k a0_4 a0_5 0 1073741824).bind fun t142 => (if t142 = true then ((glider_between.f a0_6 0 1073741824).bind fun t143 => (if t143 = true then (some 0) else (some 2))) else (some 2))) else (some 2))) else (some 2))) else (some 2))
theorem glider_CheckVehicle.mono : ∀ a0 a1 a2 a3 a4 a5 a6 k, LeO (glider_CheckVehicle.f k a0 a1 a2 a3 a4 a5 a6) (glider_CheckVehicle.f (k + 1) a0 a1 a2 a3 a4 a5 a6) := by
 intro a0 a1 a2 a3 a4 a5 a6 k
 unfold glider_CheckVehicle.f
 repeat' first
   | (with_reducible exact glider_bounded.mono _ _ _ _ _)
   | (with_reducible exact LeO.refl _)
   | (with_reducible exact LeO.none _)
   | (with_reducible refine LeO.ite ?_ ?_)
   | (with_reducible refine LeO.bind ?_ (fun _ => ?_))
   | exact glider_bounded.mono _ _ _ _ _
   | exact LeO.none _
   | refine LeO.ite ?_ ?_
   | refine LeO.bind ?_ (fun _ => ?_)
set_option maxHeartbeats 8000000 in
set_option maxRecDepth 100000 in
theorem glider_CheckVehicle.calls (k : Nat) (a0_0 : Int) (a0_1 : Int) (a0_2 : Int) (a0_3 : Int) (a0_4 : Int) (a0_5 : Int) (a0_6 : Int) (r : Int) (w : World) (h : glider_CheckVehicle.f k a0_0 a0_1 a0_2 a0_3 a0_4 a0_5 a0_6 = some r) :
  Calls Try.prog 27 #[.agg #[.int .i64 a0_0, .int .i64 a0_1, .int .i64 a0_2, .int .i64 a0_3, .int .i64 a0_4, .int .i64 a0_5, .int .i64 a0_6]] w fun e w' => e = .returned (.int .i64 r) ∧ Below w.heap.size w w' := by
 have hu29 := Try.underlying29
 have hu27 := Try.underlying27
 have HB := Aside0.mk (Below.refl w.heap.size w)
 have H : ((glider_between.f a0_0 0 5000).bind fun t139 => (if t139 = true then ((glider_between.f a0_1 1 131072).bind fun t140 => (if t140 = true then ((glider_bounded.f k a0_2 a0_3 0 1073741824).bind fun t141 => (if t141 = true then ((glider_bounded.f k a0_4 a0_5 0 1073741824).bind fun t142 => (if t142 = true then ((glider_between.f a0_6 0 1073741824).bind fun t143 => (if t143 = true then (some 0) else (some 2))) else (some 2))) else (some 2))) else (some 2))) else (some 2))) = some r := h
 clear h
 replace H := Option.bind_eq_some_iff.mp H
 obtain ⟨t139, A20, H⟩ := H
 replace H : (if t139 = true then ((glider_between.f a0_1 1 131072).bind fun t140 => (if t140 = true then ((glider_bounded.f k a0_2 a0_3 0 1073741824).bind fun t141 => (if t141 = true then ((glider_bounded.f k a0_4 a0_5 0 1073741824).bind fun t142 => (if t142 = true then ((glider_between.f a0_6 0 1073741824).bind fun t143 => (if t143 = true then (some 0) else (some 2))) else (some 2))) else (some 2))) else (some 2))) else (some 2)) = some r := H
 have A2 := Aside0.mk A20
 clear A20
 by_cases c3 : t139 = true
 ·subst c3
  have H1 : ((glider_between.f a0_1 1 131072).bind fun t140 => (if t140 = true then ((glider_bounded.f k a0_2 a0_3 0 1073741824).bind fun t141 => (if t141 = true then ((glider_bounded.f k a0_4 a0_5 0 1073741824).bind fun t142 => (if t142 = true then ((glider_between.f a0_6 0 1073741824).bind fun t143 => (if t143 = true then (some 0) else (some 2))) else (some 2))) else (some 2))) else (some 2))) = some r := by rw [if_pos rfl] at H; exact H
  clear H
  have H := H1
  clear H1
  replace H := Option.bind_eq_some_iff.mp H
  obtain ⟨t140, A40, H⟩ := H
  replace H : (if t140 = true then ((glider_bounded.f k a0_2 a0_3 0 1073741824).bind fun t141 => (if t141 = true then ((glider_bounded.f k a0_4 a0_5 0 1073741824).bind fun t142 => (if t142 = true then ((glider_between.f a0_6 0 1073741824).bind fun t143 => (if t143 = true then (some 0) else (some 2))) else (some 2))) else (some 2))) else (some 2)) = some r := H
  have A4 := Aside0.mk A40
  clear A40
  by_cases c5 : t140 = true
  ·subst c5
   have H1 : ((glider_bounded.f k a0_2 a0_3 0 1073741824).bind fun t141 => (if t141 = true then ((glider_bounded.f k a0_4 a0_5 0 1073741824).bind fun t142 => (if t142 = true then ((glider_between.f a0_6 0 1073741824).bind fun t143 => (if t143 = true then (some 0) else (some 2))) else (some 2))) else (some 2))) = some r := by rw [if_pos rfl] at H; exact H
   clear H
   have H := H1
   clear H1
   replace H := Option.bind_eq_some_iff.mp H
   obtain ⟨t141, A60, H⟩ := H
   replace H : (if t141 = true then ((glider_bounded.f k a0_4 a0_5 0 1073741824).bind fun t142 => (if t142 = true then ((glider_between.f a0_6 0 1073741824).bind fun t143 => (if t143 = true then (some 0) else (some 2))) else (some 2))) else (some 2)) = some r := H
   have A6 := Aside0.mk A60
   clear A60
   by_cases c7 : t141 = true
   ·subst c7
    have H1 : ((glider_bounded.f k a0_4 a0_5 0 1073741824).bind fun t142 => (if t142 = true then ((glider_between.f a0_6 0 1073741824).bind fun t143 => (if t143 = true then (some 0) else (some 2))) else (some 2))) = some r := by rw [if_pos rfl] at H; exact H
    clear H
    have H := H1
    clear H1
    replace H := Option.bind_eq_some_iff.mp H
    obtain ⟨t142, A80, H⟩ := H
    replace H : (if t142 = true then ((glider_between.f a0_6 0 1073741824).bind fun t143 => (if t143 = true then (some 0) else (some 2))) else (some 2)) = some r := H
    have A8 := Aside0.mk A80
    clear A80
    by_cases c9 : t142 = true
    ·subst c9
     have H1 : ((glider_between.f a0_6 0 1073741824).bind fun t143 => (if t143 = true then (some 0) else (some 2))) = some r := by rw [if_pos rfl] at H; exact H
     clear H
     have H := H1
     clear H1
     replace H := Option.bind_eq_some_iff.mp H
     obtain ⟨t143, A100, H⟩ := H
     replace H : (if t143 = true then (some 0) else (some 2)) = some r := H
     have A10 := Aside0.mk A100
     clear A100
     by_cases c11 : t143 = true
     ·subst c11
      have H1 : (some 0) = some r := by rw [if_pos rfl] at H; exact H
      clear H
      have H := H1
      clear H1
      obtain rfl := Option.some.inj H
      go_enter Try.func27, Try.ntmps27
      go_wp2_with (first | ((with_reducible refine gate_dst (N := 1) rfl ?_); refine box_event (by rfl) (N := 1) (by rfl) (cs := #[.int .i64 a0_0, .int .i64 a0_1, .int .i64 a0_2, .int .i64 a0_3, .int .i64 a0_4, .int .i64 a0_5, .int .i64 a0_6]) (t := 29) zq4 ?_; intro gb138 hg w12 hbox hb; have BK138 := Aside0.mk (hbox); have GW138 := zgs HB hg; have GE138 := zgs HB hg; replace HB := zbs HB hb; clear hb hbox hg; obtain ⟨hcz13_0, hcz13_1, hcz13_2, hcz13_3, hcz13_4, hcz13_5, hcz13_6, hfz13_0, hfz13_1, hfz13_2, hfz13_3, hfz13_4, hfz13_5, hfz13_6⟩ := zce7 BK138.out) | ((with_reducible refine gate_callee (f := 74) rfl ?_); refine goesL_ (some 5) rfl rfl Try.func74 zq1 rfl #[.int .i64 a0_0, .int .i64 0, .int .i64 5000] rfl zq6 ?_; (with_reducible refine (glider_between.calls a0_0 0 5000 true _ A2.out).mono ?_); rintro e w' ⟨rfl, ⟨nd, rfl⟩⟩; refine ⟨_, rfl, ?_⟩) | (go_at_call 74; (with_reducible refine (glider_between.calls a0_1 1 131072 true _ A4.out).mono ?_); rintro e w' ⟨rfl, ⟨nd, rfl⟩⟩) | (go_at_call 77; (with_reducible refine (glider_bounded.calls k a0_2 a0_3 0 1073741824 true _ A6.out).mono ?_); rintro e w14 ⟨rfl, hb⟩; replace BK138 := zbb BK138 hb; replace HB := zbs HB hb; (try clear hb); (try clear hb2); (try clear hk); (try clear hi); obtain ⟨hcz15_0, hcz15_1, hcz15_2, hcz15_3, hcz15_4, hcz15_5, hcz15_6, hfz15_0, hfz15_1, hfz15_2, hfz15_3, hfz15_4, hfz15_5, hfz15_6⟩ := zce7 BK138.out) | (go_at_call 77; (with_reducible refine (glider_bounded.calls k a0_4 a0_5 0 1073741824 true _ A8.out).mono ?_); rintro e w16 ⟨rfl, hb⟩; replace BK138 := zbb BK138 hb; replace HB := zbs HB hb; (try clear hb); (try clear hb2); (try clear hk); (try clear hi); obtain ⟨hcz17_0, hcz17_1, hcz17_2, hcz17_3, hcz17_4, hcz17_5, hcz17_6, hfz17_0, hfz17_1, hfz17_2, hfz17_3, hfz17_4, hfz17_5, hfz17_6⟩ := zce7 BK138.out) | (go_at_call 74; (with_reducible refine (glider_between.calls a0_6 0 1073741824 true _ A10.out).mono ?_); rintro e w' ⟨rfl, ⟨nd, rfl⟩⟩))
      go_ret
      exact ⟨zq5, zbz⟩
     ·replace c11 := Bool.eq_false_iff.mpr c11
      subst c11
      have H1 : (some 2) = some r := by rw [if_neg (show ¬ (false = true) by decide)] at H; exact H
      clear H
      have H := H1
      clear H1
      obtain rfl := Option.some.inj H
      go_enter Try.func27, Try.ntmps27
      go_wp2_with (first | ((with_reducible refine gate_dst (N := 1) rfl ?_); refine box_event (by rfl) (N := 1) (by rfl) (cs := #[.int .i64 a0_0, .int .i64 a0_1, .int .i64 a0_2, .int .i64 a0_3, .int .i64 a0_4, .int .i64 a0_5, .int .i64 a0_6]) (t := 29) zq4 ?_; intro gb138 hg w18 hbox hb; have BK138 := Aside0.mk (hbox); have GW138 := zgs HB hg; have GE138 := zgs HB hg; replace HB := zbs HB hb; clear hb hbox hg; obtain ⟨hcz19_0, hcz19_1, hcz19_2, hcz19_3, hcz19_4, hcz19_5, hcz19_6, hfz19_0, hfz19_1, hfz19_2, hfz19_3, hfz19_4, hfz19_5, hfz19_6⟩ := zce7 BK138.out) | ((with_reducible refine gate_callee (f := 74) rfl ?_); refine goesL_ (some 5) rfl rfl Try.func74 zq1 rfl #[.int .i64 a0_0, .int .i64 0, .int .i64 5000] rfl zq6 ?_; (with_reducible refine (glider_between.calls a0_0 0 5000 true _ A2.out).mono ?_); rintro e w' ⟨rfl, ⟨nd, rfl⟩⟩; refine ⟨_, rfl, ?_⟩) | (go_at_call 74; (with_reducible refine (glider_between.calls a0_1 1 131072 true _ A4.out).mono ?_); rintro e w' ⟨rfl, ⟨nd, rfl⟩⟩) | (go_at_call 77; (with_reducible refine (glider_bounded.calls k a0_2 a0_3 0 1073741824 true _ A6.out).mono ?_); rintro e w20 ⟨rfl, hb⟩; replace BK138 := zbb BK138 hb; replace HB := zbs HB hb; (try clear hb); (try clear hb2); (try clear hk); (try clear hi); obtain ⟨hcz21_0, hcz21_1, hcz21_2, hcz21_3, hcz21_4, hcz21_5, hcz21_6, hfz21_0, hfz21_1, hfz21_2, hfz21_3, hfz21_4, hfz21_5, hfz21_6⟩ := zce7 BK138.out) | (go_at_call 77; (with_reducible refine (glider_bounded.calls k a0_4 a0_5 0 1073741824 true _ A8.out).mono ?_); rintro e w22 ⟨rfl, hb⟩; replace BK138 := zbb BK138 hb; replace HB := zbs HB hb; (try clear hb); (try clear hb2); (try clear hk); (try clear hi); obtain ⟨hcz23_0, hcz23_1, hcz23_2, hcz23_3, hcz23_4, hcz23_5, hcz23_6, hfz23_0, hfz23_1, hfz23_2, hfz23_3, hfz23_4, hfz23_5, hfz23_6⟩ := zce7 BK138.out) | (go_at_call 74; (with_reducible refine (glider_between.calls a0_6 0 1073741824 false _ A10.out).mono ?_); rintro e w' ⟨rfl, ⟨nd, rfl⟩⟩))
      go_ret
      exact ⟨zq5, zbz⟩
    ·replace c9 := Bool.eq_false_iff.mpr c9
     subst c9
     have H1 : (some 2) = some r := by rw [if_neg (show ¬ (false = true) by decide)] at H; exact H
     clear H
     have H := H1
     clear H1
     obtain rfl := Option.some.inj H
     go_enter Try.func27, Try.ntmps27
     go_wp2_with (first | ((with_reducible refine gate_dst (N := 1) rfl ?_); refine box_event (by rfl) (N := 1) (by rfl) (cs := #[.int .i64 a0_0, .int .i64 a0_1, .int .i64 a0_2, .int .i64 a0_3, .int .i64 a0_4, .int .i64 a0_5, .int .i64 a0_6]) (t := 29) zq4 ?_; intro gb138 hg w24 hbox hb; have BK138 := Aside0.mk (hbox); have GW138 := zgs HB hg; have GE138 := zgs HB hg; replace HB := zbs HB hb; clear hb hbox hg; obtain ⟨hcz25_0, hcz25_1, hcz25_2, hcz25_3, hcz25_4, hcz25_5, hcz25_6, hfz25_0, hfz25_1, hfz25_2, hfz25_3, hfz25_4, hfz25_5, hfz25_6⟩ := zce7 BK138.out) | ((with_reducible refine gate_callee (f := 74) rfl ?_); refine goesL_ (some 5) rfl rfl Try.func74 zq1 rfl #[.int .i64 a0_0, .int .i64 0, .int .i64 5000] rfl zq6 ?_; (with_reducible refine (glider_between.calls a0_0 0 5000 true _ A2.out).mono ?_); rintro e w' ⟨rfl, ⟨nd, rfl⟩⟩; refine ⟨_, rfl, ?_⟩) | (go_at_call 74; (with_reducible refine (glider_between.calls a0_1 1 131072 true _ A4.out).mono ?_); rintro e w' ⟨rfl, ⟨nd, rfl⟩⟩) | (go_at_call 77; (with_reducible refine (glider_bounded.calls k a0_2 a0_3 0 1073741824 true _ A6.out).mono ?_); rintro e w26 ⟨rfl, hb⟩; replace BK138 := zbb BK138 hb; replace HB := zbs HB hb; (try clear hb); (try clear hb2); (try clear hk); (try clear hi); obtain ⟨hcz27_0, hcz27_1, hcz27_2, hcz27_3, hcz27_4, hcz27_5, hcz27_6, hfz27_0, hfz27_1, hfz27_2, hfz27_3, hfz27_4, hfz27_5, hfz27_6⟩ := zce7 BK138.out) | (go_at_call 77; (with_reducible refine (glider_bounded.calls k a0_4 a0_5 0 1073741824 false _ A8.out).mono ?_); rintro e w28 ⟨rfl, hb⟩; replace BK138 := zbb BK138 hb; replace HB := zbs HB hb; (try clear hb); (try clear hb2); (try clear hk); (try clear hi)))
     go_ret
     exact ⟨zq5, zbz⟩
   ·replace c7 := Bool.eq_false_iff.mpr c7
    subst c7
    have H1 : (some 2) = some r := by rw [if_neg (show ¬ (false = true) by decide)] at H; exact H
    clear H
    have H := H1
    clear H1
    obtain rfl := Option.some.inj H
    go_enter Try.func27, Try.ntmps27
    go_wp2_with (first | ((with_reducible refine gate_dst (N := 1) rfl ?_); refine box_event (by rfl) (N := 1) (by rfl) (cs := #[.int .i64 a0_0, .int .i64 a0_1, .int .i64 a0_2, .int .i64 a0_3, .int .i64 a0_4, .int .i64 a0_5, .int .i64 a0_6]) (t := 29) zq4 ?_; intro gb138 hg w29 hbox hb; have BK138 := Aside0.mk (hbox); have GW138 := zgs HB hg; have GE138 := zgs HB hg; replace HB := zbs HB hb; clear hb hbox hg; obtain ⟨hcz30_0, hcz30_1, hcz30_2, hcz30_3, hcz30_4, hcz30_5, hcz30_6, hfz30_0, hfz30_1, hfz30_2, hfz30_3, hfz30_4, hfz30_5, hfz30_6⟩ := zce7 BK138.out) | ((with_reducible refine gate_callee (f := 74) rfl ?_); refine goesL_ (some 5) rfl rfl Try.func74 zq1 rfl #[.int .i64 a0_0, .int .i64 0, .int .i64 5000] rfl zq6 ?_; (with_reducible refine (glider_between.calls a0_0 0 5000 true _ A2.out).mono ?_); rintro e w' ⟨rfl, ⟨nd, rfl⟩⟩; refine ⟨_, rfl, ?_⟩) | (go_at_call 74; (with_reducible refine (glider_between.calls a0_1 1 131072 true _ A4.out).mono ?_); rintro e w' ⟨rfl, ⟨nd, rfl⟩⟩) | (go_at_call 77; (with_reducible refine (glider_bounded.calls k a0_2 a0_3 0 1073741824 false _ A6.out).mono ?_); rintro e w31 ⟨rfl, hb⟩; replace BK138 := zbb BK138 hb; replace HB := zbs HB hb; (try clear hb); (try clear hb2); (try clear hk); (try clear hi)))
    go_ret
    exact ⟨zq5, zbz⟩
  ·replace c5 := Bool.eq_false_iff.mpr c5
   subst c5
   have H1 : (some 2) = some r := by rw [if_neg (show ¬ (false = true) by decide)] at H; exact H
   clear H
   have H := H1
   clear H1
   obtain rfl := Option.some.inj H
   go_enter Try.func27, Try.ntmps27
   go_wp2_with (first | ((with_reducible refine gate_dst (N := 1) rfl ?_); refine box_event (by rfl) (N := 1) (by rfl) (cs := #[.int .i64 a0_0, .int .i64 a0_1, .int .i64 a0_2, .int .i64 a0_3, .int .i64 a0_4, .int .i64 a0_5, .int .i64 a0_6]) (t := 29) zq4 ?_; intro gb138 hg w32 hbox hb; have BK138 := Aside0.mk (hbox); have GW138 := zgs HB hg; have GE138 := zgs HB hg; replace HB := zbs HB hb; clear hb hbox hg; obtain ⟨hcz33_0, hcz33_1, hcz33_2, hcz33_3, hcz33_4, hcz33_5, hcz33_6, hfz33_0, hfz33_1, hfz33_2, hfz33_3, hfz33_4, hfz33_5, hfz33_6⟩ := zce7 BK138.out) | ((with_reducible refine gate_callee (f := 74) rfl ?_); refine goesL_ (some 5) rfl rfl Try.func74 zq1 rfl #[.int .i64 a0_0, .int .i64 0, .int .i64 5000] rfl zq6 ?_; (with_reducible refine (glider_between.calls a0_0 0 5000 true _ A2.out).mono ?_); rintro e w' ⟨rfl, ⟨nd, rfl⟩⟩; refine ⟨_, rfl, ?_⟩) | (go_at_call 74; (with_reducible refine (glider_between.calls a0_1 1 131072 false _ A4.out).mono ?_); rintro e w' ⟨rfl, ⟨nd, rfl⟩⟩))
   go_ret
   exact ⟨zq5, zbz⟩
 ·replace c3 := Bool.eq_false_iff.mpr c3
  subst c3
  have H1 : (some 2) = some r := by rw [if_neg (show ¬ (false = true) by decide)] at H; exact H
  clear H
  have H := H1
  clear H1
  obtain rfl := Option.some.inj H
  go_enter Try.func27, Try.ntmps27
  go_wp2_with (first | ((with_reducible refine gate_dst (N := 1) rfl ?_); refine box_event (by rfl) (N := 1) (by rfl) (cs := #[.int .i64 a0_0, .int .i64 a0_1, .int .i64 a0_2, .int .i64 a0_3, .int .i64 a0_4, .int .i64 a0_5, .int .i64 a0_6]) (t := 29) zq4 ?_; intro gb138 hg w34 hbox hb; have BK138 := Aside0.mk (hbox); have GW138 := zgs HB hg; have GE138 := zgs HB hg; replace HB := zbs HB hb; clear hb hbox hg; obtain ⟨hcz35_0, hcz35_1, hcz35_2, hcz35_3, hcz35_4, hcz35_5, hcz35_6, hfz35_0, hfz35_1, hfz35_2, hfz35_3, hfz35_4, hfz35_5, hfz35_6⟩ := zce7 BK138.out) | ((with_reducible refine gate_callee (f := 74) rfl ?_); refine goesL_ (some 5) rfl rfl Try.func74 zq1 rfl #[.int .i64 a0_0, .int .i64 0, .int .i64 5000] rfl zq6 ?_; (with_reducible refine (glider_between.calls a0_0 0 5000 false _ A2.out).mono ?_); rintro e w' ⟨rfl, ⟨nd, rfl⟩⟩; refine ⟨_, rfl, ?_⟩))
  go_ret
  exact ⟨zq5, zbz⟩

end Go.Proofs.Ytmhaiihjfgfaoaa.Pr
end
section
namespace Go.Proofs.Ytmhaiihjfgfaoaa.Pr
open Go.RowKit Go.Proofs.YtmhaiihjfgfaoaaW.PrintWords Go.Proofs.YtmhaiihjfgfaoaaW.PrintLast Go.Proofs.YtmhaiihjfgfaoaaW.PrintMore
attribute [local go_sem] max2_int min2_int max_two min_two max_four
set_option linter.unusedVariables false
set_option linter.unusedSimpArgs false

/-! ### glider_Lasts: function 37 -/
def glider_Lasts.f (k : Nat) (a0_0 : Int) (a0_1 : Int) (a0_2 : Int) (a0_3 : Int) (a0_4 : Int) (a0_5 : Int) (a0_6 : Int) (a1_0 : Int) (a1_1 : Int) : Option (Int × Int) := (glider_CheckVehicle.f k a0_0 a0_1 a0_2 a0_3 a0_4 a0_5 a0_6).bind fun t247 => (if t247 = 0 then ((glider_bounded.f k a1_0 a1_1 0 1073741824).bind fun t248 => (if t248 = true then (if a1_0 < a0_6 then (some (0, 19)) else (if (mx a0_3 a0_5) = 0 then (some (0, 4)) else (some (wrap64 (Int.tdiv (wrap64 (a1_0 - a0_6)) (mx a0_3 a0_5)), 0)))) else (some (0, 2)))) else (some (0, t247)))
theorem glider_Lasts.mono : ∀ a0 a1 a2 a3 a4 a5 a6 a7 a8 k, LeO (glider_Lasts.f k a0 a1 a2 a3 a4 a5 a6 a7 a8) (glider_Lasts.f (k + 1) a0 a1 a2 a3 a4 a5 a6 a7 a8) := by
 intro a0 a1 a2 a3 a4 a5 a6 a7 a8 k
 unfold glider_Lasts.f
 repeat' first
   | (with_reducible exact glider_CheckVehicle.mono _ _ _ _ _ _ _ _)
   | (with_reducible exact glider_bounded.mono _ _ _ _ _)
   | (with_reducible exact LeO.refl _)
   | (with_reducible exact LeO.none _)
   | (with_reducible refine LeO.ite ?_ ?_)
   | (with_reducible refine LeO.bind ?_ (fun _ => ?_))
   | exact glider_CheckVehicle.mono _ _ _ _ _ _ _ _
   | exact glider_bounded.mono _ _ _ _ _
   | exact LeO.none _
   | refine LeO.ite ?_ ?_
   | refine LeO.bind ?_ (fun _ => ?_)
set_option maxHeartbeats 8000000 in
set_option maxRecDepth 100000 in
theorem glider_Lasts.calls (k : Nat) (a0_0 : Int) (a0_1 : Int) (a0_2 : Int) (a0_3 : Int) (a0_4 : Int) (a0_5 : Int) (a0_6 : Int) (a1_0 : Int) (a1_1 : Int) (r1 : Int) (r2 : Int) (w : World) (h : glider_Lasts.f k a0_0 a0_1 a0_2 a0_3 a0_4 a0_5 a0_6 a1_0 a1_1 = some (r1, r2)) :
  Calls Try.prog 37 #[.agg #[.int .i64 a0_0, .int .i64 a0_1, .int .i64 a0_2, .int .i64 a0_3, .int .i64 a0_4, .int .i64 a0_5, .int .i64 a0_6], .agg #[.int .i64 a1_0, .int .i64 a1_1]] w fun e w' => e = .returned (.tuple #[.int .i64 r1, .int .i64 r2]) ∧ Below w.heap.size w w' := by
 have hu29 := Try.underlying29
 have hu27 := Try.underlying27
 have HB := Aside0.mk (Below.refl w.heap.size w)
 have H : ((glider_CheckVehicle.f k a0_0 a0_1 a0_2 a0_3 a0_4 a0_5 a0_6).bind fun t247 => (if t247 = 0 then ((glider_bounded.f k a1_0 a1_1 0 1073741824).bind fun t248 => (if t248 = true then (if a1_0 < a0_6 then (some (0, 19)) else (if (mx a0_3 a0_5) = 0 then (some (0, 4)) else (some (wrap64 (Int.tdiv (wrap64 (a1_0 - a0_6)) (mx a0_3 a0_5)), 0)))) else (some (0, 2)))) else (some (0, t247)))) = some (r1, r2) := h
 clear h
 obtain ⟨ji3, hji3⟩ : ∃ j_ : Int, (mx a0_3 a0_5) = j_ := ⟨_, rfl⟩
 replace H : ((glider_CheckVehicle.f k a0_0 a0_1 a0_2 a0_3 a0_4 a0_5 a0_6).bind fun t247 => (if t247 = 0 then ((glider_bounded.f k a1_0 a1_1 0 1073741824).bind fun t248 => (if t248 = true then (if a1_0 < a0_6 then (some (0, 19)) else (if (ji3) = 0 then (some (0, 4)) else (some (wrap64 (Int.tdiv (wrap64 (a1_0 - a0_6)) (ji3)), 0)))) else (some (0, 2)))) else (some (0, t247)))) = some (r1, r2) := by first | (rw [hji3] at H; exact H) | (simp only [hji3] at H ⊢; exact H)
 have hji3_ : (if a0_3 < a0_5 then a0_5 else a0_3) = ji3 := hji3
 replace H := Option.bind_eq_some_iff.mp H
 obtain ⟨t247, A40, H⟩ := H
 replace H : (if t247 = 0 then ((glider_bounded.f k a1_0 a1_1 0 1073741824).bind fun t248 => (if t248 = true then (if a1_0 < a0_6 then (some (0, 19)) else (if (ji3) = 0 then (some (0, 4)) else (some (wrap64 (Int.tdiv (wrap64 (a1_0 - a0_6)) (ji3)), 0)))) else (some (0, 2)))) else (some (0, t247))) = some (r1, r2) := H
 have A4 := Aside0.mk A40
 clear A40
 by_cases c5 : t247 = 0
 ·rw [if_pos c5] at H
  have c5b0 : (t247 == 0) = true := beq_iff_eq.mpr c5
  have c5b1 : (t247 != 0) = false := bne_eq_false_iff_eq.mpr c5
  clear c5
  replace H := Option.bind_eq_some_iff.mp H
  obtain ⟨t248, A60, H⟩ := H
  replace H : (if t248 = true then (if a1_0 < a0_6 then (some (0, 19)) else (if (ji3) = 0 then (some (0, 4)) else (some (wrap64 (Int.tdiv (wrap64 (a1_0 - a0_6)) (ji3)), 0)))) else (some (0, 2))) = some (r1, r2) := H
  have A6 := Aside0.mk A60
  clear A60
  by_cases c7 : t248 = true
  ·subst c7
   have H1 : (if a1_0 < a0_6 then (some (0, 19)) else (if (ji3) = 0 then (some (0, 4)) else (some (wrap64 (Int.tdiv (wrap64 (a1_0 - a0_6)) (ji3)), 0)))) = some (r1, r2) := by rw [if_pos rfl] at H; exact H
   clear H
   have H := H1
   clear H1
   by_cases c8 : a1_0 < a0_6
   ·rw [if_pos c8] at H
    have c8b0 : decide (a1_0 < a0_6) = true := decide_eq_true c8
    clear c8
    simp only [Option.some.injEq, Prod.mk.injEq] at H
    obtain ⟨rfl, rfl⟩ := H
    go_enter Try.func37, Try.ntmps37
    go_wp2_with (first | ((with_reducible refine gate_dst (N := 2) rfl ?_); refine box_event (by rfl) (N := 2) (by rfl) (cs := #[.int .i64 a0_0, .int .i64 a0_1, .int .i64 a0_2, .int .i64 a0_3, .int .i64 a0_4, .int .i64 a0_5, .int .i64 a0_6]) (t := 29) zq4 ?_; intro gb245 hg w9 hbox hb; have BK245 := Aside0.mk (hbox); have GW245 := zgs HB hg; have GE245 := zgs HB hg; replace HB := zbs HB hb; clear hb hbox hg) | ((with_reducible refine gate_dst (N := 3) rfl ?_); refine box_event (by rfl) (N := 3) (by rfl) (cs := #[.int .i64 a1_0, .int .i64 a1_1]) (t := 27) zq4 ?_; intro gb246 hg w10 hbox hb; have BK246 := Aside0.mk (hbox); have GW246 := zgs HB hg; have GE246 := zgs HB hg; have NB245_246 := znp BK245 hg; have NB246_245 := znq BK245 hg; replace BK245 := zbb BK245 hb; replace HB := zbs HB hb; clear hb hbox hg; have hnb11 := NB245_246.out; have hnc11 := NB246_245.out; obtain ⟨hcz12_0, hcz12_1, hcz12_2, hcz12_3, hcz12_4, hcz12_5, hcz12_6, hfz12_0, hfz12_1, hfz12_2, hfz12_3, hfz12_4, hfz12_5, hfz12_6⟩ := zce7 BK245.out) | ((with_reducible refine gate_callee (f := 27) rfl ?_); refine goesL_ (some 16) rfl rfl Try.func27 zq1 rfl #[.agg #[.int .i64 a0_0, .int .i64 a0_1, .int .i64 a0_2, .int .i64 a0_3, .int .i64 a0_4, .int .i64 a0_5, .int .i64 a0_6]] rfl zq6 ?_; (with_reducible refine (glider_CheckVehicle.calls k a0_0 a0_1 a0_2 a0_3 a0_4 a0_5 a0_6 t247 _ A4.out).mono ?_); rintro e w13 ⟨rfl, hb⟩; refine ⟨_, rfl, ?_⟩; replace BK245 := zbb BK245 hb; replace BK246 := zbb BK246 hb; replace HB := zbs HB hb; (try clear hb); (try clear hb2); (try clear hk); (try clear hi); obtain ⟨hcz14_0, hcz14_1, hfz14_0, hfz14_1⟩ := zce2 BK246.out) | ((with_reducible refine gate_callee (f := 77) rfl ?_); refine goesL_ (some 23) rfl rfl Try.func77 zq1 rfl #[.agg #[.int .i64 a1_0, .int .i64 a1_1], .int .i64 0, .int .i64 1073741824] rfl zq6 ?_; (with_reducible refine (glider_bounded.calls k a1_0 a1_1 0 1073741824 true _ A6.out).mono ?_); rintro e w15 ⟨rfl, hb⟩; refine ⟨_, rfl, ?_⟩; replace BK245 := zbb BK245 hb; replace BK246 := zbb BK246 hb; replace HB := zbs HB hb; (try clear hb); (try clear hb2); (try clear hk); (try clear hi); obtain ⟨hcz16_0, hcz16_1, hfz16_0, hfz16_1⟩ := zce2 BK246.out; obtain ⟨hcz17_0, hcz17_1, hcz17_2, hcz17_3, hcz17_4, hcz17_5, hcz17_6, hfz17_0, hfz17_1, hfz17_2, hfz17_3, hfz17_4, hfz17_5, hfz17_6⟩ := zce7 BK245.out))
    go_ret2
    exact ⟨zq7, zbz⟩
   ·rw [if_neg c8] at H
    have c8b0 : decide (a1_0 < a0_6) = false := decide_eq_false c8
    clear c8
    by_cases c18 : (ji3) = 0
    ·rw [if_pos c18] at H
     have c18b0 : ((ji3) == 0) = true := beq_iff_eq.mpr c18
     have c18b1 : ((ji3) != 0) = false := bne_eq_false_iff_eq.mpr c18
     clear c18
     simp only [Option.some.injEq, Prod.mk.injEq] at H
     obtain ⟨rfl, rfl⟩ := H
     go_enter Try.func37, Try.ntmps37
     go_wp2_with (first | ((with_reducible refine gate_dst (N := 2) rfl ?_); refine box_event (by rfl) (N := 2) (by rfl) (cs := #[.int .i64 a0_0, .int .i64 a0_1, .int .i64 a0_2, .int .i64 a0_3, .int .i64 a0_4, .int .i64 a0_5, .int .i64 a0_6]) (t := 29) zq4 ?_; intro gb245 hg w19 hbox hb; have BK245 := Aside0.mk (hbox); have GW245 := zgs HB hg; have GE245 := zgs HB hg; replace HB := zbs HB hb; clear hb hbox hg) | ((with_reducible refine gate_dst (N := 3) rfl ?_); refine box_event (by rfl) (N := 3) (by rfl) (cs := #[.int .i64 a1_0, .int .i64 a1_1]) (t := 27) zq4 ?_; intro gb246 hg w20 hbox hb; have BK246 := Aside0.mk (hbox); have GW246 := zgs HB hg; have GE246 := zgs HB hg; have NB245_246 := znp BK245 hg; have NB246_245 := znq BK245 hg; replace BK245 := zbb BK245 hb; replace HB := zbs HB hb; clear hb hbox hg; have hnb21 := NB245_246.out; have hnc21 := NB246_245.out; obtain ⟨hcz22_0, hcz22_1, hcz22_2, hcz22_3, hcz22_4, hcz22_5, hcz22_6, hfz22_0, hfz22_1, hfz22_2, hfz22_3, hfz22_4, hfz22_5, hfz22_6⟩ := zce7 BK245.out) | ((with_reducible refine gate_callee (f := 27) rfl ?_); refine goesL_ (some 16) rfl rfl Try.func27 zq1 rfl #[.agg #[.int .i64 a0_0, .int .i64 a0_1, .int .i64 a0_2, .int .i64 a0_3, .int .i64 a0_4, .int .i64 a0_5, .int .i64 a0_6]] rfl zq6 ?_; (with_reducible refine (glider_CheckVehicle.calls k a0_0 a0_1 a0_2 a0_3 a0_4 a0_5 a0_6 t247 _ A4.out).mono ?_); rintro e w23 ⟨rfl, hb⟩; refine ⟨_, rfl, ?_⟩; replace BK245 := zbb BK245 hb; replace BK246 := zbb BK246 hb; replace HB := zbs HB hb; (try clear hb); (try clear hb2); (try clear hk); (try clear hi); obtain ⟨hcz24_0, hcz24_1, hfz24_0, hfz24_1⟩ := zce2 BK246.out) | ((with_reducible refine gate_callee (f := 77) rfl ?_); refine goesL_ (some 23) rfl rfl Try.func77 zq1 rfl #[.agg #[.int .i64 a1_0, .int .i64 a1_1], .int .i64 0, .int .i64 1073741824] rfl zq6 ?_; (with_reducible refine (glider_bounded.calls k a1_0 a1_1 0 1073741824 true _ A6.out).mono ?_); rintro e w25 ⟨rfl, hb⟩; refine ⟨_, rfl, ?_⟩; replace BK245 := zbb BK245 hb; replace BK246 := zbb BK246 hb; replace HB := zbs HB hb; (try clear hb); (try clear hb2); (try clear hk); (try clear hi); obtain ⟨hcz26_0, hcz26_1, hfz26_0, hfz26_1⟩ := zce2 BK246.out; obtain ⟨hcz27_0, hcz27_1, hcz27_2, hcz27_3, hcz27_4, hcz27_5, hcz27_6, hfz27_0, hfz27_1, hfz27_2, hfz27_3, hfz27_4, hfz27_5, hfz27_6⟩ := zce7 BK245.out))
     go_ret2
     exact ⟨zq7, zbz⟩
    ·rw [if_neg c18] at H
     have c18b0 : ((ji3) == 0) = false := beq_eq_false_iff_ne.mpr c18
     have c18b1 : ((ji3) != 0) = true := bne_iff_ne.mpr c18
     simp only [Option.some.injEq, Prod.mk.injEq] at H
     obtain ⟨rfl, rfl⟩ := H
     go_enter Try.func37, Try.ntmps37
     go_wp2_with (first | ((with_reducible refine gate_dst (N := 2) rfl ?_); refine box_event (by rfl) (N := 2) (by rfl) (cs := #[.int .i64 a0_0, .int .i64 a0_1, .int .i64 a0_2, .int .i64 a0_3, .int .i64 a0_4, .int .i64 a0_5, .int .i64 a0_6]) (t := 29) zq4 ?_; intro gb245 hg w28 hbox hb; have BK245 := Aside0.mk (hbox); have GW245 := zgs HB hg; have GE245 := zgs HB hg; replace HB := zbs HB hb; clear hb hbox hg) | ((with_reducible refine gate_dst (N := 3) rfl ?_); refine box_event (by rfl) (N := 3) (by rfl) (cs := #[.int .i64 a1_0, .int .i64 a1_1]) (t := 27) zq4 ?_; intro gb246 hg w29 hbox hb; have BK246 := Aside0.mk (hbox); have GW246 := zgs HB hg; have GE246 := zgs HB hg; have NB245_246 := znp BK245 hg; have NB246_245 := znq BK245 hg; replace BK245 := zbb BK245 hb; replace HB := zbs HB hb; clear hb hbox hg; have hnb30 := NB245_246.out; have hnc30 := NB246_245.out; obtain ⟨hcz31_0, hcz31_1, hcz31_2, hcz31_3, hcz31_4, hcz31_5, hcz31_6, hfz31_0, hfz31_1, hfz31_2, hfz31_3, hfz31_4, hfz31_5, hfz31_6⟩ := zce7 BK245.out) | ((with_reducible refine gate_callee (f := 27) rfl ?_); refine goesL_ (some 16) rfl rfl Try.func27 zq1 rfl #[.agg #[.int .i64 a0_0, .int .i64 a0_1, .int .i64 a0_2, .int .i64 a0_3, .int .i64 a0_4, .int .i64 a0_5, .int .i64 a0_6]] rfl zq6 ?_; (with_reducible refine (glider_CheckVehicle.calls k a0_0 a0_1 a0_2 a0_3 a0_4 a0_5 a0_6 t247 _ A4.out).mono ?_); rintro e w32 ⟨rfl, hb⟩; refine ⟨_, rfl, ?_⟩; replace BK245 := zbb BK245 hb; replace BK246 := zbb BK246 hb; replace HB := zbs HB hb; (try clear hb); (try clear hb2); (try clear hk); (try clear hi); obtain ⟨hcz33_0, hcz33_1, hfz33_0, hfz33_1⟩ := zce2 BK246.out) | ((with_reducible refine gate_callee (f := 77) rfl ?_); refine goesL_ (some 23) rfl rfl Try.func77 zq1 rfl #[.agg #[.int .i64 a1_0, .int .i64 a1_1], .int .i64 0, .int .i64 1073741824] rfl zq6 ?_; (with_reducible refine (glider_bounded.calls k a1_0 a1_1 0 1073741824 true _ A6.out).mono ?_); rintro e w34 ⟨rfl, hb⟩; refine ⟨_, rfl, ?_⟩; replace BK245 := zbb BK245 hb; replace BK246 := zbb BK246 hb; replace HB := zbs HB hb; (try clear hb); (try clear hb2); (try clear hk); (try clear hi); obtain ⟨hcz35_0, hcz35_1, hfz35_0, hfz35_1⟩ := zce2 BK246.out; obtain ⟨hcz36_0, hcz36_1, hcz36_2, hcz36_3, hcz36_4, hcz36_5, hcz36_6, hfz36_0, hfz36_1, hfz36_2, hfz36_3, hfz36_4, hfz36_5, hfz36_6⟩ := zce7 BK245.out))
     go_ret2
     exact ⟨zq7, zbz⟩
  ·replace c7 := Bool.eq_false_iff.mpr c7
   subst c7
   have H1 : (some (0, 2)) = some (r1, r2) := by rw [if_neg (show ¬ (false = true) by decide)] at H; exact H
   clear H
   have H := H1
   clear H1
   simp only [Option.some.injEq, Prod.mk.injEq] at H
   obtain ⟨rfl, rfl⟩ := H
   go_enter Try.func37, Try.ntmps37
   go_wp2_with (first | ((with_reducible refine gate_dst (N := 2) rfl ?_); refine box_event (by rfl) (N := 2) (by rfl) (cs := #[.int .i64 a0_0, .int .i64 a0_1, .int .i64 a0_2, .int .i64 a0_3, .int .i64 a0_4, .int .i64 a0_5, .int .i64 a0_6]) (t := 29) zq4 ?_; intro gb245 hg w37 hbox hb; have BK245 := Aside0.mk (hbox); have GW245 := zgs HB hg; have GE245 := zgs HB hg; replace HB := zbs HB hb; clear hb hbox hg) | ((with_reducible refine gate_dst (N := 3) rfl ?_); refine box_event (by rfl) (N := 3) (by rfl) (cs := #[.int .i64 a1_0, .int .i64 a1_1]) (t := 27) zq4 ?_; intro gb246 hg w38 hbox hb; have BK246 := Aside0.mk (hbox); have GW246 := zgs HB hg; have GE246 := zgs HB hg; have NB245_246 := znp BK245 hg; have NB246_245 := znq BK245 hg; replace BK245 := zbb BK245 hb; replace HB := zbs HB hb; clear hb hbox hg; have hnb39 := NB245_246.out; have hnc39 := NB246_245.out; obtain ⟨hcz40_0, hcz40_1, hcz40_2, hcz40_3, hcz40_4, hcz40_5, hcz40_6, hfz40_0, hfz40_1, hfz40_2, hfz40_3, hfz40_4, hfz40_5, hfz40_6⟩ := zce7 BK245.out) | ((with_reducible refine gate_callee (f := 27) rfl ?_); refine goesL_ (some 16) rfl rfl Try.func27 zq1 rfl #[.agg #[.int .i64 a0_0, .int .i64 a0_1, .int .i64 a0_2, .int .i64 a0_3, .int .i64 a0_4, .int .i64 a0_5, .int .i64 a0_6]] rfl zq6 ?_; (with_reducible refine (glider_CheckVehicle.calls k a0_0 a0_1 a0_2 a0_3 a0_4 a0_5 a0_6 t247 _ A4.out).mono ?_); rintro e w41 ⟨rfl, hb⟩; refine ⟨_, rfl, ?_⟩; replace BK245 := zbb BK245 hb; replace BK246 := zbb BK246 hb; replace HB := zbs HB hb; (try clear hb); (try clear hb2); (try clear hk); (try clear hi); obtain ⟨hcz42_0, hcz42_1, hfz42_0, hfz42_1⟩ := zce2 BK246.out) | ((with_reducible refine gate_callee (f := 77) rfl ?_); refine goesL_ (some 23) rfl rfl Try.func77 zq1 rfl #[.agg #[.int .i64 a1_0, .int .i64 a1_1], .int .i64 0, .int .i64 1073741824] rfl zq6 ?_; (with_reducible refine (glider_bounded.calls k a1_0 a1_1 0 1073741824 false _ A6.out).mono ?_); rintro e w43 ⟨rfl, hb⟩; refine ⟨_, rfl, ?_⟩; replace BK245 := zbb BK245 hb; replace BK246 := zbb BK246 hb; replace HB := zbs HB hb; (try clear hb); (try clear hb2); (try clear hk); (try clear hi)))
   go_ret2
   exact ⟨zq7, zbz⟩
 ·rw [if_neg c5] at H
  have c5b0 : (t247 == 0) = false := beq_eq_false_iff_ne.mpr c5
  have c5b1 : (t247 != 0) = true := bne_iff_ne.mpr c5
  simp only [Option.some.injEq, Prod.mk.injEq] at H
  obtain ⟨rfl, rfl⟩ := H
  go_enter Try.func37, Try.ntmps37
  go_wp2_with (first | ((with_reducible refine gate_dst (N := 2) rfl ?_); refine box_event (by rfl) (N := 2) (by rfl) (cs := #[.int .i64 a0_0, .int .i64 a0_1, .int .i64 a0_2, .int .i64 a0_3, .int .i64 a0_4, .int .i64 a0_5, .int .i64 a0_6]) (t := 29) zq4 ?_; intro gb245 hg w44 hbox hb; have BK245 := Aside0.mk (hbox); have GW245 := zgs HB hg; have GE245 := zgs HB hg; replace HB := zbs HB hb; clear hb hbox hg) | ((with_reducible refine gate_dst (N := 3) rfl ?_); refine box_event (by rfl) (N := 3) (by rfl) (cs := #[.int .i64 a1_0, .int .i64 a1_1]) (t := 27) zq4 ?_; intro gb246 hg w45 hbox hb; have BK246 := Aside0.mk (hbox); have GW246 := zgs HB hg; have GE246 := zgs HB hg; have NB245_246 := znp BK245 hg; have NB246_245 := znq BK245 hg; replace BK245 := zbb BK245 hb; replace HB := zbs HB hb; clear hb hbox hg; have hnb46 := NB245_246.out; have hnc46 := NB246_245.out; obtain ⟨hcz47_0, hcz47_1, hcz47_2, hcz47_3, hcz47_4, hcz47_5, hcz47_6, hfz47_0, hfz47_1, hfz47_2, hfz47_3, hfz47_4, hfz47_5, hfz47_6⟩ := zce7 BK245.out) | ((with_reducible refine gate_callee (f := 27) rfl ?_); refine goesL_ (some 16) rfl rfl Try.func27 zq1 rfl #[.agg #[.int .i64 a0_0, .int .i64 a0_1, .int .i64 a0_2, .int .i64 a0_3, .int .i64 a0_4, .int .i64 a0_5, .int .i64 a0_6]] rfl zq6 ?_; (with_reducible refine (glider_CheckVehicle.calls k a0_0 a0_1 a0_2 a0_3 a0_4 a0_5 a0_6 t247 _ A4.out).mono ?_); rintro e w48 ⟨rfl, hb⟩; refine ⟨_, rfl, ?_⟩; replace BK245 := zbb BK245 hb; replace BK246 := zbb BK246 hb; replace HB := zbs HB hb; (try clear hb); (try clear hb2); (try clear hk); (try clear hi)))
  go_ret2
  exact ⟨zq7, zbz⟩

end Go.Proofs.Ytmhaiihjfgfaoaa.Pr
end
