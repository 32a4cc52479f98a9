/- Part 13 of the proof of ClockOrder: what the functions compute. No condition. -/
import Derived.Test.YtcjdhajdoikojaaCoClockOrder3
import Derived.Test.YtcjdhajdoikojaaCoClockOrder10
import Derived.Test.YtcjdhajdoikojaaCoClockOrder12
import Derived.Test.YtcjdhajdoikojaaCoClockOrder11
set_option linter.unusedVariables false
set_option linter.unusedSimpArgs false
section
namespace Go.Proofs.Ytcjdhajdoikojaa.Pr
open Go.RowKit Go.Proofs.YtcjdhajdoikojaaW.PrintWords Go.Proofs.YtcjdhajdoikojaaW.PrintLast Go.Proofs.YtcjdhajdoikojaaW.PrintMore
theorem zbbr {W0 W W1 : World} {g : Nat} {o : Obj} (h : Aside0 (W0.heap[g]? = some o)) (hb : Below W.heap.size W W1) (h2 : W.heap[g]? = some o := by (repeat first | (with_reducible first | refine blk_drewN ?_ _ | refine blk_drew ?_ | refine blk_alloc ?_ _) | refine blk_far ?_ (Aside0.out (by first | with_reducible assumption | assumption)) _); exact Aside0.out (by first | with_reducible assumption | assumption)) : Aside0 (W1.heap[g]? = some o) := ⟨blk_below h2 hb⟩
theorem zbsr {w W0 W W1 : World} (h : Aside0 (Below w.heap.size w W0)) (hb : Below W.heap.size W W1) (h2 : Below w.heap.size w W := by repeat (first | (with_reducible first | exact Aside0.out (by first | with_reducible assumption | assumption) | apply below_alloc | apply pw_below_drewN | apply below_drew1 | refine below_set ?_ (Aside0.out (by first | with_reducible assumption | assumption))) | exact Aside0.out (by first | with_reducible assumption | assumption))) : Aside0 (Below w.heap.size w W1) := ⟨below_step h2 hb⟩
theorem zgsr {w W0 W : World} {g : Nat} (h : Aside0 (Below w.heap.size w W0)) (hg : g = W.heap.size) (h2 : Below w.heap.size w W := by repeat (first | (with_reducible first | exact Aside0.out (by first | with_reducible assumption | assumption) | apply below_alloc | apply pw_below_drewN | apply below_drew1 | refine below_set ?_ (Aside0.out (by first | with_reducible assumption | assumption))) | exact Aside0.out (by first | with_reducible assumption | assumption))) : Aside0 (w.heap.size ≤ g) := ⟨by rw [hg]; exact below_size h2⟩
theorem zbzr {p : Prop} (h : p := by repeat (first | (with_reducible first | exact Aside0.out (by first | with_reducible assumption | assumption) | apply below_alloc | apply pw_below_drewN | apply below_drew1 | refine below_set ?_ (Aside0.out (by first | with_reducible assumption | assumption))) | exact Aside0.out (by first | with_reducible assumption | assumption))) : p := h
theorem zbfr {p : Prop} (h : p := by (repeat first | (with_reducible first | refine blk_drewN ?_ _ | refine blk_drew ?_ | refine blk_alloc ?_ _) | refine blk_far ?_ (Aside0.out (by first | with_reducible assumption | assumption)) _); exact Aside0.out (by first | with_reducible assumption | assumption)) : p := h
theorem zrbr {α : Type} {d : Kd α} {e base : Nat} {ok : Nat → Prop} {v : Value} {xs : List α} {W0 W W1 : World} (h : Aside0 (d.R e W0 base ok v xs)) (hb : Below W.heap.size W W1) (h2 : d.R e W base ok v xs := by (with_reducible repeat (first | apply Kd.R_alloc | apply Kd.R_drewN | apply Kd.R_drew)); exact Aside0.out (by first | with_reducible assumption | assumption)) : Aside0 (d.R e W1 base ok v xs) := ⟨Kd.R_below h2 hb⟩
attribute [local go_sem] max2_int min2_int max_two min_two
set_option linter.unusedVariables false
set_option linter.unusedSimpArgs false

/-! ### isobathlaw05_ClockOrder: function 13 -/
mutual
def isobathlaw05_ClockOrder.l0 : Nat → List (S86) → List Int → List (S35) → List Int → Int → Option (Bool)
 | 0, _, _, _, _, _ => none
 | k + 1, x0, x1, x5, x6, x7 => if x7 < (x0.length : Int) then (if 0 ≤ x7 then (if x7 < (x1.length : Int) then (if x5.length < 8796093022208 then ((isobathlaw01_Part.f (wrap64 ((rd_T86 x0 x7).f0)) (wrap64 ((wrap64 ((rd_T86 x0 x7).f0)) + (wrap64 ((rd_T86 x0 x7).f1)))) (rd x1 x7)).bind fun t637 => (if x6.length < 17592186044416 then (isobathlaw05_ClockOrder.l0 k x0 x1 (x5 ++ [(⟨wrap64 ((rd_T86 x0 x7).f0), wrap64 ((wrap64 ((rd_T86 x0 x7).f0)) + (wrap64 ((rd_T86 x0 x7).f1)))⟩ : S35)]) (x6 ++ [t637]) (wrap64 (x7 + 1))) else (none))) else (none)) else (if x5.length < 8796093022208 then ((isobathlaw01_Part.f (wrap64 ((rd_T86 x0 x7).f0)) (wrap64 ((wrap64 ((rd_T86 x0 x7).f0)) + (wrap64 ((rd_T86 x0 x7).f1)))) 0).bind fun t644 => (if x6.length < 17592186044416 then (isobathlaw05_ClockOrder.l0 k x0 x1 (x5 ++ [(⟨wrap64 ((rd_T86 x0 x7).f0), wrap64 ((wrap64 ((rd_T86 x0 x7).f0)) + (wrap64 ((rd_T86 x0 x7).f1)))⟩ : S35)]) (x6 ++ [t644]) (wrap64 (x7 + 1))) else (none))) else (none))) else (none)) else ((clock_Ranks.f k x5).bind fun bt648 => ((clock_Common.f x5).bind fun bt652 => (if bt648.2 = 0 then (if (bt648.1.length : Int) = (x5.length : Int) then (if bt652.2.2 = 0 then (isobathlaw05_ClockOrder.j1 k x5 x6 bt648.1 bt652.2.2 (decide (bt652.1 > bt652.2.1)) bt652.1 bt652.2.1) else (if bt652.2.2 = 5 then (isobathlaw05_ClockOrder.j1 k x5 x6 bt648.1 bt652.2.2 false bt652.1 bt652.2.1) else (isobathlaw05_ClockOrder.j1 k x5 x6 bt648.1 bt652.2.2 true bt652.1 bt652.2.1))) else (isobathlaw05_ClockOrder.j1 k x5 x6 bt648.1 bt652.2.2 true bt652.1 bt652.2.1)) else (isobathlaw05_ClockOrder.j1 k x5 x6 bt648.1 bt652.2.2 true bt652.1 bt652.2.1))))
def isobathlaw05_ClockOrder.j1 : Nat → List (S35) → List Int → List (S81) → Int → Bool → Int → Int → Option (Bool)
 | 0, _, _, _, _, _, _, _ => none
 | k + 1, x5, x6, x10, x13, x105, x656000, x656001 => if x105 = true then (some false) else (isobathlaw05_ClockOrder.l1 k x5 x6 x10 x13 0 x656000 x656001)
def isobathlaw05_ClockOrder.l1 : Nat → List (S35) → List Int → List (S81) → Int → Int → Int → Int → Option (Bool)
 | 0, _, _, _, _, _, _, _ => none
 | k + 1, x5, x6, x10, x13, x14, x656000, x656001 => if x14 < (x5.length : Int) then (isobathlaw05_ClockOrder.l2 k x5 x6 x10 x13 x14 0 0 0 x656000 x656001) else ((isobathlaw05_Works.f).bind fun t656 => (some t656))
def isobathlaw05_ClockOrder.l2 : Nat → List (S35) → List Int → List (S81) → Int → Int → Int → Int → Int → Int → Int → Option (Bool)
 | 0, _, _, _, _, _, _, _, _, _, _ => none
 | k + 1, x5, x6, x10, x13, x14, x15, x16, x17, x656000, x656001 => if x17 < (x5.length : Int) then (if 0 ≤ x17 then (if 0 ≤ x14 then (if x14 < (x5.length : Int) then ((clock_Before.f ((rd_T35 x5 x17).f0) ((rd_T35 x5 x17).f1) ((rd_T35 x5 x14).f0) ((rd_T35 x5 x14).f1)).bind fun bt659 => (if bt659.2 = 0 then (if bt659.1 = 2 then (if x17 < (x6.length : Int) then (if x14 < (x6.length : Int) then (if (rd x6 x17) ≥ (rd x6 x14) then (isobathlaw05_ClockOrder.j4 k x5 x6 x10 x13 x14 x15 x16 x17 true x656000 x656001) else (if bt659.1 = 0 then (if (rd x6 x17) < (rd x6 x14) then (isobathlaw05_ClockOrder.j4 k x5 x6 x10 x13 x14 x15 x16 x17 true x656000 x656001) else (if bt659.1 < 0 then (isobathlaw05_ClockOrder.j4 k x5 x6 x10 x13 x14 x15 x16 x17 true x656000 x656001) else (isobathlaw05_ClockOrder.j4 k x5 x6 x10 x13 x14 x15 x16 x17 (decide (bt659.1 > 2)) x656000 x656001))) else (if bt659.1 < 0 then (isobathlaw05_ClockOrder.j4 k x5 x6 x10 x13 x14 x15 x16 x17 true x656000 x656001) else (isobathlaw05_ClockOrder.j4 k x5 x6 x10 x13 x14 x15 x16 x17 (decide (bt659.1 > 2)) x656000 x656001)))) else (none)) else (none)) else (if bt659.1 = 0 then (if x17 < (x6.length : Int) then (if x14 < (x6.length : Int) then (if (rd x6 x17) < (rd x6 x14) then (isobathlaw05_ClockOrder.j4 k x5 x6 x10 x13 x14 x15 x16 x17 true x656000 x656001) else (if bt659.1 < 0 then (isobathlaw05_ClockOrder.j4 k x5 x6 x10 x13 x14 x15 x16 x17 true x656000 x656001) else (isobathlaw05_ClockOrder.j4 k x5 x6 x10 x13 x14 x15 x16 x17 (decide (bt659.1 > 2)) x656000 x656001))) else (none)) else (none)) else (if bt659.1 < 0 then (isobathlaw05_ClockOrder.j4 k x5 x6 x10 x13 x14 x15 x16 x17 true x656000 x656001) else (isobathlaw05_ClockOrder.j4 k x5 x6 x10 x13 x14 x15 x16 x17 (decide (bt659.1 > 2)) x656000 x656001)))) else (isobathlaw05_ClockOrder.j4 k x5 x6 x10 x13 x14 x15 x16 x17 true x656000 x656001))) else (none)) else (none)) else (none)) else (if x16 = 1 then (if 0 ≤ x14 then (if x14 < (x10.length : Int) then (if x15 < ((rd_T81 x10 x14).f0) then (isobathlaw05_ClockOrder.j5 k x5 x6 x10 x13 x14 true x656000 x656001) else (isobathlaw05_ClockOrder.j5 k x5 x6 x10 x13 x14 (decide (x15 > ((rd_T81 x10 x14).f1))) x656000 x656001)) else (none)) else (none)) else (isobathlaw05_ClockOrder.j5 k x5 x6 x10 x13 x14 false x656000 x656001))
def isobathlaw05_ClockOrder.j4 : Nat → List (S35) → List Int → List (S81) → Int → Int → Int → Int → Int → Bool → Int → Int → Option (Bool)
 | 0, _, _, _, _, _, _, _, _, _, _, _ => none
 | k + 1, x5, x6, x10, x13, x14, x15, x16, x17, x169, x656000, x656001 => if x169 = true then (some false) else (if 0 ≤ x17 then (if x17 < (x6.length : Int) then (if 0 ≤ x14 then (if x14 < (x6.length : Int) then (if (rd x6 x17) < (rd x6 x14) then (isobathlaw05_ClockOrder.l2 k x5 x6 x10 x13 x14 (wrap64 (x15 + 1)) x16 (wrap64 (x17 + 1)) x656000 x656001) else (if (rd x6 x17) = (rd x6 x14) then (isobathlaw05_ClockOrder.l2 k x5 x6 x10 x13 x14 x15 (wrap64 (x16 + 1)) (wrap64 (x17 + 1)) x656000 x656001) else (isobathlaw05_ClockOrder.l2 k x5 x6 x10 x13 x14 x15 x16 (wrap64 (x17 + 1)) x656000 x656001))) else (none)) else (none)) else (none)) else (none))
def isobathlaw05_ClockOrder.j5 : Nat → List (S35) → List Int → List (S81) → Int → Int → Bool → Int → Int → Option (Bool)
 | 0, _, _, _, _, _, _, _, _ => none
 | k + 1, x5, x6, x10, x13, x14, x211, x656000, x656001 => if x211 = true then (some false) else (if x13 = 0 then (if 0 ≤ x14 then (if x14 < (x5.length : Int) then ((isobathlaw05_inside.f x656000 x656001 ((rd_T35 x5 x14).f0) ((rd_T35 x5 x14).f1)).bind fun t674 => (if t674 = true then (isobathlaw05_ClockOrder.l1 k x5 x6 x10 x13 (wrap64 (x14 + 1)) x656000 x656001) else (some false))) else (none)) else (none)) else (isobathlaw05_ClockOrder.l1 k x5 x6 x10 x13 (wrap64 (x14 + 1)) x656000 x656001))
end
def isobathlaw05_ClockOrder.f (k : Nat) (l0 : List (S86)) (l1 : List Int) : Option (Bool) := if (l0.length : Int) > 20 then ((isobathlaw05_Works.f).bind fun t628 => (some t628)) else (isobathlaw05_ClockOrder.l0 k l0 l1 ([] : List (S35)) ([] : List Int) 0)
def isobathlaw05_ClockOrder.T8 : Bool × List (List Nat × List Nat) := (true, [([], []), ([], []), ([0, 1], [0, 1]), ([2], [2]), ([3], [3]), ([4], [4]), ([], []), ([], []), ([6, 7], [6, 7]), ([8], [8]), ([9], [9]), ([10], [10]), ([], []), ([], []), ([12, 13], [12, 13]), ([14], [14]), ([15], [15]), ([16], [16]), ([11, 17], [11, 17]), ([5, 18], [5, 18]), ([], []), ([20, 19, 0, 1, 2, 3, 4, 5, 6, 7, 8, 9, 10, 11, 12, 13, 14, 15, 16, 17, 18, 19, 20], [19, 20])])
def isobathlaw05_ClockOrder.B8 : List Nat := [0, 0, 3, 7, 15, 31, 0, 0, 192, 448, 960, 1984, 0, 0, 12288, 28672, 61440, 126976, 262080, 524287, 0, 2097151]
theorem isobathlaw05_ClockOrder.tab8 : rtab .any (opsOf Try.f13 8) = isobathlaw05_ClockOrder.T8 := by kernel_rfl
theorem isobathlaw05_ClockOrder.bits8 : waitsOk isobathlaw05_ClockOrder.T8.2 isobathlaw05_ClockOrder.B8 = true := by kernel_rfl
def isobathlaw05_ClockOrder.T25 : Bool × List (List Nat × List Nat) := (true, [([], []), ([], []), ([0, 1], [0, 1]), ([2], [2]), ([], []), ([], []), ([4, 5], [4, 5]), ([6], [6]), ([3, 7], [3, 7]), ([8], [8]), ([9], [9]), ([9], [9]), ([10, 8, 0, 1, 2, 3, 4, 5, 6, 7, 8, 9, 10], [10]), ([11, 12, 0, 1, 2, 3, 4, 5, 6, 7, 8, 9, 10, 11, 12], [11])])
def isobathlaw05_ClockOrder.B25 : List Nat := [0, 0, 3, 7, 0, 0, 48, 112, 255, 511, 1023, 1023, 2047, 8191]
theorem isobathlaw05_ClockOrder.tab25 : rtab .any (opsOf Try.f13 25) = isobathlaw05_ClockOrder.T25 := by kernel_rfl
theorem isobathlaw05_ClockOrder.bits25 : waitsOk isobathlaw05_ClockOrder.T25.2 isobathlaw05_ClockOrder.B25 = true := by kernel_rfl
def isobathlaw05_ClockOrder.T26 : Bool × List (List Nat × List Nat) := (true, [([], []), ([0], [0]), ([1], [1]), ([2], [2]), ([3, 2], [2, 3]), ([4, 2, 2], [2, 4]), ([5], [5]), ([5], [5]), ([6, 7, 5], [5, 6, 7]), ([8, 5], [5, 8]), ([5], [5]), ([5], [5]), ([10, 11, 5], [5, 10, 11]), ([12, 5], [5, 12]), ([9, 13, 5], [5, 9, 13]), ([5, 14, 2], [2, 5, 14]), ([2, 15], [2, 15]), ([16, 5], [16]), ([17], [17]), ([18, 17], [17, 18]), ([19, 17, 17], [17, 19]), ([20], [20]), ([20], [20]), ([21, 22, 20], [20, 21, 22]), ([23, 20], [20, 23]), ([20], [20]), ([20], [20]), ([25, 26, 20], [20, 25, 26]), ([27, 20], [20, 27]), ([24, 28, 20], [20, 24, 28]), ([20, 29, 17], [17, 20, 29]), ([17, 30], [17, 30]), ([31, 20], [31]), ([32], [32]), ([33, 32], [32, 33]), ([32, 34], [32, 34]), ([35, 32], [35]), ([36], [36]), ([37, 36], [36, 37]), ([36, 38], [36, 38])])
def isobathlaw05_ClockOrder.B26 : List Nat := [0, 1, 3, 7, 15, 31, 63, 63, 255, 511, 63, 63, 3135, 7231, 16383, 32767, 65535, 131071, 262143, 524287, 1048575, 2097151, 2097151, 8388607, 16777215, 2097151, 2097151, 102760447, 236978175, 536870911, 1073741823, 2147483647, 4294967295, 8589934591, 17179869183, 34359738367, 68719476735, 137438953471, 274877906943, 549755813887]
theorem isobathlaw05_ClockOrder.tab26 : rtab .any (opsOf Try.f13 26) = isobathlaw05_ClockOrder.T26 := by kernel_rfl
theorem isobathlaw05_ClockOrder.bits26 : waitsOk isobathlaw05_ClockOrder.T26.2 isobathlaw05_ClockOrder.B26 = true := by kernel_rfl
def isobathlaw05_ClockOrder.T28 : Bool × List (List Nat × List Nat) := (true, [([], []), ([], []), ([0, 1], [0, 1]), ([2], [2]), ([], []), ([], []), ([4, 5], [4, 5]), ([6], [6]), ([3, 7], [3, 7])])
def isobathlaw05_ClockOrder.B28 : List Nat := [0, 0, 3, 7, 0, 0, 48, 112, 255]
theorem isobathlaw05_ClockOrder.tab28 : rtab .any (opsOf Try.f13 28) = isobathlaw05_ClockOrder.T28 := by kernel_rfl
theorem isobathlaw05_ClockOrder.bits28 : waitsOk isobathlaw05_ClockOrder.T28.2 isobathlaw05_ClockOrder.B28 = true := by kernel_rfl
def isobathlaw05_ClockOrder.T30 : Bool × List (List Nat × List Nat) := (true, [([], []), ([], []), ([0, 1], [0, 1]), ([2], [2]), ([], []), ([], []), ([4, 5], [4, 5]), ([6], [6]), ([3, 7], [3, 7])])
def isobathlaw05_ClockOrder.B30 : List Nat := [0, 0, 3, 7, 0, 0, 48, 112, 255]
theorem isobathlaw05_ClockOrder.tab30 : rtab .any (opsOf Try.f13 30) = isobathlaw05_ClockOrder.T30 := by kernel_rfl
theorem isobathlaw05_ClockOrder.bits30 : waitsOk isobathlaw05_ClockOrder.T30.2 isobathlaw05_ClockOrder.B30 = true := by kernel_rfl
def isobathlaw05_ClockOrder.T34 : Bool × List (List Nat × List Nat) := (true, [([], []), ([0], [0]), ([1], [1]), ([2], [2]), ([2], [2]), ([2], [2]), ([4, 5, 2], [2, 4, 5]), ([6, 2], [2, 6]), ([3, 7, 2, 2], [2, 3, 7]), ([8, 2], [2, 8]), ([2, 9], [2, 9])])
def isobathlaw05_ClockOrder.B34 : List Nat := [0, 1, 3, 7, 7, 7, 55, 119, 255, 511, 1023]
theorem isobathlaw05_ClockOrder.tab34 : rtab .any (opsOf Try.f13 34) = isobathlaw05_ClockOrder.T34 := by kernel_rfl
theorem isobathlaw05_ClockOrder.bits34 : waitsOk isobathlaw05_ClockOrder.T34.2 isobathlaw05_ClockOrder.B34 = true := by kernel_rfl
set_option maxHeartbeats 80000000 in
set_option maxRecDepth 100000 in
theorem isobathlaw05_ClockOrder.calls (k : Nat) (A0 : Option Addr) (c0 : Nat) (l0 : List (S86)) (A1 : Option Addr) (c1 : Nat) (l1 : List Int) (r : Bool) (w : World) (hr0 : Kd.C k86 w A0 l0.length l0) (hc0 : l0.length ≤ c0) (hr1 : Kd.C (Kd.int .u16) w A1 l1.length l1) (hc1 : l1.length ≤ c1) (h : isobathlaw05_ClockOrder.f k l0 l1 = some r) (hr_ : Aside0 (r = true)) :
  Calls Try.prog 13 #[.slice A0 l0.length c0, .slice A1 l1.length c1] w fun e w' => e = .returned (.bool r) ∧ Below w.heap.size w w' := by
 have hu35 := Try.underlying35
 have HR0 := Aside0.mk hr0
 have HC0 := Aside0.mk hc0
 clear hr0 hc0
 have HR1 := Aside0.mk hr1
 have HC1 := Aside0.mk hc1
 clear hr1 hc1
 have HB := Aside0.mk (Below.refl w.heap.size w)
 have H : (if (l0.length : Int) > 20 then ((isobathlaw05_Works.f).bind fun t628 => (some t628)) else (isobathlaw05_ClockOrder.l0 k l0 l1 ([] : List (S35)) ([] : List Int) 0)) = some r := h
 clear h
 by_cases c3 : (l0.length : Int) > 20
 ·rw [if_pos c3] at H
  have c3b0 : decide (20 < (l0.length : Int)) = true := decide_eq_true c3
  have c3b1 : decide (20 < l0.length) = true := decide_eq_true (by omega)
  clear c3
  replace H := Option.bind_eq_some_iff.mp H
  obtain ⟨t628, A40, H⟩ := H
  replace H : (some t628) = some r := H
  have A4 := Aside0.mk A40
  clear A40
  obtain rfl := Option.some.inj H
  go_enter Try.func13, Try.ntmps13
  go_wp2_with (first | ((with_reducible refine gate_callee (f := 16) rfl ?_); refine goesL_ (some 23) rfl rfl Try.func16 zq1 rfl #[] rfl zq26 ?_; (with_reducible refine (isobathlaw05_Works.calls  t628 _ A4.out).mono ?_); rintro e w5 ⟨rfl, hb⟩; refine ⟨_, rfl, ?_⟩; replace HB := zbsr HB hb; (try clear hb); (try clear hb2); (try clear hk); (try clear hi)))
  go_ret
  exact ⟨zq3, zbzr⟩
 ·rw [if_neg c3] at H
  have c3b0 : decide (20 < (l0.length : Int)) = false := decide_eq_false c3
  have c3b1 : decide (20 < l0.length) = false := decide_eq_false (by omega)
  clear c3
  have H' := Aside0.mk H
  clear H
  go_enter Try.func13, Try.ntmps13
  go_wp2
  go_loopg [5, 6, 7] k (fun kq v5 v6 v7 w' => ∃ (x5_1 : List (S35)) (x6_1 : List Int) (x7_1 : Int), v7 = .int .i64 x7_1 ∧ Aside0 (isobathlaw05_ClockOrder.l0 kq l0 l1 x5_1 x6_1 x7_1 = some r) ∧ Aside0 (kq ≤ k) ∧ Aside0 (Kd.R k35 35 w' w.heap.size (fun _ => True) v5 x5_1) ∧ Aside0 (Kd.R (Kd.int .i64) 2 w' w.heap.size (fun _ => True) v6 x6_1) ∧ Aside0 (Below w.heap.size w w'))
  case atStart => exact ⟨(([] : List (S35))), (([] : List Int)), (0), zq23, H', ⟨Nat.le_refl _⟩, ⟨zq42⟩, ⟨zq42⟩, ⟨zbzr⟩⟩
  case round =>
   as_aux_lemma =>
    clear H'
    try clear c1
    try clear p2
    try clear c3
    try clear c3b0
    try clear c3b1
    obtain ⟨x5_1, x6_1, x7_1, rfl, HA, HK1, HO_5, HO_6, HB⟩ := hrel
    cases gk with
    | zero => exact absurd HA.out (by simp [isobathlaw05_ClockOrder.l0])
    | succ k1 =>
     have H := HA.out
     clear HA
     simp only [isobathlaw05_ClockOrder.l0] at H
     by_cases c6 : x7_1 < (l0.length : Int)
     ·rw [if_pos c6] at H
      have c6b0 : decide (x7_1 < (l0.length : Int)) = true := decide_eq_true c6
      clear c6
      by_cases c7 : 0 ≤ x7_1
      ·rw [if_pos c7] at H
       have c7b0 : decide (0 ≤ x7_1) = true := decide_eq_true c7
       clear c7
       by_cases c8 : x7_1 < (l1.length : Int)
       ·rw [if_pos c8] at H
        have c8b0 : decide (x7_1 < (l1.length : Int)) = true := decide_eq_true c8
        clear c8
        by_cases c9 : x5_1.length < 8796093022208
        ·rw [if_pos c9] at H
         have LMc9 := Aside0.mk c9
         clear c9
         obtain ⟨y634, hy634⟩ : ∃ y_ : List (S35), y_ = (x5_1 ++ [(⟨wrap64 ((rd_T86 l0 x7_1).f0), wrap64 ((wrap64 ((rd_T86 l0 x7_1).f0)) + (wrap64 ((rd_T86 l0 x7_1).f1)))⟩ : S35)]) := ⟨_, rfl⟩
         replace H : ((isobathlaw01_Part.f (wrap64 ((rd_T86 l0 x7_1).f0)) (wrap64 ((wrap64 ((rd_T86 l0 x7_1).f0)) + (wrap64 ((rd_T86 l0 x7_1).f1)))) (rd l1 x7_1)).bind fun t637 => (if x6_1.length < 17592186044416 then (isobathlaw05_ClockOrder.l0 k1 l0 l1 y634 (x6_1 ++ [t637]) (wrap64 (x7_1 + 1))) else (none))) = some r := by first | (rw [hy634]; with_reducible exact H) | (have H2_ := (Option.bind_some _ _).symm.trans H; rw [hy634]; with_reducible exact H2_) | (have H2_ := (Option.bind_some _ _).symm.trans H; with_reducible exact H2_) | with_reducible exact H | (rw [hy634]; exact H) | exact H
         have Ny634 := Aside0.mk hy634
         clear hy634
         replace H := Option.bind_eq_some_iff.mp H
         obtain ⟨t637, A100, H⟩ := H
         replace H : (if x6_1.length < 17592186044416 then (isobathlaw05_ClockOrder.l0 k1 l0 l1 y634 (x6_1 ++ [t637]) (wrap64 (x7_1 + 1))) else (none)) = some r := H
         have A10 := Aside0.mk A100
         clear A100
         by_cases c11 : x6_1.length < 17592186044416
         ·rw [if_pos c11] at H
          have LMc11 := Aside0.mk c11
          clear c11
          obtain ⟨y638, hy638⟩ : ∃ y_ : List Int, y_ = (x6_1 ++ [t637]) := ⟨_, rfl⟩
          replace H : (isobathlaw05_ClockOrder.l0 k1 l0 l1 y634 y638 (wrap64 (x7_1 + 1))) = some r := by first | (rw [hy638]; with_reducible exact H) | (have H2_ := (Option.bind_some _ _).symm.trans H; rw [hy638]; with_reducible exact H2_) | (have H2_ := (Option.bind_some _ _).symm.trans H; with_reducible exact H2_) | with_reducible exact H | (rw [hy638]; exact H) | exact H
          have Ny638 := Aside0.mk hy638
          clear hy638
          have H' := Aside0.mk H
          clear H
          try go_wp2
          replace HO_5 := Aside0.mk (Kd.R_drew HO_5.out)
          replace HO_6 := Aside0.mk (Kd.R_drew HO_6.out)
          replace HB := Aside0.mk (below_drew1 HB.out)
          have p629 : 0 ≤ (x7_1 : Int) := of_decide_eq_true zq25
          have q629 : x7_1 < (l0.length : Int) := of_decide_eq_true zq25
          obtain ⟨ad629, e629, hx629_0, hx629_1⟩ := at_T86 HR0.out x7_1 p629 q629
          have hw629_1 := hx629_1
          have hw629_0 := hx629_0
          cases e629
          replace hx629_0 := (HB.out.cell (World.block_lt_of_cell? w _ hx629_0)).trans hx629_0
          replace hx629_1 := (HB.out.cell (World.block_lt_of_cell? w _ hx629_1)).trans hx629_1
          replace p629 := eq_true p629
          replace q629 := eq_true q629
          have p630 : 0 ≤ (x7_1 : Int) := of_decide_eq_true zq25
          have q630 : x7_1 < (l0.length : Int) := of_decide_eq_true zq25
          obtain ⟨ad630, e630, hx630_0, hx630_1⟩ := at_T86 HR0.out x7_1 p630 q630
          have hw630_1 := hx630_1
          have hw630_0 := hx630_0
          obtain rfl : ad629 = ad630 := (by injection e630)
          replace hx630_0 := (HB.out.cell (World.block_lt_of_cell? w _ hx630_0)).trans hx630_0
          replace hx630_1 := (HB.out.cell (World.block_lt_of_cell? w _ hx630_1)).trans hx630_1
          replace p630 := eq_true p630
          replace q630 := eq_true q630
          have p631 : 0 ≤ (x7_1 : Int) := of_decide_eq_true zq25
          have q631 : x7_1 < (l0.length : Int) := of_decide_eq_true zq25
          obtain ⟨ad631, e631, hx631_0, hx631_1⟩ := at_T86 HR0.out x7_1 p631 q631
          have hw631_1 := hx631_1
          have hw631_0 := hx631_0
          obtain rfl : ad629 = ad631 := (by injection e631)
          replace hx631_0 := (HB.out.cell (World.block_lt_of_cell? w _ hx631_0)).trans hx631_0
          replace hx631_1 := (HB.out.cell (World.block_lt_of_cell? w _ hx631_1)).trans hx631_1
          replace p631 := eq_true p631
          replace q631 := eq_true q631
          refine start_ (n := 22) (S := fun w' => w'.cell? (ad629.add ((x7_1).toNat * 2)) = some (.int .u16 ((rd_T86 l0 x7_1).f0)) ∧ w'.cell? ⟨(ad629.add ((x7_1).toNat * 2)).block, (ad629.add ((x7_1).toNat * 2)).off + 1, none⟩ = some (.int .u16 ((rd_T86 l0 x7_1).f1)) ∧ w'.cell? (ad629.add ((x7_1).toNat * 2)) = some (.int .u16 ((rd_T86 l0 x7_1).f0)) ∧ w'.cell? ⟨(ad629.add ((x7_1).toNat * 2)).block, (ad629.add ((x7_1).toNat * 2)).off + 1, none⟩ = some (.int .u16 ((rd_T86 l0 x7_1).f1)) ∧ w'.cell? (ad629.add ((x7_1).toNat * 2)) = some (.int .u16 ((rd_T86 l0 x7_1).f0)) ∧ w'.cell? ⟨(ad629.add ((x7_1).toNat * 2)).block, (ad629.add ((x7_1).toNat * 2)).off + 1, none⟩ = some (.int .u16 ((rd_T86 l0 x7_1).f1))) (ds := []) #[false, false, false, false, false, false, false, false, false, false, false, false, false, false, false, false, false, false, false, false, false, false] zq1 rfl rfl ⟨((HB.out.cell (World.block_lt_of_cell? w _ hw629_0)).trans hw629_0), ((HB.out.cell (World.block_lt_of_cell? w _ hw629_1)).trans hw629_1), ((HB.out.cell (World.block_lt_of_cell? w _ hw630_0)).trans hw630_0), ((HB.out.cell (World.block_lt_of_cell? w _ hw630_1)).trans hw630_1), ((HB.out.cell (World.block_lt_of_cell? w _ hw631_0)).trans hw631_0), ((HB.out.cell (World.block_lt_of_cell? w _ hw631_1)).trans hw631_1)⟩ (fun hHeld => ?_); refine with_tabW isobathlaw05_ClockOrder.tab8 isobathlaw05_ClockOrder.bits8 (fun HT_ HW_ => ?_)
          generalize wr.drew = w12 at HO_5 HO_6 HB hx629_0 hx629_1 hx630_0 hx630_1 hx631_0 hx631_1 hHeld ⊢
          refine zpz (i := 0) (N := some 30) (any_of HT_.out zq1) ?_
          refine zpz (i := 1) (N := some 31) (any_of HT_.out zq1) ?_
          refine zpz (i := 2) (N := some 32) (any_of HT_.out zq1) ?_
          refine zpz (i := 3) (N := some 33) (any_of HT_.out zq1) ?_
          refine zpz (i := 6) (N := some 36) (any_of HT_.out zq1) ?_
          refine zpz (i := 7) (N := some 37) (any_of HT_.out zq1) ?_
          refine zpz (i := 8) (N := some 38) (any_of HT_.out zq1) ?_
          refine zpz (i := 9) (N := some 39) (any_of HT_.out zq1) ?_
          refine zpz (i := 12) (N := some 42) (any_of HT_.out zq1) ?_
          refine zpz (i := 13) (N := some 43) (any_of HT_.out zq1) ?_
          refine zpz (i := 14) (N := some 44) (any_of HT_.out zq1) ?_
          refine zpz (i := 15) (N := some 45) (any_of HT_.out zq1) ?_
          refine ztz (i := 4) (N := some 34) (take_ofW HT_.out HW_.out zq1) hHeld ?_
          refine zpz (i := 5) (N := some 35) (any_of HT_.out zq1) ?_
          refine ztz (i := 10) (N := some 40) (take_ofW HT_.out HW_.out zq1) hHeld ?_
          refine zpz (i := 11) (N := some 41) (any_of HT_.out zq1) ?_
          refine ztz (i := 16) (N := some 46) (take_ofW HT_.out HW_.out zq1) hHeld ?_
          refine zpz (i := 17) (N := some 47) (any_of HT_.out zq1) ?_
          refine zpz (i := 18) (N := some 48) (any_of HT_.out zq1) ?_
          refine zpz (i := 19) (N := some 49) (any_of HT_.out zq1) ?_
          refine one_ (i := 20) (N := some 8) #[true, true, true, true, true, true, true, true, true, true, true, true, true, true, true, true, true, true, true, true, true, false] rfl rfl (one_of HT_.out zq1) (by decide) (fun K hK => ?_)
          refine box_step ?hg (N := 8) ?hd (cs := #[.int .i64 0, .int .i64 0]) (t := 35) ?hr ?_; (case hd => rfl); (case hg => rfl); (case hr => first | (go_simp; done) | (go_simp; rfl))
          intro gb632 hg w13 hbox hb
          have BK632 := Aside0.mk (hbox)
          have GW632 := zgsr HB hg
          have GE632 := zgsr HB hg
          replace HO_5 := Aside0.mk (Kd.R_below (Kd.R_elderB zq39 gb632 (Nat.le_of_eq hg.symm)) hb)
          replace HO_6 := zrbr HO_6 hb
          replace HB := zbsr HB hb
          clear hb hbox hg
          refine hK.out _ _ ⟨((HB.out.cell (World.block_lt_of_cell? w _ hw629_0)).trans hw629_0), ((HB.out.cell (World.block_lt_of_cell? w _ hw629_1)).trans hw629_1), ((HB.out.cell (World.block_lt_of_cell? w _ hw630_0)).trans hw630_0), ((HB.out.cell (World.block_lt_of_cell? w _ hw630_1)).trans hw630_1), ((HB.out.cell (World.block_lt_of_cell? w _ hw631_0)).trans hw631_0), ((HB.out.cell (World.block_lt_of_cell? w _ hw631_1)).trans hw631_1)⟩ (fun hHeld => ?_)
          clear hK K
          refine norm_ zq43 ?_
          refine one_ (i := 21) (N := none) #[true, true, true, true, true, true, true, true, true, true, true, true, true, true, true, true, true, true, true, true, true, true] rfl rfl (one_of HT_.out zq1) (by decide) (fun K hK => ?_)
          have hs14 : w13.cell? ⟨gb632, 0, none⟩ = some (.int .i64 0) := (blk_cell BK632.out 0).trans rfl
          have hfs14 := blk_frozen BK632.out 0
          have hs15 : w13.cell? ⟨gb632, 1, none⟩ = some (.int .i64 0) := (blk_cell BK632.out 1).trans rfl
          have hfs15 := blk_frozen BK632.out 1
          refine skip_ (w1 := ?_) (by rfl) rfl ?_ ?_
          rotate_left
          ·go_simp
           rfl
          refine hK.out _ _ ⟨((cell_far (p := ⟨gb632, _, none⟩) zq44 _).trans (((cell_far (p := ⟨gb632, _, none⟩) zq44 _).trans (hHeld.1)))), ((cell_far (p := ⟨gb632, _, none⟩) zq45 _).trans (((cell_far (p := ⟨gb632, _, none⟩) zq45 _).trans (hHeld.2.1)))), ((cell_far (p := ⟨gb632, _, none⟩) zq46 _).trans (((cell_far (p := ⟨gb632, _, none⟩) zq46 _).trans (hHeld.2.2.1)))), ((cell_far (p := ⟨gb632, _, none⟩) zq47 _).trans (((cell_far (p := ⟨gb632, _, none⟩) zq47 _).trans (hHeld.2.2.2.1)))), ((cell_far (p := ⟨gb632, _, none⟩) zq48 _).trans (((cell_far (p := ⟨gb632, _, none⟩) zq48 _).trans (hHeld.2.2.2.2.1)))), ((cell_far (p := ⟨gb632, _, none⟩) zq49 _).trans (((cell_far (p := ⟨gb632, _, none⟩) zq49 _).trans (hHeld.2.2.2.2.2))))⟩ (fun hHeld => ?_)
          clear hK K
          refine done_ (done_of HT_.out zq1) ?_
          have p633 : 0 ≤ (x7_1 : Int) := of_decide_eq_true zq25
          have q633 : x7_1 < (l1.length : Int) := of_decide_eq_true zq25
          obtain ⟨ad633, e633, hx633_0⟩ := Kd.at_int HR1.out x7_1 p633 q633
          cases e633
          have hn633_0 : ad633.block ≠ gb632 := Nat.ne_of_lt (Nat.lt_of_lt_of_le (by have := World.block_lt_of_cell? _ _ hx633_0; first | rwa [add_block] at this | exact this) GW632.out)
          have hn633_1 : ad633.block ≠ gb632 := Nat.ne_of_lt (Nat.lt_of_lt_of_le (by have := World.block_lt_of_cell? _ _ hx633_0; first | rwa [add_block] at this | exact this) GW632.out)
          replace hx633_0 := (HB.out.cell (World.block_lt_of_cell? w _ hx633_0)).trans hx633_0
          replace hx633_0 := (cell_far (p := ⟨gb632, 0, none⟩) (by first | (rw [add_block]; exact hn633_0) | (show (Addr.add _ _).block ≠ _; rw [add_block]; exact hn633_0) | exact hn633_0) (.int .i64 (wrap64 ((rd_T86 l0 x7_1).f0)))).trans hx633_0
          replace hx633_0 := (cell_far (p := ⟨gb632, 1, none⟩) (by first | (rw [add_block]; exact hn633_1) | (show (Addr.add _ _).block ≠ _; rw [add_block]; exact hn633_1) | exact hn633_1) (.int .i64 (wrap64 ((wrap64 ((rd_T86 l0 x7_1).f0)) + (wrap64 ((rd_T86 l0 x7_1).f1)))))).trans hx633_0
          clear hn633_0 hn633_1
          replace p633 := eq_true p633
          replace q633 := eq_true q633
          obtain ⟨hcz16_0, hcz16_1, hfz16_0, hfz16_1⟩ := zce2 BK632.out
          try go_wp2_with (first | ((with_reducible refine gate_builtin (b := .append) (xs := #[.tmp 58, .tmp 60]) rfl ?_); (try (refine gate_guard (by rfl) ?_; dsimp only)); at_builtin; refine Kd.R_append k35 (w0 := w) w.heap.size rfl (.tmp 58) (.tmp 60) 65 35 (.agg #[(.int .i64 0), (.int .i64 0)]) 16 rfl Try.underlying65 info35 rfl (by decide) (by omega) u5 x5_1 (⟨wrap64 ((rd_T86 l0 x7_1).f0), wrap64 ((wrap64 ((rd_T86 l0 x7_1).f0)) + (wrap64 ((rd_T86 l0 x7_1).f1)))⟩ : S35) [.int .i64 (wrap64 ((rd_T86 l0 x7_1).f0)), .int .i64 (wrap64 ((wrap64 ((rd_T86 l0 x7_1).f0)) + (wrap64 ((rd_T86 l0 x7_1).f1))))] (fun k_ => k_ ≠ gb632) (fun _ => False) rfl zq2 ?aP (fun _ hk => hk.elim) ?aF ?aO ?aB ?aS ?aL ?_; (case aP => exact k35_mkM _ _ _ (⟨wrap64 ((rd_T86 l0 x7_1).f0), wrap64 ((wrap64 ((rd_T86 l0 x7_1).f0)) + (wrap64 ((rd_T86 l0 x7_1).f1)))⟩ : S35)); (case aB => exact zbzr); (case aF => exact (fun k_ hk => Kd.freshB (g := gb632) (o := .cells #[.int .i64 (wrap64 ((rd_T86 l0 x7_1).f0)), .int .i64 (wrap64 ((wrap64 ((rd_T86 l0 x7_1).f0)) + (wrap64 ((rd_T86 l0 x7_1).f1))))] 35 (0, 0)) (by (with_reducible repeat (first | refine blk_drewN ?_ _ | refine blk_drew ?_ | refine blk_alloc ?_ _)); refine blk_put (cs := #[.int .i64 (wrap64 ((rd_T86 l0 x7_1).f0)), .int .i64 0]) ?_ 1 _ rfl; (with_reducible repeat (first | refine blk_drewN ?_ _ | refine blk_drew ?_ | refine blk_alloc ?_ _)); refine blk_put (cs := #[.int .i64 0, .int .i64 0]) ?_ 0 _ rfl; (with_reducible repeat (first | refine blk_drewN ?_ _ | refine blk_drew ?_ | refine blk_alloc ?_ _)); exact BK632.out) k_ hk)); (case aO => exact zq50); (case aS => exact (below_size zbzr)); (case aL => have := LMc9.out; omega); intro v635 w17 ho hb hg hat; rw [← Ny634.out] at ho; have n0_ := Aside0.mk (Kd.R_over' zq51 (Kd.R_typed zq52) (by decide) hg); have n1_ := Aside0.mk (blk_grown (g := gb632) (o := .cells #[.int .i64 (wrap64 ((rd_T86 l0 x7_1).f0)), .int .i64 (wrap64 ((wrap64 ((rd_T86 l0 x7_1).f0)) + (wrap64 ((rd_T86 l0 x7_1).f1))))] 35 (0, 0)) (by (with_reducible repeat (first | refine blk_drewN ?_ _ | refine blk_drew ?_ | refine blk_alloc ?_ _)); refine blk_put (cs := #[.int .i64 (wrap64 ((rd_T86 l0 x7_1).f0)), .int .i64 0]) ?_ 1 _ rfl; (with_reducible repeat (first | refine blk_drewN ?_ _ | refine blk_drew ?_ | refine blk_alloc ?_ _)); refine blk_put (cs := #[.int .i64 0, .int .i64 0]) ?_ 0 _ rfl; (with_reducible repeat (first | refine blk_drewN ?_ _ | refine blk_drew ?_ | refine blk_alloc ?_ _)); exact BK632.out) hg (Kd.R_away HO_5.out (fun _ hk => hk.2))); have n2_ := Aside0.mk (hb); have n3_ := Aside0.mk (ho); clear HO_6; clear BK632; clear HB; clear HO_5; have HO_6 := n0_; have BK632 := n1_; have HB := n2_; have HO636 := n3_; clear n0_ n1_ n2_ n3_; clear ho hb hg hat; have hcz18_0 : w17.cell? ⟨gb632, 0, none⟩ = some (.int .i64 (wrap64 ((rd_T86 l0 x7_1).f0))) := (blk_cell BK632.out 0).trans rfl; have hcz18_1 : w17.cell? ⟨gb632, 1, none⟩ = some (.int .i64 (wrap64 ((wrap64 ((rd_T86 l0 x7_1).f0)) + (wrap64 ((rd_T86 l0 x7_1).f1))))) := (blk_cell BK632.out 1).trans rfl; obtain ⟨hfz18_0, hfz18_1⟩ := zfs2 BK632.out) | ((with_reducible refine gate_callee (f := 51) rfl ?_); refine goesL_ (some 65) rfl rfl Try.func51 zq1 rfl #[.agg #[.int .i64 (wrap64 ((rd_T86 l0 x7_1).f0)), .int .i64 (wrap64 ((wrap64 ((rd_T86 l0 x7_1).f0)) + (wrap64 ((rd_T86 l0 x7_1).f1))))], .int .u16 (rd l1 x7_1)] rfl zq26 ?_; (with_reducible refine (isobathlaw01_Part.calls (wrap64 ((rd_T86 l0 x7_1).f0)) (wrap64 ((wrap64 ((rd_T86 l0 x7_1).f0)) + (wrap64 ((rd_T86 l0 x7_1).f1)))) (rd l1 x7_1) t637 _ A10.out).mono ?_); rintro e w19 ⟨rfl, hb⟩; refine ⟨_, rfl, ?_⟩; replace HO_6 := zrbr HO_6 hb; replace HO636 := zrbr HO636 hb; replace BK632 := zbbr BK632 hb; replace HB := zbsr HB hb; (try clear hb); (try clear hb2); (try clear hk); (try clear hi)) | ((with_reducible refine gate_builtin (b := .append) (xs := #[.tmp 62, .tmp 66]) rfl ?_); (try (refine gate_guard (by rfl) ?_; dsimp only)); at_builtin; refine Kd.R_append (Kd.int .i64) (w0 := w) w.heap.size rfl (.tmp 62) (.tmp 66) 85 2 (.int .i64 0) 8 rfl Try.underlying85 info2 rfl (by decide) (by omega) u6 x6_1 t637 [.int .i64 t637] (fun _ => True) (fun _ => False) rfl rfl ?aP (fun _ hk => hk.elim) ?aF ?aO ?aB ?aS ?aL ?_; (case aP => exact rfl); (case aB => exact zbzr); (case aF => exact (fun _ _ => trivial)); (case aO => exact zq53); (case aS => exact (below_size zbzr)); (case aL => have := LMc11.out; omega); intro v639 w20 ho hb hg hat; rw [← Ny638.out] at ho; have n0_ := Aside0.mk (blk_grown (g := gb632) (o := .cells #[.int .i64 (wrap64 ((rd_T86 l0 x7_1).f0)), .int .i64 (wrap64 ((wrap64 ((rd_T86 l0 x7_1).f0)) + (wrap64 ((rd_T86 l0 x7_1).f1))))] 35 (0, 0)) zbfr hg (Kd.R_ne HO_6.out BK632.out (by decide))); have n1_ := Aside0.mk (Kd.R_over' (by (with_reducible repeat (first | apply Kd.R_alloc | apply Kd.R_drewN | apply Kd.R_drew)); exact HO636.out) (Kd.R_typed zq53) (by decide) hg); have n2_ := Aside0.mk (hb); have n3_ := Aside0.mk (ho); clear BK632; clear HO636; clear HB; clear HO_6; have BK632 := n0_; have HO636 := n1_; have HB := n2_; have HO640 := n3_; clear n0_ n1_ n2_ n3_; clear ho hb hg hat))
          go_roundg k1
          case measure => have := HK1.out; omega
          case rel => exact ⟨(y634), (y638), (wrap64 (x7_1 + 1)), zq23, H', ⟨by have := HK1.out; omega⟩, ⟨by (with_reducible repeat (first | apply Kd.R_alloc | apply Kd.R_drewN | apply Kd.R_drew)); exact Kd.R_mono HO636.out (fun _ hk => trivial)⟩, ⟨by (with_reducible repeat (first | apply Kd.R_alloc | apply Kd.R_drewN | apply Kd.R_drew)); exact HO640.out⟩, ⟨zbzr⟩⟩
         ·rw [if_neg c11] at H
          exact absurd H (by simp)
        ·rw [if_neg c9] at H
         exact absurd H (by simp)
       ·rw [if_neg c8] at H
        have c8b0 : decide (x7_1 < (l1.length : Int)) = false := decide_eq_false c8
        clear c8
        by_cases c21 : x5_1.length < 8796093022208
        ·rw [if_pos c21] at H
         have LMc21 := Aside0.mk c21
         clear c21
         obtain ⟨y641, hy641⟩ : ∃ y_ : List (S35), y_ = (x5_1 ++ [(⟨wrap64 ((rd_T86 l0 x7_1).f0), wrap64 ((wrap64 ((rd_T86 l0 x7_1).f0)) + (wrap64 ((rd_T86 l0 x7_1).f1)))⟩ : S35)]) := ⟨_, rfl⟩
         replace H : ((isobathlaw01_Part.f (wrap64 ((rd_T86 l0 x7_1).f0)) (wrap64 ((wrap64 ((rd_T86 l0 x7_1).f0)) + (wrap64 ((rd_T86 l0 x7_1).f1)))) 0).bind fun t644 => (if x6_1.length < 17592186044416 then (isobathlaw05_ClockOrder.l0 k1 l0 l1 y641 (x6_1 ++ [t644]) (wrap64 (x7_1 + 1))) else (none))) = some r := by first | (rw [hy641]; with_reducible exact H) | (have H2_ := (Option.bind_some _ _).symm.trans H; rw [hy641]; with_reducible exact H2_) | (have H2_ := (Option.bind_some _ _).symm.trans H; with_reducible exact H2_) | with_reducible exact H | (rw [hy641]; exact H) | exact H
         have Ny641 := Aside0.mk hy641
         clear hy641
         replace H := Option.bind_eq_some_iff.mp H
         obtain ⟨t644, A220, H⟩ := H
         replace H : (if x6_1.length < 17592186044416 then (isobathlaw05_ClockOrder.l0 k1 l0 l1 y641 (x6_1 ++ [t644]) (wrap64 (x7_1 + 1))) else (none)) = some r := H
         have A22 := Aside0.mk A220
         clear A220
         by_cases c23 : x6_1.length < 17592186044416
         ·rw [if_pos c23] at H
          have LMc23 := Aside0.mk c23
          clear c23
          obtain ⟨y645, hy645⟩ : ∃ y_ : List Int, y_ = (x6_1 ++ [t644]) := ⟨_, rfl⟩
          replace H : (isobathlaw05_ClockOrder.l0 k1 l0 l1 y641 y645 (wrap64 (x7_1 + 1))) = some r := by first | (rw [hy645]; with_reducible exact H) | (have H2_ := (Option.bind_some _ _).symm.trans H; rw [hy645]; with_reducible exact H2_) | (have H2_ := (Option.bind_some _ _).symm.trans H; with_reducible exact H2_) | with_reducible exact H | (rw [hy645]; exact H) | exact H
          have Ny645 := Aside0.mk hy645
          clear hy645
          have H' := Aside0.mk H
          clear H
          try go_wp2
          replace HO_5 := Aside0.mk (Kd.R_drew HO_5.out)
          replace HO_6 := Aside0.mk (Kd.R_drew HO_6.out)
          replace HB := Aside0.mk (below_drew1 HB.out)
          have p629 : 0 ≤ (x7_1 : Int) := of_decide_eq_true zq25
          have q629 : x7_1 < (l0.length : Int) := of_decide_eq_true zq25
          obtain ⟨ad629, e629, hx629_0, hx629_1⟩ := at_T86 HR0.out x7_1 p629 q629
          have hw629_1 := hx629_1
          have hw629_0 := hx629_0
          cases e629
          replace hx629_0 := (HB.out.cell (World.block_lt_of_cell? w _ hx629_0)).trans hx629_0
          replace hx629_1 := (HB.out.cell (World.block_lt_of_cell? w _ hx629_1)).trans hx629_1
          replace p629 := eq_true p629
          replace q629 := eq_true q629
          have p630 : 0 ≤ (x7_1 : Int) := of_decide_eq_true zq25
          have q630 : x7_1 < (l0.length : Int) := of_decide_eq_true zq25
          obtain ⟨ad630, e630, hx630_0, hx630_1⟩ := at_T86 HR0.out x7_1 p630 q630
          have hw630_1 := hx630_1
          have hw630_0 := hx630_0
          obtain rfl : ad629 = ad630 := (by injection e630)
          replace hx630_0 := (HB.out.cell (World.block_lt_of_cell? w _ hx630_0)).trans hx630_0
          replace hx630_1 := (HB.out.cell (World.block_lt_of_cell? w _ hx630_1)).trans hx630_1
          replace p630 := eq_true p630
          replace q630 := eq_true q630
          have p631 : 0 ≤ (x7_1 : Int) := of_decide_eq_true zq25
          have q631 : x7_1 < (l0.length : Int) := of_decide_eq_true zq25
          obtain ⟨ad631, e631, hx631_0, hx631_1⟩ := at_T86 HR0.out x7_1 p631 q631
          have hw631_1 := hx631_1
          have hw631_0 := hx631_0
          obtain rfl : ad629 = ad631 := (by injection e631)
          replace hx631_0 := (HB.out.cell (World.block_lt_of_cell? w _ hx631_0)).trans hx631_0
          replace hx631_1 := (HB.out.cell (World.block_lt_of_cell? w _ hx631_1)).trans hx631_1
          replace p631 := eq_true p631
          replace q631 := eq_true q631
          refine start_ (n := 22) (S := fun w' => w'.cell? (ad629.add ((x7_1).toNat * 2)) = some (.int .u16 ((rd_T86 l0 x7_1).f0)) ∧ w'.cell? ⟨(ad629.add ((x7_1).toNat * 2)).block, (ad629.add ((x7_1).toNat * 2)).off + 1, none⟩ = some (.int .u16 ((rd_T86 l0 x7_1).f1)) ∧ w'.cell? (ad629.add ((x7_1).toNat * 2)) = some (.int .u16 ((rd_T86 l0 x7_1).f0)) ∧ w'.cell? ⟨(ad629.add ((x7_1).toNat * 2)).block, (ad629.add ((x7_1).toNat * 2)).off + 1, none⟩ = some (.int .u16 ((rd_T86 l0 x7_1).f1)) ∧ w'.cell? (ad629.add ((x7_1).toNat * 2)) = some (.int .u16 ((rd_T86 l0 x7_1).f0)) ∧ w'.cell? ⟨(ad629.add ((x7_1).toNat * 2)).block, (ad629.add ((x7_1).toNat * 2)).off + 1, none⟩ = some (.int .u16 ((rd_T86 l0 x7_1).f1))) (ds := []) #[false, false, false, false, false, false, false, false, false, false, false, false, false, false, false, false, false, false, false, false, false, false] zq1 rfl rfl ⟨((HB.out.cell (World.block_lt_of_cell? w _ hw629_0)).trans hw629_0), ((HB.out.cell (World.block_lt_of_cell? w _ hw629_1)).trans hw629_1), ((HB.out.cell (World.block_lt_of_cell? w _ hw630_0)).trans hw630_0), ((HB.out.cell (World.block_lt_of_cell? w _ hw630_1)).trans hw630_1), ((HB.out.cell (World.block_lt_of_cell? w _ hw631_0)).trans hw631_0), ((HB.out.cell (World.block_lt_of_cell? w _ hw631_1)).trans hw631_1)⟩ (fun hHeld => ?_); refine with_tabW isobathlaw05_ClockOrder.tab8 isobathlaw05_ClockOrder.bits8 (fun HT_ HW_ => ?_)
          generalize wr.drew = w24 at HO_5 HO_6 HB hx629_0 hx629_1 hx630_0 hx630_1 hx631_0 hx631_1 hHeld ⊢
          refine zpz (i := 0) (N := some 30) (any_of HT_.out zq1) ?_
          refine zpz (i := 1) (N := some 31) (any_of HT_.out zq1) ?_
          refine zpz (i := 2) (N := some 32) (any_of HT_.out zq1) ?_
          refine zpz (i := 3) (N := some 33) (any_of HT_.out zq1) ?_
          refine zpz (i := 6) (N := some 36) (any_of HT_.out zq1) ?_
          refine zpz (i := 7) (N := some 37) (any_of HT_.out zq1) ?_
          refine zpz (i := 8) (N := some 38) (any_of HT_.out zq1) ?_
          refine zpz (i := 9) (N := some 39) (any_of HT_.out zq1) ?_
          refine zpz (i := 12) (N := some 42) (any_of HT_.out zq1) ?_
          refine zpz (i := 13) (N := some 43) (any_of HT_.out zq1) ?_
          refine zpz (i := 14) (N := some 44) (any_of HT_.out zq1) ?_
          refine zpz (i := 15) (N := some 45) (any_of HT_.out zq1) ?_
          refine ztz (i := 4) (N := some 34) (take_ofW HT_.out HW_.out zq1) hHeld ?_
          refine zpz (i := 5) (N := some 35) (any_of HT_.out zq1) ?_
          refine ztz (i := 10) (N := some 40) (take_ofW HT_.out HW_.out zq1) hHeld ?_
          refine zpz (i := 11) (N := some 41) (any_of HT_.out zq1) ?_
          refine ztz (i := 16) (N := some 46) (take_ofW HT_.out HW_.out zq1) hHeld ?_
          refine zpz (i := 17) (N := some 47) (any_of HT_.out zq1) ?_
          refine zpz (i := 18) (N := some 48) (any_of HT_.out zq1) ?_
          refine zpz (i := 19) (N := some 49) (any_of HT_.out zq1) ?_
          refine one_ (i := 20) (N := some 8) #[true, true, true, true, true, true, true, true, true, true, true, true, true, true, true, true, true, true, true, true, true, false] rfl rfl (one_of HT_.out zq1) (by decide) (fun K hK => ?_)
          refine box_step ?hg (N := 8) ?hd (cs := #[.int .i64 0, .int .i64 0]) (t := 35) ?hr ?_; (case hd => rfl); (case hg => rfl); (case hr => first | (go_simp; done) | (go_simp; rfl))
          intro gb632 hg w25 hbox hb
          have BK632 := Aside0.mk (hbox)
          have GW632 := zgsr HB hg
          have GE632 := zgsr HB hg
          replace HO_5 := Aside0.mk (Kd.R_below (Kd.R_elderB zq39 gb632 (Nat.le_of_eq hg.symm)) hb)
          replace HO_6 := zrbr HO_6 hb
          replace HB := zbsr HB hb
          clear hb hbox hg
          refine hK.out _ _ ⟨((HB.out.cell (World.block_lt_of_cell? w _ hw629_0)).trans hw629_0), ((HB.out.cell (World.block_lt_of_cell? w _ hw629_1)).trans hw629_1), ((HB.out.cell (World.block_lt_of_cell? w _ hw630_0)).trans hw630_0), ((HB.out.cell (World.block_lt_of_cell? w _ hw630_1)).trans hw630_1), ((HB.out.cell (World.block_lt_of_cell? w _ hw631_0)).trans hw631_0), ((HB.out.cell (World.block_lt_of_cell? w _ hw631_1)).trans hw631_1)⟩ (fun hHeld => ?_)
          clear hK K
          refine norm_ zq43 ?_
          refine one_ (i := 21) (N := none) #[true, true, true, true, true, true, true, true, true, true, true, true, true, true, true, true, true, true, true, true, true, true] rfl rfl (one_of HT_.out zq1) (by decide) (fun K hK => ?_)
          have hs26 : w25.cell? ⟨gb632, 0, none⟩ = some (.int .i64 0) := (blk_cell BK632.out 0).trans rfl
          have hfs26 := blk_frozen BK632.out 0
          have hs27 : w25.cell? ⟨gb632, 1, none⟩ = some (.int .i64 0) := (blk_cell BK632.out 1).trans rfl
          have hfs27 := blk_frozen BK632.out 1
          refine skip_ (w1 := ?_) (by rfl) rfl ?_ ?_
          rotate_left
          ·go_simp
           rfl
          refine hK.out _ _ ⟨((cell_far (p := ⟨gb632, _, none⟩) zq44 _).trans (((cell_far (p := ⟨gb632, _, none⟩) zq44 _).trans (hHeld.1)))), ((cell_far (p := ⟨gb632, _, none⟩) zq45 _).trans (((cell_far (p := ⟨gb632, _, none⟩) zq45 _).trans (hHeld.2.1)))), ((cell_far (p := ⟨gb632, _, none⟩) zq46 _).trans (((cell_far (p := ⟨gb632, _, none⟩) zq46 _).trans (hHeld.2.2.1)))), ((cell_far (p := ⟨gb632, _, none⟩) zq47 _).trans (((cell_far (p := ⟨gb632, _, none⟩) zq47 _).trans (hHeld.2.2.2.1)))), ((cell_far (p := ⟨gb632, _, none⟩) zq48 _).trans (((cell_far (p := ⟨gb632, _, none⟩) zq48 _).trans (hHeld.2.2.2.2.1)))), ((cell_far (p := ⟨gb632, _, none⟩) zq49 _).trans (((cell_far (p := ⟨gb632, _, none⟩) zq49 _).trans (hHeld.2.2.2.2.2))))⟩ (fun hHeld => ?_)
          clear hK K
          refine done_ (done_of HT_.out zq1) ?_
          obtain ⟨hcz28_0, hcz28_1, hfz28_0, hfz28_1⟩ := zce2 BK632.out
          try go_wp2_with (first | ((with_reducible refine gate_builtin (b := .append) (xs := #[.tmp 58, .tmp 60]) rfl ?_); (try (refine gate_guard (by rfl) ?_; dsimp only)); at_builtin; refine Kd.R_append k35 (w0 := w) w.heap.size rfl (.tmp 58) (.tmp 60) 65 35 (.agg #[(.int .i64 0), (.int .i64 0)]) 16 rfl Try.underlying65 info35 rfl (by decide) (by omega) u5 x5_1 (⟨wrap64 ((rd_T86 l0 x7_1).f0), wrap64 ((wrap64 ((rd_T86 l0 x7_1).f0)) + (wrap64 ((rd_T86 l0 x7_1).f1)))⟩ : S35) [.int .i64 (wrap64 ((rd_T86 l0 x7_1).f0)), .int .i64 (wrap64 ((wrap64 ((rd_T86 l0 x7_1).f0)) + (wrap64 ((rd_T86 l0 x7_1).f1))))] (fun k_ => k_ ≠ gb632) (fun _ => False) rfl zq2 ?aP (fun _ hk => hk.elim) ?aF ?aO ?aB ?aS ?aL ?_; (case aP => exact k35_mkM _ _ _ (⟨wrap64 ((rd_T86 l0 x7_1).f0), wrap64 ((wrap64 ((rd_T86 l0 x7_1).f0)) + (wrap64 ((rd_T86 l0 x7_1).f1)))⟩ : S35)); (case aB => exact zbzr); (case aF => exact (fun k_ hk => Kd.freshB (g := gb632) (o := .cells #[.int .i64 (wrap64 ((rd_T86 l0 x7_1).f0)), .int .i64 (wrap64 ((wrap64 ((rd_T86 l0 x7_1).f0)) + (wrap64 ((rd_T86 l0 x7_1).f1))))] 35 (0, 0)) (by (with_reducible repeat (first | refine blk_drewN ?_ _ | refine blk_drew ?_ | refine blk_alloc ?_ _)); refine blk_put (cs := #[.int .i64 (wrap64 ((rd_T86 l0 x7_1).f0)), .int .i64 0]) ?_ 1 _ rfl; (with_reducible repeat (first | refine blk_drewN ?_ _ | refine blk_drew ?_ | refine blk_alloc ?_ _)); refine blk_put (cs := #[.int .i64 0, .int .i64 0]) ?_ 0 _ rfl; (with_reducible repeat (first | refine blk_drewN ?_ _ | refine blk_drew ?_ | refine blk_alloc ?_ _)); exact BK632.out) k_ hk)); (case aO => exact zq50); (case aS => exact (below_size zbzr)); (case aL => have := LMc21.out; omega); intro v642 w29 ho hb hg hat; rw [← Ny641.out] at ho; have n0_ := Aside0.mk (Kd.R_over' zq51 (Kd.R_typed zq52) (by decide) hg); have n1_ := Aside0.mk (blk_grown (g := gb632) (o := .cells #[.int .i64 (wrap64 ((rd_T86 l0 x7_1).f0)), .int .i64 (wrap64 ((wrap64 ((rd_T86 l0 x7_1).f0)) + (wrap64 ((rd_T86 l0 x7_1).f1))))] 35 (0, 0)) (by (with_reducible repeat (first | refine blk_drewN ?_ _ | refine blk_drew ?_ | refine blk_alloc ?_ _)); refine blk_put (cs := #[.int .i64 (wrap64 ((rd_T86 l0 x7_1).f0)), .int .i64 0]) ?_ 1 _ rfl; (with_reducible repeat (first | refine blk_drewN ?_ _ | refine blk_drew ?_ | refine blk_alloc ?_ _)); refine blk_put (cs := #[.int .i64 0, .int .i64 0]) ?_ 0 _ rfl; (with_reducible repeat (first | refine blk_drewN ?_ _ | refine blk_drew ?_ | refine blk_alloc ?_ _)); exact BK632.out) hg (Kd.R_away HO_5.out (fun _ hk => hk.2))); have n2_ := Aside0.mk (hb); have n3_ := Aside0.mk (ho); clear HO_6; clear BK632; clear HB; clear HO_5; have HO_6 := n0_; have BK632 := n1_; have HB := n2_; have HO643 := n3_; clear n0_ n1_ n2_ n3_; clear ho hb hg hat; have hcz30_0 : w29.cell? ⟨gb632, 0, none⟩ = some (.int .i64 (wrap64 ((rd_T86 l0 x7_1).f0))) := (blk_cell BK632.out 0).trans rfl; have hcz30_1 : w29.cell? ⟨gb632, 1, none⟩ = some (.int .i64 (wrap64 ((wrap64 ((rd_T86 l0 x7_1).f0)) + (wrap64 ((rd_T86 l0 x7_1).f1))))) := (blk_cell BK632.out 1).trans rfl; obtain ⟨hfz30_0, hfz30_1⟩ := zfs2 BK632.out) | ((with_reducible refine gate_callee (f := 51) rfl ?_); refine goesL_ (some 65) rfl rfl Try.func51 zq1 rfl #[.agg #[.int .i64 (wrap64 ((rd_T86 l0 x7_1).f0)), .int .i64 (wrap64 ((wrap64 ((rd_T86 l0 x7_1).f0)) + (wrap64 ((rd_T86 l0 x7_1).f1))))], .int .u16 0] rfl zq26 ?_; (with_reducible refine (isobathlaw01_Part.calls (wrap64 ((rd_T86 l0 x7_1).f0)) (wrap64 ((wrap64 ((rd_T86 l0 x7_1).f0)) + (wrap64 ((rd_T86 l0 x7_1).f1)))) 0 t644 _ A22.out).mono ?_); rintro e w31 ⟨rfl, hb⟩; refine ⟨_, rfl, ?_⟩; replace HO_6 := zrbr HO_6 hb; replace HO643 := zrbr HO643 hb; replace BK632 := zbbr BK632 hb; replace HB := zbsr HB hb; (try clear hb); (try clear hb2); (try clear hk); (try clear hi)) | ((with_reducible refine gate_builtin (b := .append) (xs := #[.tmp 62, .tmp 66]) rfl ?_); (try (refine gate_guard (by rfl) ?_; dsimp only)); at_builtin; refine Kd.R_append (Kd.int .i64) (w0 := w) w.heap.size rfl (.tmp 62) (.tmp 66) 85 2 (.int .i64 0) 8 rfl Try.underlying85 info2 rfl (by decide) (by omega) u6 x6_1 t644 [.int .i64 t644] (fun _ => True) (fun _ => False) rfl rfl ?aP (fun _ hk => hk.elim) ?aF ?aO ?aB ?aS ?aL ?_; (case aP => exact rfl); (case aB => exact zbzr); (case aF => exact (fun _ _ => trivial)); (case aO => exact zq53); (case aS => exact (below_size zbzr)); (case aL => have := LMc23.out; omega); intro v646 w32 ho hb hg hat; rw [← Ny645.out] at ho; have n0_ := Aside0.mk (blk_grown (g := gb632) (o := .cells #[.int .i64 (wrap64 ((rd_T86 l0 x7_1).f0)), .int .i64 (wrap64 ((wrap64 ((rd_T86 l0 x7_1).f0)) + (wrap64 ((rd_T86 l0 x7_1).f1))))] 35 (0, 0)) zbfr hg (Kd.R_ne HO_6.out BK632.out (by decide))); have n1_ := Aside0.mk (Kd.R_over' (by (with_reducible repeat (first | apply Kd.R_alloc | apply Kd.R_drewN | apply Kd.R_drew)); exact HO643.out) (Kd.R_typed zq53) (by decide) hg); have n2_ := Aside0.mk (hb); have n3_ := Aside0.mk (ho); clear BK632; clear HO643; clear HB; clear HO_6; have BK632 := n0_; have HO643 := n1_; have HB := n2_; have HO647 := n3_; clear n0_ n1_ n2_ n3_; clear ho hb hg hat))
          go_roundg k1
          case measure => have := HK1.out; omega
          case rel => exact ⟨(y641), (y645), (wrap64 (x7_1 + 1)), zq23, H', ⟨by have := HK1.out; omega⟩, ⟨by (with_reducible repeat (first | apply Kd.R_alloc | apply Kd.R_drewN | apply Kd.R_drew)); exact Kd.R_mono HO643.out (fun _ hk => trivial)⟩, ⟨by (with_reducible repeat (first | apply Kd.R_alloc | apply Kd.R_drewN | apply Kd.R_drew)); exact HO647.out⟩, ⟨zbzr⟩⟩
         ·rw [if_neg c23] at H
          exact absurd H (by simp)
        ·rw [if_neg c21] at H
         exact absurd H (by simp)
      ·rw [if_neg c7] at H
       exact absurd H (by simp)
     ·rw [if_neg c6] at H
      have c6b0 : decide (x7_1 < (l0.length : Int)) = false := decide_eq_false c6
      clear c6
      replace H := Option.bind_eq_some_iff.mp H
      obtain ⟨⟨t648, t649⟩, A330, H⟩ := H
      replace H : ((clock_Common.f x5_1).bind fun bt652 => (if t649 = 0 then (if (t648.length : Int) = (x5_1.length : Int) then (if bt652.2.2 = 0 then (isobathlaw05_ClockOrder.j1 k1 x5_1 x6_1 t648 bt652.2.2 (decide (bt652.1 > bt652.2.1)) bt652.1 bt652.2.1) else (if bt652.2.2 = 5 then (isobathlaw05_ClockOrder.j1 k1 x5_1 x6_1 t648 bt652.2.2 false bt652.1 bt652.2.1) else (isobathlaw05_ClockOrder.j1 k1 x5_1 x6_1 t648 bt652.2.2 true bt652.1 bt652.2.1))) else (isobathlaw05_ClockOrder.j1 k1 x5_1 x6_1 t648 bt652.2.2 true bt652.1 bt652.2.1)) else (isobathlaw05_ClockOrder.j1 k1 x5_1 x6_1 t648 bt652.2.2 true bt652.1 bt652.2.1))) = some r := H
      have A33 := Aside0.mk A330
      clear A330
      replace H := Option.bind_eq_some_iff.mp H
      obtain ⟨⟨t652, t653, t654⟩, A340, H⟩ := H
      replace H : (if t649 = 0 then (if (t648.length : Int) = (x5_1.length : Int) then (if t654 = 0 then (isobathlaw05_ClockOrder.j1 k1 x5_1 x6_1 t648 t654 (decide (t652 > t653)) t652 t653) else (if t654 = 5 then (isobathlaw05_ClockOrder.j1 k1 x5_1 x6_1 t648 t654 false t652 t653) else (isobathlaw05_ClockOrder.j1 k1 x5_1 x6_1 t648 t654 true t652 t653))) else (isobathlaw05_ClockOrder.j1 k1 x5_1 x6_1 t648 t654 true t652 t653)) else (isobathlaw05_ClockOrder.j1 k1 x5_1 x6_1 t648 t654 true t652 t653)) = some r := H
      have A34 := Aside0.mk A340
      clear A340
      have HC35 := Aside0.mk H
      clear H
      obtain ⟨Ao36, co36, eo36⟩ := Kd.R_slice HO_5.out
      subst eo36
      go_upto_region 16 with (first | ((with_reducible refine gate_callee (f := 47) rfl ?_); refine goesL_ (some 70) rfl rfl Try.func47 zq1 rfl #[.slice Ao36 x5_1.length co36] rfl zq26 ?_; (with_reducible refine (clock_Ranks.calls k1 _ _ x5_1 t648 t649 _ ?side1 ?side2 A33.out).mono ?_); (case side1 => repeat (first | exact (Kd.R_reads' HO_5.out).2.2 | (with_reducible refine Kd.C_alloc ?_ _) | (with_reducible refine Kd.C_drewN ?_ _) | (with_reducible refine Kd.C_drew ?_))); (case side2 => exact (Kd.R_reads' HO_5.out).2.1); rintro e w37 ⟨v650, rfl, ho0, hb⟩; refine ⟨_, rfl, ?_⟩; have HO651 := Aside0.mk (Kd.R_lower ho0 (below_size zbzr)); replace HO_5 := zrbr HO_5 hb; replace HO_6 := zrbr HO_6 hb; replace HB := zbsr HB hb; (try clear hb); (try clear hb2); (try clear hk); (try clear hi); (try clear ho0)) | ((with_reducible refine gate_callee (f := 49) rfl ?_); refine goesL_ (some 75) rfl rfl Try.func49 zq1 rfl #[.slice Ao36 x5_1.length co36] rfl zq26 ?_; (with_reducible refine (clock_Common.calls _ _ x5_1 t652 t653 t654 _ ?side1 ?side2 A34.out).mono ?_); (case side1 => repeat (first | exact (Kd.R_reads' HO_5.out).2.2 | (with_reducible refine Kd.C_alloc ?_ _) | (with_reducible refine Kd.C_drewN ?_ _) | (with_reducible refine Kd.C_drew ?_))); (case side2 => exact (Kd.R_reads' HO_5.out).2.1); rintro e w38 ⟨rfl, hb⟩; refine ⟨_, rfl, ?_⟩; replace HO_5 := zrbr HO_5 hb; replace HO_6 := zrbr HO_6 hb; replace HO651 := zrbr HO651 hb; replace HB := zbsr HB hb; (try clear hb); (try clear hb2); (try clear hk); (try clear hi)) | ((with_reducible refine gate_dst (N := 12) rfl ?_); (try (refine gate_guard (by rfl) ?_; dsimp only)); refine box_event (by rfl) (N := 12) (by rfl) (cs := #[.int .i64 0, .int .i64 0]) (t := 35) zq2 ?_; intro gb655 hg w39 hbox hb; have BK655 := Aside0.mk (hbox); have GW655 := zgsr HB hg; have GE655 := zgsr HB hg; replace HO_5 := Aside0.mk (Kd.R_below (Kd.R_elderB zq39 gb655 (Nat.le_of_eq hg.symm)) hb); replace HO_6 := zrbr HO_6 hb; replace HO651 := zrbr HO651 hb; replace HB := zbsr HB hb; clear hb hbox hg; obtain ⟨hcz40_0, hcz40_1, hfz40_0, hfz40_1⟩ := zce2 BK655.out))
      (try simp only [Act.put, List.setIfInBounds_toArray, List.set_cons_zero, List.set_cons_succ])
      go_cut [105] (fun v105 wc => ∃ (kq : Nat) (x105_34 : Bool), v105 = .bool x105_34 ∧ Aside0 (isobathlaw05_ClockOrder.j1 kq x5_1 x6_1 t648 t654 x105_34 t652 t653 = some r) ∧ Aside0 (kq ≤ k1) ∧ Aside0 (Kd.R k35 35 wc w.heap.size (fun k_ => k_ ≠ gb655) (.slice Ao36 x5_1.length co36) x5_1) ∧ Aside0 (Kd.R (Kd.int .i64) 2 wc w.heap.size (fun _ => True) u6 x6_1) ∧ Aside0 (Kd.R k81 81 wc w.heap.size (fun _ => True) v650 t648) ∧ Aside0 (wc.heap[gb655]? = some (.cells #[.int .i64 t652, .int .i64 t653] 35 (0, 0))) ∧ Aside0 (Below w.heap.size w wc))
      case first =>
       as_aux_lemma =>
        have H := HC35.out
        clear HC35
        by_cases c41 : t649 = 0
        ·rw [if_pos c41] at H
         have c41b0 : (t649 == 0) = true := beq_iff_eq.mpr c41
         have c41b1 : (t649 != 0) = false := bne_eq_false_iff_eq.mpr c41
         clear c41
         (first | rw [c41b0] | (simp only [i64_w, i32_w]; rw [c41b0]) | skip)
         by_cases c42 : (t648.length : Int) = (x5_1.length : Int)
         ·rw [if_pos c42] at H
          have c42b0 : ((t648.length : Int) == (x5_1.length : Int)) = true := beq_iff_eq.mpr c42
          have c42b1 : ((t648.length : Int) != (x5_1.length : Int)) = false := bne_eq_false_iff_eq.mpr c42
          have c42b2 : (t648.length == x5_1.length) = true := by first | simpa using c42 | (simp at c42 ⊢; omega)
          clear c42
          by_cases c43 : t654 = 0
          ·rw [if_pos c43] at H
           have c43b0 : (t654 == 0) = true := beq_iff_eq.mpr c43
           have c43b1 : (t654 != 0) = false := bne_eq_false_iff_eq.mpr c43
           clear c43
           have H' := Aside0.mk H
           clear H
           obtain ⟨Ao44, co44, eo44⟩ := Kd.R_slice HO651.out
           subst eo44
           obtain ⟨hcz45_0, hcz45_1, hfz45_0, hfz45_1⟩ := zce2 BK655.out
           go_wp2
           go_meet
           case rel => exact ⟨_, (decide (t652 > t653)), zq23, H', ⟨zq54⟩, ⟨zq55⟩, ⟨zq56⟩, ⟨zq57⟩, ⟨by (with_reducible repeat (first | refine blk_drewN ?_ _ | refine blk_drew ?_ | refine blk_alloc ?_ _)); refine blk_put (cs := #[.int .i64 t652, .int .i64 0]) ?_ 1 _ rfl; (with_reducible repeat (first | refine blk_drewN ?_ _ | refine blk_drew ?_ | refine blk_alloc ?_ _)); refine blk_put (cs := #[.int .i64 0, .int .i64 0]) ?_ 0 _ rfl; (with_reducible repeat (first | refine blk_drewN ?_ _ | refine blk_drew ?_ | refine blk_alloc ?_ _)); exact BK655.out⟩, ⟨zbzr⟩⟩
          ·rw [if_neg c43] at H
           have c43b0 : (t654 == 0) = false := beq_eq_false_iff_ne.mpr c43
           have c43b1 : (t654 != 0) = true := bne_iff_ne.mpr c43
           by_cases c46 : t654 = 5
           ·rw [if_pos c46] at H
            have c46b0 : (t654 == 5) = true := beq_iff_eq.mpr c46
            have c46b1 : (t654 != 5) = false := bne_eq_false_iff_eq.mpr c46
            clear c46
            have H' := Aside0.mk H
            clear H
            obtain ⟨Ao47, co47, eo47⟩ := Kd.R_slice HO651.out
            subst eo47
            go_wp2
            go_meet
            case rel => exact ⟨_, (false), zq23, H', ⟨zq54⟩, ⟨zq55⟩, ⟨zq56⟩, ⟨zq57⟩, ⟨by (with_reducible repeat (first | refine blk_drewN ?_ _ | refine blk_drew ?_ | refine blk_alloc ?_ _)); refine blk_put (cs := #[.int .i64 t652, .int .i64 0]) ?_ 1 _ rfl; (with_reducible repeat (first | refine blk_drewN ?_ _ | refine blk_drew ?_ | refine blk_alloc ?_ _)); refine blk_put (cs := #[.int .i64 0, .int .i64 0]) ?_ 0 _ rfl; (with_reducible repeat (first | refine blk_drewN ?_ _ | refine blk_drew ?_ | refine blk_alloc ?_ _)); exact BK655.out⟩, ⟨zbzr⟩⟩
           ·rw [if_neg c46] at H
            have c46b0 : (t654 == 5) = false := beq_eq_false_iff_ne.mpr c46
            have c46b1 : (t654 != 5) = true := bne_iff_ne.mpr c46
            have H' := Aside0.mk H
            clear H
            obtain ⟨Ao48, co48, eo48⟩ := Kd.R_slice HO651.out
            subst eo48
            go_wp2
            go_meet
            case rel => exact ⟨_, (true), zq23, H', ⟨zq54⟩, ⟨zq55⟩, ⟨zq56⟩, ⟨zq57⟩, ⟨by (with_reducible repeat (first | refine blk_drewN ?_ _ | refine blk_drew ?_ | refine blk_alloc ?_ _)); refine blk_put (cs := #[.int .i64 t652, .int .i64 0]) ?_ 1 _ rfl; (with_reducible repeat (first | refine blk_drewN ?_ _ | refine blk_drew ?_ | refine blk_alloc ?_ _)); refine blk_put (cs := #[.int .i64 0, .int .i64 0]) ?_ 0 _ rfl; (with_reducible repeat (first | refine blk_drewN ?_ _ | refine blk_drew ?_ | refine blk_alloc ?_ _)); exact BK655.out⟩, ⟨zbzr⟩⟩
         ·rw [if_neg c42] at H
          have c42b0 : ((t648.length : Int) == (x5_1.length : Int)) = false := beq_eq_false_iff_ne.mpr c42
          have c42b1 : ((t648.length : Int) != (x5_1.length : Int)) = true := bne_iff_ne.mpr c42
          have c42b2 : (t648.length == x5_1.length) = false := by first | simpa using c42 | (simp at c42 ⊢; omega)
          have H' := Aside0.mk H
          clear H
          obtain ⟨Ao49, co49, eo49⟩ := Kd.R_slice HO651.out
          subst eo49
          go_wp2
          go_meet
          case rel => exact ⟨_, (true), zq23, H', ⟨zq54⟩, ⟨zq55⟩, ⟨zq56⟩, ⟨zq57⟩, ⟨by (with_reducible repeat (first | refine blk_drewN ?_ _ | refine blk_drew ?_ | refine blk_alloc ?_ _)); refine blk_put (cs := #[.int .i64 t652, .int .i64 0]) ?_ 1 _ rfl; (with_reducible repeat (first | refine blk_drewN ?_ _ | refine blk_drew ?_ | refine blk_alloc ?_ _)); refine blk_put (cs := #[.int .i64 0, .int .i64 0]) ?_ 0 _ rfl; (with_reducible repeat (first | refine blk_drewN ?_ _ | refine blk_drew ?_ | refine blk_alloc ?_ _)); exact BK655.out⟩, ⟨zbzr⟩⟩
        ·rw [if_neg c41] at H
         have c41b0 : (t649 == 0) = false := beq_eq_false_iff_ne.mpr c41
         have c41b1 : (t649 != 0) = true := bne_iff_ne.mpr c41
         (first | rw [c41b0] | (simp only [i64_w, i32_w]; rw [c41b0]) | skip)
         have H' := Aside0.mk H
         clear H
         go_wp2
         go_meet
         case rel => exact ⟨_, (true), zq23, H', ⟨zq54⟩, ⟨zq55⟩, ⟨zq56⟩, ⟨zq57⟩, ⟨by (with_reducible repeat (first | refine blk_drewN ?_ _ | refine blk_drew ?_ | refine blk_alloc ?_ _)); refine blk_put (cs := #[.int .i64 t652, .int .i64 0]) ?_ 1 _ rfl; (with_reducible repeat (first | refine blk_drewN ?_ _ | refine blk_drew ?_ | refine blk_alloc ?_ _)); refine blk_put (cs := #[.int .i64 0, .int .i64 0]) ?_ 0 _ rfl; (with_reducible repeat (first | refine blk_drewN ?_ _ | refine blk_drew ?_ | refine blk_alloc ?_ _)); exact BK655.out⟩, ⟨zbzr⟩⟩
      case rest =>
       as_aux_lemma =>
        clear HC35
        try clear c1
        try clear c2
        try clear p2
        try clear c4
        try clear c5
        try clear c6
        try clear c6b0
        try clear p6
        try clear q6
        try clear hx6
        try clear c7
        try clear c8
        try clear c8b0
        try clear c9
        try clear c11
        try clear c21
        try clear c23
        try clear c41
        try clear c41b0
        try clear c41b1
        try clear c42
        try clear c42b0
        try clear c42b1
        try clear c42b2
        try clear c43
        try clear c43b0
        try clear c43b1
        try clear c46
        try clear c46b0
        try clear c46b1
        try clear c47
        try clear c49
        try clear hcz16_0 hcz16_1
        try clear hcz18_0 hcz18_1
        try clear hcz28_0 hcz28_1
        try clear hcz30_0 hcz30_1
        try clear hcz40_0 hcz40_1
        try clear hcz45_0 hcz45_1
        try clear hfz16_0 hfz16_1
        try clear hfz18_0 hfz18_1
        try clear hfz28_0 hfz28_1
        try clear hfz30_0 hfz30_1
        try clear hfz40_0 hfz40_1
        try clear hfz45_0 hfz45_1
        try clear hx629_0 hx629_1
        try clear hx630_0 hx630_1
        try clear hx631_0 hx631_1
        try clear hx633_0
        try clear p629
        try clear p630
        try clear p631
        try clear p633
        try clear q629
        try clear q630
        try clear q631
        try clear q633
        obtain ⟨kq, x105_34, rfl, HA, HJ34, HO_5, HO_6, HO_10, BK655, HB⟩ := hcut
        cases kq with
        | zero => exact absurd HA.out (by simp [isobathlaw05_ClockOrder.j1])
        | succ kj34 =>
         have H := HA.out
         clear HA
         simp only [isobathlaw05_ClockOrder.j1] at H
         by_cases c50 : x105_34 = true
         ·subst c50
          have H1 : (some false) = some r := by rw [if_pos rfl] at H; exact H
          clear H
          have H := H1
          clear H1
          have hh_ := Option.some.inj H
          rw [hr_.out] at hh_
          cases hh_
         ·replace c50 := Bool.eq_false_iff.mpr c50
          subst c50
          have H1 : (isobathlaw05_ClockOrder.l1 kj34 x5_1 x6_1 t648 t654 0 t652 t653) = some r := by rw [if_neg (show ¬ (false = true) by decide)] at H; exact H
          clear H
          have H := H1
          clear H1
          have H' := Aside0.mk H
          clear H
          go_wp2
          go_loopg [14] kj34 (fun kq v14 w' => ∃ (x14_3 : Int), v14 = .int .i64 x14_3 ∧ Aside0 (isobathlaw05_ClockOrder.l1 kq x5_1 x6_1 t648 t654 x14_3 t652 t653 = some r) ∧ Aside0 (kq ≤ kj34) ∧ Aside0 (Kd.R k35 35 w' w.heap.size (fun k_ => k_ ≠ gb655) (.slice Ao36 x5_1.length co36) x5_1) ∧ Aside0 (Kd.R (Kd.int .i64) 2 w' w.heap.size (fun _ => True) u6 x6_1) ∧ Aside0 (Kd.R k81 81 w' w.heap.size (fun _ => True) v650 t648) ∧ Aside0 (w'.heap[gb655]? = some (.cells #[.int .i64 t652, .int .i64 t653] 35 (0, 0))) ∧ Aside0 (Below w.heap.size w w'))
          case atStart => exact ⟨(0), zq23, H', ⟨Nat.le_refl _⟩, ⟨zq39⟩, ⟨zq53⟩, ⟨zq58⟩, ⟨zbfr⟩, ⟨zbzr⟩⟩
          case round =>
           as_aux_lemma =>
            clear H'
            try clear c1
            try clear c2
            try clear p2
            try clear c4
            try clear c5
            try clear c6
            try clear c6b0
            try clear p6
            try clear q6
            try clear hx6
            try clear c7
            try clear c8
            try clear c8b0
            try clear c9
            try clear c11
            try clear c21
            try clear c23
            try clear c41
            try clear c41b0
            try clear c41b1
            try clear c42
            try clear c42b0
            try clear c42b1
            try clear c42b2
            try clear c43
            try clear c43b0
            try clear c43b1
            try clear c46
            try clear c46b0
            try clear c46b1
            try clear c47
            try clear c49
            try clear c50
            try clear hcz16_0 hcz16_1
            try clear hcz18_0 hcz18_1
            try clear hcz28_0 hcz28_1
            try clear hcz30_0 hcz30_1
            try clear hcz40_0 hcz40_1
            try clear hcz45_0 hcz45_1
            try clear hfz16_0 hfz16_1
            try clear hfz18_0 hfz18_1
            try clear hfz28_0 hfz28_1
            try clear hfz30_0 hfz30_1
            try clear hfz40_0 hfz40_1
            try clear hfz45_0 hfz45_1
            try clear hx629_0 hx629_1
            try clear hx630_0 hx630_1
            try clear hx631_0 hx631_1
            try clear hx633_0
            try clear p2
            try clear p6
            try clear p629
            try clear p630
            try clear p631
            try clear p633
            try clear q6
            try clear q629
            try clear q630
            try clear q631
            try clear q633
            obtain ⟨x14_3, rfl, HA, HK3, HO_5, HO_6, HO_10, BK655, HB⟩ := hrel
            cases gk with
            | zero => exact absurd HA.out (by simp [isobathlaw05_ClockOrder.l1])
            | succ k3 =>
             have H := HA.out
             clear HA
             simp only [isobathlaw05_ClockOrder.l1] at H
             by_cases c51 : x14_3 < (x5_1.length : Int)
             ·rw [if_pos c51] at H
              have c51b0 : decide (x14_3 < (x5_1.length : Int)) = true := decide_eq_true c51
              clear c51
              have H' := Aside0.mk H
              clear H
              go_wp2
              go_loopg [15, 16, 17] k3 (fun kq v15 v16 v17 w' => ∃ (x15_4 : Int) (x16_4 : Int) (x17_4 : Int), v15 = .int .i64 x15_4 ∧ v16 = .int .i64 x16_4 ∧ v17 = .int .i64 x17_4 ∧ Aside0 (isobathlaw05_ClockOrder.l2 kq x5_1 x6_1 t648 t654 x14_3 x15_4 x16_4 x17_4 t652 t653 = some r) ∧ Aside0 (kq ≤ k3) ∧ Aside0 (Kd.R k35 35 w' w.heap.size (fun k_ => k_ ≠ gb655) (.slice Ao36 x5_1.length co36) x5_1) ∧ Aside0 (Kd.R (Kd.int .i64) 2 w' w.heap.size (fun _ => True) u6 x6_1) ∧ Aside0 (Kd.R k81 81 w' w.heap.size (fun _ => True) v650 t648) ∧ Aside0 (w'.heap[gb655]? = some (.cells #[.int .i64 t652, .int .i64 t653] 35 (0, 0))) ∧ Aside0 (Below w.heap.size w w'))
              case atStart => exact ⟨(0), (0), (0), zq23, zq23, zq23, H', ⟨Nat.le_refl _⟩, ⟨zq39⟩, ⟨zq53⟩, ⟨zq58⟩, ⟨zbfr⟩, ⟨zbzr⟩⟩
              case round =>
               as_aux_lemma =>
                clear H'
                try clear c1
                try clear c2
                try clear p2
                try clear c4
                try clear c5
                try clear c6
                try clear c6b0
                try clear p6
                try clear q6
                try clear hx6
                try clear c7
                try clear c8
                try clear c8b0
                try clear c9
                try clear c11
                try clear c21
                try clear c23
                try clear c41
                try clear c41b0
                try clear c41b1
                try clear c42
                try clear c42b0
                try clear c42b1
                try clear c42b2
                try clear c43
                try clear c43b0
                try clear c43b1
                try clear c46
                try clear c46b0
                try clear c46b1
                try clear c47
                try clear c49
                try clear c50
                try clear c51
                try clear c51b0
                try clear hcz16_0 hcz16_1
                try clear hcz18_0 hcz18_1
                try clear hcz28_0 hcz28_1
                try clear hcz30_0 hcz30_1
                try clear hcz40_0 hcz40_1
                try clear hcz45_0 hcz45_1
                try clear hfz16_0 hfz16_1
                try clear hfz18_0 hfz18_1
                try clear hfz28_0 hfz28_1
                try clear hfz30_0 hfz30_1
                try clear hfz40_0 hfz40_1
                try clear hfz45_0 hfz45_1
                try clear hx629_0 hx629_1
                try clear hx630_0 hx630_1
                try clear hx631_0 hx631_1
                try clear hx633_0
                try clear p2
                try clear p6
                try clear p629
                try clear p630
                try clear p631
                try clear p633
                try clear q6
                try clear q629
                try clear q630
                try clear q631
                try clear q633
                obtain ⟨x15_4, x16_4, x17_4, rfl, rfl, rfl, HA, HK4, HO_5, HO_6, HO_10, BK655, HB⟩ := hrel
                cases gk with
                | zero => exact absurd HA.out (by simp [isobathlaw05_ClockOrder.l2])
                | succ k4 =>
                 have H := HA.out
                 clear HA
                 simp only [isobathlaw05_ClockOrder.l2] at H
                 by_cases c52 : x17_4 < (x5_1.length : Int)
                 ·rw [if_pos c52] at H
                  have c52b0 : decide (x17_4 < (x5_1.length : Int)) = true := decide_eq_true c52
                  clear c52
                  by_cases c53 : 0 ≤ x17_4
                  ·rw [if_pos c53] at H
                   have c53b0 : decide (0 ≤ x17_4) = true := decide_eq_true c53
                   clear c53
                   by_cases c54 : 0 ≤ x14_3
                   ·rw [if_pos c54] at H
                    have c54b0 : decide (0 ≤ x14_3) = true := decide_eq_true c54
                    clear c54
                    by_cases c55 : x14_3 < (x5_1.length : Int)
                    ·rw [if_pos c55] at H
                     have c55b0 : decide (x14_3 < (x5_1.length : Int)) = true := decide_eq_true c55
                     clear c55
                     replace H := Option.bind_eq_some_iff.mp H
                     obtain ⟨⟨t659, t660⟩, A560, H⟩ := H
                     replace H : (if t660 = 0 then (if t659 = 2 then (if x17_4 < (x6_1.length : Int) then (if x14_3 < (x6_1.length : Int) then (if (rd x6_1 x17_4) ≥ (rd x6_1 x14_3) then (isobathlaw05_ClockOrder.j4 k4 x5_1 x6_1 t648 t654 x14_3 x15_4 x16_4 x17_4 true t652 t653) else (if t659 = 0 then (if (rd x6_1 x17_4) < (rd x6_1 x14_3) then (isobathlaw05_ClockOrder.j4 k4 x5_1 x6_1 t648 t654 x14_3 x15_4 x16_4 x17_4 true t652 t653) else (if t659 < 0 then (isobathlaw05_ClockOrder.j4 k4 x5_1 x6_1 t648 t654 x14_3 x15_4 x16_4 x17_4 true t652 t653) else (isobathlaw05_ClockOrder.j4 k4 x5_1 x6_1 t648 t654 x14_3 x15_4 x16_4 x17_4 (decide (t659 > 2)) t652 t653))) else (if t659 < 0 then (isobathlaw05_ClockOrder.j4 k4 x5_1 x6_1 t648 t654 x14_3 x15_4 x16_4 x17_4 true t652 t653) else (isobathlaw05_ClockOrder.j4 k4 x5_1 x6_1 t648 t654 x14_3 x15_4 x16_4 x17_4 (decide (t659 > 2)) t652 t653)))) else (none)) else (none)) else (if t659 = 0 then (if x17_4 < (x6_1.length : Int) then (if x14_3 < (x6_1.length : Int) then (if (rd x6_1 x17_4) < (rd x6_1 x14_3) then (isobathlaw05_ClockOrder.j4 k4 x5_1 x6_1 t648 t654 x14_3 x15_4 x16_4 x17_4 true t652 t653) else (if t659 < 0 then (isobathlaw05_ClockOrder.j4 k4 x5_1 x6_1 t648 t654 x14_3 x15_4 x16_4 x17_4 true t652 t653) else (isobathlaw05_ClockOrder.j4 k4 x5_1 x6_1 t648 t654 x14_3 x15_4 x16_4 x17_4 (decide (t659 > 2)) t652 t653))) else (none)) else (none)) else (if t659 < 0 then (isobathlaw05_ClockOrder.j4 k4 x5_1 x6_1 t648 t654 x14_3 x15_4 x16_4 x17_4 true t652 t653) else (isobathlaw05_ClockOrder.j4 k4 x5_1 x6_1 t648 t654 x14_3 x15_4 x16_4 x17_4 (decide (t659 > 2)) t652 t653)))) else (isobathlaw05_ClockOrder.j4 k4 x5_1 x6_1 t648 t654 x14_3 x15_4 x16_4 x17_4 true t652 t653)) = some r := H
                     have A56 := Aside0.mk A560
                     clear A560
                     have HC57 := Aside0.mk H
                     clear H
                     try go_wp2
                     replace HO_5 := Aside0.mk (Kd.R_drew HO_5.out)
                     replace HO_6 := Aside0.mk (Kd.R_drew HO_6.out)
                     replace HO_10 := Aside0.mk (Kd.R_drew HO_10.out)
                     replace BK655 := Aside0.mk (blk_drew BK655.out)
                     replace HB := Aside0.mk (below_drew1 HB.out)
                     have p657 : 0 ≤ (x17_4 : Int) := of_decide_eq_true zq25
                     have q657 : x17_4 < (x5_1.length : Int) := of_decide_eq_true zq25
                     obtain ⟨ad657, e657, hx657_0, hx657_1⟩ := at_T35 (Kd.R_reads' HO_5.out).2.2 x17_4 p657 q657
                     cases e657
                     replace p657 := eq_true p657
                     replace q657 := eq_true q657
                     have p658 : 0 ≤ (x14_3 : Int) := of_decide_eq_true zq25
                     have q658 : x14_3 < (x5_1.length : Int) := of_decide_eq_true zq25
                     obtain ⟨ad658, e658, hx658_0, hx658_1⟩ := at_T35 (Kd.R_reads' HO_5.out).2.2 x14_3 p658 q658
                     obtain rfl : ad657 = ad658 := (by injection e658)
                     replace p658 := eq_true p658
                     replace q658 := eq_true q658
                     refine start_ (n := 14) (S := fun w' => w'.cell? (ad657.add ((x17_4).toNat * 2)) = some (.int .i64 ((rd_T35 x5_1 x17_4).f0)) ∧ w'.cell? ⟨(ad657.add ((x17_4).toNat * 2)).block, (ad657.add ((x17_4).toNat * 2)).off + 1, none⟩ = some (.int .i64 ((rd_T35 x5_1 x17_4).f1)) ∧ w'.cell? (ad657.add ((x14_3).toNat * 2)) = some (.int .i64 ((rd_T35 x5_1 x14_3).f0)) ∧ w'.cell? ⟨(ad657.add ((x14_3).toNat * 2)).block, (ad657.add ((x14_3).toNat * 2)).off + 1, none⟩ = some (.int .i64 ((rd_T35 x5_1 x14_3).f1))) (ds := []) #[false, false, false, false, false, false, false, false, false, false, false, false, false, false] zq1 rfl rfl ⟨hx657_0, hx657_1, hx658_0, hx658_1⟩ (fun hHeld => ?_); refine with_tabW isobathlaw05_ClockOrder.tab25 isobathlaw05_ClockOrder.bits25 (fun HT_ HW_ => ?_)
                     generalize wr.drew = w58 at HO_5 HO_6 HO_10 BK655 HB hx657_0 hx657_1 hx658_0 hx658_1 hHeld ⊢
                     refine zpz (i := 0) (N := some 119) (any_of HT_.out zq1) ?_
                     refine zpz (i := 1) (N := some 120) (any_of HT_.out zq1) ?_
                     refine zpz (i := 2) (N := some 121) (any_of HT_.out zq1) ?_
                     refine zpz (i := 4) (N := some 123) (any_of HT_.out zq1) ?_
                     refine zpz (i := 5) (N := some 124) (any_of HT_.out zq1) ?_
                     refine zpz (i := 6) (N := some 125) (any_of HT_.out zq1) ?_
                     refine ztz (i := 3) (N := some 122) (take_ofW HT_.out HW_.out zq1) hHeld ?_
                     refine ztz (i := 7) (N := some 126) (take_ofW HT_.out HW_.out zq1) hHeld ?_
                     refine one_ (i := 8) (N := some 127) #[true, true, true, true, true, true, true, true, true, false, false, false, false, false] rfl rfl (one_of HT_.out zq1) (by decide) (fun K hK => ?_)
                     refine goes_ Try.func45 zq1 rfl #[.agg #[.int .i64 ((rd_T35 x5_1 x17_4).f0), .int .i64 ((rd_T35 x5_1 x17_4).f1)], .agg #[.int .i64 ((rd_T35 x5_1 x14_3).f0), .int .i64 ((rd_T35 x5_1 x14_3).f1)]] (by rfl) rfl rfl zq26 ?_
                     with_reducible refine (clock_Before.calls ((rd_T35 x5_1 x17_4).f0) ((rd_T35 x5_1 x17_4).f1) ((rd_T35 x5_1 x14_3).f0) ((rd_T35 x5_1 x14_3).f1) t659 t660 _ A56.out).mono ?_
                     rintro e w59 ⟨rfl, hb⟩
                     have HS0_ := (hb.cell (World.block_lt_of_cell? _ _ (hHeld.1))).trans (hHeld.1)
                     have HS1_ := (hb.cell (World.block_lt_of_cell? _ _ (hHeld.2.1))).trans (hHeld.2.1)
                     have HS2_ := (hb.cell (World.block_lt_of_cell? _ _ (hHeld.2.2.1))).trans (hHeld.2.2.1)
                     have HS3_ := (hb.cell (World.block_lt_of_cell? _ _ (hHeld.2.2.2))).trans (hHeld.2.2.2)
                     refine ⟨_, rfl, ?_⟩
                     replace HO_5 := zrbr HO_5 hb
                     replace HO_6 := zrbr HO_6 hb
                     replace HO_10 := zrbr HO_10 hb
                     replace BK655 := zbbr BK655 hb
                     replace HB := zbsr HB hb
                     (try clear hb)
                     (try clear hb2)
                     (try clear hk)
                     (try clear hi)
                     refine hK.out _ _ ⟨HS0_, HS1_, HS2_, HS3_⟩ (fun hHeld => ?_)
                     clear hK K
                     refine norm_ (by show Act.put _ (some 127) _ = _; simp only [Act.put, List.setIfInBounds_toArray, List.set_cons_zero, List.set_cons_succ, i64_w, i32_w]; rfl) ?_
                     refine zpz (i := 9) (N := some 118) (any_of HT_.out zq1) ?_
                     refine zpz (i := 10) (N := some 128) (any_of HT_.out zq1) ?_
                     refine zpz (i := 11) (N := some 129) (any_of HT_.out zq1) ?_
                     refine zpz (i := 12) (N := some 18) (any_of HT_.out zq1) ?_
                     refine zpz (i := 13) (N := some 19) (any_of HT_.out zq1) ?_
                     refine done_ (done_of HT_.out zq1) ?_
                     go_upto_region 26 with (fail)
                     go_cut [169] (fun v169 wc => ∃ (kq : Nat) (x169_56 : Bool), v169 = .bool x169_56 ∧ Aside0 (isobathlaw05_ClockOrder.j4 kq x5_1 x6_1 t648 t654 x14_3 x15_4 x16_4 x17_4 x169_56 t652 t653 = some r) ∧ Aside0 (kq ≤ k4) ∧ Aside0 (Kd.R k35 35 wc w.heap.size (fun k_ => k_ ≠ gb655) (.slice (some ad657) x5_1.length co36) x5_1) ∧ Aside0 (Kd.R (Kd.int .i64) 2 wc w.heap.size (fun _ => True) u6 x6_1) ∧ Aside0 (Kd.R k81 81 wc w.heap.size (fun _ => True) v650 t648) ∧ Aside0 (wc.heap[gb655]? = some (.cells #[.int .i64 t652, .int .i64 t653] 35 (0, 0))) ∧ Aside0 (Below w.heap.size w wc))
                     case first =>
                      as_aux_lemma =>
                       have H := HC57.out
                       clear HC57
                       by_cases c60 : t660 = 0
                       ·rw [if_pos c60] at H
                        have c60b0 : (t660 == 0) = true := beq_iff_eq.mpr c60
                        have c60b1 : (t660 != 0) = false := bne_eq_false_iff_eq.mpr c60
                        clear c60
                        (first | rw [c60b0] | (simp only [i64_w, i32_w]; rw [c60b0]) | skip)
                        by_cases c61 : t659 = 2
                        ·rw [if_pos c61] at H
                         have c61b0 : (t659 == 2) = true := beq_iff_eq.mpr c61
                         have c61b1 : (t659 != 2) = false := bne_eq_false_iff_eq.mpr c61
                         clear c61
                         by_cases c62 : x17_4 < (x6_1.length : Int)
                         ·rw [if_pos c62] at H
                          have c62b0 : decide (x17_4 < (x6_1.length : Int)) = true := decide_eq_true c62
                          clear c62
                          by_cases c63 : x14_3 < (x6_1.length : Int)
                          ·rw [if_pos c63] at H
                           have c63b0 : decide (x14_3 < (x6_1.length : Int)) = true := decide_eq_true c63
                           clear c63
                           by_cases c64 : (rd x6_1 x17_4) ≥ (rd x6_1 x14_3)
                           ·rw [if_pos c64] at H
                            have c64b0 : decide ((rd x6_1 x14_3) ≤ (rd x6_1 x17_4)) = true := decide_eq_true c64
                            clear c64
                            have H' := Aside0.mk H
                            clear H
                            try go_wp2
                            replace HO_5 := Aside0.mk (Kd.R_drew HO_5.out)
                            replace HO_6 := Aside0.mk (Kd.R_drew HO_6.out)
                            replace HO_10 := Aside0.mk (Kd.R_drew HO_10.out)
                            replace BK655 := Aside0.mk (blk_drew BK655.out)
                            replace HB := Aside0.mk (below_drew1 HB.out)
                            obtain ⟨Ao66, co66, eo66⟩ := Kd.R_slice HO_6.out
                            (first | subst eo66 | (injection eo66 with f1_ f2_ f3_; have f4_ := f1_.symm; have f5_ := f3_.symm; clear f1_ f2_ f3_; subst f4_; subst f5_))
                            have p661 : 0 ≤ (x17_4 : Int) := of_decide_eq_true zq25
                            have q661 : x17_4 < (x6_1.length : Int) := of_decide_eq_true zq25
                            obtain ⟨ad661, e661, hx661_0⟩ := Kd.at_int (Kd.R_reads' HO_6.out).2.2 x17_4 p661 q661
                            cases e661
                            replace p661 := eq_true p661
                            replace q661 := eq_true q661
                            have p662 : 0 ≤ (x14_3 : Int) := of_decide_eq_true zq25
                            have q662 : x14_3 < (x6_1.length : Int) := of_decide_eq_true zq25
                            obtain ⟨ad662, e662, hx662_0⟩ := Kd.at_int (Kd.R_reads' HO_6.out).2.2 x14_3 p662 q662
                            obtain rfl : ad661 = ad662 := (by injection e662)
                            replace p662 := eq_true p662
                            replace q662 := eq_true q662
                            refine start_ (n := 40) (S := fun w' => w'.cell? (ad661.add (x17_4).toNat) = some (.int .i64 (rd x6_1 x17_4)) ∧ w'.cell? (ad661.add (x14_3).toNat) = some (.int .i64 (rd x6_1 x14_3))) (ds := []) #[false, false, false, false, false, false, false, false, false, false, false, false, false, false, false, false, false, false, false, false, false, false, false, false, false, false, false, false, false, false, false, false, false, false, false, false, false, false, false, false] zq1 rfl rfl ⟨hx661_0, hx662_0⟩ (fun hHeld => ?_); refine with_tabW isobathlaw05_ClockOrder.tab26 isobathlaw05_ClockOrder.bits26 (fun HT_ HW_ => ?_)
                            generalize w59.drew = w65 at HO_5 HO_6 HO_10 BK655 HB hx661_0 hx662_0 hHeld ⊢
                            refine zpz (i := 0) (N := some 130) (any_of HT_.out zq1) ?_
                            refine zpz (i := 1) (N := some 131) (any_of HT_.out zq1) ?_
                            refine zpz (i := 2) (N := some 132) (any_of HT_.out zq1) ?_
                            refine zpz (i := 3) (N := some 133) (any_of HT_.out zq1) ?_
                            refine zpz (i := 4) (N := some 134) (any_of HT_.out zq1) ?_
                            refine zpz (i := 5) (N := some 135) (any_of HT_.out zq1) ?_
                            refine zpz (i := 6) (N := some 136) (any_of HT_.out zq1) ?_
                            refine zpz (i := 7) (N := some 137) (any_of HT_.out zq1) ?_
                            refine zpz (i := 8) (N := some 138) (any_of HT_.out zq1) ?_
                            refine zpz (i := 10) (N := some 140) (any_of HT_.out zq1) ?_
                            refine zpz (i := 11) (N := some 141) (any_of HT_.out zq1) ?_
                            refine zpz (i := 12) (N := some 142) (any_of HT_.out zq1) ?_
                            refine ztz (i := 9) (N := some 139) (take_ofW HT_.out HW_.out zq1) hHeld ?_
                            refine ztz (i := 13) (N := some 143) (take_ofW HT_.out HW_.out zq1) hHeld ?_
                            refine zpz (i := 14) (N := some 144) (any_of HT_.out zq1) ?_
                            refine zpz (i := 15) (N := some 145) (any_of HT_.out zq1) ?_
                            refine zpz (i := 16) (N := some 146) (any_of HT_.out zq1) ?_
                            refine zpz (i := 17) (N := some 147) (any_of HT_.out zq1) ?_
                            refine pure_ (i := 18) (N := some 148) (v := undef) (a' := ?_) #[true, true, true, true, true, true, true, true, true, true, true, true, true, true, true, true, true, true, true, false, false, false, false, false, false, false, false, false, false, false, false, false, false, false, false, false, false, false, false, false] rfl rfl (any_of HT_.out zq1) (fun _ _ _ h => h) (Or.inr ⟨by rfl, rfl⟩) ?_ ?_
                            rotate_left
                            ·simp only [Act.put, List.setIfInBounds_toArray, List.set_cons_zero, List.set_cons_succ, i64_w, i32_w]
                             rfl
                            refine pure_ (i := 19) (N := some 149) (v := undef) (a' := ?_) #[true, true, true, true, true, true, true, true, true, true, true, true, true, true, true, true, true, true, true, true, false, false, false, false, false, false, false, false, false, false, false, false, false, false, false, false, false, false, false, false] rfl rfl (any_of HT_.out zq1) (fun _ _ _ h => h) (Or.inr ⟨by rfl, rfl⟩) ?_ ?_
                            rotate_left
                            ·simp only [Act.put, List.setIfInBounds_toArray, List.set_cons_zero, List.set_cons_succ, i64_w, i32_w]
                             rfl
                            refine pure_ (i := 20) (N := some 150) (v := undef) (a' := ?_) #[true, true, true, true, true, true, true, true, true, true, true, true, true, true, true, true, true, true, true, true, true, false, false, false, false, false, false, false, false, false, false, false, false, false, false, false, false, false, false, false] rfl rfl (any_of HT_.out zq1) (fun _ _ _ h => h) (Or.inr ⟨by rfl, rfl⟩) ?_ ?_
                            rotate_left
                            ·simp only [Act.put, List.setIfInBounds_toArray, List.set_cons_zero, List.set_cons_succ, i64_w, i32_w]
                             rfl
                            refine pure_ (i := 21) (N := some 151) (v := undef) (a' := ?_) #[true, true, true, true, true, true, true, true, true, true, true, true, true, true, true, true, true, true, true, true, true, true, false, false, false, false, false, false, false, false, false, false, false, false, false, false, false, false, false, false] rfl rfl (any_of HT_.out zq1) (fun _ _ _ h => h) (Or.inr ⟨by rfl, rfl⟩) ?_ ?_
                            rotate_left
                            ·simp only [Act.put, List.setIfInBounds_toArray, List.set_cons_zero, List.set_cons_succ, i64_w, i32_w]
                             rfl
                            refine pure_ (i := 22) (N := some 152) (v := undef) (a' := ?_) #[true, true, true, true, true, true, true, true, true, true, true, true, true, true, true, true, true, true, true, true, true, true, true, false, false, false, false, false, false, false, false, false, false, false, false, false, false, false, false, false] rfl rfl (any_of HT_.out zq1) (fun _ _ _ h => h) (Or.inr ⟨by rfl, rfl⟩) ?_ ?_
                            rotate_left
                            ·simp only [Act.put, List.setIfInBounds_toArray, List.set_cons_zero, List.set_cons_succ, i64_w, i32_w]
                             rfl
                            refine pure_ (i := 23) (N := some 153) (v := undef) (a' := ?_) #[true, true, true, true, true, true, true, true, true, true, true, true, true, true, true, true, true, true, true, true, true, true, true, true, false, false, false, false, false, false, false, false, false, false, false, false, false, false, false, false] rfl rfl (any_of HT_.out zq1) (fun _ _ _ h => h) (Or.inr ⟨by rfl, rfl⟩) ?_ ?_
                            rotate_left
                            ·simp only [Act.put, List.setIfInBounds_toArray, List.set_cons_zero, List.set_cons_succ, i64_w, i32_w]
                             rfl
                            refine pure_ (i := 24) (N := some 154) (v := undef) (a' := ?_) #[true, true, true, true, true, true, true, true, true, true, true, true, true, true, true, true, true, true, true, true, true, true, true, true, true, false, false, false, false, false, false, false, false, false, false, false, false, false, false, false] rfl rfl (any_of HT_.out zq1) (fun _ _ _ h => h) (Or.inr ⟨by rfl, rfl⟩) ?_ ?_
                            rotate_left
                            ·simp only [Act.put, List.setIfInBounds_toArray, List.set_cons_zero, List.set_cons_succ, i64_w, i32_w]
                             rfl
                            refine pure_ (i := 25) (N := some 155) (v := undef) (a' := ?_) #[true, true, true, true, true, true, true, true, true, true, true, true, true, true, true, true, true, true, true, true, true, true, true, true, true, true, false, false, false, false, false, false, false, false, false, false, false, false, false, false] rfl rfl (any_of HT_.out zq1) (fun _ _ _ h => h) (Or.inr ⟨by rfl, rfl⟩) ?_ ?_
                            rotate_left
                            ·simp only [Act.put, List.setIfInBounds_toArray, List.set_cons_zero, List.set_cons_succ, i64_w, i32_w]
                             rfl
                            refine pure_ (i := 26) (N := some 156) (v := undef) (a' := ?_) #[true, true, true, true, true, true, true, true, true, true, true, true, true, true, true, true, true, true, true, true, true, true, true, true, true, true, true, false, false, false, false, false, false, false, false, false, false, false, false, false] rfl rfl (any_of HT_.out zq1) (fun _ _ _ h => h) (Or.inr ⟨by rfl, rfl⟩) ?_ ?_
                            rotate_left
                            ·simp only [Act.put, List.setIfInBounds_toArray, List.set_cons_zero, List.set_cons_succ, i64_w, i32_w]
                             rfl
                            refine pure_ (i := 27) (N := some 157) (v := undef) (a' := ?_) #[true, true, true, true, true, true, true, true, true, true, true, true, true, true, true, true, true, true, true, true, true, true, true, true, true, true, true, true, false, false, false, false, false, false, false, false, false, false, false, false] rfl rfl (any_of HT_.out zq1) (fun _ _ _ h => h) (Or.inr ⟨by rfl, rfl⟩) ?_ ?_
                            rotate_left
                            ·simp only [Act.put, List.setIfInBounds_toArray, List.set_cons_zero, List.set_cons_succ, i64_w, i32_w]
                             rfl
                            refine pure_ (i := 28) (N := some 158) (v := undef) (a' := ?_) #[true, true, true, true, true, true, true, true, true, true, true, true, true, true, true, true, true, true, true, true, true, true, true, true, true, true, true, true, true, false, false, false, false, false, false, false, false, false, false, false] rfl rfl (any_of HT_.out zq1) (fun _ _ _ h => h) (Or.inr ⟨by rfl, rfl⟩) ?_ ?_
                            rotate_left
                            ·simp only [Act.put, List.setIfInBounds_toArray, List.set_cons_zero, List.set_cons_succ, i64_w, i32_w]
                             rfl
                            refine pure_ (i := 29) (N := some 159) (v := undef) (a' := ?_) #[true, true, true, true, true, true, true, true, true, true, true, true, true, true, true, true, true, true, true, true, true, true, true, true, true, true, true, true, true, true, false, false, false, false, false, false, false, false, false, false] rfl rfl (any_of HT_.out zq1) (fun _ _ _ h => h) (Or.inr ⟨by rfl, rfl⟩) ?_ ?_
                            rotate_left
                            ·simp only [Act.put, List.setIfInBounds_toArray, List.set_cons_zero, List.set_cons_succ, i64_w, i32_w]
                             rfl
                            refine pure_ (i := 30) (N := some 160) (v := undef) (a' := ?_) #[true, true, true, true, true, true, true, true, true, true, true, true, true, true, true, true, true, true, true, true, true, true, true, true, true, true, true, true, true, true, true, false, false, false, false, false, false, false, false, false] rfl rfl (any_of HT_.out zq1) (fun _ _ _ h => h) (Or.inr ⟨by rfl, rfl⟩) ?_ ?_
                            rotate_left
                            ·simp only [Act.put, List.setIfInBounds_toArray, List.set_cons_zero, List.set_cons_succ, i64_w, i32_w]
                             rfl
                            refine zpz (i := 31) (N := some 161) (any_of HT_.out zq1) ?_
                            refine zpz (i := 32) (N := some 162) (any_of HT_.out zq1) ?_
                            refine pure_ (i := 33) (N := some 163) (v := undef) (a' := ?_) #[true, true, true, true, true, true, true, true, true, true, true, true, true, true, true, true, true, true, true, true, true, true, true, true, true, true, true, true, true, true, true, true, true, true, false, false, false, false, false, false] rfl rfl (any_of HT_.out zq1) (fun _ _ _ h => h) (Or.inr ⟨by rfl, rfl⟩) ?_ ?_
                            rotate_left
                            ·simp only [Act.put, List.setIfInBounds_toArray, List.set_cons_zero, List.set_cons_succ, i64_w, i32_w]
                             rfl
                            refine pure_ (i := 34) (N := some 164) (v := undef) (a' := ?_) #[true, true, true, true, true, true, true, true, true, true, true, true, true, true, true, true, true, true, true, true, true, true, true, true, true, true, true, true, true, true, true, true, true, true, true, false, false, false, false, false] rfl rfl (any_of HT_.out zq1) (fun _ _ _ h => h) (Or.inr ⟨by rfl, rfl⟩) ?_ ?_
                            rotate_left
                            ·simp only [Act.put, List.setIfInBounds_toArray, List.set_cons_zero, List.set_cons_succ, i64_w, i32_w]
                             rfl
                            refine zpz (i := 35) (N := some 165) (any_of HT_.out zq1) ?_
                            refine zpz (i := 36) (N := some 166) (any_of HT_.out zq1) ?_
                            refine pure_ (i := 37) (N := some 167) (v := undef) (a' := ?_) #[true, true, true, true, true, true, true, true, true, true, true, true, true, true, true, true, true, true, true, true, true, true, true, true, true, true, true, true, true, true, true, true, true, true, true, true, true, true, false, false] rfl rfl (any_of HT_.out zq1) (fun _ _ _ h => h) (Or.inr ⟨by rfl, rfl⟩) ?_ ?_
                            rotate_left
                            ·simp only [Act.put, List.setIfInBounds_toArray, List.set_cons_zero, List.set_cons_succ, i64_w, i32_w]
                             rfl
                            refine pure_ (i := 38) (N := some 168) (v := undef) (a' := ?_) #[true, true, true, true, true, true, true, true, true, true, true, true, true, true, true, true, true, true, true, true, true, true, true, true, true, true, true, true, true, true, true, true, true, true, true, true, true, true, true, false] rfl rfl (any_of HT_.out zq1) (fun _ _ _ h => h) (Or.inr ⟨by rfl, rfl⟩) ?_ ?_
                            rotate_left
                            ·simp only [Act.put, List.setIfInBounds_toArray, List.set_cons_zero, List.set_cons_succ, i64_w, i32_w]
                             rfl
                            refine zpz (i := 39) (N := some 169) (any_of HT_.out zq1) ?_
                            refine done_ (done_of HT_.out zq1) ?_
                            try go_wp2
                            go_meet
                            case rel => exact ⟨_, (true), zq23, H', ⟨zq59⟩, ⟨zq39⟩, ⟨zq53⟩, ⟨zq58⟩, ⟨zbfr⟩, ⟨zbzr⟩⟩
                           ·rw [if_neg c64] at H
                            have c64b0 : decide ((rd x6_1 x14_3) ≤ (rd x6_1 x17_4)) = false := decide_eq_false c64
                            clear c64
                            by_cases c67 : t659 = 0
                            ·rw [if_pos c67] at H
                             have c67b0 : (t659 == 0) = true := beq_iff_eq.mpr c67
                             have c67b1 : (t659 != 0) = false := bne_eq_false_iff_eq.mpr c67
                             clear c67
                             by_cases c68 : (rd x6_1 x17_4) < (rd x6_1 x14_3)
                             ·rw [if_pos c68] at H
                              have c68b0 : decide ((rd x6_1 x17_4) < (rd x6_1 x14_3)) = true := decide_eq_true c68
                              clear c68
                              have H' := Aside0.mk H
                              clear H
                              try go_wp2
                              replace HO_5 := Aside0.mk (Kd.R_drew HO_5.out)
                              replace HO_6 := Aside0.mk (Kd.R_drew HO_6.out)
                              replace HO_10 := Aside0.mk (Kd.R_drew HO_10.out)
                              replace BK655 := Aside0.mk (blk_drew BK655.out)
                              replace HB := Aside0.mk (below_drew1 HB.out)
                              obtain ⟨Ao70, co70, eo70⟩ := Kd.R_slice HO_6.out
                              (first | subst eo70 | (injection eo70 with f1_ f2_ f3_; have f4_ := f1_.symm; have f5_ := f3_.symm; clear f1_ f2_ f3_; subst f4_; subst f5_))
                              have p661 : 0 ≤ (x17_4 : Int) := of_decide_eq_true zq25
                              have q661 : x17_4 < (x6_1.length : Int) := of_decide_eq_true zq25
                              obtain ⟨ad661, e661, hx661_0⟩ := Kd.at_int (Kd.R_reads' HO_6.out).2.2 x17_4 p661 q661
                              cases e661
                              replace p661 := eq_true p661
                              replace q661 := eq_true q661
                              have p662 : 0 ≤ (x14_3 : Int) := of_decide_eq_true zq25
                              have q662 : x14_3 < (x6_1.length : Int) := of_decide_eq_true zq25
                              obtain ⟨ad662, e662, hx662_0⟩ := Kd.at_int (Kd.R_reads' HO_6.out).2.2 x14_3 p662 q662
                              obtain rfl : ad661 = ad662 := (by injection e662)
                              replace p662 := eq_true p662
                              replace q662 := eq_true q662
                              have p663 : 0 ≤ (x17_4 : Int) := of_decide_eq_true zq25
                              have q663 : x17_4 < (x6_1.length : Int) := of_decide_eq_true zq25
                              obtain ⟨ad663, e663, hx663_0⟩ := Kd.at_int (Kd.R_reads' HO_6.out).2.2 x17_4 p663 q663
                              obtain rfl : ad661 = ad663 := (by injection e663)
                              replace p663 := eq_true p663
                              replace q663 := eq_true q663
                              have p664 : 0 ≤ (x14_3 : Int) := of_decide_eq_true zq25
                              have q664 : x14_3 < (x6_1.length : Int) := of_decide_eq_true zq25
                              obtain ⟨ad664, e664, hx664_0⟩ := Kd.at_int (Kd.R_reads' HO_6.out).2.2 x14_3 p664 q664
                              obtain rfl : ad661 = ad664 := (by injection e664)
                              replace p664 := eq_true p664
                              replace q664 := eq_true q664
                              refine start_ (n := 40) (S := fun w' => w'.cell? (ad661.add (x17_4).toNat) = some (.int .i64 (rd x6_1 x17_4)) ∧ w'.cell? (ad661.add (x14_3).toNat) = some (.int .i64 (rd x6_1 x14_3)) ∧ w'.cell? (ad661.add (x17_4).toNat) = some (.int .i64 (rd x6_1 x17_4)) ∧ w'.cell? (ad661.add (x14_3).toNat) = some (.int .i64 (rd x6_1 x14_3))) (ds := []) #[false, false, false, false, false, false, false, false, false, false, false, false, false, false, false, false, false, false, false, false, false, false, false, false, false, false, false, false, false, false, false, false, false, false, false, false, false, false, false, false] zq1 rfl rfl ⟨hx661_0, hx662_0, hx663_0, hx664_0⟩ (fun hHeld => ?_); refine with_tabW isobathlaw05_ClockOrder.tab26 isobathlaw05_ClockOrder.bits26 (fun HT_ HW_ => ?_)
                              generalize w59.drew = w69 at HO_5 HO_6 HO_10 BK655 HB hx661_0 hx662_0 hx663_0 hx664_0 hHeld ⊢
                              refine zpz (i := 0) (N := some 130) (any_of HT_.out zq1) ?_
                              refine zpz (i := 1) (N := some 131) (any_of HT_.out zq1) ?_
                              refine zpz (i := 2) (N := some 132) (any_of HT_.out zq1) ?_
                              refine zpz (i := 3) (N := some 133) (any_of HT_.out zq1) ?_
                              refine zpz (i := 4) (N := some 134) (any_of HT_.out zq1) ?_
                              refine zpz (i := 5) (N := some 135) (any_of HT_.out zq1) ?_
                              refine zpz (i := 6) (N := some 136) (any_of HT_.out zq1) ?_
                              refine zpz (i := 7) (N := some 137) (any_of HT_.out zq1) ?_
                              refine zpz (i := 8) (N := some 138) (any_of HT_.out zq1) ?_
                              refine zpz (i := 10) (N := some 140) (any_of HT_.out zq1) ?_
                              refine zpz (i := 11) (N := some 141) (any_of HT_.out zq1) ?_
                              refine zpz (i := 12) (N := some 142) (any_of HT_.out zq1) ?_
                              refine ztz (i := 9) (N := some 139) (take_ofW HT_.out HW_.out zq1) hHeld ?_
                              refine ztz (i := 13) (N := some 143) (take_ofW HT_.out HW_.out zq1) hHeld ?_
                              refine zpz (i := 14) (N := some 144) (any_of HT_.out zq1) ?_
                              refine zpz (i := 15) (N := some 145) (any_of HT_.out zq1) ?_
                              refine zpz (i := 16) (N := some 146) (any_of HT_.out zq1) ?_
                              refine zpz (i := 17) (N := some 147) (any_of HT_.out zq1) ?_
                              refine zpz (i := 18) (N := some 148) (any_of HT_.out zq1) ?_
                              refine zpz (i := 19) (N := some 149) (any_of HT_.out zq1) ?_
                              refine zpz (i := 20) (N := some 150) (any_of HT_.out zq1) ?_
                              refine zpz (i := 21) (N := some 151) (any_of HT_.out zq1) ?_
                              refine zpz (i := 22) (N := some 152) (any_of HT_.out zq1) ?_
                              refine zpz (i := 23) (N := some 153) (any_of HT_.out zq1) ?_
                              refine zpz (i := 25) (N := some 155) (any_of HT_.out zq1) ?_
                              refine zpz (i := 26) (N := some 156) (any_of HT_.out zq1) ?_
                              refine zpz (i := 27) (N := some 157) (any_of HT_.out zq1) ?_
                              refine ztz (i := 24) (N := some 154) (take_ofW HT_.out HW_.out zq1) hHeld ?_
                              refine ztz (i := 28) (N := some 158) (take_ofW HT_.out HW_.out zq1) hHeld ?_
                              refine zpz (i := 29) (N := some 159) (any_of HT_.out zq1) ?_
                              refine zpz (i := 30) (N := some 160) (any_of HT_.out zq1) ?_
                              refine zpz (i := 31) (N := some 161) (any_of HT_.out zq1) ?_
                              refine zpz (i := 32) (N := some 162) (any_of HT_.out zq1) ?_
                              refine pure_ (i := 33) (N := some 163) (v := undef) (a' := ?_) #[true, true, true, true, true, true, true, true, true, true, true, true, true, true, true, true, true, true, true, true, true, true, true, true, true, true, true, true, true, true, true, true, true, true, false, false, false, false, false, false] rfl rfl (any_of HT_.out zq1) (fun _ _ _ h => h) (Or.inr ⟨by rfl, rfl⟩) ?_ ?_
                              rotate_left
                              ·simp only [Act.put, List.setIfInBounds_toArray, List.set_cons_zero, List.set_cons_succ, i64_w, i32_w]
                               rfl
                              refine pure_ (i := 34) (N := some 164) (v := undef) (a' := ?_) #[true, true, true, true, true, true, true, true, true, true, true, true, true, true, true, true, true, true, true, true, true, true, true, true, true, true, true, true, true, true, true, true, true, true, true, false, false, false, false, false] rfl rfl (any_of HT_.out zq1) (fun _ _ _ h => h) (Or.inr ⟨by rfl, rfl⟩) ?_ ?_
                              rotate_left
                              ·simp only [Act.put, List.setIfInBounds_toArray, List.set_cons_zero, List.set_cons_succ, i64_w, i32_w]
                               rfl
                              refine zpz (i := 35) (N := some 165) (any_of HT_.out zq1) ?_
                              refine zpz (i := 36) (N := some 166) (any_of HT_.out zq1) ?_
                              refine pure_ (i := 37) (N := some 167) (v := undef) (a' := ?_) #[true, true, true, true, true, true, true, true, true, true, true, true, true, true, true, true, true, true, true, true, true, true, true, true, true, true, true, true, true, true, true, true, true, true, true, true, true, true, false, false] rfl rfl (any_of HT_.out zq1) (fun _ _ _ h => h) (Or.inr ⟨by rfl, rfl⟩) ?_ ?_
                              rotate_left
                              ·simp only [Act.put, List.setIfInBounds_toArray, List.set_cons_zero, List.set_cons_succ, i64_w, i32_w]
                               rfl
                              refine pure_ (i := 38) (N := some 168) (v := undef) (a' := ?_) #[true, true, true, true, true, true, true, true, true, true, true, true, true, true, true, true, true, true, true, true, true, true, true, true, true, true, true, true, true, true, true, true, true, true, true, true, true, true, true, false] rfl rfl (any_of HT_.out zq1) (fun _ _ _ h => h) (Or.inr ⟨by rfl, rfl⟩) ?_ ?_
                              rotate_left
                              ·simp only [Act.put, List.setIfInBounds_toArray, List.set_cons_zero, List.set_cons_succ, i64_w, i32_w]
                               rfl
                              refine zpz (i := 39) (N := some 169) (any_of HT_.out zq1) ?_
                              refine done_ (done_of HT_.out zq1) ?_
                              try go_wp2
                              go_meet
                              case rel => exact ⟨_, (true), zq23, H', ⟨zq59⟩, ⟨zq39⟩, ⟨zq53⟩, ⟨zq58⟩, ⟨zbfr⟩, ⟨zbzr⟩⟩
                             ·rw [if_neg c68] at H
                              have c68b0 : decide ((rd x6_1 x17_4) < (rd x6_1 x14_3)) = false := decide_eq_false c68
                              clear c68
                              by_cases c71 : t659 < 0
                              ·rw [if_pos c71] at H
                               have c71b0 : decide (t659 < 0) = true := decide_eq_true c71
                               clear c71
                               have H' := Aside0.mk H
                               clear H
                               try go_wp2
                               replace HO_5 := Aside0.mk (Kd.R_drew HO_5.out)
                               replace HO_6 := Aside0.mk (Kd.R_drew HO_6.out)
                               replace HO_10 := Aside0.mk (Kd.R_drew HO_10.out)
                               replace BK655 := Aside0.mk (blk_drew BK655.out)
                               replace HB := Aside0.mk (below_drew1 HB.out)
                               obtain ⟨Ao73, co73, eo73⟩ := Kd.R_slice HO_6.out
                               (first | subst eo73 | (injection eo73 with f1_ f2_ f3_; have f4_ := f1_.symm; have f5_ := f3_.symm; clear f1_ f2_ f3_; subst f4_; subst f5_))
                               have p661 : 0 ≤ (x17_4 : Int) := of_decide_eq_true zq25
                               have q661 : x17_4 < (x6_1.length : Int) := of_decide_eq_true zq25
                               obtain ⟨ad661, e661, hx661_0⟩ := Kd.at_int (Kd.R_reads' HO_6.out).2.2 x17_4 p661 q661
                               cases e661
                               replace p661 := eq_true p661
                               replace q661 := eq_true q661
                               have p662 : 0 ≤ (x14_3 : Int) := of_decide_eq_true zq25
                               have q662 : x14_3 < (x6_1.length : Int) := of_decide_eq_true zq25
                               obtain ⟨ad662, e662, hx662_0⟩ := Kd.at_int (Kd.R_reads' HO_6.out).2.2 x14_3 p662 q662
                               obtain rfl : ad661 = ad662 := (by injection e662)
                               replace p662 := eq_true p662
                               replace q662 := eq_true q662
                               have p663 : 0 ≤ (x17_4 : Int) := of_decide_eq_true zq25
                               have q663 : x17_4 < (x6_1.length : Int) := of_decide_eq_true zq25
                               obtain ⟨ad663, e663, hx663_0⟩ := Kd.at_int (Kd.R_reads' HO_6.out).2.2 x17_4 p663 q663
                               obtain rfl : ad661 = ad663 := (by injection e663)
                               replace p663 := eq_true p663
                               replace q663 := eq_true q663
                               have p664 : 0 ≤ (x14_3 : Int) := of_decide_eq_true zq25
                               have q664 : x14_3 < (x6_1.length : Int) := of_decide_eq_true zq25
                               obtain ⟨ad664, e664, hx664_0⟩ := Kd.at_int (Kd.R_reads' HO_6.out).2.2 x14_3 p664 q664
                               obtain rfl : ad661 = ad664 := (by injection e664)
                               replace p664 := eq_true p664
                               replace q664 := eq_true q664
                               refine start_ (n := 40) (S := fun w' => w'.cell? (ad661.add (x17_4).toNat) = some (.int .i64 (rd x6_1 x17_4)) ∧ w'.cell? (ad661.add (x14_3).toNat) = some (.int .i64 (rd x6_1 x14_3)) ∧ w'.cell? (ad661.add (x17_4).toNat) = some (.int .i64 (rd x6_1 x17_4)) ∧ w'.cell? (ad661.add (x14_3).toNat) = some (.int .i64 (rd x6_1 x14_3))) (ds := []) #[false, false, false, false, false, false, false, false, false, false, false, false, false, false, false, false, false, false, false, false, false, false, false, false, false, false, false, false, false, false, false, false, false, false, false, false, false, false, false, false] zq1 rfl rfl ⟨hx661_0, hx662_0, hx663_0, hx664_0⟩ (fun hHeld => ?_); refine with_tabW isobathlaw05_ClockOrder.tab26 isobathlaw05_ClockOrder.bits26 (fun HT_ HW_ => ?_)
                               generalize w59.drew = w72 at HO_5 HO_6 HO_10 BK655 HB hx661_0 hx662_0 hx663_0 hx664_0 hHeld ⊢
                               refine zpz (i := 0) (N := some 130) (any_of HT_.out zq1) ?_
                               refine zpz (i := 1) (N := some 131) (any_of HT_.out zq1) ?_
                               refine zpz (i := 2) (N := some 132) (any_of HT_.out zq1) ?_
                               refine zpz (i := 3) (N := some 133) (any_of HT_.out zq1) ?_
                               refine zpz (i := 4) (N := some 134) (any_of HT_.out zq1) ?_
                               refine zpz (i := 5) (N := some 135) (any_of HT_.out zq1) ?_
                               refine zpz (i := 6) (N := some 136) (any_of HT_.out zq1) ?_
                               refine zpz (i := 7) (N := some 137) (any_of HT_.out zq1) ?_
                               refine zpz (i := 8) (N := some 138) (any_of HT_.out zq1) ?_
                               refine zpz (i := 10) (N := some 140) (any_of HT_.out zq1) ?_
                               refine zpz (i := 11) (N := some 141) (any_of HT_.out zq1) ?_
                               refine zpz (i := 12) (N := some 142) (any_of HT_.out zq1) ?_
                               refine ztz (i := 9) (N := some 139) (take_ofW HT_.out HW_.out zq1) hHeld ?_
                               refine ztz (i := 13) (N := some 143) (take_ofW HT_.out HW_.out zq1) hHeld ?_
                               refine zpz (i := 14) (N := some 144) (any_of HT_.out zq1) ?_
                               refine zpz (i := 15) (N := some 145) (any_of HT_.out zq1) ?_
                               refine zpz (i := 16) (N := some 146) (any_of HT_.out zq1) ?_
                               refine zpz (i := 17) (N := some 147) (any_of HT_.out zq1) ?_
                               refine zpz (i := 18) (N := some 148) (any_of HT_.out zq1) ?_
                               refine zpz (i := 19) (N := some 149) (any_of HT_.out zq1) ?_
                               refine zpz (i := 20) (N := some 150) (any_of HT_.out zq1) ?_
                               refine zpz (i := 21) (N := some 151) (any_of HT_.out zq1) ?_
                               refine zpz (i := 22) (N := some 152) (any_of HT_.out zq1) ?_
                               refine zpz (i := 23) (N := some 153) (any_of HT_.out zq1) ?_
                               refine zpz (i := 25) (N := some 155) (any_of HT_.out zq1) ?_
                               refine zpz (i := 26) (N := some 156) (any_of HT_.out zq1) ?_
                               refine zpz (i := 27) (N := some 157) (any_of HT_.out zq1) ?_
                               refine ztz (i := 24) (N := some 154) (take_ofW HT_.out HW_.out zq1) hHeld ?_
                               refine ztz (i := 28) (N := some 158) (take_ofW HT_.out HW_.out zq1) hHeld ?_
                               refine zpz (i := 29) (N := some 159) (any_of HT_.out zq1) ?_
                               refine zpz (i := 30) (N := some 160) (any_of HT_.out zq1) ?_
                               refine zpz (i := 31) (N := some 161) (any_of HT_.out zq1) ?_
                               refine zpz (i := 32) (N := some 162) (any_of HT_.out zq1) ?_
                               refine zpz (i := 33) (N := some 163) (any_of HT_.out zq1) ?_
                               refine zpz (i := 34) (N := some 164) (any_of HT_.out zq1) ?_
                               refine zpz (i := 35) (N := some 165) (any_of HT_.out zq1) ?_
                               refine zpz (i := 36) (N := some 166) (any_of HT_.out zq1) ?_
                               refine pure_ (i := 37) (N := some 167) (v := undef) (a' := ?_) #[true, true, true, true, true, true, true, true, true, true, true, true, true, true, true, true, true, true, true, true, true, true, true, true, true, true, true, true, true, true, true, true, true, true, true, true, true, true, false, false] rfl rfl (any_of HT_.out zq1) (fun _ _ _ h => h) (Or.inr ⟨by rfl, rfl⟩) ?_ ?_
                               rotate_left
                               ·simp only [Act.put, List.setIfInBounds_toArray, List.set_cons_zero, List.set_cons_succ, i64_w, i32_w]
                                rfl
                               refine pure_ (i := 38) (N := some 168) (v := undef) (a' := ?_) #[true, true, true, true, true, true, true, true, true, true, true, true, true, true, true, true, true, true, true, true, true, true, true, true, true, true, true, true, true, true, true, true, true, true, true, true, true, true, true, false] rfl rfl (any_of HT_.out zq1) (fun _ _ _ h => h) (Or.inr ⟨by rfl, rfl⟩) ?_ ?_
                               rotate_left
                               ·simp only [Act.put, List.setIfInBounds_toArray, List.set_cons_zero, List.set_cons_succ, i64_w, i32_w]
                                rfl
                               refine zpz (i := 39) (N := some 169) (any_of HT_.out zq1) ?_
                               refine done_ (done_of HT_.out zq1) ?_
                               try go_wp2
                               go_meet
                               case rel => exact ⟨_, (true), zq23, H', ⟨zq59⟩, ⟨zq39⟩, ⟨zq53⟩, ⟨zq58⟩, ⟨zbfr⟩, ⟨zbzr⟩⟩
                              ·rw [if_neg c71] at H
                               have c71b0 : decide (t659 < 0) = false := decide_eq_false c71
                               clear c71
                               have H' := Aside0.mk H
                               clear H
                               try go_wp2
                               replace HO_5 := Aside0.mk (Kd.R_drew HO_5.out)
                               replace HO_6 := Aside0.mk (Kd.R_drew HO_6.out)
                               replace HO_10 := Aside0.mk (Kd.R_drew HO_10.out)
                               replace BK655 := Aside0.mk (blk_drew BK655.out)
                               replace HB := Aside0.mk (below_drew1 HB.out)
                               obtain ⟨Ao75, co75, eo75⟩ := Kd.R_slice HO_6.out
                               (first | subst eo75 | (injection eo75 with f1_ f2_ f3_; have f4_ := f1_.symm; have f5_ := f3_.symm; clear f1_ f2_ f3_; subst f4_; subst f5_))
                               have p661 : 0 ≤ (x17_4 : Int) := of_decide_eq_true zq25
                               have q661 : x17_4 < (x6_1.length : Int) := of_decide_eq_true zq25
                               obtain ⟨ad661, e661, hx661_0⟩ := Kd.at_int (Kd.R_reads' HO_6.out).2.2 x17_4 p661 q661
                               cases e661
                               replace p661 := eq_true p661
                               replace q661 := eq_true q661
                               have p662 : 0 ≤ (x14_3 : Int) := of_decide_eq_true zq25
                               have q662 : x14_3 < (x6_1.length : Int) := of_decide_eq_true zq25
                               obtain ⟨ad662, e662, hx662_0⟩ := Kd.at_int (Kd.R_reads' HO_6.out).2.2 x14_3 p662 q662
                               obtain rfl : ad661 = ad662 := (by injection e662)
                               replace p662 := eq_true p662
                               replace q662 := eq_true q662
                               have p663 : 0 ≤ (x17_4 : Int) := of_decide_eq_true zq25
                               have q663 : x17_4 < (x6_1.length : Int) := of_decide_eq_true zq25
                               obtain ⟨ad663, e663, hx663_0⟩ := Kd.at_int (Kd.R_reads' HO_6.out).2.2 x17_4 p663 q663
                               obtain rfl : ad661 = ad663 := (by injection e663)
                               replace p663 := eq_true p663
                               replace q663 := eq_true q663
                               have p664 : 0 ≤ (x14_3 : Int) := of_decide_eq_true zq25
                               have q664 : x14_3 < (x6_1.length : Int) := of_decide_eq_true zq25
                               obtain ⟨ad664, e664, hx664_0⟩ := Kd.at_int (Kd.R_reads' HO_6.out).2.2 x14_3 p664 q664
                               obtain rfl : ad661 = ad664 := (by injection e664)
                               replace p664 := eq_true p664
                               replace q664 := eq_true q664
                               refine start_ (n := 40) (S := fun w' => w'.cell? (ad661.add (x17_4).toNat) = some (.int .i64 (rd x6_1 x17_4)) ∧ w'.cell? (ad661.add (x14_3).toNat) = some (.int .i64 (rd x6_1 x14_3)) ∧ w'.cell? (ad661.add (x17_4).toNat) = some (.int .i64 (rd x6_1 x17_4)) ∧ w'.cell? (ad661.add (x14_3).toNat) = some (.int .i64 (rd x6_1 x14_3))) (ds := []) #[false, false, false, false, false, false, false, false, false, false, false, false, false, false, false, false, false, false, false, false, false, false, false, false, false, false, false, false, false, false, false, false, false, false, false, false, false, false, false, false] zq1 rfl rfl ⟨hx661_0, hx662_0, hx663_0, hx664_0⟩ (fun hHeld => ?_); refine with_tabW isobathlaw05_ClockOrder.tab26 isobathlaw05_ClockOrder.bits26 (fun HT_ HW_ => ?_)
                               generalize w59.drew = w74 at HO_5 HO_6 HO_10 BK655 HB hx661_0 hx662_0 hx663_0 hx664_0 hHeld ⊢
                               refine zpz (i := 0) (N := some 130) (any_of HT_.out zq1) ?_
                               refine zpz (i := 1) (N := some 131) (any_of HT_.out zq1) ?_
                               refine zpz (i := 2) (N := some 132) (any_of HT_.out zq1) ?_
                               refine zpz (i := 3) (N := some 133) (any_of HT_.out zq1) ?_
                               refine zpz (i := 4) (N := some 134) (any_of HT_.out zq1) ?_
                               refine zpz (i := 5) (N := some 135) (any_of HT_.out zq1) ?_
                               refine zpz (i := 6) (N := some 136) (any_of HT_.out zq1) ?_
                               refine zpz (i := 7) (N := some 137) (any_of HT_.out zq1) ?_
                               refine zpz (i := 8) (N := some 138) (any_of HT_.out zq1) ?_
                               refine zpz (i := 10) (N := some 140) (any_of HT_.out zq1) ?_
                               refine zpz (i := 11) (N := some 141) (any_of HT_.out zq1) ?_
                               refine zpz (i := 12) (N := some 142) (any_of HT_.out zq1) ?_
                               refine ztz (i := 9) (N := some 139) (take_ofW HT_.out HW_.out zq1) hHeld ?_
                               refine ztz (i := 13) (N := some 143) (take_ofW HT_.out HW_.out zq1) hHeld ?_
                               refine zpz (i := 14) (N := some 144) (any_of HT_.out zq1) ?_
                               refine zpz (i := 15) (N := some 145) (any_of HT_.out zq1) ?_
                               refine zpz (i := 16) (N := some 146) (any_of HT_.out zq1) ?_
                               refine zpz (i := 17) (N := some 147) (any_of HT_.out zq1) ?_
                               refine zpz (i := 18) (N := some 148) (any_of HT_.out zq1) ?_
                               refine zpz (i := 19) (N := some 149) (any_of HT_.out zq1) ?_
                               refine zpz (i := 20) (N := some 150) (any_of HT_.out zq1) ?_
                               refine zpz (i := 21) (N := some 151) (any_of HT_.out zq1) ?_
                               refine zpz (i := 22) (N := some 152) (any_of HT_.out zq1) ?_
                               refine zpz (i := 23) (N := some 153) (any_of HT_.out zq1) ?_
                               refine zpz (i := 25) (N := some 155) (any_of HT_.out zq1) ?_
                               refine zpz (i := 26) (N := some 156) (any_of HT_.out zq1) ?_
                               refine zpz (i := 27) (N := some 157) (any_of HT_.out zq1) ?_
                               refine ztz (i := 24) (N := some 154) (take_ofW HT_.out HW_.out zq1) hHeld ?_
                               refine ztz (i := 28) (N := some 158) (take_ofW HT_.out HW_.out zq1) hHeld ?_
                               refine zpz (i := 29) (N := some 159) (any_of HT_.out zq1) ?_
                               refine zpz (i := 30) (N := some 160) (any_of HT_.out zq1) ?_
                               refine zpz (i := 31) (N := some 161) (any_of HT_.out zq1) ?_
                               refine zpz (i := 32) (N := some 162) (any_of HT_.out zq1) ?_
                               refine zpz (i := 33) (N := some 163) (any_of HT_.out zq1) ?_
                               refine zpz (i := 34) (N := some 164) (any_of HT_.out zq1) ?_
                               refine zpz (i := 35) (N := some 165) (any_of HT_.out zq1) ?_
                               refine zpz (i := 36) (N := some 166) (any_of HT_.out zq1) ?_
                               refine zpz (i := 37) (N := some 167) (any_of HT_.out zq1) ?_
                               refine zpz (i := 38) (N := some 168) (any_of HT_.out zq1) ?_
                               refine zpz (i := 39) (N := some 169) (any_of HT_.out zq1) ?_
                               refine done_ (done_of HT_.out zq1) ?_
                               try go_wp2
                               go_meet
                               case rel => exact ⟨_, (decide (t659 > 2)), zq23, H', ⟨zq59⟩, ⟨zq39⟩, ⟨zq53⟩, ⟨zq58⟩, ⟨zbfr⟩, ⟨zbzr⟩⟩
                            ·rw [if_neg c67] at H
                             have c67b0 : (t659 == 0) = false := beq_eq_false_iff_ne.mpr c67
                             have c67b1 : (t659 != 0) = true := bne_iff_ne.mpr c67
                             by_cases c76 : t659 < 0
                             ·rw [if_pos c76] at H
                              have c76b0 : decide (t659 < 0) = true := decide_eq_true c76
                              clear c76
                              have H' := Aside0.mk H
                              clear H
                              try go_wp2
                              replace HO_5 := Aside0.mk (Kd.R_drew HO_5.out)
                              replace HO_6 := Aside0.mk (Kd.R_drew HO_6.out)
                              replace HO_10 := Aside0.mk (Kd.R_drew HO_10.out)
                              replace BK655 := Aside0.mk (blk_drew BK655.out)
                              replace HB := Aside0.mk (below_drew1 HB.out)
                              obtain ⟨Ao78, co78, eo78⟩ := Kd.R_slice HO_6.out
                              (first | subst eo78 | (injection eo78 with f1_ f2_ f3_; have f4_ := f1_.symm; have f5_ := f3_.symm; clear f1_ f2_ f3_; subst f4_; subst f5_))
                              have p661 : 0 ≤ (x17_4 : Int) := of_decide_eq_true zq25
                              have q661 : x17_4 < (x6_1.length : Int) := of_decide_eq_true zq25
                              obtain ⟨ad661, e661, hx661_0⟩ := Kd.at_int (Kd.R_reads' HO_6.out).2.2 x17_4 p661 q661
                              cases e661
                              replace p661 := eq_true p661
                              replace q661 := eq_true q661
                              have p662 : 0 ≤ (x14_3 : Int) := of_decide_eq_true zq25
                              have q662 : x14_3 < (x6_1.length : Int) := of_decide_eq_true zq25
                              obtain ⟨ad662, e662, hx662_0⟩ := Kd.at_int (Kd.R_reads' HO_6.out).2.2 x14_3 p662 q662
                              obtain rfl : ad661 = ad662 := (by injection e662)
                              replace p662 := eq_true p662
                              replace q662 := eq_true q662
                              refine start_ (n := 40) (S := fun w' => w'.cell? (ad661.add (x17_4).toNat) = some (.int .i64 (rd x6_1 x17_4)) ∧ w'.cell? (ad661.add (x14_3).toNat) = some (.int .i64 (rd x6_1 x14_3))) (ds := []) #[false, false, false, false, false, false, false, false, false, false, false, false, false, false, false, false, false, false, false, false, false, false, false, false, false, false, false, false, false, false, false, false, false, false, false, false, false, false, false, false] zq1 rfl rfl ⟨hx661_0, hx662_0⟩ (fun hHeld => ?_); refine with_tabW isobathlaw05_ClockOrder.tab26 isobathlaw05_ClockOrder.bits26 (fun HT_ HW_ => ?_)
                              generalize w59.drew = w77 at HO_5 HO_6 HO_10 BK655 HB hx661_0 hx662_0 hHeld ⊢
                              refine zpz (i := 0) (N := some 130) (any_of HT_.out zq1) ?_
                              refine zpz (i := 1) (N := some 131) (any_of HT_.out zq1) ?_
                              refine zpz (i := 2) (N := some 132) (any_of HT_.out zq1) ?_
                              refine zpz (i := 3) (N := some 133) (any_of HT_.out zq1) ?_
                              refine zpz (i := 4) (N := some 134) (any_of HT_.out zq1) ?_
                              refine zpz (i := 5) (N := some 135) (any_of HT_.out zq1) ?_
                              refine zpz (i := 6) (N := some 136) (any_of HT_.out zq1) ?_
                              refine zpz (i := 7) (N := some 137) (any_of HT_.out zq1) ?_
                              refine zpz (i := 8) (N := some 138) (any_of HT_.out zq1) ?_
                              refine zpz (i := 10) (N := some 140) (any_of HT_.out zq1) ?_
                              refine zpz (i := 11) (N := some 141) (any_of HT_.out zq1) ?_
                              refine zpz (i := 12) (N := some 142) (any_of HT_.out zq1) ?_
                              refine ztz (i := 9) (N := some 139) (take_ofW HT_.out HW_.out zq1) hHeld ?_
                              refine ztz (i := 13) (N := some 143) (take_ofW HT_.out HW_.out zq1) hHeld ?_
                              refine zpz (i := 14) (N := some 144) (any_of HT_.out zq1) ?_
                              refine zpz (i := 15) (N := some 145) (any_of HT_.out zq1) ?_
                              refine zpz (i := 16) (N := some 146) (any_of HT_.out zq1) ?_
                              refine zpz (i := 17) (N := some 147) (any_of HT_.out zq1) ?_
                              refine zpz (i := 18) (N := some 148) (any_of HT_.out zq1) ?_
                              refine zpz (i := 19) (N := some 149) (any_of HT_.out zq1) ?_
                              refine zpz (i := 20) (N := some 150) (any_of HT_.out zq1) ?_
                              refine pure_ (i := 21) (N := some 151) (v := undef) (a' := ?_) #[true, true, true, true, true, true, true, true, true, true, true, true, true, true, true, true, true, true, true, true, true, true, false, false, false, false, false, false, false, false, false, false, false, false, false, false, false, false, false, false] rfl rfl (any_of HT_.out zq1) (fun _ _ _ h => h) (Or.inr ⟨by rfl, rfl⟩) ?_ ?_
                              rotate_left
                              ·simp only [Act.put, List.setIfInBounds_toArray, List.set_cons_zero, List.set_cons_succ, i64_w, i32_w]
                               rfl
                              refine pure_ (i := 22) (N := some 152) (v := undef) (a' := ?_) #[true, true, true, true, true, true, true, true, true, true, true, true, true, true, true, true, true, true, true, true, true, true, true, false, false, false, false, false, false, false, false, false, false, false, false, false, false, false, false, false] rfl rfl (any_of HT_.out zq1) (fun _ _ _ h => h) (Or.inr ⟨by rfl, rfl⟩) ?_ ?_
                              rotate_left
                              ·simp only [Act.put, List.setIfInBounds_toArray, List.set_cons_zero, List.set_cons_succ, i64_w, i32_w]
                               rfl
                              refine pure_ (i := 23) (N := some 153) (v := undef) (a' := ?_) #[true, true, true, true, true, true, true, true, true, true, true, true, true, true, true, true, true, true, true, true, true, true, true, true, false, false, false, false, false, false, false, false, false, false, false, false, false, false, false, false] rfl rfl (any_of HT_.out zq1) (fun _ _ _ h => h) (Or.inr ⟨by rfl, rfl⟩) ?_ ?_
                              rotate_left
                              ·simp only [Act.put, List.setIfInBounds_toArray, List.set_cons_zero, List.set_cons_succ, i64_w, i32_w]
                               rfl
                              refine pure_ (i := 24) (N := some 154) (v := undef) (a' := ?_) #[true, true, true, true, true, true, true, true, true, true, true, true, true, true, true, true, true, true, true, true, true, true, true, true, true, false, false, false, false, false, false, false, false, false, false, false, false, false, false, false] rfl rfl (any_of HT_.out zq1) (fun _ _ _ h => h) (Or.inr ⟨by rfl, rfl⟩) ?_ ?_
                              rotate_left
                              ·simp only [Act.put, List.setIfInBounds_toArray, List.set_cons_zero, List.set_cons_succ, i64_w, i32_w]
                               rfl
                              refine pure_ (i := 25) (N := some 155) (v := undef) (a' := ?_) #[true, true, true, true, true, true, true, true, true, true, true, true, true, true, true, true, true, true, true, true, true, true, true, true, true, true, false, false, false, false, false, false, false, false, false, false, false, false, false, false] rfl rfl (any_of HT_.out zq1) (fun _ _ _ h => h) (Or.inr ⟨by rfl, rfl⟩) ?_ ?_
                              rotate_left
                              ·simp only [Act.put, List.setIfInBounds_toArray, List.set_cons_zero, List.set_cons_succ, i64_w, i32_w]
                               rfl
                              refine pure_ (i := 26) (N := some 156) (v := undef) (a' := ?_) #[true, true, true, true, true, true, true, true, true, true, true, true, true, true, true, true, true, true, true, true, true, true, true, true, true, true, true, false, false, false, false, false, false, false, false, false, false, false, false, false] rfl rfl (any_of HT_.out zq1) (fun _ _ _ h => h) (Or.inr ⟨by rfl, rfl⟩) ?_ ?_
                              rotate_left
                              ·simp only [Act.put, List.setIfInBounds_toArray, List.set_cons_zero, List.set_cons_succ, i64_w, i32_w]
                               rfl
                              refine pure_ (i := 27) (N := some 157) (v := undef) (a' := ?_) #[true, true, true, true, true, true, true, true, true, true, true, true, true, true, true, true, true, true, true, true, true, true, true, true, true, true, true, true, false, false, false, false, false, false, false, false, false, false, false, false] rfl rfl (any_of HT_.out zq1) (fun _ _ _ h => h) (Or.inr ⟨by rfl, rfl⟩) ?_ ?_
                              rotate_left
                              ·simp only [Act.put, List.setIfInBounds_toArray, List.set_cons_zero, List.set_cons_succ, i64_w, i32_w]
                               rfl
                              refine pure_ (i := 28) (N := some 158) (v := undef) (a' := ?_) #[true, true, true, true, true, true, true, true, true, true, true, true, true, true, true, true, true, true, true, true, true, true, true, true, true, true, true, true, true, false, false, false, false, false, false, false, false, false, false, false] rfl rfl (any_of HT_.out zq1) (fun _ _ _ h => h) (Or.inr ⟨by rfl, rfl⟩) ?_ ?_
                              rotate_left
                              ·simp only [Act.put, List.setIfInBounds_toArray, List.set_cons_zero, List.set_cons_succ, i64_w, i32_w]
                               rfl
                              refine pure_ (i := 29) (N := some 159) (v := undef) (a' := ?_) #[true, true, true, true, true, true, true, true, true, true, true, true, true, true, true, true, true, true, true, true, true, true, true, true, true, true, true, true, true, true, false, false, false, false, false, false, false, false, false, false] rfl rfl (any_of HT_.out zq1) (fun _ _ _ h => h) (Or.inr ⟨by rfl, rfl⟩) ?_ ?_
                              rotate_left
                              ·simp only [Act.put, List.setIfInBounds_toArray, List.set_cons_zero, List.set_cons_succ, i64_w, i32_w]
                               rfl
                              refine zpz (i := 30) (N := some 160) (any_of HT_.out zq1) ?_
                              refine zpz (i := 31) (N := some 161) (any_of HT_.out zq1) ?_
                              refine zpz (i := 32) (N := some 162) (any_of HT_.out zq1) ?_
                              refine zpz (i := 33) (N := some 163) (any_of HT_.out zq1) ?_
                              refine zpz (i := 34) (N := some 164) (any_of HT_.out zq1) ?_
                              refine zpz (i := 35) (N := some 165) (any_of HT_.out zq1) ?_
                              refine zpz (i := 36) (N := some 166) (any_of HT_.out zq1) ?_
                              refine pure_ (i := 37) (N := some 167) (v := undef) (a' := ?_) #[true, true, true, true, true, true, true, true, true, true, true, true, true, true, true, true, true, true, true, true, true, true, true, true, true, true, true, true, true, true, true, true, true, true, true, true, true, true, false, false] rfl rfl (any_of HT_.out zq1) (fun _ _ _ h => h) (Or.inr ⟨by rfl, rfl⟩) ?_ ?_
                              rotate_left
                              ·simp only [Act.put, List.setIfInBounds_toArray, List.set_cons_zero, List.set_cons_succ, i64_w, i32_w]
                               rfl
                              refine pure_ (i := 38) (N := some 168) (v := undef) (a' := ?_) #[true, true, true, true, true, true, true, true, true, true, true, true, true, true, true, true, true, true, true, true, true, true, true, true, true, true, true, true, true, true, true, true, true, true, true, true, true, true, true, false] rfl rfl (any_of HT_.out zq1) (fun _ _ _ h => h) (Or.inr ⟨by rfl, rfl⟩) ?_ ?_
                              rotate_left
                              ·simp only [Act.put, List.setIfInBounds_toArray, List.set_cons_zero, List.set_cons_succ, i64_w, i32_w]
                               rfl
                              refine zpz (i := 39) (N := some 169) (any_of HT_.out zq1) ?_
                              refine done_ (done_of HT_.out zq1) ?_
                              try go_wp2
                              go_meet
                              case rel => exact ⟨_, (true), zq23, H', ⟨zq59⟩, ⟨zq39⟩, ⟨zq53⟩, ⟨zq58⟩, ⟨zbfr⟩, ⟨zbzr⟩⟩
                             ·rw [if_neg c76] at H
                              have c76b0 : decide (t659 < 0) = false := decide_eq_false c76
                              clear c76
                              have H' := Aside0.mk H
                              clear H
                              try go_wp2
                              replace HO_5 := Aside0.mk (Kd.R_drew HO_5.out)
                              replace HO_6 := Aside0.mk (Kd.R_drew HO_6.out)
                              replace HO_10 := Aside0.mk (Kd.R_drew HO_10.out)
                              replace BK655 := Aside0.mk (blk_drew BK655.out)
                              replace HB := Aside0.mk (below_drew1 HB.out)
                              obtain ⟨Ao80, co80, eo80⟩ := Kd.R_slice HO_6.out
                              (first | subst eo80 | (injection eo80 with f1_ f2_ f3_; have f4_ := f1_.symm; have f5_ := f3_.symm; clear f1_ f2_ f3_; subst f4_; subst f5_))
                              have p661 : 0 ≤ (x17_4 : Int) := of_decide_eq_true zq25
                              have q661 : x17_4 < (x6_1.length : Int) := of_decide_eq_true zq25
                              obtain ⟨ad661, e661, hx661_0⟩ := Kd.at_int (Kd.R_reads' HO_6.out).2.2 x17_4 p661 q661
                              cases e661
                              replace p661 := eq_true p661
                              replace q661 := eq_true q661
                              have p662 : 0 ≤ (x14_3 : Int) := of_decide_eq_true zq25
                              have q662 : x14_3 < (x6_1.length : Int) := of_decide_eq_true zq25
                              obtain ⟨ad662, e662, hx662_0⟩ := Kd.at_int (Kd.R_reads' HO_6.out).2.2 x14_3 p662 q662
                              obtain rfl : ad661 = ad662 := (by injection e662)
                              replace p662 := eq_true p662
                              replace q662 := eq_true q662
                              refine start_ (n := 40) (S := fun w' => w'.cell? (ad661.add (x17_4).toNat) = some (.int .i64 (rd x6_1 x17_4)) ∧ w'.cell? (ad661.add (x14_3).toNat) = some (.int .i64 (rd x6_1 x14_3))) (ds := []) #[false, false, false, false, false, false, false, false, false, false, false, false, false, false, false, false, false, false, false, false, false, false, false, false, false, false, false, false, false, false, false, false, false, false, false, false, false, false, false, false] zq1 rfl rfl ⟨hx661_0, hx662_0⟩ (fun hHeld => ?_); refine with_tabW isobathlaw05_ClockOrder.tab26 isobathlaw05_ClockOrder.bits26 (fun HT_ HW_ => ?_)
                              generalize w59.drew = w79 at HO_5 HO_6 HO_10 BK655 HB hx661_0 hx662_0 hHeld ⊢
                              refine zpz (i := 0) (N := some 130) (any_of HT_.out zq1) ?_
                              refine zpz (i := 1) (N := some 131) (any_of HT_.out zq1) ?_
                              refine zpz (i := 2) (N := some 132) (any_of HT_.out zq1) ?_
                              refine zpz (i := 3) (N := some 133) (any_of HT_.out zq1) ?_
                              refine zpz (i := 4) (N := some 134) (any_of HT_.out zq1) ?_
                              refine zpz (i := 5) (N := some 135) (any_of HT_.out zq1) ?_
                              refine zpz (i := 6) (N := some 136) (any_of HT_.out zq1) ?_
                              refine zpz (i := 7) (N := some 137) (any_of HT_.out zq1) ?_
                              refine zpz (i := 8) (N := some 138) (any_of HT_.out zq1) ?_
                              refine zpz (i := 10) (N := some 140) (any_of HT_.out zq1) ?_
                              refine zpz (i := 11) (N := some 141) (any_of HT_.out zq1) ?_
                              refine zpz (i := 12) (N := some 142) (any_of HT_.out zq1) ?_
                              refine ztz (i := 9) (N := some 139) (take_ofW HT_.out HW_.out zq1) hHeld ?_
                              refine ztz (i := 13) (N := some 143) (take_ofW HT_.out HW_.out zq1) hHeld ?_
                              refine zpz (i := 14) (N := some 144) (any_of HT_.out zq1) ?_
                              refine zpz (i := 15) (N := some 145) (any_of HT_.out zq1) ?_
                              refine zpz (i := 16) (N := some 146) (any_of HT_.out zq1) ?_
                              refine zpz (i := 17) (N := some 147) (any_of HT_.out zq1) ?_
                              refine zpz (i := 18) (N := some 148) (any_of HT_.out zq1) ?_
                              refine zpz (i := 19) (N := some 149) (any_of HT_.out zq1) ?_
                              refine zpz (i := 20) (N := some 150) (any_of HT_.out zq1) ?_
                              refine pure_ (i := 21) (N := some 151) (v := undef) (a' := ?_) #[true, true, true, true, true, true, true, true, true, true, true, true, true, true, true, true, true, true, true, true, true, true, false, false, false, false, false, false, false, false, false, false, false, false, false, false, false, false, false, false] rfl rfl (any_of HT_.out zq1) (fun _ _ _ h => h) (Or.inr ⟨by rfl, rfl⟩) ?_ ?_
                              rotate_left
                              ·simp only [Act.put, List.setIfInBounds_toArray, List.set_cons_zero, List.set_cons_succ, i64_w, i32_w]
                               rfl
                              refine pure_ (i := 22) (N := some 152) (v := undef) (a' := ?_) #[true, true, true, true, true, true, true, true, true, true, true, true, true, true, true, true, true, true, true, true, true, true, true, false, false, false, false, false, false, false, false, false, false, false, false, false, false, false, false, false] rfl rfl (any_of HT_.out zq1) (fun _ _ _ h => h) (Or.inr ⟨by rfl, rfl⟩) ?_ ?_
                              rotate_left
                              ·simp only [Act.put, List.setIfInBounds_toArray, List.set_cons_zero, List.set_cons_succ, i64_w, i32_w]
                               rfl
                              refine pure_ (i := 23) (N := some 153) (v := undef) (a' := ?_) #[true, true, true, true, true, true, true, true, true, true, true, true, true, true, true, true, true, true, true, true, true, true, true, true, false, false, false, false, false, false, false, false, false, false, false, false, false, false, false, false] rfl rfl (any_of HT_.out zq1) (fun _ _ _ h => h) (Or.inr ⟨by rfl, rfl⟩) ?_ ?_
                              rotate_left
                              ·simp only [Act.put, List.setIfInBounds_toArray, List.set_cons_zero, List.set_cons_succ, i64_w, i32_w]
                               rfl
                              refine pure_ (i := 24) (N := some 154) (v := undef) (a' := ?_) #[true, true, true, true, true, true, true, true, true, true, true, true, true, true, true, true, true, true, true, true, true, true, true, true, true, false, false, false, false, false, false, false, false, false, false, false, false, false, false, false] rfl rfl (any_of HT_.out zq1) (fun _ _ _ h => h) (Or.inr ⟨by rfl, rfl⟩) ?_ ?_
                              rotate_left
                              ·simp only [Act.put, List.setIfInBounds_toArray, List.set_cons_zero, List.set_cons_succ, i64_w, i32_w]
                               rfl
                              refine pure_ (i := 25) (N := some 155) (v := undef) (a' := ?_) #[true, true, true, true, true, true, true, true, true, true, true, true, true, true, true, true, true, true, true, true, true, true, true, true, true, true, false, false, false, false, false, false, false, false, false, false, false, false, false, false] rfl rfl (any_of HT_.out zq1) (fun _ _ _ h => h) (Or.inr ⟨by rfl, rfl⟩) ?_ ?_
                              rotate_left
                              ·simp only [Act.put, List.setIfInBounds_toArray, List.set_cons_zero, List.set_cons_succ, i64_w, i32_w]
                               rfl
                              refine pure_ (i := 26) (N := some 156) (v := undef) (a' := ?_) #[true, true, true, true, true, true, true, true, true, true, true, true, true, true, true, true, true, true, true, true, true, true, true, true, true, true, true, false, false, false, false, false, false, false, false, false, false, false, false, false] rfl rfl (any_of HT_.out zq1) (fun _ _ _ h => h) (Or.inr ⟨by rfl, rfl⟩) ?_ ?_
                              rotate_left
                              ·simp only [Act.put, List.setIfInBounds_toArray, List.set_cons_zero, List.set_cons_succ, i64_w, i32_w]
                               rfl
                              refine pure_ (i := 27) (N := some 157) (v := undef) (a' := ?_) #[true, true, true, true, true, true, true, true, true, true, true, true, true, true, true, true, true, true, true, true, true, true, true, true, true, true, true, true, false, false, false, false, false, false, false, false, false, false, false, false] rfl rfl (any_of HT_.out zq1) (fun _ _ _ h => h) (Or.inr ⟨by rfl, rfl⟩) ?_ ?_
                              rotate_left
                              ·simp only [Act.put, List.setIfInBounds_toArray, List.set_cons_zero, List.set_cons_succ, i64_w, i32_w]
                               rfl
                              refine pure_ (i := 28) (N := some 158) (v := undef) (a' := ?_) #[true, true, true, true, true, true, true, true, true, true, true, true, true, true, true, true, true, true, true, true, true, true, true, true, true, true, true, true, true, false, false, false, false, false, false, false, false, false, false, false] rfl rfl (any_of HT_.out zq1) (fun _ _ _ h => h) (Or.inr ⟨by rfl, rfl⟩) ?_ ?_
                              rotate_left
                              ·simp only [Act.put, List.setIfInBounds_toArray, List.set_cons_zero, List.set_cons_succ, i64_w, i32_w]
                               rfl
                              refine pure_ (i := 29) (N := some 159) (v := undef) (a' := ?_) #[true, true, true, true, true, true, true, true, true, true, true, true, true, true, true, true, true, true, true, true, true, true, true, true, true, true, true, true, true, true, false, false, false, false, false, false, false, false, false, false] rfl rfl (any_of HT_.out zq1) (fun _ _ _ h => h) (Or.inr ⟨by rfl, rfl⟩) ?_ ?_
                              rotate_left
                              ·simp only [Act.put, List.setIfInBounds_toArray, List.set_cons_zero, List.set_cons_succ, i64_w, i32_w]
                               rfl
                              refine zpz (i := 30) (N := some 160) (any_of HT_.out zq1) ?_
                              refine zpz (i := 31) (N := some 161) (any_of HT_.out zq1) ?_
                              refine zpz (i := 32) (N := some 162) (any_of HT_.out zq1) ?_
                              refine zpz (i := 33) (N := some 163) (any_of HT_.out zq1) ?_
                              refine zpz (i := 34) (N := some 164) (any_of HT_.out zq1) ?_
                              refine zpz (i := 35) (N := some 165) (any_of HT_.out zq1) ?_
                              refine zpz (i := 36) (N := some 166) (any_of HT_.out zq1) ?_
                              refine zpz (i := 37) (N := some 167) (any_of HT_.out zq1) ?_
                              refine zpz (i := 38) (N := some 168) (any_of HT_.out zq1) ?_
                              refine zpz (i := 39) (N := some 169) (any_of HT_.out zq1) ?_
                              refine done_ (done_of HT_.out zq1) ?_
                              try go_wp2
                              go_meet
                              case rel => exact ⟨_, (decide (t659 > 2)), zq23, H', ⟨zq59⟩, ⟨zq39⟩, ⟨zq53⟩, ⟨zq58⟩, ⟨zbfr⟩, ⟨zbzr⟩⟩
                          ·rw [if_neg c63] at H
                           exact absurd H (by simp)
                         ·rw [if_neg c62] at H
                          exact absurd H (by simp)
                        ·rw [if_neg c61] at H
                         have c61b0 : (t659 == 2) = false := beq_eq_false_iff_ne.mpr c61
                         have c61b1 : (t659 != 2) = true := bne_iff_ne.mpr c61
                         by_cases c81 : t659 = 0
                         ·rw [if_pos c81] at H
                          have c81b0 : (t659 == 0) = true := beq_iff_eq.mpr c81
                          have c81b1 : (t659 != 0) = false := bne_eq_false_iff_eq.mpr c81
                          clear c81
                          by_cases c82 : x17_4 < (x6_1.length : Int)
                          ·rw [if_pos c82] at H
                           have c82b0 : decide (x17_4 < (x6_1.length : Int)) = true := decide_eq_true c82
                           clear c82
                           by_cases c83 : x14_3 < (x6_1.length : Int)
                           ·rw [if_pos c83] at H
                            have c83b0 : decide (x14_3 < (x6_1.length : Int)) = true := decide_eq_true c83
                            clear c83
                            by_cases c84 : (rd x6_1 x17_4) < (rd x6_1 x14_3)
                            ·rw [if_pos c84] at H
                             have c84b0 : decide ((rd x6_1 x17_4) < (rd x6_1 x14_3)) = true := decide_eq_true c84
                             clear c84
                             have H' := Aside0.mk H
                             clear H
                             try go_wp2
                             replace HO_5 := Aside0.mk (Kd.R_drew HO_5.out)
                             replace HO_6 := Aside0.mk (Kd.R_drew HO_6.out)
                             replace HO_10 := Aside0.mk (Kd.R_drew HO_10.out)
                             replace BK655 := Aside0.mk (blk_drew BK655.out)
                             replace HB := Aside0.mk (below_drew1 HB.out)
                             obtain ⟨Ao86, co86, eo86⟩ := Kd.R_slice HO_6.out
                             (first | subst eo86 | (injection eo86 with f1_ f2_ f3_; have f4_ := f1_.symm; have f5_ := f3_.symm; clear f1_ f2_ f3_; subst f4_; subst f5_))
                             have p665 : 0 ≤ (x17_4 : Int) := of_decide_eq_true zq25
                             have q665 : x17_4 < (x6_1.length : Int) := of_decide_eq_true zq25
                             obtain ⟨ad665, e665, hx665_0⟩ := Kd.at_int (Kd.R_reads' HO_6.out).2.2 x17_4 p665 q665
                             cases e665
                             replace p665 := eq_true p665
                             replace q665 := eq_true q665
                             have p666 : 0 ≤ (x14_3 : Int) := of_decide_eq_true zq25
                             have q666 : x14_3 < (x6_1.length : Int) := of_decide_eq_true zq25
                             obtain ⟨ad666, e666, hx666_0⟩ := Kd.at_int (Kd.R_reads' HO_6.out).2.2 x14_3 p666 q666
                             obtain rfl : ad665 = ad666 := (by injection e666)
                             replace p666 := eq_true p666
                             replace q666 := eq_true q666
                             refine start_ (n := 40) (S := fun w' => w'.cell? (ad665.add (x17_4).toNat) = some (.int .i64 (rd x6_1 x17_4)) ∧ w'.cell? (ad665.add (x14_3).toNat) = some (.int .i64 (rd x6_1 x14_3))) (ds := []) #[false, false, false, false, false, false, false, false, false, false, false, false, false, false, false, false, false, false, false, false, false, false, false, false, false, false, false, false, false, false, false, false, false, false, false, false, false, false, false, false] zq1 rfl rfl ⟨hx665_0, hx666_0⟩ (fun hHeld => ?_); refine with_tabW isobathlaw05_ClockOrder.tab26 isobathlaw05_ClockOrder.bits26 (fun HT_ HW_ => ?_)
                             generalize w59.drew = w85 at HO_5 HO_6 HO_10 BK655 HB hx665_0 hx666_0 hHeld ⊢
                             refine zpz (i := 0) (N := some 130) (any_of HT_.out zq1) ?_
                             refine zpz (i := 1) (N := some 131) (any_of HT_.out zq1) ?_
                             refine zpz (i := 2) (N := some 132) (any_of HT_.out zq1) ?_
                             refine zpz (i := 3) (N := some 133) (any_of HT_.out zq1) ?_
                             refine zpz (i := 4) (N := some 134) (any_of HT_.out zq1) ?_
                             refine zpz (i := 5) (N := some 135) (any_of HT_.out zq1) ?_
                             refine pure_ (i := 6) (N := some 136) (v := undef) (a' := ?_) #[true, true, true, true, true, true, true, false, false, false, false, false, false, false, false, false, false, false, false, false, false, false, false, false, false, false, false, false, false, false, false, false, false, false, false, false, false, false, false, false] rfl rfl (any_of HT_.out zq1) (fun _ _ _ h => h) (Or.inr ⟨by rfl, rfl⟩) ?_ ?_
                             rotate_left
                             ·simp only [Act.put, List.setIfInBounds_toArray, List.set_cons_zero, List.set_cons_succ, i64_w, i32_w]
                              rfl
                             refine pure_ (i := 7) (N := some 137) (v := undef) (a' := ?_) #[true, true, true, true, true, true, true, true, false, false, false, false, false, false, false, false, false, false, false, false, false, false, false, false, false, false, false, false, false, false, false, false, false, false, false, false, false, false, false, false] rfl rfl (any_of HT_.out zq1) (fun _ _ _ h => h) (Or.inr ⟨by rfl, rfl⟩) ?_ ?_
                             rotate_left
                             ·simp only [Act.put, List.setIfInBounds_toArray, List.set_cons_zero, List.set_cons_succ, i64_w, i32_w]
                              rfl
                             refine pure_ (i := 8) (N := some 138) (v := undef) (a' := ?_) #[true, true, true, true, true, true, true, true, true, false, false, false, false, false, false, false, false, false, false, false, false, false, false, false, false, false, false, false, false, false, false, false, false, false, false, false, false, false, false, false] rfl rfl (any_of HT_.out zq1) (fun _ _ _ h => h) (Or.inr ⟨by rfl, rfl⟩) ?_ ?_
                             rotate_left
                             ·simp only [Act.put, List.setIfInBounds_toArray, List.set_cons_zero, List.set_cons_succ, i64_w, i32_w]
                              rfl
                             refine pure_ (i := 9) (N := some 139) (v := undef) (a' := ?_) #[true, true, true, true, true, true, true, true, true, true, false, false, false, false, false, false, false, false, false, false, false, false, false, false, false, false, false, false, false, false, false, false, false, false, false, false, false, false, false, false] rfl rfl (any_of HT_.out zq1) (fun _ _ _ h => h) (Or.inr ⟨by rfl, rfl⟩) ?_ ?_
                             rotate_left
                             ·simp only [Act.put, List.setIfInBounds_toArray, List.set_cons_zero, List.set_cons_succ, i64_w, i32_w]
                              rfl
                             refine pure_ (i := 10) (N := some 140) (v := undef) (a' := ?_) #[true, true, true, true, true, true, true, true, true, true, true, false, false, false, false, false, false, false, false, false, false, false, false, false, false, false, false, false, false, false, false, false, false, false, false, false, false, false, false, false] rfl rfl (any_of HT_.out zq1) (fun _ _ _ h => h) (Or.inr ⟨by rfl, rfl⟩) ?_ ?_
                             rotate_left
                             ·simp only [Act.put, List.setIfInBounds_toArray, List.set_cons_zero, List.set_cons_succ, i64_w, i32_w]
                              rfl
                             refine pure_ (i := 11) (N := some 141) (v := undef) (a' := ?_) #[true, true, true, true, true, true, true, true, true, true, true, true, false, false, false, false, false, false, false, false, false, false, false, false, false, false, false, false, false, false, false, false, false, false, false, false, false, false, false, false] rfl rfl (any_of HT_.out zq1) (fun _ _ _ h => h) (Or.inr ⟨by rfl, rfl⟩) ?_ ?_
                             rotate_left
                             ·simp only [Act.put, List.setIfInBounds_toArray, List.set_cons_zero, List.set_cons_succ, i64_w, i32_w]
                              rfl
                             refine pure_ (i := 12) (N := some 142) (v := undef) (a' := ?_) #[true, true, true, true, true, true, true, true, true, true, true, true, true, false, false, false, false, false, false, false, false, false, false, false, false, false, false, false, false, false, false, false, false, false, false, false, false, false, false, false] rfl rfl (any_of HT_.out zq1) (fun _ _ _ h => h) (Or.inr ⟨by rfl, rfl⟩) ?_ ?_
                             rotate_left
                             ·simp only [Act.put, List.setIfInBounds_toArray, List.set_cons_zero, List.set_cons_succ, i64_w, i32_w]
                              rfl
                             refine pure_ (i := 13) (N := some 143) (v := undef) (a' := ?_) #[true, true, true, true, true, true, true, true, true, true, true, true, true, true, false, false, false, false, false, false, false, false, false, false, false, false, false, false, false, false, false, false, false, false, false, false, false, false, false, false] rfl rfl (any_of HT_.out zq1) (fun _ _ _ h => h) (Or.inr ⟨by rfl, rfl⟩) ?_ ?_
                             rotate_left
                             ·simp only [Act.put, List.setIfInBounds_toArray, List.set_cons_zero, List.set_cons_succ, i64_w, i32_w]
                              rfl
                             refine pure_ (i := 14) (N := some 144) (v := undef) (a' := ?_) #[true, true, true, true, true, true, true, true, true, true, true, true, true, true, true, false, false, false, false, false, false, false, false, false, false, false, false, false, false, false, false, false, false, false, false, false, false, false, false, false] rfl rfl (any_of HT_.out zq1) (fun _ _ _ h => h) (Or.inr ⟨by rfl, rfl⟩) ?_ ?_
                             rotate_left
                             ·simp only [Act.put, List.setIfInBounds_toArray, List.set_cons_zero, List.set_cons_succ, i64_w, i32_w]
                              rfl
                             refine zpz (i := 15) (N := some 145) (any_of HT_.out zq1) ?_
                             refine zpz (i := 16) (N := some 146) (any_of HT_.out zq1) ?_
                             refine zpz (i := 17) (N := some 147) (any_of HT_.out zq1) ?_
                             refine zpz (i := 18) (N := some 148) (any_of HT_.out zq1) ?_
                             refine zpz (i := 19) (N := some 149) (any_of HT_.out zq1) ?_
                             refine zpz (i := 20) (N := some 150) (any_of HT_.out zq1) ?_
                             refine zpz (i := 21) (N := some 151) (any_of HT_.out zq1) ?_
                             refine zpz (i := 22) (N := some 152) (any_of HT_.out zq1) ?_
                             refine zpz (i := 23) (N := some 153) (any_of HT_.out zq1) ?_
                             refine zpz (i := 25) (N := some 155) (any_of HT_.out zq1) ?_
                             refine zpz (i := 26) (N := some 156) (any_of HT_.out zq1) ?_
                             refine zpz (i := 27) (N := some 157) (any_of HT_.out zq1) ?_
                             refine ztz (i := 24) (N := some 154) (take_ofW HT_.out HW_.out zq1) hHeld ?_
                             refine ztz (i := 28) (N := some 158) (take_ofW HT_.out HW_.out zq1) hHeld ?_
                             refine zpz (i := 29) (N := some 159) (any_of HT_.out zq1) ?_
                             refine zpz (i := 30) (N := some 160) (any_of HT_.out zq1) ?_
                             refine zpz (i := 31) (N := some 161) (any_of HT_.out zq1) ?_
                             refine zpz (i := 32) (N := some 162) (any_of HT_.out zq1) ?_
                             refine pure_ (i := 33) (N := some 163) (v := undef) (a' := ?_) #[true, true, true, true, true, true, true, true, true, true, true, true, true, true, true, true, true, true, true, true, true, true, true, true, true, true, true, true, true, true, true, true, true, true, false, false, false, false, false, false] rfl rfl (any_of HT_.out zq1) (fun _ _ _ h => h) (Or.inr ⟨by rfl, rfl⟩) ?_ ?_
                             rotate_left
                             ·simp only [Act.put, List.setIfInBounds_toArray, List.set_cons_zero, List.set_cons_succ, i64_w, i32_w]
                              rfl
                             refine pure_ (i := 34) (N := some 164) (v := undef) (a' := ?_) #[true, true, true, true, true, true, true, true, true, true, true, true, true, true, true, true, true, true, true, true, true, true, true, true, true, true, true, true, true, true, true, true, true, true, true, false, false, false, false, false] rfl rfl (any_of HT_.out zq1) (fun _ _ _ h => h) (Or.inr ⟨by rfl, rfl⟩) ?_ ?_
                             rotate_left
                             ·simp only [Act.put, List.setIfInBounds_toArray, List.set_cons_zero, List.set_cons_succ, i64_w, i32_w]
                              rfl
                             refine zpz (i := 35) (N := some 165) (any_of HT_.out zq1) ?_
                             refine zpz (i := 36) (N := some 166) (any_of HT_.out zq1) ?_
                             refine pure_ (i := 37) (N := some 167) (v := undef) (a' := ?_) #[true, true, true, true, true, true, true, true, true, true, true, true, true, true, true, true, true, true, true, true, true, true, true, true, true, true, true, true, true, true, true, true, true, true, true, true, true, true, false, false] rfl rfl (any_of HT_.out zq1) (fun _ _ _ h => h) (Or.inr ⟨by rfl, rfl⟩) ?_ ?_
                             rotate_left
                             ·simp only [Act.put, List.setIfInBounds_toArray, List.set_cons_zero, List.set_cons_succ, i64_w, i32_w]
                              rfl
                             refine pure_ (i := 38) (N := some 168) (v := undef) (a' := ?_) #[true, true, true, true, true, true, true, true, true, true, true, true, true, true, true, true, true, true, true, true, true, true, true, true, true, true, true, true, true, true, true, true, true, true, true, true, true, true, true, false] rfl rfl (any_of HT_.out zq1) (fun _ _ _ h => h) (Or.inr ⟨by rfl, rfl⟩) ?_ ?_
                             rotate_left
                             ·simp only [Act.put, List.setIfInBounds_toArray, List.set_cons_zero, List.set_cons_succ, i64_w, i32_w]
                              rfl
                             refine zpz (i := 39) (N := some 169) (any_of HT_.out zq1) ?_
                             refine done_ (done_of HT_.out zq1) ?_
                             try go_wp2
                             go_meet
                             case rel => exact ⟨_, (true), zq23, H', ⟨zq59⟩, ⟨zq39⟩, ⟨zq53⟩, ⟨zq58⟩, ⟨zbfr⟩, ⟨zbzr⟩⟩
                            ·rw [if_neg c84] at H
                             have c84b0 : decide ((rd x6_1 x17_4) < (rd x6_1 x14_3)) = false := decide_eq_false c84
                             clear c84
                             by_cases c87 : t659 < 0
                             ·rw [if_pos c87] at H
                              have c87b0 : decide (t659 < 0) = true := decide_eq_true c87
                              clear c87
                              have H' := Aside0.mk H
                              clear H
                              try go_wp2
                              replace HO_5 := Aside0.mk (Kd.R_drew HO_5.out)
                              replace HO_6 := Aside0.mk (Kd.R_drew HO_6.out)
                              replace HO_10 := Aside0.mk (Kd.R_drew HO_10.out)
                              replace BK655 := Aside0.mk (blk_drew BK655.out)
                              replace HB := Aside0.mk (below_drew1 HB.out)
                              obtain ⟨Ao89, co89, eo89⟩ := Kd.R_slice HO_6.out
                              (first | subst eo89 | (injection eo89 with f1_ f2_ f3_; have f4_ := f1_.symm; have f5_ := f3_.symm; clear f1_ f2_ f3_; subst f4_; subst f5_))
                              have p665 : 0 ≤ (x17_4 : Int) := of_decide_eq_true zq25
                              have q665 : x17_4 < (x6_1.length : Int) := of_decide_eq_true zq25
                              obtain ⟨ad665, e665, hx665_0⟩ := Kd.at_int (Kd.R_reads' HO_6.out).2.2 x17_4 p665 q665
                              cases e665
                              replace p665 := eq_true p665
                              replace q665 := eq_true q665
                              have p666 : 0 ≤ (x14_3 : Int) := of_decide_eq_true zq25
                              have q666 : x14_3 < (x6_1.length : Int) := of_decide_eq_true zq25
                              obtain ⟨ad666, e666, hx666_0⟩ := Kd.at_int (Kd.R_reads' HO_6.out).2.2 x14_3 p666 q666
                              obtain rfl : ad665 = ad666 := (by injection e666)
                              replace p666 := eq_true p666
                              replace q666 := eq_true q666
                              refine start_ (n := 40) (S := fun w' => w'.cell? (ad665.add (x17_4).toNat) = some (.int .i64 (rd x6_1 x17_4)) ∧ w'.cell? (ad665.add (x14_3).toNat) = some (.int .i64 (rd x6_1 x14_3))) (ds := []) #[false, false, false, false, false, false, false, false, false, false, false, false, false, false, false, false, false, false, false, false, false, false, false, false, false, false, false, false, false, false, false, false, false, false, false, false, false, false, false, false] zq1 rfl rfl ⟨hx665_0, hx666_0⟩ (fun hHeld => ?_); refine with_tabW isobathlaw05_ClockOrder.tab26 isobathlaw05_ClockOrder.bits26 (fun HT_ HW_ => ?_)
                              generalize w59.drew = w88 at HO_5 HO_6 HO_10 BK655 HB hx665_0 hx666_0 hHeld ⊢
                              refine zpz (i := 0) (N := some 130) (any_of HT_.out zq1) ?_
                              refine zpz (i := 1) (N := some 131) (any_of HT_.out zq1) ?_
                              refine zpz (i := 2) (N := some 132) (any_of HT_.out zq1) ?_
                              refine zpz (i := 3) (N := some 133) (any_of HT_.out zq1) ?_
                              refine zpz (i := 4) (N := some 134) (any_of HT_.out zq1) ?_
                              refine zpz (i := 5) (N := some 135) (any_of HT_.out zq1) ?_
                              refine pure_ (i := 6) (N := some 136) (v := undef) (a' := ?_) #[true, true, true, true, true, true, true, false, false, false, false, false, false, false, false, false, false, false, false, false, false, false, false, false, false, false, false, false, false, false, false, false, false, false, false, false, false, false, false, false] rfl rfl (any_of HT_.out zq1) (fun _ _ _ h => h) (Or.inr ⟨by rfl, rfl⟩) ?_ ?_
                              rotate_left
                              ·simp only [Act.put, List.setIfInBounds_toArray, List.set_cons_zero, List.set_cons_succ, i64_w, i32_w]
                               rfl
                              refine pure_ (i := 7) (N := some 137) (v := undef) (a' := ?_) #[true, true, true, true, true, true, true, true, false, false, false, false, false, false, false, false, false, false, false, false, false, false, false, false, false, false, false, false, false, false, false, false, false, false, false, false, false, false, false, false] rfl rfl (any_of HT_.out zq1) (fun _ _ _ h => h) (Or.inr ⟨by rfl, rfl⟩) ?_ ?_
                              rotate_left
                              ·simp only [Act.put, List.setIfInBounds_toArray, List.set_cons_zero, List.set_cons_succ, i64_w, i32_w]
                               rfl
                              refine pure_ (i := 8) (N := some 138) (v := undef) (a' := ?_) #[true, true, true, true, true, true, true, true, true, false, false, false, false, false, false, false, false, false, false, false, false, false, false, false, false, false, false, false, false, false, false, false, false, false, false, false, false, false, false, false] rfl rfl (any_of HT_.out zq1) (fun _ _ _ h => h) (Or.inr ⟨by rfl, rfl⟩) ?_ ?_
                              rotate_left
                              ·simp only [Act.put, List.setIfInBounds_toArray, List.set_cons_zero, List.set_cons_succ, i64_w, i32_w]
                               rfl
                              refine pure_ (i := 9) (N := some 139) (v := undef) (a' := ?_) #[true, true, true, true, true, true, true, true, true, true, false, false, false, false, false, false, false, false, false, false, false, false, false, false, false, false, false, false, false, false, false, false, false, false, false, false, false, false, false, false] rfl rfl (any_of HT_.out zq1) (fun _ _ _ h => h) (Or.inr ⟨by rfl, rfl⟩) ?_ ?_
                              rotate_left
                              ·simp only [Act.put, List.setIfInBounds_toArray, List.set_cons_zero, List.set_cons_succ, i64_w, i32_w]
                               rfl
                              refine pure_ (i := 10) (N := some 140) (v := undef) (a' := ?_) #[true, true, true, true, true, true, true, true, true, true, true, false, false, false, false, false, false, false, false, false, false, false, false, false, false, false, false, false, false, false, false, false, false, false, false, false, false, false, false, false] rfl rfl (any_of HT_.out zq1) (fun _ _ _ h => h) (Or.inr ⟨by rfl, rfl⟩) ?_ ?_
                              rotate_left
                              ·simp only [Act.put, List.setIfInBounds_toArray, List.set_cons_zero, List.set_cons_succ, i64_w, i32_w]
                               rfl
                              refine pure_ (i := 11) (N := some 141) (v := undef) (a' := ?_) #[true, true, true, true, true, true, true, true, true, true, true, true, false, false, false, false, false, false, false, false, false, false, false, false, false, false, false, false, false, false, false, false, false, false, false, false, false, false, false, false] rfl rfl (any_of HT_.out zq1) (fun _ _ _ h => h) (Or.inr ⟨by rfl, rfl⟩) ?_ ?_
                              rotate_left
                              ·simp only [Act.put, List.setIfInBounds_toArray, List.set_cons_zero, List.set_cons_succ, i64_w, i32_w]
                               rfl
                              refine pure_ (i := 12) (N := some 142) (v := undef) (a' := ?_) #[true, true, true, true, true, true, true, true, true, true, true, true, true, false, false, false, false, false, false, false, false, false, false, false, false, false, false, false, false, false, false, false, false, false, false, false, false, false, false, false] rfl rfl (any_of HT_.out zq1) (fun _ _ _ h => h) (Or.inr ⟨by rfl, rfl⟩) ?_ ?_
                              rotate_left
                              ·simp only [Act.put, List.setIfInBounds_toArray, List.set_cons_zero, List.set_cons_succ, i64_w, i32_w]
                               rfl
                              refine pure_ (i := 13) (N := some 143) (v := undef) (a' := ?_) #[true, true, true, true, true, true, true, true, true, true, true, true, true, true, false, false, false, false, false, false, false, false, false, false, false, false, false, false, false, false, false, false, false, false, false, false, false, false, false, false] rfl rfl (any_of HT_.out zq1) (fun _ _ _ h => h) (Or.inr ⟨by rfl, rfl⟩) ?_ ?_
                              rotate_left
                              ·simp only [Act.put, List.setIfInBounds_toArray, List.set_cons_zero, List.set_cons_succ, i64_w, i32_w]
                               rfl
                              refine pure_ (i := 14) (N := some 144) (v := undef) (a' := ?_) #[true, true, true, true, true, true, true, true, true, true, true, true, true, true, true, false, false, false, false, false, false, false, false, false, false, false, false, false, false, false, false, false, false, false, false, false, false, false, false, false] rfl rfl (any_of HT_.out zq1) (fun _ _ _ h => h) (Or.inr ⟨by rfl, rfl⟩) ?_ ?_
                              rotate_left
                              ·simp only [Act.put, List.setIfInBounds_toArray, List.set_cons_zero, List.set_cons_succ, i64_w, i32_w]
                               rfl
                              refine zpz (i := 15) (N := some 145) (any_of HT_.out zq1) ?_
                              refine zpz (i := 16) (N := some 146) (any_of HT_.out zq1) ?_
                              refine zpz (i := 17) (N := some 147) (any_of HT_.out zq1) ?_
                              refine zpz (i := 18) (N := some 148) (any_of HT_.out zq1) ?_
                              refine zpz (i := 19) (N := some 149) (any_of HT_.out zq1) ?_
                              refine zpz (i := 20) (N := some 150) (any_of HT_.out zq1) ?_
                              refine zpz (i := 21) (N := some 151) (any_of HT_.out zq1) ?_
                              refine zpz (i := 22) (N := some 152) (any_of HT_.out zq1) ?_
                              refine zpz (i := 23) (N := some 153) (any_of HT_.out zq1) ?_
                              refine zpz (i := 25) (N := some 155) (any_of HT_.out zq1) ?_
                              refine zpz (i := 26) (N := some 156) (any_of HT_.out zq1) ?_
                              refine zpz (i := 27) (N := some 157) (any_of HT_.out zq1) ?_
                              refine ztz (i := 24) (N := some 154) (take_ofW HT_.out HW_.out zq1) hHeld ?_
                              refine ztz (i := 28) (N := some 158) (take_ofW HT_.out HW_.out zq1) hHeld ?_
                              refine zpz (i := 29) (N := some 159) (any_of HT_.out zq1) ?_
                              refine zpz (i := 30) (N := some 160) (any_of HT_.out zq1) ?_
                              refine zpz (i := 31) (N := some 161) (any_of HT_.out zq1) ?_
                              refine zpz (i := 32) (N := some 162) (any_of HT_.out zq1) ?_
                              refine zpz (i := 33) (N := some 163) (any_of HT_.out zq1) ?_
                              refine zpz (i := 34) (N := some 164) (any_of HT_.out zq1) ?_
                              refine zpz (i := 35) (N := some 165) (any_of HT_.out zq1) ?_
                              refine zpz (i := 36) (N := some 166) (any_of HT_.out zq1) ?_
                              refine pure_ (i := 37) (N := some 167) (v := undef) (a' := ?_) #[true, true, true, true, true, true, true, true, true, true, true, true, true, true, true, true, true, true, true, true, true, true, true, true, true, true, true, true, true, true, true, true, true, true, true, true, true, true, false, false] rfl rfl (any_of HT_.out zq1) (fun _ _ _ h => h) (Or.inr ⟨by rfl, rfl⟩) ?_ ?_
                              rotate_left
                              ·simp only [Act.put, List.setIfInBounds_toArray, List.set_cons_zero, List.set_cons_succ, i64_w, i32_w]
                               rfl
                              refine pure_ (i := 38) (N := some 168) (v := undef) (a' := ?_) #[true, true, true, true, true, true, true, true, true, true, true, true, true, true, true, true, true, true, true, true, true, true, true, true, true, true, true, true, true, true, true, true, true, true, true, true, true, true, true, false] rfl rfl (any_of HT_.out zq1) (fun _ _ _ h => h) (Or.inr ⟨by rfl, rfl⟩) ?_ ?_
                              rotate_left
                              ·simp only [Act.put, List.setIfInBounds_toArray, List.set_cons_zero, List.set_cons_succ, i64_w, i32_w]
                               rfl
                              refine zpz (i := 39) (N := some 169) (any_of HT_.out zq1) ?_
                              refine done_ (done_of HT_.out zq1) ?_
                              try go_wp2
                              go_meet
                              case rel => exact ⟨_, (true), zq23, H', ⟨zq59⟩, ⟨zq39⟩, ⟨zq53⟩, ⟨zq58⟩, ⟨zbfr⟩, ⟨zbzr⟩⟩
                             ·rw [if_neg c87] at H
                              have c87b0 : decide (t659 < 0) = false := decide_eq_false c87
                              clear c87
                              have H' := Aside0.mk H
                              clear H
                              try go_wp2
                              replace HO_5 := Aside0.mk (Kd.R_drew HO_5.out)
                              replace HO_6 := Aside0.mk (Kd.R_drew HO_6.out)
                              replace HO_10 := Aside0.mk (Kd.R_drew HO_10.out)
                              replace BK655 := Aside0.mk (blk_drew BK655.out)
                              replace HB := Aside0.mk (below_drew1 HB.out)
                              obtain ⟨Ao91, co91, eo91⟩ := Kd.R_slice HO_6.out
                              (first | subst eo91 | (injection eo91 with f1_ f2_ f3_; have f4_ := f1_.symm; have f5_ := f3_.symm; clear f1_ f2_ f3_; subst f4_; subst f5_))
                              have p665 : 0 ≤ (x17_4 : Int) := of_decide_eq_true zq25
                              have q665 : x17_4 < (x6_1.length : Int) := of_decide_eq_true zq25
                              obtain ⟨ad665, e665, hx665_0⟩ := Kd.at_int (Kd.R_reads' HO_6.out).2.2 x17_4 p665 q665
                              cases e665
                              replace p665 := eq_true p665
                              replace q665 := eq_true q665
                              have p666 : 0 ≤ (x14_3 : Int) := of_decide_eq_true zq25
                              have q666 : x14_3 < (x6_1.length : Int) := of_decide_eq_true zq25
                              obtain ⟨ad666, e666, hx666_0⟩ := Kd.at_int (Kd.R_reads' HO_6.out).2.2 x14_3 p666 q666
                              obtain rfl : ad665 = ad666 := (by injection e666)
                              replace p666 := eq_true p666
                              replace q666 := eq_true q666
                              refine start_ (n := 40) (S := fun w' => w'.cell? (ad665.add (x17_4).toNat) = some (.int .i64 (rd x6_1 x17_4)) ∧ w'.cell? (ad665.add (x14_3).toNat) = some (.int .i64 (rd x6_1 x14_3))) (ds := []) #[false, false, false, false, false, false, false, false, false, false, false, false, false, false, false, false, false, false, false, false, false, false, false, false, false, false, false, false, false, false, false, false, false, false, false, false, false, false, false, false] zq1 rfl rfl ⟨hx665_0, hx666_0⟩ (fun hHeld => ?_); refine with_tabW isobathlaw05_ClockOrder.tab26 isobathlaw05_ClockOrder.bits26 (fun HT_ HW_ => ?_)
                              generalize w59.drew = w90 at HO_5 HO_6 HO_10 BK655 HB hx665_0 hx666_0 hHeld ⊢
                              refine zpz (i := 0) (N := some 130) (any_of HT_.out zq1) ?_
                              refine zpz (i := 1) (N := some 131) (any_of HT_.out zq1) ?_
                              refine zpz (i := 2) (N := some 132) (any_of HT_.out zq1) ?_
                              refine zpz (i := 3) (N := some 133) (any_of HT_.out zq1) ?_
                              refine zpz (i := 4) (N := some 134) (any_of HT_.out zq1) ?_
                              refine zpz (i := 5) (N := some 135) (any_of HT_.out zq1) ?_
                              refine pure_ (i := 6) (N := some 136) (v := undef) (a' := ?_) #[true, true, true, true, true, true, true, false, false, false, false, false, false, false, false, false, false, false, false, false, false, false, false, false, false, false, false, false, false, false, false, false, false, false, false, false, false, false, false, false] rfl rfl (any_of HT_.out zq1) (fun _ _ _ h => h) (Or.inr ⟨by rfl, rfl⟩) ?_ ?_
                              rotate_left
                              ·simp only [Act.put, List.setIfInBounds_toArray, List.set_cons_zero, List.set_cons_succ, i64_w, i32_w]
                               rfl
                              refine pure_ (i := 7) (N := some 137) (v := undef) (a' := ?_) #[true, true, true, true, true, true, true, true, false, false, false, false, false, false, false, false, false, false, false, false, false, false, false, false, false, false, false, false, false, false, false, false, false, false, false, false, false, false, false, false] rfl rfl (any_of HT_.out zq1) (fun _ _ _ h => h) (Or.inr ⟨by rfl, rfl⟩) ?_ ?_
                              rotate_left
                              ·simp only [Act.put, List.setIfInBounds_toArray, List.set_cons_zero, List.set_cons_succ, i64_w, i32_w]
                               rfl
                              refine pure_ (i := 8) (N := some 138) (v := undef) (a' := ?_) #[true, true, true, true, true, true, true, true, true, false, false, false, false, false, false, false, false, false, false, false, false, false, false, false, false, false, false, false, false, false, false, false, false, false, false, false, false, false, false, false] rfl rfl (any_of HT_.out zq1) (fun _ _ _ h => h) (Or.inr ⟨by rfl, rfl⟩) ?_ ?_
                              rotate_left
                              ·simp only [Act.put, List.setIfInBounds_toArray, List.set_cons_zero, List.set_cons_succ, i64_w, i32_w]
                               rfl
                              refine pure_ (i := 9) (N := some 139) (v := undef) (a' := ?_) #[true, true, true, true, true, true, true, true, true, true, false, false, false, false, false, false, false, false, false, false, false, false, false, false, false, false, false, false, false, false, false, false, false, false, false, false, false, false, false, false] rfl rfl (any_of HT_.out zq1) (fun _ _ _ h => h) (Or.inr ⟨by rfl, rfl⟩) ?_ ?_
                              rotate_left
                              ·simp only [Act.put, List.setIfInBounds_toArray, List.set_cons_zero, List.set_cons_succ, i64_w, i32_w]
                               rfl
                              refine pure_ (i := 10) (N := some 140) (v := undef) (a' := ?_) #[true, true, true, true, true, true, true, true, true, true, true, false, false, false, false, false, false, false, false, false, false, false, false, false, false, false, false, false, false, false, false, false, false, false, false, false, false, false, false, false] rfl rfl (any_of HT_.out zq1) (fun _ _ _ h => h) (Or.inr ⟨by rfl, rfl⟩) ?_ ?_
                              rotate_left
                              ·simp only [Act.put, List.setIfInBounds_toArray, List.set_cons_zero, List.set_cons_succ, i64_w, i32_w]
                               rfl
                              refine pure_ (i := 11) (N := some 141) (v := undef) (a' := ?_) #[true, true, true, true, true, true, true, true, true, true, true, true, false, false, false, false, false, false, false, false, false, false, false, false, false, false, false, false, false, false, false, false, false, false, false, false, false, false, false, false] rfl rfl (any_of HT_.out zq1) (fun _ _ _ h => h) (Or.inr ⟨by rfl, rfl⟩) ?_ ?_
                              rotate_left
                              ·simp only [Act.put, List.setIfInBounds_toArray, List.set_cons_zero, List.set_cons_succ, i64_w, i32_w]
                               rfl
                              refine pure_ (i := 12) (N := some 142) (v := undef) (a' := ?_) #[true, true, true, true, true, true, true, true, true, true, true, true, true, false, false, false, false, false, false, false, false, false, false, false, false, false, false, false, false, false, false, false, false, false, false, false, false, false, false, false] rfl rfl (any_of HT_.out zq1) (fun _ _ _ h => h) (Or.inr ⟨by rfl, rfl⟩) ?_ ?_
                              rotate_left
                              ·simp only [Act.put, List.setIfInBounds_toArray, List.set_cons_zero, List.set_cons_succ, i64_w, i32_w]
                               rfl
                              refine pure_ (i := 13) (N := some 143) (v := undef) (a' := ?_) #[true, true, true, true, true, true, true, true, true, true, true, true, true, true, false, false, false, false, false, false, false, false, false, false, false, false, false, false, false, false, false, false, false, false, false, false, false, false, false, false] rfl rfl (any_of HT_.out zq1) (fun _ _ _ h => h) (Or.inr ⟨by rfl, rfl⟩) ?_ ?_
                              rotate_left
                              ·simp only [Act.put, List.setIfInBounds_toArray, List.set_cons_zero, List.set_cons_succ, i64_w, i32_w]
                               rfl
                              refine pure_ (i := 14) (N := some 144) (v := undef) (a' := ?_) #[true, true, true, true, true, true, true, true, true, true, true, true, true, true, true, false, false, false, false, false, false, false, false, false, false, false, false, false, false, false, false, false, false, false, false, false, false, false, false, false] rfl rfl (any_of HT_.out zq1) (fun _ _ _ h => h) (Or.inr ⟨by rfl, rfl⟩) ?_ ?_
                              rotate_left
                              ·simp only [Act.put, List.setIfInBounds_toArray, List.set_cons_zero, List.set_cons_succ, i64_w, i32_w]
                               rfl
                              refine zpz (i := 15) (N := some 145) (any_of HT_.out zq1) ?_
                              refine zpz (i := 16) (N := some 146) (any_of HT_.out zq1) ?_
                              refine zpz (i := 17) (N := some 147) (any_of HT_.out zq1) ?_
                              refine zpz (i := 18) (N := some 148) (any_of HT_.out zq1) ?_
                              refine zpz (i := 19) (N := some 149) (any_of HT_.out zq1) ?_
                              refine zpz (i := 20) (N := some 150) (any_of HT_.out zq1) ?_
                              refine zpz (i := 21) (N := some 151) (any_of HT_.out zq1) ?_
                              refine zpz (i := 22) (N := some 152) (any_of HT_.out zq1) ?_
                              refine zpz (i := 23) (N := some 153) (any_of HT_.out zq1) ?_
                              refine zpz (i := 25) (N := some 155) (any_of HT_.out zq1) ?_
                              refine zpz (i := 26) (N := some 156) (any_of HT_.out zq1) ?_
                              refine zpz (i := 27) (N := some 157) (any_of HT_.out zq1) ?_
                              refine ztz (i := 24) (N := some 154) (take_ofW HT_.out HW_.out zq1) hHeld ?_
                              refine ztz (i := 28) (N := some 158) (take_ofW HT_.out HW_.out zq1) hHeld ?_
                              refine zpz (i := 29) (N := some 159) (any_of HT_.out zq1) ?_
                              refine zpz (i := 30) (N := some 160) (any_of HT_.out zq1) ?_
                              refine zpz (i := 31) (N := some 161) (any_of HT_.out zq1) ?_
                              refine zpz (i := 32) (N := some 162) (any_of HT_.out zq1) ?_
                              refine zpz (i := 33) (N := some 163) (any_of HT_.out zq1) ?_
                              refine zpz (i := 34) (N := some 164) (any_of HT_.out zq1) ?_
                              refine zpz (i := 35) (N := some 165) (any_of HT_.out zq1) ?_
                              refine zpz (i := 36) (N := some 166) (any_of HT_.out zq1) ?_
                              refine zpz (i := 37) (N := some 167) (any_of HT_.out zq1) ?_
                              refine zpz (i := 38) (N := some 168) (any_of HT_.out zq1) ?_
                              refine zpz (i := 39) (N := some 169) (any_of HT_.out zq1) ?_
                              refine done_ (done_of HT_.out zq1) ?_
                              try go_wp2
                              go_meet
                              case rel => exact ⟨_, (decide (t659 > 2)), zq23, H', ⟨zq59⟩, ⟨zq39⟩, ⟨zq53⟩, ⟨zq58⟩, ⟨zbfr⟩, ⟨zbzr⟩⟩
                           ·rw [if_neg c83] at H
                            exact absurd H (by simp)
                          ·rw [if_neg c82] at H
                           exact absurd H (by simp)
                         ·rw [if_neg c81] at H
                          have c81b0 : (t659 == 0) = false := beq_eq_false_iff_ne.mpr c81
                          have c81b1 : (t659 != 0) = true := bne_iff_ne.mpr c81
                          by_cases c92 : t659 < 0
                          ·rw [if_pos c92] at H
                           have c92b0 : decide (t659 < 0) = true := decide_eq_true c92
                           clear c92
                           have H' := Aside0.mk H
                           clear H
                           try go_wp2
                           replace HO_5 := Aside0.mk (Kd.R_drew HO_5.out)
                           replace HO_6 := Aside0.mk (Kd.R_drew HO_6.out)
                           replace HO_10 := Aside0.mk (Kd.R_drew HO_10.out)
                           replace BK655 := Aside0.mk (blk_drew BK655.out)
                           replace HB := Aside0.mk (below_drew1 HB.out)
                           refine start_ (n := 40) (S := fun w' => True) (ds := []) #[false, false, false, false, false, false, false, false, false, false, false, false, false, false, false, false, false, false, false, false, false, false, false, false, false, false, false, false, false, false, false, false, false, false, false, false, false, false, false, false] zq1 rfl rfl trivial (fun hHeld => ?_); refine with_tabW isobathlaw05_ClockOrder.tab26 isobathlaw05_ClockOrder.bits26 (fun HT_ HW_ => ?_)
                           generalize w59.drew = w93 at HO_5 HO_6 HO_10 BK655 HB hHeld ⊢
                           refine zpz (i := 0) (N := some 130) (any_of HT_.out zq1) ?_
                           refine zpz (i := 1) (N := some 131) (any_of HT_.out zq1) ?_
                           refine zpz (i := 2) (N := some 132) (any_of HT_.out zq1) ?_
                           refine zpz (i := 3) (N := some 133) (any_of HT_.out zq1) ?_
                           refine zpz (i := 4) (N := some 134) (any_of HT_.out zq1) ?_
                           refine zpz (i := 5) (N := some 135) (any_of HT_.out zq1) ?_
                           refine pure_ (i := 6) (N := some 136) (v := undef) (a' := ?_) #[true, true, true, true, true, true, true, false, false, false, false, false, false, false, false, false, false, false, false, false, false, false, false, false, false, false, false, false, false, false, false, false, false, false, false, false, false, false, false, false] rfl rfl (any_of HT_.out zq1) (fun _ _ _ h => h) (Or.inr ⟨by rfl, rfl⟩) ?_ ?_
                           rotate_left
                           ·simp only [Act.put, List.setIfInBounds_toArray, List.set_cons_zero, List.set_cons_succ, i64_w, i32_w]
                            rfl
                           refine pure_ (i := 7) (N := some 137) (v := undef) (a' := ?_) #[true, true, true, true, true, true, true, true, false, false, false, false, false, false, false, false, false, false, false, false, false, false, false, false, false, false, false, false, false, false, false, false, false, false, false, false, false, false, false, false] rfl rfl (any_of HT_.out zq1) (fun _ _ _ h => h) (Or.inr ⟨by rfl, rfl⟩) ?_ ?_
                           rotate_left
                           ·simp only [Act.put, List.setIfInBounds_toArray, List.set_cons_zero, List.set_cons_succ, i64_w, i32_w]
                            rfl
                           refine pure_ (i := 8) (N := some 138) (v := undef) (a' := ?_) #[true, true, true, true, true, true, true, true, true, false, false, false, false, false, false, false, false, false, false, false, false, false, false, false, false, false, false, false, false, false, false, false, false, false, false, false, false, false, false, false] rfl rfl (any_of HT_.out zq1) (fun _ _ _ h => h) (Or.inr ⟨by rfl, rfl⟩) ?_ ?_
                           rotate_left
                           ·simp only [Act.put, List.setIfInBounds_toArray, List.set_cons_zero, List.set_cons_succ, i64_w, i32_w]
                            rfl
                           refine pure_ (i := 9) (N := some 139) (v := undef) (a' := ?_) #[true, true, true, true, true, true, true, true, true, true, false, false, false, false, false, false, false, false, false, false, false, false, false, false, false, false, false, false, false, false, false, false, false, false, false, false, false, false, false, false] rfl rfl (any_of HT_.out zq1) (fun _ _ _ h => h) (Or.inr ⟨by rfl, rfl⟩) ?_ ?_
                           rotate_left
                           ·simp only [Act.put, List.setIfInBounds_toArray, List.set_cons_zero, List.set_cons_succ, i64_w, i32_w]
                            rfl
                           refine pure_ (i := 10) (N := some 140) (v := undef) (a' := ?_) #[true, true, true, true, true, true, true, true, true, true, true, false, false, false, false, false, false, false, false, false, false, false, false, false, false, false, false, false, false, false, false, false, false, false, false, false, false, false, false, false] rfl rfl (any_of HT_.out zq1) (fun _ _ _ h => h) (Or.inr ⟨by rfl, rfl⟩) ?_ ?_
                           rotate_left
                           ·simp only [Act.put, List.setIfInBounds_toArray, List.set_cons_zero, List.set_cons_succ, i64_w, i32_w]
                            rfl
                           refine pure_ (i := 11) (N := some 141) (v := undef) (a' := ?_) #[true, true, true, true, true, true, true, true, true, true, true, true, false, false, false, false, false, false, false, false, false, false, false, false, false, false, false, false, false, false, false, false, false, false, false, false, false, false, false, false] rfl rfl (any_of HT_.out zq1) (fun _ _ _ h => h) (Or.inr ⟨by rfl, rfl⟩) ?_ ?_
                           rotate_left
                           ·simp only [Act.put, List.setIfInBounds_toArray, List.set_cons_zero, List.set_cons_succ, i64_w, i32_w]
                            rfl
                           refine pure_ (i := 12) (N := some 142) (v := undef) (a' := ?_) #[true, true, true, true, true, true, true, true, true, true, true, true, true, false, false, false, false, false, false, false, false, false, false, false, false, false, false, false, false, false, false, false, false, false, false, false, false, false, false, false] rfl rfl (any_of HT_.out zq1) (fun _ _ _ h => h) (Or.inr ⟨by rfl, rfl⟩) ?_ ?_
                           rotate_left
                           ·simp only [Act.put, List.setIfInBounds_toArray, List.set_cons_zero, List.set_cons_succ, i64_w, i32_w]
                            rfl
                           refine pure_ (i := 13) (N := some 143) (v := undef) (a' := ?_) #[true, true, true, true, true, true, true, true, true, true, true, true, true, true, false, false, false, false, false, false, false, false, false, false, false, false, false, false, false, false, false, false, false, false, false, false, false, false, false, false] rfl rfl (any_of HT_.out zq1) (fun _ _ _ h => h) (Or.inr ⟨by rfl, rfl⟩) ?_ ?_
                           rotate_left
                           ·simp only [Act.put, List.setIfInBounds_toArray, List.set_cons_zero, List.set_cons_succ, i64_w, i32_w]
                            rfl
                           refine pure_ (i := 14) (N := some 144) (v := undef) (a' := ?_) #[true, true, true, true, true, true, true, true, true, true, true, true, true, true, true, false, false, false, false, false, false, false, false, false, false, false, false, false, false, false, false, false, false, false, false, false, false, false, false, false] rfl rfl (any_of HT_.out zq1) (fun _ _ _ h => h) (Or.inr ⟨by rfl, rfl⟩) ?_ ?_
                           rotate_left
                           ·simp only [Act.put, List.setIfInBounds_toArray, List.set_cons_zero, List.set_cons_succ, i64_w, i32_w]
                            rfl
                           refine zpz (i := 15) (N := some 145) (any_of HT_.out zq1) ?_
                           refine zpz (i := 16) (N := some 146) (any_of HT_.out zq1) ?_
                           refine zpz (i := 17) (N := some 147) (any_of HT_.out zq1) ?_
                           refine zpz (i := 18) (N := some 148) (any_of HT_.out zq1) ?_
                           refine zpz (i := 19) (N := some 149) (any_of HT_.out zq1) ?_
                           refine zpz (i := 20) (N := some 150) (any_of HT_.out zq1) ?_
                           refine pure_ (i := 21) (N := some 151) (v := undef) (a' := ?_) #[true, true, true, true, true, true, true, true, true, true, true, true, true, true, true, true, true, true, true, true, true, true, false, false, false, false, false, false, false, false, false, false, false, false, false, false, false, false, false, false] rfl rfl (any_of HT_.out zq1) (fun _ _ _ h => h) (Or.inr ⟨by rfl, rfl⟩) ?_ ?_
                           rotate_left
                           ·simp only [Act.put, List.setIfInBounds_toArray, List.set_cons_zero, List.set_cons_succ, i64_w, i32_w]
                            rfl
                           refine pure_ (i := 22) (N := some 152) (v := undef) (a' := ?_) #[true, true, true, true, true, true, true, true, true, true, true, true, true, true, true, true, true, true, true, true, true, true, true, false, false, false, false, false, false, false, false, false, false, false, false, false, false, false, false, false] rfl rfl (any_of HT_.out zq1) (fun _ _ _ h => h) (Or.inr ⟨by rfl, rfl⟩) ?_ ?_
                           rotate_left
                           ·simp only [Act.put, List.setIfInBounds_toArray, List.set_cons_zero, List.set_cons_succ, i64_w, i32_w]
                            rfl
                           refine pure_ (i := 23) (N := some 153) (v := undef) (a' := ?_) #[true, true, true, true, true, true, true, true, true, true, true, true, true, true, true, true, true, true, true, true, true, true, true, true, false, false, false, false, false, false, false, false, false, false, false, false, false, false, false, false] rfl rfl (any_of HT_.out zq1) (fun _ _ _ h => h) (Or.inr ⟨by rfl, rfl⟩) ?_ ?_
                           rotate_left
                           ·simp only [Act.put, List.setIfInBounds_toArray, List.set_cons_zero, List.set_cons_succ, i64_w, i32_w]
                            rfl
                           refine pure_ (i := 24) (N := some 154) (v := undef) (a' := ?_) #[true, true, true, true, true, true, true, true, true, true, true, true, true, true, true, true, true, true, true, true, true, true, true, true, true, false, false, false, false, false, false, false, false, false, false, false, false, false, false, false] rfl rfl (any_of HT_.out zq1) (fun _ _ _ h => h) (Or.inr ⟨by rfl, rfl⟩) ?_ ?_
                           rotate_left
                           ·simp only [Act.put, List.setIfInBounds_toArray, List.set_cons_zero, List.set_cons_succ, i64_w, i32_w]
                            rfl
                           refine pure_ (i := 25) (N := some 155) (v := undef) (a' := ?_) #[true, true, true, true, true, true, true, true, true, true, true, true, true, true, true, true, true, true, true, true, true, true, true, true, true, true, false, false, false, false, false, false, false, false, false, false, false, false, false, false] rfl rfl (any_of HT_.out zq1) (fun _ _ _ h => h) (Or.inr ⟨by rfl, rfl⟩) ?_ ?_
                           rotate_left
                           ·simp only [Act.put, List.setIfInBounds_toArray, List.set_cons_zero, List.set_cons_succ, i64_w, i32_w]
                            rfl
                           refine pure_ (i := 26) (N := some 156) (v := undef) (a' := ?_) #[true, true, true, true, true, true, true, true, true, true, true, true, true, true, true, true, true, true, true, true, true, true, true, true, true, true, true, false, false, false, false, false, false, false, false, false, false, false, false, false] rfl rfl (any_of HT_.out zq1) (fun _ _ _ h => h) (Or.inr ⟨by rfl, rfl⟩) ?_ ?_
                           rotate_left
                           ·simp only [Act.put, List.setIfInBounds_toArray, List.set_cons_zero, List.set_cons_succ, i64_w, i32_w]
                            rfl
                           refine pure_ (i := 27) (N := some 157) (v := undef) (a' := ?_) #[true, true, true, true, true, true, true, true, true, true, true, true, true, true, true, true, true, true, true, true, true, true, true, true, true, true, true, true, false, false, false, false, false, false, false, false, false, false, false, false] rfl rfl (any_of HT_.out zq1) (fun _ _ _ h => h) (Or.inr ⟨by rfl, rfl⟩) ?_ ?_
                           rotate_left
                           ·simp only [Act.put, List.setIfInBounds_toArray, List.set_cons_zero, List.set_cons_succ, i64_w, i32_w]
                            rfl
                           refine pure_ (i := 28) (N := some 158) (v := undef) (a' := ?_) #[true, true, true, true, true, true, true, true, true, true, true, true, true, true, true, true, true, true, true, true, true, true, true, true, true, true, true, true, true, false, false, false, false, false, false, false, false, false, false, false] rfl rfl (any_of HT_.out zq1) (fun _ _ _ h => h) (Or.inr ⟨by rfl, rfl⟩) ?_ ?_
                           rotate_left
                           ·simp only [Act.put, List.setIfInBounds_toArray, List.set_cons_zero, List.set_cons_succ, i64_w, i32_w]
                            rfl
                           refine pure_ (i := 29) (N := some 159) (v := undef) (a' := ?_) #[true, true, true, true, true, true, true, true, true, true, true, true, true, true, true, true, true, true, true, true, true, true, true, true, true, true, true, true, true, true, false, false, false, false, false, false, false, false, false, false] rfl rfl (any_of HT_.out zq1) (fun _ _ _ h => h) (Or.inr ⟨by rfl, rfl⟩) ?_ ?_
                           rotate_left
                           ·simp only [Act.put, List.setIfInBounds_toArray, List.set_cons_zero, List.set_cons_succ, i64_w, i32_w]
                            rfl
                           refine zpz (i := 30) (N := some 160) (any_of HT_.out zq1) ?_
                           refine zpz (i := 31) (N := some 161) (any_of HT_.out zq1) ?_
                           refine zpz (i := 32) (N := some 162) (any_of HT_.out zq1) ?_
                           refine zpz (i := 33) (N := some 163) (any_of HT_.out zq1) ?_
                           refine zpz (i := 34) (N := some 164) (any_of HT_.out zq1) ?_
                           refine zpz (i := 35) (N := some 165) (any_of HT_.out zq1) ?_
                           refine zpz (i := 36) (N := some 166) (any_of HT_.out zq1) ?_
                           refine pure_ (i := 37) (N := some 167) (v := undef) (a' := ?_) #[true, true, true, true, true, true, true, true, true, true, true, true, true, true, true, true, true, true, true, true, true, true, true, true, true, true, true, true, true, true, true, true, true, true, true, true, true, true, false, false] rfl rfl (any_of HT_.out zq1) (fun _ _ _ h => h) (Or.inr ⟨by rfl, rfl⟩) ?_ ?_
                           rotate_left
                           ·simp only [Act.put, List.setIfInBounds_toArray, List.set_cons_zero, List.set_cons_succ, i64_w, i32_w]
                            rfl
                           refine pure_ (i := 38) (N := some 168) (v := undef) (a' := ?_) #[true, true, true, true, true, true, true, true, true, true, true, true, true, true, true, true, true, true, true, true, true, true, true, true, true, true, true, true, true, true, true, true, true, true, true, true, true, true, true, false] rfl rfl (any_of HT_.out zq1) (fun _ _ _ h => h) (Or.inr ⟨by rfl, rfl⟩) ?_ ?_
                           rotate_left
                           ·simp only [Act.put, List.setIfInBounds_toArray, List.set_cons_zero, List.set_cons_succ, i64_w, i32_w]
                            rfl
                           refine zpz (i := 39) (N := some 169) (any_of HT_.out zq1) ?_
                           refine done_ (done_of HT_.out zq1) ?_
                           try go_wp2
                           go_meet
                           case rel => exact ⟨_, (true), zq23, H', ⟨zq59⟩, ⟨zq39⟩, ⟨zq53⟩, ⟨zq58⟩, ⟨zbfr⟩, ⟨zbzr⟩⟩
                          ·rw [if_neg c92] at H
                           have c92b0 : decide (t659 < 0) = false := decide_eq_false c92
                           clear c92
                           have H' := Aside0.mk H
                           clear H
                           try go_wp2
                           replace HO_5 := Aside0.mk (Kd.R_drew HO_5.out)
                           replace HO_6 := Aside0.mk (Kd.R_drew HO_6.out)
                           replace HO_10 := Aside0.mk (Kd.R_drew HO_10.out)
                           replace BK655 := Aside0.mk (blk_drew BK655.out)
                           replace HB := Aside0.mk (below_drew1 HB.out)
                           refine start_ (n := 40) (S := fun w' => True) (ds := []) #[false, false, false, false, false, false, false, false, false, false, false, false, false, false, false, false, false, false, false, false, false, false, false, false, false, false, false, false, false, false, false, false, false, false, false, false, false, false, false, false] zq1 rfl rfl trivial (fun hHeld => ?_); refine with_tabW isobathlaw05_ClockOrder.tab26 isobathlaw05_ClockOrder.bits26 (fun HT_ HW_ => ?_)
                           generalize w59.drew = w94 at HO_5 HO_6 HO_10 BK655 HB hHeld ⊢
                           refine zpz (i := 0) (N := some 130) (any_of HT_.out zq1) ?_
                           refine zpz (i := 1) (N := some 131) (any_of HT_.out zq1) ?_
                           refine zpz (i := 2) (N := some 132) (any_of HT_.out zq1) ?_
                           refine zpz (i := 3) (N := some 133) (any_of HT_.out zq1) ?_
                           refine zpz (i := 4) (N := some 134) (any_of HT_.out zq1) ?_
                           refine zpz (i := 5) (N := some 135) (any_of HT_.out zq1) ?_
                           refine pure_ (i := 6) (N := some 136) (v := undef) (a' := ?_) #[true, true, true, true, true, true, true, false, false, false, false, false, false, false, false, false, false, false, false, false, false, false, false, false, false, false, false, false, false, false, false, false, false, false, false, false, false, false, false, false] rfl rfl (any_of HT_.out zq1) (fun _ _ _ h => h) (Or.inr ⟨by rfl, rfl⟩) ?_ ?_
                           rotate_left
                           ·simp only [Act.put, List.setIfInBounds_toArray, List.set_cons_zero, List.set_cons_succ, i64_w, i32_w]
                            rfl
                           refine pure_ (i := 7) (N := some 137) (v := undef) (a' := ?_) #[true, true, true, true, true, true, true, true, false, false, false, false, false, false, false, false, false, false, false, false, false, false, false, false, false, false, false, false, false, false, false, false, false, false, false, false, false, false, false, false] rfl rfl (any_of HT_.out zq1) (fun _ _ _ h => h) (Or.inr ⟨by rfl, rfl⟩) ?_ ?_
                           rotate_left
                           ·simp only [Act.put, List.setIfInBounds_toArray, List.set_cons_zero, List.set_cons_succ, i64_w, i32_w]
                            rfl
                           refine pure_ (i := 8) (N := some 138) (v := undef) (a' := ?_) #[true, true, true, true, true, true, true, true, true, false, false, false, false, false, false, false, false, false, false, false, false, false, false, false, false, false, false, false, false, false, false, false, false, false, false, false, false, false, false, false] rfl rfl (any_of HT_.out zq1) (fun _ _ _ h => h) (Or.inr ⟨by rfl, rfl⟩) ?_ ?_
                           rotate_left
                           ·simp only [Act.put, List.setIfInBounds_toArray, List.set_cons_zero, List.set_cons_succ, i64_w, i32_w]
                            rfl
                           refine pure_ (i := 9) (N := some 139) (v := undef) (a' := ?_) #[true, true, true, true, true, true, true, true, true, true, false, false, false, false, false, false, false, false, false, false, false, false, false, false, false, false, false, false, false, false, false, false, false, false, false, false, false, false, false, false] rfl rfl (any_of HT_.out zq1) (fun _ _ _ h => h) (Or.inr ⟨by rfl, rfl⟩) ?_ ?_
                           rotate_left
                           ·simp only [Act.put, List.setIfInBounds_toArray, List.set_cons_zero, List.set_cons_succ, i64_w, i32_w]
                            rfl
                           refine pure_ (i := 10) (N := some 140) (v := undef) (a' := ?_) #[true, true, true, true, true, true, true, true, true, true, true, false, false, false, false, false, false, false, false, false, false, false, false, false, false, false, false, false, false, false, false, false, false, false, false, false, false, false, false, false] rfl rfl (any_of HT_.out zq1) (fun _ _ _ h => h) (Or.inr ⟨by rfl, rfl⟩) ?_ ?_
                           rotate_left
                           ·simp only [Act.put, List.setIfInBounds_toArray, List.set_cons_zero, List.set_cons_succ, i64_w, i32_w]
                            rfl
                           refine pure_ (i := 11) (N := some 141) (v := undef) (a' := ?_) #[true, true, true, true, true, true, true, true, true, true, true, true, false, false, false, false, false, false, false, false, false, false, false, false, false, false, false, false, false, false, false, false, false, false, false, false, false, false, false, false] rfl rfl (any_of HT_.out zq1) (fun _ _ _ h => h) (Or.inr ⟨by rfl, rfl⟩) ?_ ?_
                           rotate_left
                           ·simp only [Act.put, List.setIfInBounds_toArray, List.set_cons_zero, List.set_cons_succ, i64_w, i32_w]
                            rfl
                           refine pure_ (i := 12) (N := some 142) (v := undef) (a' := ?_) #[true, true, true, true, true, true, true, true, true, true, true, true, true, false, false, false, false, false, false, false, false, false, false, false, false, false, false, false, false, false, false, false, false, false, false, false, false, false, false, false] rfl rfl (any_of HT_.out zq1) (fun _ _ _ h => h) (Or.inr ⟨by rfl, rfl⟩) ?_ ?_
                           rotate_left
                           ·simp only [Act.put, List.setIfInBounds_toArray, List.set_cons_zero, List.set_cons_succ, i64_w, i32_w]
                            rfl
                           refine pure_ (i := 13) (N := some 143) (v := undef) (a' := ?_) #[true, true, true, true, true, true, true, true, true, true, true, true, true, true, false, false, false, false, false, false, false, false, false, false, false, false, false, false, false, false, false, false, false, false, false, false, false, false, false, false] rfl rfl (any_of HT_.out zq1) (fun _ _ _ h => h) (Or.inr ⟨by rfl, rfl⟩) ?_ ?_
                           rotate_left
                           ·simp only [Act.put, List.setIfInBounds_toArray, List.set_cons_zero, List.set_cons_succ, i64_w, i32_w]
                            rfl
                           refine pure_ (i := 14) (N := some 144) (v := undef) (a' := ?_) #[true, true, true, true, true, true, true, true, true, true, true, true, true, true, true, false, false, false, false, false, false, false, false, false, false, false, false, false, false, false, false, false, false, false, false, false, false, false, false, false] rfl rfl (any_of HT_.out zq1) (fun _ _ _ h => h) (Or.inr ⟨by rfl, rfl⟩) ?_ ?_
                           rotate_left
                           ·simp only [Act.put, List.setIfInBounds_toArray, List.set_cons_zero, List.set_cons_succ, i64_w, i32_w]
                            rfl
                           refine zpz (i := 15) (N := some 145) (any_of HT_.out zq1) ?_
                           refine zpz (i := 16) (N := some 146) (any_of HT_.out zq1) ?_
                           refine zpz (i := 17) (N := some 147) (any_of HT_.out zq1) ?_
                           refine zpz (i := 18) (N := some 148) (any_of HT_.out zq1) ?_
                           refine zpz (i := 19) (N := some 149) (any_of HT_.out zq1) ?_
                           refine zpz (i := 20) (N := some 150) (any_of HT_.out zq1) ?_
                           refine pure_ (i := 21) (N := some 151) (v := undef) (a' := ?_) #[true, true, true, true, true, true, true, true, true, true, true, true, true, true, true, true, true, true, true, true, true, true, false, false, false, false, false, false, false, false, false, false, false, false, false, false, false, false, false, false] rfl rfl (any_of HT_.out zq1) (fun _ _ _ h => h) (Or.inr ⟨by rfl, rfl⟩) ?_ ?_
                           rotate_left
                           ·simp only [Act.put, List.setIfInBounds_toArray, List.set_cons_zero, List.set_cons_succ, i64_w, i32_w]
                            rfl
                           refine pure_ (i := 22) (N := some 152) (v := undef) (a' := ?_) #[true, true, true, true, true, true, true, true, true, true, true, true, true, true, true, true, true, true, true, true, true, true, true, false, false, false, false, false, false, false, false, false, false, false, false, false, false, false, false, false] rfl rfl (any_of HT_.out zq1) (fun _ _ _ h => h) (Or.inr ⟨by rfl, rfl⟩) ?_ ?_
                           rotate_left
                           ·simp only [Act.put, List.setIfInBounds_toArray, List.set_cons_zero, List.set_cons_succ, i64_w, i32_w]
                            rfl
                           refine pure_ (i := 23) (N := some 153) (v := undef) (a' := ?_) #[true, true, true, true, true, true, true, true, true, true, true, true, true, true, true, true, true, true, true, true, true, true, true, true, false, false, false, false, false, false, false, false, false, false, false, false, false, false, false, false] rfl rfl (any_of HT_.out zq1) (fun _ _ _ h => h) (Or.inr ⟨by rfl, rfl⟩) ?_ ?_
                           rotate_left
                           ·simp only [Act.put, List.setIfInBounds_toArray, List.set_cons_zero, List.set_cons_succ, i64_w, i32_w]
                            rfl
                           refine pure_ (i := 24) (N := some 154) (v := undef) (a' := ?_) #[true, true, true, true, true, true, true, true, true, true, true, true, true, true, true, true, true, true, true, true, true, true, true, true, true, false, false, false, false, false, false, false, false, false, false, false, false, false, false, false] rfl rfl (any_of HT_.out zq1) (fun _ _ _ h => h) (Or.inr ⟨by rfl, rfl⟩) ?_ ?_
                           rotate_left
                           ·simp only [Act.put, List.setIfInBounds_toArray, List.set_cons_zero, List.set_cons_succ, i64_w, i32_w]
                            rfl
                           refine pure_ (i := 25) (N := some 155) (v := undef) (a' := ?_) #[true, true, true, true, true, true, true, true, true, true, true, true, true, true, true, true, true, true, true, true, true, true, true, true, true, true, false, false, false, false, false, false, false, false, false, false, false, false, false, false] rfl rfl (any_of HT_.out zq1) (fun _ _ _ h => h) (Or.inr ⟨by rfl, rfl⟩) ?_ ?_
                           rotate_left
                           ·simp only [Act.put, List.setIfInBounds_toArray, List.set_cons_zero, List.set_cons_succ, i64_w, i32_w]
                            rfl
                           refine pure_ (i := 26) (N := some 156) (v := undef) (a' := ?_) #[true, true, true, true, true, true, true, true, true, true, true, true, true, true, true, true, true, true, true, true, true, true, true, true, true, true, true, false, false, false, false, false, false, false, false, false, false, false, false, false] rfl rfl (any_of HT_.out zq1) (fun _ _ _ h => h) (Or.inr ⟨by rfl, rfl⟩) ?_ ?_
                           rotate_left
                           ·simp only [Act.put, List.setIfInBounds_toArray, List.set_cons_zero, List.set_cons_succ, i64_w, i32_w]
                            rfl
                           refine pure_ (i := 27) (N := some 157) (v := undef) (a' := ?_) #[true, true, true, true, true, true, true, true, true, true, true, true, true, true, true, true, true, true, true, true, true, true, true, true, true, true, true, true, false, false, false, false, false, false, false, false, false, false, false, false] rfl rfl (any_of HT_.out zq1) (fun _ _ _ h => h) (Or.inr ⟨by rfl, rfl⟩) ?_ ?_
                           rotate_left
                           ·simp only [Act.put, List.setIfInBounds_toArray, List.set_cons_zero, List.set_cons_succ, i64_w, i32_w]
                            rfl
                           refine pure_ (i := 28) (N := some 158) (v := undef) (a' := ?_) #[true, true, true, true, true, true, true, true, true, true, true, true, true, true, true, true, true, true, true, true, true, true, true, true, true, true, true, true, true, false, false, false, false, false, false, false, false, false, false, false] rfl rfl (any_of HT_.out zq1) (fun _ _ _ h => h) (Or.inr ⟨by rfl, rfl⟩) ?_ ?_
                           rotate_left
                           ·simp only [Act.put, List.setIfInBounds_toArray, List.set_cons_zero, List.set_cons_succ, i64_w, i32_w]
                            rfl
                           refine pure_ (i := 29) (N := some 159) (v := undef) (a' := ?_) #[true, true, true, true, true, true, true, true, true, true, true, true, true, true, true, true, true, true, true, true, true, true, true, true, true, true, true, true, true, true, false, false, false, false, false, false, false, false, false, false] rfl rfl (any_of HT_.out zq1) (fun _ _ _ h => h) (Or.inr ⟨by rfl, rfl⟩) ?_ ?_
                           rotate_left
                           ·simp only [Act.put, List.setIfInBounds_toArray, List.set_cons_zero, List.set_cons_succ, i64_w, i32_w]
                            rfl
                           refine zpz (i := 30) (N := some 160) (any_of HT_.out zq1) ?_
                           refine zpz (i := 31) (N := some 161) (any_of HT_.out zq1) ?_
                           refine zpz (i := 32) (N := some 162) (any_of HT_.out zq1) ?_
                           refine zpz (i := 33) (N := some 163) (any_of HT_.out zq1) ?_
                           refine zpz (i := 34) (N := some 164) (any_of HT_.out zq1) ?_
                           refine zpz (i := 35) (N := some 165) (any_of HT_.out zq1) ?_
                           refine zpz (i := 36) (N := some 166) (any_of HT_.out zq1) ?_
                           refine zpz (i := 37) (N := some 167) (any_of HT_.out zq1) ?_
                           refine zpz (i := 38) (N := some 168) (any_of HT_.out zq1) ?_
                           refine zpz (i := 39) (N := some 169) (any_of HT_.out zq1) ?_
                           refine done_ (done_of HT_.out zq1) ?_
                           try go_wp2
                           go_meet
                           case rel => exact ⟨_, (decide (t659 > 2)), zq23, H', ⟨zq59⟩, ⟨zq39⟩, ⟨zq53⟩, ⟨zq58⟩, ⟨zbfr⟩, ⟨zbzr⟩⟩
                       ·rw [if_neg c60] at H
                        have c60b0 : (t660 == 0) = false := beq_eq_false_iff_ne.mpr c60
                        have c60b1 : (t660 != 0) = true := bne_iff_ne.mpr c60
                        (first | rw [c60b0] | (simp only [i64_w, i32_w]; rw [c60b0]) | skip)
                        have H' := Aside0.mk H
                        clear H
                        try go_wp2
                        replace HO_5 := Aside0.mk (Kd.R_drew HO_5.out)
                        replace HO_6 := Aside0.mk (Kd.R_drew HO_6.out)
                        replace HO_10 := Aside0.mk (Kd.R_drew HO_10.out)
                        replace BK655 := Aside0.mk (blk_drew BK655.out)
                        replace HB := Aside0.mk (below_drew1 HB.out)
                        refine start_ (n := 40) (S := fun w' => True) (ds := []) #[false, false, false, false, false, false, false, false, false, false, false, false, false, false, false, false, false, false, false, false, false, false, false, false, false, false, false, false, false, false, false, false, false, false, false, false, false, false, false, false] zq1 rfl rfl trivial (fun hHeld => ?_); refine with_tabW isobathlaw05_ClockOrder.tab26 isobathlaw05_ClockOrder.bits26 (fun HT_ HW_ => ?_)
                        generalize w59.drew = w95 at HO_5 HO_6 HO_10 BK655 HB hHeld ⊢
                        refine zpz (i := 0) (N := some 130) (any_of HT_.out zq1) ?_
                        refine zpz (i := 1) (N := some 131) (any_of HT_.out zq1) ?_
                        refine zpz (i := 2) (N := some 132) (any_of HT_.out zq1) ?_
                        refine pure_ (i := 3) (N := some 133) (v := undef) (a' := ?_) #[true, true, true, true, false, false, false, false, false, false, false, false, false, false, false, false, false, false, false, false, false, false, false, false, false, false, false, false, false, false, false, false, false, false, false, false, false, false, false, false] rfl rfl (any_of HT_.out zq1) (fun _ _ _ h => h) (Or.inr ⟨by rfl, rfl⟩) ?_ ?_
                        rotate_left
                        ·simp only [Act.put, List.setIfInBounds_toArray, List.set_cons_zero, List.set_cons_succ, i64_w, i32_w]
                         rfl
                        refine pure_ (i := 4) (N := some 134) (v := undef) (a' := ?_) #[true, true, true, true, true, false, false, false, false, false, false, false, false, false, false, false, false, false, false, false, false, false, false, false, false, false, false, false, false, false, false, false, false, false, false, false, false, false, false, false] rfl rfl (any_of HT_.out zq1) (fun _ _ _ h => h) (Or.inr ⟨by rfl, rfl⟩) ?_ ?_
                        rotate_left
                        ·simp only [Act.put, List.setIfInBounds_toArray, List.set_cons_zero, List.set_cons_succ, i64_w, i32_w]
                         rfl
                        refine pure_ (i := 5) (N := some 135) (v := undef) (a' := ?_) #[true, true, true, true, true, true, false, false, false, false, false, false, false, false, false, false, false, false, false, false, false, false, false, false, false, false, false, false, false, false, false, false, false, false, false, false, false, false, false, false] rfl rfl (any_of HT_.out zq1) (fun _ _ _ h => h) (Or.inr ⟨by rfl, rfl⟩) ?_ ?_
                        rotate_left
                        ·simp only [Act.put, List.setIfInBounds_toArray, List.set_cons_zero, List.set_cons_succ, i64_w, i32_w]
                         rfl
                        refine pure_ (i := 6) (N := some 136) (v := undef) (a' := ?_) #[true, true, true, true, true, true, true, false, false, false, false, false, false, false, false, false, false, false, false, false, false, false, false, false, false, false, false, false, false, false, false, false, false, false, false, false, false, false, false, false] rfl rfl (any_of HT_.out zq1) (fun _ _ _ h => h) (Or.inr ⟨by rfl, rfl⟩) ?_ ?_
                        rotate_left
                        ·simp only [Act.put, List.setIfInBounds_toArray, List.set_cons_zero, List.set_cons_succ, i64_w, i32_w]
                         rfl
                        refine pure_ (i := 7) (N := some 137) (v := undef) (a' := ?_) #[true, true, true, true, true, true, true, true, false, false, false, false, false, false, false, false, false, false, false, false, false, false, false, false, false, false, false, false, false, false, false, false, false, false, false, false, false, false, false, false] rfl rfl (any_of HT_.out zq1) (fun _ _ _ h => h) (Or.inr ⟨by rfl, rfl⟩) ?_ ?_
                        rotate_left
                        ·simp only [Act.put, List.setIfInBounds_toArray, List.set_cons_zero, List.set_cons_succ, i64_w, i32_w]
                         rfl
                        refine pure_ (i := 8) (N := some 138) (v := undef) (a' := ?_) #[true, true, true, true, true, true, true, true, true, false, false, false, false, false, false, false, false, false, false, false, false, false, false, false, false, false, false, false, false, false, false, false, false, false, false, false, false, false, false, false] rfl rfl (any_of HT_.out zq1) (fun _ _ _ h => h) (Or.inr ⟨by rfl, rfl⟩) ?_ ?_
                        rotate_left
                        ·simp only [Act.put, List.setIfInBounds_toArray, List.set_cons_zero, List.set_cons_succ, i64_w, i32_w]
                         rfl
                        refine pure_ (i := 9) (N := some 139) (v := undef) (a' := ?_) #[true, true, true, true, true, true, true, true, true, true, false, false, false, false, false, false, false, false, false, false, false, false, false, false, false, false, false, false, false, false, false, false, false, false, false, false, false, false, false, false] rfl rfl (any_of HT_.out zq1) (fun _ _ _ h => h) (Or.inr ⟨by rfl, rfl⟩) ?_ ?_
                        rotate_left
                        ·simp only [Act.put, List.setIfInBounds_toArray, List.set_cons_zero, List.set_cons_succ, i64_w, i32_w]
                         rfl
                        refine pure_ (i := 10) (N := some 140) (v := undef) (a' := ?_) #[true, true, true, true, true, true, true, true, true, true, true, false, false, false, false, false, false, false, false, false, false, false, false, false, false, false, false, false, false, false, false, false, false, false, false, false, false, false, false, false] rfl rfl (any_of HT_.out zq1) (fun _ _ _ h => h) (Or.inr ⟨by rfl, rfl⟩) ?_ ?_
                        rotate_left
                        ·simp only [Act.put, List.setIfInBounds_toArray, List.set_cons_zero, List.set_cons_succ, i64_w, i32_w]
                         rfl
                        refine pure_ (i := 11) (N := some 141) (v := undef) (a' := ?_) #[true, true, true, true, true, true, true, true, true, true, true, true, false, false, false, false, false, false, false, false, false, false, false, false, false, false, false, false, false, false, false, false, false, false, false, false, false, false, false, false] rfl rfl (any_of HT_.out zq1) (fun _ _ _ h => h) (Or.inr ⟨by rfl, rfl⟩) ?_ ?_
                        rotate_left
                        ·simp only [Act.put, List.setIfInBounds_toArray, List.set_cons_zero, List.set_cons_succ, i64_w, i32_w]
                         rfl
                        refine pure_ (i := 12) (N := some 142) (v := undef) (a' := ?_) #[true, true, true, true, true, true, true, true, true, true, true, true, true, false, false, false, false, false, false, false, false, false, false, false, false, false, false, false, false, false, false, false, false, false, false, false, false, false, false, false] rfl rfl (any_of HT_.out zq1) (fun _ _ _ h => h) (Or.inr ⟨by rfl, rfl⟩) ?_ ?_
                        rotate_left
                        ·simp only [Act.put, List.setIfInBounds_toArray, List.set_cons_zero, List.set_cons_succ, i64_w, i32_w]
                         rfl
                        refine pure_ (i := 13) (N := some 143) (v := undef) (a' := ?_) #[true, true, true, true, true, true, true, true, true, true, true, true, true, true, false, false, false, false, false, false, false, false, false, false, false, false, false, false, false, false, false, false, false, false, false, false, false, false, false, false] rfl rfl (any_of HT_.out zq1) (fun _ _ _ h => h) (Or.inr ⟨by rfl, rfl⟩) ?_ ?_
                        rotate_left
                        ·simp only [Act.put, List.setIfInBounds_toArray, List.set_cons_zero, List.set_cons_succ, i64_w, i32_w]
                         rfl
                        refine pure_ (i := 14) (N := some 144) (v := undef) (a' := ?_) #[true, true, true, true, true, true, true, true, true, true, true, true, true, true, true, false, false, false, false, false, false, false, false, false, false, false, false, false, false, false, false, false, false, false, false, false, false, false, false, false] rfl rfl (any_of HT_.out zq1) (fun _ _ _ h => h) (Or.inr ⟨by rfl, rfl⟩) ?_ ?_
                        rotate_left
                        ·simp only [Act.put, List.setIfInBounds_toArray, List.set_cons_zero, List.set_cons_succ, i64_w, i32_w]
                         rfl
                        refine pure_ (i := 15) (N := some 145) (v := undef) (a' := ?_) #[true, true, true, true, true, true, true, true, true, true, true, true, true, true, true, true, false, false, false, false, false, false, false, false, false, false, false, false, false, false, false, false, false, false, false, false, false, false, false, false] rfl rfl (any_of HT_.out zq1) (fun _ _ _ h => h) (Or.inr ⟨by rfl, rfl⟩) ?_ ?_
                        rotate_left
                        ·simp only [Act.put, List.setIfInBounds_toArray, List.set_cons_zero, List.set_cons_succ, i64_w, i32_w]
                         rfl
                        refine zpz (i := 16) (N := some 146) (any_of HT_.out zq1) ?_
                        refine zpz (i := 17) (N := some 147) (any_of HT_.out zq1) ?_
                        refine pure_ (i := 18) (N := some 148) (v := undef) (a' := ?_) #[true, true, true, true, true, true, true, true, true, true, true, true, true, true, true, true, true, true, true, false, false, false, false, false, false, false, false, false, false, false, false, false, false, false, false, false, false, false, false, false] rfl rfl (any_of HT_.out zq1) (fun _ _ _ h => h) (Or.inr ⟨by rfl, rfl⟩) ?_ ?_
                        rotate_left
                        ·simp only [Act.put, List.setIfInBounds_toArray, List.set_cons_zero, List.set_cons_succ, i64_w, i32_w]
                         rfl
                        refine pure_ (i := 19) (N := some 149) (v := undef) (a' := ?_) #[true, true, true, true, true, true, true, true, true, true, true, true, true, true, true, true, true, true, true, true, false, false, false, false, false, false, false, false, false, false, false, false, false, false, false, false, false, false, false, false] rfl rfl (any_of HT_.out zq1) (fun _ _ _ h => h) (Or.inr ⟨by rfl, rfl⟩) ?_ ?_
                        rotate_left
                        ·simp only [Act.put, List.setIfInBounds_toArray, List.set_cons_zero, List.set_cons_succ, i64_w, i32_w]
                         rfl
                        refine pure_ (i := 20) (N := some 150) (v := undef) (a' := ?_) #[true, true, true, true, true, true, true, true, true, true, true, true, true, true, true, true, true, true, true, true, true, false, false, false, false, false, false, false, false, false, false, false, false, false, false, false, false, false, false, false] rfl rfl (any_of HT_.out zq1) (fun _ _ _ h => h) (Or.inr ⟨by rfl, rfl⟩) ?_ ?_
                        rotate_left
                        ·simp only [Act.put, List.setIfInBounds_toArray, List.set_cons_zero, List.set_cons_succ, i64_w, i32_w]
                         rfl
                        refine pure_ (i := 21) (N := some 151) (v := undef) (a' := ?_) #[true, true, true, true, true, true, true, true, true, true, true, true, true, true, true, true, true, true, true, true, true, true, false, false, false, false, false, false, false, false, false, false, false, false, false, false, false, false, false, false] rfl rfl (any_of HT_.out zq1) (fun _ _ _ h => h) (Or.inr ⟨by rfl, rfl⟩) ?_ ?_
                        rotate_left
                        ·simp only [Act.put, List.setIfInBounds_toArray, List.set_cons_zero, List.set_cons_succ, i64_w, i32_w]
                         rfl
                        refine pure_ (i := 22) (N := some 152) (v := undef) (a' := ?_) #[true, true, true, true, true, true, true, true, true, true, true, true, true, true, true, true, true, true, true, true, true, true, true, false, false, false, false, false, false, false, false, false, false, false, false, false, false, false, false, false] rfl rfl (any_of HT_.out zq1) (fun _ _ _ h => h) (Or.inr ⟨by rfl, rfl⟩) ?_ ?_
                        rotate_left
                        ·simp only [Act.put, List.setIfInBounds_toArray, List.set_cons_zero, List.set_cons_succ, i64_w, i32_w]
                         rfl
                        refine pure_ (i := 23) (N := some 153) (v := undef) (a' := ?_) #[true, true, true, true, true, true, true, true, true, true, true, true, true, true, true, true, true, true, true, true, true, true, true, true, false, false, false, false, false, false, false, false, false, false, false, false, false, false, false, false] rfl rfl (any_of HT_.out zq1) (fun _ _ _ h => h) (Or.inr ⟨by rfl, rfl⟩) ?_ ?_
                        rotate_left
                        ·simp only [Act.put, List.setIfInBounds_toArray, List.set_cons_zero, List.set_cons_succ, i64_w, i32_w]
                         rfl
                        refine pure_ (i := 24) (N := some 154) (v := undef) (a' := ?_) #[true, true, true, true, true, true, true, true, true, true, true, true, true, true, true, true, true, true, true, true, true, true, true, true, true, false, false, false, false, false, false, false, false, false, false, false, false, false, false, false] rfl rfl (any_of HT_.out zq1) (fun _ _ _ h => h) (Or.inr ⟨by rfl, rfl⟩) ?_ ?_
                        rotate_left
                        ·simp only [Act.put, List.setIfInBounds_toArray, List.set_cons_zero, List.set_cons_succ, i64_w, i32_w]
                         rfl
                        refine pure_ (i := 25) (N := some 155) (v := undef) (a' := ?_) #[true, true, true, true, true, true, true, true, true, true, true, true, true, true, true, true, true, true, true, true, true, true, true, true, true, true, false, false, false, false, false, false, false, false, false, false, false, false, false, false] rfl rfl (any_of HT_.out zq1) (fun _ _ _ h => h) (Or.inr ⟨by rfl, rfl⟩) ?_ ?_
                        rotate_left
                        ·simp only [Act.put, List.setIfInBounds_toArray, List.set_cons_zero, List.set_cons_succ, i64_w, i32_w]
                         rfl
                        refine pure_ (i := 26) (N := some 156) (v := undef) (a' := ?_) #[true, true, true, true, true, true, true, true, true, true, true, true, true, true, true, true, true, true, true, true, true, true, true, true, true, true, true, false, false, false, false, false, false, false, false, false, false, false, false, false] rfl rfl (any_of HT_.out zq1) (fun _ _ _ h => h) (Or.inr ⟨by rfl, rfl⟩) ?_ ?_
                        rotate_left
                        ·simp only [Act.put, List.setIfInBounds_toArray, List.set_cons_zero, List.set_cons_succ, i64_w, i32_w]
                         rfl
                        refine pure_ (i := 27) (N := some 157) (v := undef) (a' := ?_) #[true, true, true, true, true, true, true, true, true, true, true, true, true, true, true, true, true, true, true, true, true, true, true, true, true, true, true, true, false, false, false, false, false, false, false, false, false, false, false, false] rfl rfl (any_of HT_.out zq1) (fun _ _ _ h => h) (Or.inr ⟨by rfl, rfl⟩) ?_ ?_
                        rotate_left
                        ·simp only [Act.put, List.setIfInBounds_toArray, List.set_cons_zero, List.set_cons_succ, i64_w, i32_w]
                         rfl
                        refine pure_ (i := 28) (N := some 158) (v := undef) (a' := ?_) #[true, true, true, true, true, true, true, true, true, true, true, true, true, true, true, true, true, true, true, true, true, true, true, true, true, true, true, true, true, false, false, false, false, false, false, false, false, false, false, false] rfl rfl (any_of HT_.out zq1) (fun _ _ _ h => h) (Or.inr ⟨by rfl, rfl⟩) ?_ ?_
                        rotate_left
                        ·simp only [Act.put, List.setIfInBounds_toArray, List.set_cons_zero, List.set_cons_succ, i64_w, i32_w]
                         rfl
                        refine pure_ (i := 29) (N := some 159) (v := undef) (a' := ?_) #[true, true, true, true, true, true, true, true, true, true, true, true, true, true, true, true, true, true, true, true, true, true, true, true, true, true, true, true, true, true, false, false, false, false, false, false, false, false, false, false] rfl rfl (any_of HT_.out zq1) (fun _ _ _ h => h) (Or.inr ⟨by rfl, rfl⟩) ?_ ?_
                        rotate_left
                        ·simp only [Act.put, List.setIfInBounds_toArray, List.set_cons_zero, List.set_cons_succ, i64_w, i32_w]
                         rfl
                        refine pure_ (i := 30) (N := some 160) (v := undef) (a' := ?_) #[true, true, true, true, true, true, true, true, true, true, true, true, true, true, true, true, true, true, true, true, true, true, true, true, true, true, true, true, true, true, true, false, false, false, false, false, false, false, false, false] rfl rfl (any_of HT_.out zq1) (fun _ _ _ h => h) (Or.inr ⟨by rfl, rfl⟩) ?_ ?_
                        rotate_left
                        ·simp only [Act.put, List.setIfInBounds_toArray, List.set_cons_zero, List.set_cons_succ, i64_w, i32_w]
                         rfl
                        refine zpz (i := 31) (N := some 161) (any_of HT_.out zq1) ?_
                        refine zpz (i := 32) (N := some 162) (any_of HT_.out zq1) ?_
                        refine pure_ (i := 33) (N := some 163) (v := undef) (a' := ?_) #[true, true, true, true, true, true, true, true, true, true, true, true, true, true, true, true, true, true, true, true, true, true, true, true, true, true, true, true, true, true, true, true, true, true, false, false, false, false, false, false] rfl rfl (any_of HT_.out zq1) (fun _ _ _ h => h) (Or.inr ⟨by rfl, rfl⟩) ?_ ?_
                        rotate_left
                        ·simp only [Act.put, List.setIfInBounds_toArray, List.set_cons_zero, List.set_cons_succ, i64_w, i32_w]
                         rfl
                        refine pure_ (i := 34) (N := some 164) (v := undef) (a' := ?_) #[true, true, true, true, true, true, true, true, true, true, true, true, true, true, true, true, true, true, true, true, true, true, true, true, true, true, true, true, true, true, true, true, true, true, true, false, false, false, false, false] rfl rfl (any_of HT_.out zq1) (fun _ _ _ h => h) (Or.inr ⟨by rfl, rfl⟩) ?_ ?_
                        rotate_left
                        ·simp only [Act.put, List.setIfInBounds_toArray, List.set_cons_zero, List.set_cons_succ, i64_w, i32_w]
                         rfl
                        refine zpz (i := 35) (N := some 165) (any_of HT_.out zq1) ?_
                        refine zpz (i := 36) (N := some 166) (any_of HT_.out zq1) ?_
                        refine pure_ (i := 37) (N := some 167) (v := undef) (a' := ?_) #[true, true, true, true, true, true, true, true, true, true, true, true, true, true, true, true, true, true, true, true, true, true, true, true, true, true, true, true, true, true, true, true, true, true, true, true, true, true, false, false] rfl rfl (any_of HT_.out zq1) (fun _ _ _ h => h) (Or.inr ⟨by rfl, rfl⟩) ?_ ?_
                        rotate_left
                        ·simp only [Act.put, List.setIfInBounds_toArray, List.set_cons_zero, List.set_cons_succ, i64_w, i32_w]
                         rfl
                        refine pure_ (i := 38) (N := some 168) (v := undef) (a' := ?_) #[true, true, true, true, true, true, true, true, true, true, true, true, true, true, true, true, true, true, true, true, true, true, true, true, true, true, true, true, true, true, true, true, true, true, true, true, true, true, true, false] rfl rfl (any_of HT_.out zq1) (fun _ _ _ h => h) (Or.inr ⟨by rfl, rfl⟩) ?_ ?_
                        rotate_left
                        ·simp only [Act.put, List.setIfInBounds_toArray, List.set_cons_zero, List.set_cons_succ, i64_w, i32_w]
                         rfl
                        refine zpz (i := 39) (N := some 169) (any_of HT_.out zq1) ?_
                        refine done_ (done_of HT_.out zq1) ?_
                        try go_wp2
                        go_meet
                        case rel => exact ⟨_, (true), zq23, H', ⟨zq59⟩, ⟨zq39⟩, ⟨zq53⟩, ⟨zq58⟩, ⟨zbfr⟩, ⟨zbzr⟩⟩
                     case rest =>
                      as_aux_lemma =>
                       clear HC57
                       try clear p2
                       try clear c6
                       try clear c9
                       try clear c60
                       try clear c60b0
                       try clear c60b1
                       try clear c92
                       try clear c92b0
                       obtain ⟨kq, x169_56, rfl, HA, HJ56, HO_5, HO_6, HO_10, BK655, HB⟩ := hcut
                       cases kq with
                       | zero => exact absurd HA.out (by simp [isobathlaw05_ClockOrder.j4])
                       | succ kj56 =>
                        have H := HA.out
                        clear HA
                        simp only [isobathlaw05_ClockOrder.j4] at H
                        by_cases c96 : x169_56 = true
                        ·subst c96
                         have H1 : (some false) = some r := by rw [if_pos rfl] at H; exact H
                         clear H
                         have H := H1
                         clear H1
                         have hh_ := Option.some.inj H
                         rw [hr_.out] at hh_
                         cases hh_
                        ·replace c96 := Bool.eq_false_iff.mpr c96
                         subst c96
                         have H1 : (if 0 ≤ x17_4 then (if x17_4 < (x6_1.length : Int) then (if 0 ≤ x14_3 then (if x14_3 < (x6_1.length : Int) then (if (rd x6_1 x17_4) < (rd x6_1 x14_3) then (isobathlaw05_ClockOrder.l2 kj56 x5_1 x6_1 t648 t654 x14_3 (wrap64 (x15_4 + 1)) x16_4 (wrap64 (x17_4 + 1)) t652 t653) else (if (rd x6_1 x17_4) = (rd x6_1 x14_3) then (isobathlaw05_ClockOrder.l2 kj56 x5_1 x6_1 t648 t654 x14_3 x15_4 (wrap64 (x16_4 + 1)) (wrap64 (x17_4 + 1)) t652 t653) else (isobathlaw05_ClockOrder.l2 kj56 x5_1 x6_1 t648 t654 x14_3 x15_4 x16_4 (wrap64 (x17_4 + 1)) t652 t653))) else (none)) else (none)) else (none)) else (none)) = some r := by rw [if_neg (show ¬ (false = true) by decide)] at H; exact H
                         clear H
                         have H := H1
                         clear H1
                         by_cases c97 : 0 ≤ x17_4
                         ·rw [if_pos c97] at H
                          have c97b0 : decide (0 ≤ x17_4) = true := decide_eq_true c97
                          clear c97
                          by_cases c98 : x17_4 < (x6_1.length : Int)
                          ·rw [if_pos c98] at H
                           have c98b0 : decide (x17_4 < (x6_1.length : Int)) = true := decide_eq_true c98
                           clear c98
                           by_cases c99 : 0 ≤ x14_3
                           ·rw [if_pos c99] at H
                            have c99b0 : decide (0 ≤ x14_3) = true := decide_eq_true c99
                            clear c99
                            by_cases c100 : x14_3 < (x6_1.length : Int)
                            ·rw [if_pos c100] at H
                             have c100b0 : decide (x14_3 < (x6_1.length : Int)) = true := decide_eq_true c100
                             clear c100
                             by_cases c101 : (rd x6_1 x17_4) < (rd x6_1 x14_3)
                             ·rw [if_pos c101] at H
                              have c101b0 : decide ((rd x6_1 x17_4) < (rd x6_1 x14_3)) = true := decide_eq_true c101
                              clear c101
                              have H' := Aside0.mk H
                              clear H
                              try go_wp2
                              replace HO_5 := Aside0.mk (Kd.R_drew HO_5.out)
                              replace HO_6 := Aside0.mk (Kd.R_drew HO_6.out)
                              replace HO_10 := Aside0.mk (Kd.R_drew HO_10.out)
                              replace BK655 := Aside0.mk (blk_drew BK655.out)
                              replace HB := Aside0.mk (below_drew1 HB.out)
                              obtain ⟨Ao103, co103, eo103⟩ := Kd.R_slice HO_6.out
                              (first | subst eo103 | (injection eo103 with f1_ f2_ f3_; have f4_ := f1_.symm; have f5_ := f3_.symm; clear f1_ f2_ f3_; subst f4_; subst f5_))
                              have p667 : 0 ≤ (x17_4 : Int) := of_decide_eq_true zq25
                              have q667 : x17_4 < (x6_1.length : Int) := of_decide_eq_true zq25
                              obtain ⟨ad667, e667, hx667_0⟩ := Kd.at_int (Kd.R_reads' HO_6.out).2.2 x17_4 p667 q667
                              cases e667
                              replace p667 := eq_true p667
                              replace q667 := eq_true q667
                              have p668 : 0 ≤ (x14_3 : Int) := of_decide_eq_true zq25
                              have q668 : x14_3 < (x6_1.length : Int) := of_decide_eq_true zq25
                              obtain ⟨ad668, e668, hx668_0⟩ := Kd.at_int (Kd.R_reads' HO_6.out).2.2 x14_3 p668 q668
                              obtain rfl : ad667 = ad668 := (by injection e668)
                              replace p668 := eq_true p668
                              replace q668 := eq_true q668
                              refine start_ (n := 9) (S := fun w' => w'.cell? (ad667.add (x17_4).toNat) = some (.int .i64 (rd x6_1 x17_4)) ∧ w'.cell? (ad667.add (x14_3).toNat) = some (.int .i64 (rd x6_1 x14_3))) (ds := []) #[false, false, false, false, false, false, false, false, false] zq1 rfl rfl ⟨hx667_0, hx668_0⟩ (fun hHeld => ?_); refine with_tabW isobathlaw05_ClockOrder.tab28 isobathlaw05_ClockOrder.bits28 (fun HT_ HW_ => ?_)
                              generalize wc.drew = w102 at HO_5 HO_6 HO_10 BK655 HB hx667_0 hx668_0 hHeld ⊢
                              refine zpz (i := 0) (N := some 170) (any_of HT_.out zq1) ?_
                              refine zpz (i := 1) (N := some 171) (any_of HT_.out zq1) ?_
                              refine zpz (i := 2) (N := some 172) (any_of HT_.out zq1) ?_
                              refine zpz (i := 4) (N := some 174) (any_of HT_.out zq1) ?_
                              refine zpz (i := 5) (N := some 175) (any_of HT_.out zq1) ?_
                              refine zpz (i := 6) (N := some 176) (any_of HT_.out zq1) ?_
                              refine ztz (i := 3) (N := some 173) (take_ofW HT_.out HW_.out zq1) hHeld ?_
                              refine ztz (i := 7) (N := some 177) (take_ofW HT_.out HW_.out zq1) hHeld ?_
                              refine zpz (i := 8) (N := some 178) (any_of HT_.out zq1) ?_
                              refine done_ (done_of HT_.out zq1) ?_
                              try go_wp2
                              go_roundg kj56
                              case measure => have := HK1.out; have := HJ34.out; have := HK3.out; have := HK4.out; have := HJ56.out; omega
                              case rel => exact ⟨(wrap64 (x15_4 + 1)), (x16_4), (wrap64 (x17_4 + 1)), zq23, zq23, zq23, H', ⟨zq60⟩, ⟨zq39⟩, ⟨zq53⟩, ⟨zq58⟩, ⟨zbfr⟩, ⟨zbzr⟩⟩
                             ·rw [if_neg c101] at H
                              have c101b0 : decide ((rd x6_1 x17_4) < (rd x6_1 x14_3)) = false := decide_eq_false c101
                              clear c101
                              by_cases c104 : (rd x6_1 x17_4) = (rd x6_1 x14_3)
                              ·rw [if_pos c104] at H
                               have c104b0 : ((rd x6_1 x17_4) == (rd x6_1 x14_3)) = true := beq_iff_eq.mpr c104
                               have c104b1 : ((rd x6_1 x17_4) != (rd x6_1 x14_3)) = false := bne_eq_false_iff_eq.mpr c104
                               clear c104
                               have H' := Aside0.mk H
                               clear H
                               try go_wp2
                               replace HO_5 := Aside0.mk (Kd.R_drew HO_5.out)
                               replace HO_6 := Aside0.mk (Kd.R_drew HO_6.out)
                               replace HO_10 := Aside0.mk (Kd.R_drew HO_10.out)
                               replace BK655 := Aside0.mk (blk_drew BK655.out)
                               replace HB := Aside0.mk (below_drew1 HB.out)
                               obtain ⟨Ao106, co106, eo106⟩ := Kd.R_slice HO_6.out
                               (first | subst eo106 | (injection eo106 with f1_ f2_ f3_; have f4_ := f1_.symm; have f5_ := f3_.symm; clear f1_ f2_ f3_; subst f4_; subst f5_))
                               have p667 : 0 ≤ (x17_4 : Int) := of_decide_eq_true zq25
                               have q667 : x17_4 < (x6_1.length : Int) := of_decide_eq_true zq25
                               obtain ⟨ad667, e667, hx667_0⟩ := Kd.at_int (Kd.R_reads' HO_6.out).2.2 x17_4 p667 q667
                               cases e667
                               replace p667 := eq_true p667
                               replace q667 := eq_true q667
                               have p668 : 0 ≤ (x14_3 : Int) := of_decide_eq_true zq25
                               have q668 : x14_3 < (x6_1.length : Int) := of_decide_eq_true zq25
                               obtain ⟨ad668, e668, hx668_0⟩ := Kd.at_int (Kd.R_reads' HO_6.out).2.2 x14_3 p668 q668
                               obtain rfl : ad667 = ad668 := (by injection e668)
                               replace p668 := eq_true p668
                               replace q668 := eq_true q668
                               refine start_ (n := 9) (S := fun w' => w'.cell? (ad667.add (x17_4).toNat) = some (.int .i64 (rd x6_1 x17_4)) ∧ w'.cell? (ad667.add (x14_3).toNat) = some (.int .i64 (rd x6_1 x14_3))) (ds := []) #[false, false, false, false, false, false, false, false, false] zq1 rfl rfl ⟨hx667_0, hx668_0⟩ (fun hHeld => ?_); refine with_tabW isobathlaw05_ClockOrder.tab28 isobathlaw05_ClockOrder.bits28 (fun HT_ HW_ => ?_)
                               generalize wc.drew = w105 at HO_5 HO_6 HO_10 BK655 HB hx667_0 hx668_0 hHeld ⊢
                               refine zpz (i := 0) (N := some 170) (any_of HT_.out zq1) ?_
                               refine zpz (i := 1) (N := some 171) (any_of HT_.out zq1) ?_
                               refine zpz (i := 2) (N := some 172) (any_of HT_.out zq1) ?_
                               refine zpz (i := 4) (N := some 174) (any_of HT_.out zq1) ?_
                               refine zpz (i := 5) (N := some 175) (any_of HT_.out zq1) ?_
                               refine zpz (i := 6) (N := some 176) (any_of HT_.out zq1) ?_
                               refine ztz (i := 3) (N := some 173) (take_ofW HT_.out HW_.out zq1) hHeld ?_
                               refine ztz (i := 7) (N := some 177) (take_ofW HT_.out HW_.out zq1) hHeld ?_
                               refine zpz (i := 8) (N := some 178) (any_of HT_.out zq1) ?_
                               refine done_ (done_of HT_.out zq1) ?_
                               try go_wp2
                               replace HO_5 := Aside0.mk (Kd.R_drew HO_5.out)
                               replace HO_6 := Aside0.mk (Kd.R_drew HO_6.out)
                               replace HO_10 := Aside0.mk (Kd.R_drew HO_10.out)
                               replace BK655 := Aside0.mk (blk_drew BK655.out)
                               replace HB := Aside0.mk (below_drew1 HB.out)
                               have p669 : 0 ≤ (x17_4 : Int) := of_decide_eq_true zq25
                               have q669 : x17_4 < (x6_1.length : Int) := of_decide_eq_true zq25
                               obtain ⟨ad669, e669, hx669_0⟩ := Kd.at_int (Kd.R_reads' HO_6.out).2.2 x17_4 p669 q669
                               obtain rfl : ad667 = ad669 := (by injection e669)
                               replace p669 := eq_true p669
                               replace q669 := eq_true q669
                               have p670 : 0 ≤ (x14_3 : Int) := of_decide_eq_true zq25
                               have q670 : x14_3 < (x6_1.length : Int) := of_decide_eq_true zq25
                               obtain ⟨ad670, e670, hx670_0⟩ := Kd.at_int (Kd.R_reads' HO_6.out).2.2 x14_3 p670 q670
                               obtain rfl : ad667 = ad670 := (by injection e670)
                               replace p670 := eq_true p670
                               replace q670 := eq_true q670
                               refine start_ (n := 9) (S := fun w' => w'.cell? (ad667.add (x17_4).toNat) = some (.int .i64 (rd x6_1 x17_4)) ∧ w'.cell? (ad667.add (x14_3).toNat) = some (.int .i64 (rd x6_1 x14_3))) (ds := []) #[false, false, false, false, false, false, false, false, false] zq1 rfl rfl ⟨hx669_0, hx670_0⟩ (fun hHeld => ?_); refine with_tabW isobathlaw05_ClockOrder.tab30 isobathlaw05_ClockOrder.bits30 (fun HT_ HW_ => ?_)
                               generalize w105.drew = w107 at HO_5 HO_6 HO_10 BK655 HB hx669_0 hx670_0 hHeld ⊢
                               refine zpz (i := 0) (N := some 181) (any_of HT_.out zq1) ?_
                               refine zpz (i := 1) (N := some 182) (any_of HT_.out zq1) ?_
                               refine zpz (i := 2) (N := some 183) (any_of HT_.out zq1) ?_
                               refine zpz (i := 4) (N := some 185) (any_of HT_.out zq1) ?_
                               refine zpz (i := 5) (N := some 186) (any_of HT_.out zq1) ?_
                               refine zpz (i := 6) (N := some 187) (any_of HT_.out zq1) ?_
                               refine ztz (i := 3) (N := some 184) (take_ofW HT_.out HW_.out zq1) hHeld ?_
                               refine ztz (i := 7) (N := some 188) (take_ofW HT_.out HW_.out zq1) hHeld ?_
                               refine zpz (i := 8) (N := some 189) (any_of HT_.out zq1) ?_
                               refine done_ (done_of HT_.out zq1) ?_
                               try go_wp2
                               go_roundg kj56
                               case measure => have := HK1.out; have := HJ34.out; have := HK3.out; have := HK4.out; have := HJ56.out; omega
                               case rel => exact ⟨(x15_4), (wrap64 (x16_4 + 1)), (wrap64 (x17_4 + 1)), zq23, zq23, zq23, H', ⟨zq60⟩, ⟨zq39⟩, ⟨zq53⟩, ⟨zq58⟩, ⟨zbfr⟩, ⟨zbzr⟩⟩
                              ·rw [if_neg c104] at H
                               have c104b0 : ((rd x6_1 x17_4) == (rd x6_1 x14_3)) = false := beq_eq_false_iff_ne.mpr c104
                               have c104b1 : ((rd x6_1 x17_4) != (rd x6_1 x14_3)) = true := bne_iff_ne.mpr c104
                               have H' := Aside0.mk H
                               clear H
                               try go_wp2
                               replace HO_5 := Aside0.mk (Kd.R_drew HO_5.out)
                               replace HO_6 := Aside0.mk (Kd.R_drew HO_6.out)
                               replace HO_10 := Aside0.mk (Kd.R_drew HO_10.out)
                               replace BK655 := Aside0.mk (blk_drew BK655.out)
                               replace HB := Aside0.mk (below_drew1 HB.out)
                               obtain ⟨Ao109, co109, eo109⟩ := Kd.R_slice HO_6.out
                               (first | subst eo109 | (injection eo109 with f1_ f2_ f3_; have f4_ := f1_.symm; have f5_ := f3_.symm; clear f1_ f2_ f3_; subst f4_; subst f5_))
                               have p667 : 0 ≤ (x17_4 : Int) := of_decide_eq_true zq25
                               have q667 : x17_4 < (x6_1.length : Int) := of_decide_eq_true zq25
                               obtain ⟨ad667, e667, hx667_0⟩ := Kd.at_int (Kd.R_reads' HO_6.out).2.2 x17_4 p667 q667
                               cases e667
                               replace p667 := eq_true p667
                               replace q667 := eq_true q667
                               have p668 : 0 ≤ (x14_3 : Int) := of_decide_eq_true zq25
                               have q668 : x14_3 < (x6_1.length : Int) := of_decide_eq_true zq25
                               obtain ⟨ad668, e668, hx668_0⟩ := Kd.at_int (Kd.R_reads' HO_6.out).2.2 x14_3 p668 q668
                               obtain rfl : ad667 = ad668 := (by injection e668)
                               replace p668 := eq_true p668
                               replace q668 := eq_true q668
                               refine start_ (n := 9) (S := fun w' => w'.cell? (ad667.add (x17_4).toNat) = some (.int .i64 (rd x6_1 x17_4)) ∧ w'.cell? (ad667.add (x14_3).toNat) = some (.int .i64 (rd x6_1 x14_3))) (ds := []) #[false, false, false, false, false, false, false, false, false] zq1 rfl rfl ⟨hx667_0, hx668_0⟩ (fun hHeld => ?_); refine with_tabW isobathlaw05_ClockOrder.tab28 isobathlaw05_ClockOrder.bits28 (fun HT_ HW_ => ?_)
                               generalize wc.drew = w108 at HO_5 HO_6 HO_10 BK655 HB hx667_0 hx668_0 hHeld ⊢
                               refine zpz (i := 0) (N := some 170) (any_of HT_.out zq1) ?_
                               refine zpz (i := 1) (N := some 171) (any_of HT_.out zq1) ?_
                               refine zpz (i := 2) (N := some 172) (any_of HT_.out zq1) ?_
                               refine zpz (i := 4) (N := some 174) (any_of HT_.out zq1) ?_
                               refine zpz (i := 5) (N := some 175) (any_of HT_.out zq1) ?_
                               refine zpz (i := 6) (N := some 176) (any_of HT_.out zq1) ?_
                               refine ztz (i := 3) (N := some 173) (take_ofW HT_.out HW_.out zq1) hHeld ?_
                               refine ztz (i := 7) (N := some 177) (take_ofW HT_.out HW_.out zq1) hHeld ?_
                               refine zpz (i := 8) (N := some 178) (any_of HT_.out zq1) ?_
                               refine done_ (done_of HT_.out zq1) ?_
                               try go_wp2
                               replace HO_5 := Aside0.mk (Kd.R_drew HO_5.out)
                               replace HO_6 := Aside0.mk (Kd.R_drew HO_6.out)
                               replace HO_10 := Aside0.mk (Kd.R_drew HO_10.out)
                               replace BK655 := Aside0.mk (blk_drew BK655.out)
                               replace HB := Aside0.mk (below_drew1 HB.out)
                               have p669 : 0 ≤ (x17_4 : Int) := of_decide_eq_true zq25
                               have q669 : x17_4 < (x6_1.length : Int) := of_decide_eq_true zq25
                               obtain ⟨ad669, e669, hx669_0⟩ := Kd.at_int (Kd.R_reads' HO_6.out).2.2 x17_4 p669 q669
                               obtain rfl : ad667 = ad669 := (by injection e669)
                               replace p669 := eq_true p669
                               replace q669 := eq_true q669
                               have p670 : 0 ≤ (x14_3 : Int) := of_decide_eq_true zq25
                               have q670 : x14_3 < (x6_1.length : Int) := of_decide_eq_true zq25
                               obtain ⟨ad670, e670, hx670_0⟩ := Kd.at_int (Kd.R_reads' HO_6.out).2.2 x14_3 p670 q670
                               obtain rfl : ad667 = ad670 := (by injection e670)
                               replace p670 := eq_true p670
                               replace q670 := eq_true q670
                               refine start_ (n := 9) (S := fun w' => w'.cell? (ad667.add (x17_4).toNat) = some (.int .i64 (rd x6_1 x17_4)) ∧ w'.cell? (ad667.add (x14_3).toNat) = some (.int .i64 (rd x6_1 x14_3))) (ds := []) #[false, false, false, false, false, false, false, false, false] zq1 rfl rfl ⟨hx669_0, hx670_0⟩ (fun hHeld => ?_); refine with_tabW isobathlaw05_ClockOrder.tab30 isobathlaw05_ClockOrder.bits30 (fun HT_ HW_ => ?_)
                               generalize w108.drew = w110 at HO_5 HO_6 HO_10 BK655 HB hx669_0 hx670_0 hHeld ⊢
                               refine zpz (i := 0) (N := some 181) (any_of HT_.out zq1) ?_
                               refine zpz (i := 1) (N := some 182) (any_of HT_.out zq1) ?_
                               refine zpz (i := 2) (N := some 183) (any_of HT_.out zq1) ?_
                               refine zpz (i := 4) (N := some 185) (any_of HT_.out zq1) ?_
                               refine zpz (i := 5) (N := some 186) (any_of HT_.out zq1) ?_
                               refine zpz (i := 6) (N := some 187) (any_of HT_.out zq1) ?_
                               refine ztz (i := 3) (N := some 184) (take_ofW HT_.out HW_.out zq1) hHeld ?_
                               refine ztz (i := 7) (N := some 188) (take_ofW HT_.out HW_.out zq1) hHeld ?_
                               refine zpz (i := 8) (N := some 189) (any_of HT_.out zq1) ?_
                               refine done_ (done_of HT_.out zq1) ?_
                               try go_wp2
                               go_roundg kj56
                               case measure => have := HK1.out; have := HJ34.out; have := HK3.out; have := HK4.out; have := HJ56.out; omega
                               case rel => exact ⟨(x15_4), (x16_4), (wrap64 (x17_4 + 1)), zq23, zq23, zq23, H', ⟨zq60⟩, ⟨zq39⟩, ⟨zq53⟩, ⟨zq58⟩, ⟨zbfr⟩, ⟨zbzr⟩⟩
                            ·rw [if_neg c100] at H
                             exact absurd H (by simp)
                           ·rw [if_neg c99] at H
                            exact absurd H (by simp)
                          ·rw [if_neg c98] at H
                           exact absurd H (by simp)
                         ·rw [if_neg c97] at H
                          exact absurd H (by simp)
                    ·rw [if_neg c55] at H
                     exact absurd H (by simp)
                   ·rw [if_neg c54] at H
                    exact absurd H (by simp)
                  ·rw [if_neg c53] at H
                   exact absurd H (by simp)
                 ·rw [if_neg c52] at H
                  have c52b0 : decide (x17_4 < (x5_1.length : Int)) = false := decide_eq_false c52
                  clear c52
                  have HC111 := Aside0.mk H
                  clear H
                  go_upto_region 32 with (fail)
                  go_cut [211] (fun v211 wc => ∃ (kq : Nat) (x211_110 : Bool), v211 = .bool x211_110 ∧ Aside0 (isobathlaw05_ClockOrder.j5 kq x5_1 x6_1 t648 t654 x14_3 x211_110 t652 t653 = some r) ∧ Aside0 (kq ≤ k4) ∧ Aside0 (Kd.R k35 35 wc w.heap.size (fun k_ => k_ ≠ gb655) (.slice Ao36 x5_1.length co36) x5_1) ∧ Aside0 (Kd.R (Kd.int .i64) 2 wc w.heap.size (fun _ => True) u6 x6_1) ∧ Aside0 (Kd.R k81 81 wc w.heap.size (fun _ => True) v650 t648) ∧ Aside0 (wc.heap[gb655]? = some (.cells #[.int .i64 t652, .int .i64 t653] 35 (0, 0))) ∧ Aside0 (Below w.heap.size w wc))
                  case first =>
                   as_aux_lemma =>
                    have H := HC111.out
                    clear HC111
                    by_cases c112 : x16_4 = 1
                    ·rw [if_pos c112] at H
                     have c112b0 : (x16_4 == 1) = true := beq_iff_eq.mpr c112
                     have c112b1 : (x16_4 != 1) = false := bne_eq_false_iff_eq.mpr c112
                     clear c112
                     (first | rw [c112b0] | (simp only [i64_w, i32_w]; rw [c112b0]) | skip)
                     by_cases c113 : 0 ≤ x14_3
                     ·rw [if_pos c113] at H
                      have c113b0 : decide (0 ≤ x14_3) = true := decide_eq_true c113
                      clear c113
                      by_cases c114 : x14_3 < (t648.length : Int)
                      ·rw [if_pos c114] at H
                       have c114b0 : decide (x14_3 < (t648.length : Int)) = true := decide_eq_true c114
                       clear c114
                       by_cases c115 : x15_4 < ((rd_T81 t648 x14_3).f0)
                       ·rw [if_pos c115] at H
                        have c115b0 : decide (x15_4 < ((rd_T81 t648 x14_3).f0)) = true := decide_eq_true c115
                        clear c115
                        have H' := Aside0.mk H
                        clear H
                        obtain ⟨Ao116, co116, eo116⟩ := Kd.R_slice HO_10.out
                        subst eo116
                        have p671 : 0 ≤ (x14_3 : Int) := of_decide_eq_true zq25
                        have q671 : x14_3 < (t648.length : Int) := of_decide_eq_true zq25
                        obtain ⟨ad671, e671, hx671_0, hx671_1⟩ := at_T81 (Kd.R_reads' HO_10.out).2.2 x14_3 p671 q671
                        cases e671
                        replace p671 := eq_true p671
                        replace q671 := eq_true q671
                        go_wp2
                        go_meet
                        case rel => exact ⟨_, (true), zq23, H', ⟨zq59⟩, ⟨zq39⟩, ⟨zq53⟩, ⟨zq58⟩, ⟨zbfr⟩, ⟨zbzr⟩⟩
                       ·rw [if_neg c115] at H
                        have c115b0 : decide (x15_4 < ((rd_T81 t648 x14_3).f0)) = false := decide_eq_false c115
                        clear c115
                        have H' := Aside0.mk H
                        clear H
                        obtain ⟨Ao117, co117, eo117⟩ := Kd.R_slice HO_10.out
                        subst eo117
                        have p671 : 0 ≤ (x14_3 : Int) := of_decide_eq_true zq25
                        have q671 : x14_3 < (t648.length : Int) := of_decide_eq_true zq25
                        obtain ⟨ad671, e671, hx671_0, hx671_1⟩ := at_T81 (Kd.R_reads' HO_10.out).2.2 x14_3 p671 q671
                        cases e671
                        replace p671 := eq_true p671
                        replace q671 := eq_true q671
                        have p672 : 0 ≤ (x14_3 : Int) := of_decide_eq_true zq25
                        have q672 : x14_3 < (t648.length : Int) := of_decide_eq_true zq25
                        obtain ⟨ad672, e672, hx672_0, hx672_1⟩ := at_T81 (Kd.R_reads' HO_10.out).2.2 x14_3 p672 q672
                        obtain rfl : ad671 = ad672 := (by injection e672)
                        replace p672 := eq_true p672
                        replace q672 := eq_true q672
                        go_wp2
                        go_meet
                        case rel => exact ⟨_, (decide (x15_4 > ((rd_T81 t648 x14_3).f1))), zq23, H', ⟨zq59⟩, ⟨zq39⟩, ⟨zq53⟩, ⟨zq58⟩, ⟨zbfr⟩, ⟨zbzr⟩⟩
                      ·rw [if_neg c114] at H
                       exact absurd H (by simp)
                     ·rw [if_neg c113] at H
                      exact absurd H (by simp)
                    ·rw [if_neg c112] at H
                     have c112b0 : (x16_4 == 1) = false := beq_eq_false_iff_ne.mpr c112
                     have c112b1 : (x16_4 != 1) = true := bne_iff_ne.mpr c112
                     (first | rw [c112b0] | (simp only [i64_w, i32_w]; rw [c112b0]) | skip)
                     have H' := Aside0.mk H
                     clear H
                     go_wp2
                     go_meet
                     case rel => exact ⟨_, (false), zq23, H', ⟨zq59⟩, ⟨zq39⟩, ⟨zq53⟩, ⟨zq58⟩, ⟨zbfr⟩, ⟨zbzr⟩⟩
                  case rest =>
                   as_aux_lemma =>
                    clear HC111
                    try clear c1
                    try clear p2
                    try clear c5
                    try clear p6
                    try clear q6
                    try clear hx6
                    try clear c9
                    try clear c10
                    try clear c11
                    try clear c52
                    try clear c52b0
                    try clear c53
                    try clear c54
                    try clear c55
                    try clear p64
                    try clear p66
                    try clear q66
                    try clear hx66
                    try clear p67
                    try clear q67
                    try clear hx67
                    try clear c97
                    try clear c98
                    try clear c99
                    try clear c100
                    try clear c101
                    try clear c101b0
                    try clear c104
                    try clear c104b0
                    try clear c104b1
                    try clear c112
                    try clear c112b0
                    try clear c112b1
                    try clear c113
                    try clear c113b0
                    try clear c114
                    try clear c114b0
                    try clear c115
                    try clear c115b0
                    try clear hx667_0
                    try clear hx668_0
                    try clear hx669_0
                    try clear hx670_0
                    try clear hx671_0 hx671_1
                    try clear hx672_0 hx672_1
                    try clear p667
                    try clear p668
                    try clear p669
                    try clear p670
                    try clear p671
                    try clear p672
                    try clear q667
                    try clear q668
                    try clear q669
                    try clear q670
                    try clear q671
                    try clear q672
                    obtain ⟨kq, x211_110, rfl, HA, HJ110, HO_5, HO_6, HO_10, BK655, HB⟩ := hcut
                    cases kq with
                    | zero => exact absurd HA.out (by simp [isobathlaw05_ClockOrder.j5])
                    | succ kj110 =>
                     have H := HA.out
                     clear HA
                     simp only [isobathlaw05_ClockOrder.j5] at H
                     by_cases c118 : x211_110 = true
                     ·subst c118
                      have H1 : (some false) = some r := by rw [if_pos rfl] at H; exact H
                      clear H
                      have H := H1
                      clear H1
                      have hh_ := Option.some.inj H
                      rw [hr_.out] at hh_
                      cases hh_
                     ·replace c118 := Bool.eq_false_iff.mpr c118
                      subst c118
                      have H1 : (if t654 = 0 then (if 0 ≤ x14_3 then (if x14_3 < (x5_1.length : Int) then ((isobathlaw05_inside.f t652 t653 ((rd_T35 x5_1 x14_3).f0) ((rd_T35 x5_1 x14_3).f1)).bind fun t674 => (if t674 = true then (isobathlaw05_ClockOrder.l1 kj110 x5_1 x6_1 t648 t654 (wrap64 (x14_3 + 1)) t652 t653) else (some false))) else (none)) else (none)) else (isobathlaw05_ClockOrder.l1 kj110 x5_1 x6_1 t648 t654 (wrap64 (x14_3 + 1)) t652 t653)) = some r := by rw [if_neg (show ¬ (false = true) by decide)] at H; exact H
                      clear H
                      have H := H1
                      clear H1
                      by_cases c119 : t654 = 0
                      ·rw [if_pos c119] at H
                       have c119b0 : (t654 == 0) = true := beq_iff_eq.mpr c119
                       have c119b1 : (t654 != 0) = false := bne_eq_false_iff_eq.mpr c119
                       clear c119
                       by_cases c120 : 0 ≤ x14_3
                       ·rw [if_pos c120] at H
                        have c120b0 : decide (0 ≤ x14_3) = true := decide_eq_true c120
                        clear c120
                        by_cases c121 : x14_3 < (x5_1.length : Int)
                        ·rw [if_pos c121] at H
                         have c121b0 : decide (x14_3 < (x5_1.length : Int)) = true := decide_eq_true c121
                         clear c121
                         replace H := Option.bind_eq_some_iff.mp H
                         obtain ⟨t674, A1220, H⟩ := H
                         replace H : (if t674 = true then (isobathlaw05_ClockOrder.l1 kj110 x5_1 x6_1 t648 t654 (wrap64 (x14_3 + 1)) t652 t653) else (some false)) = some r := H
                         have A122 := Aside0.mk A1220
                         clear A1220
                         by_cases c123 : t674 = true
                         ·subst c123
                          have H1 : (isobathlaw05_ClockOrder.l1 kj110 x5_1 x6_1 t648 t654 (wrap64 (x14_3 + 1)) t652 t653) = some r := by rw [if_pos rfl] at H; exact H
                          clear H
                          have H := H1
                          clear H1
                          have H' := Aside0.mk H
                          clear H
                          try go_wp2
                          replace HO_5 := Aside0.mk (Kd.R_drew HO_5.out)
                          replace HO_6 := Aside0.mk (Kd.R_drew HO_6.out)
                          replace HO_10 := Aside0.mk (Kd.R_drew HO_10.out)
                          replace BK655 := Aside0.mk (blk_drew BK655.out)
                          replace HB := Aside0.mk (below_drew1 HB.out)
                          have p673 : 0 ≤ (x14_3 : Int) := of_decide_eq_true zq25
                          have q673 : x14_3 < (x5_1.length : Int) := of_decide_eq_true zq25
                          obtain ⟨ad673, e673, hx673_0, hx673_1⟩ := at_T35 (Kd.R_reads' HO_5.out).2.2 x14_3 p673 q673
                          cases e673
                          replace p673 := eq_true p673
                          replace q673 := eq_true q673
                          refine start_ (n := 11) (S := fun w' => w'.cell? ⟨gb655, 0, none⟩ = some (.int .i64 t652) ∧ w'.cell? ⟨gb655, 1, none⟩ = some (.int .i64 t653) ∧ w'.cell? (ad673.add ((x14_3).toNat * 2)) = some (.int .i64 ((rd_T35 x5_1 x14_3).f0)) ∧ w'.cell? ⟨(ad673.add ((x14_3).toNat * 2)).block, (ad673.add ((x14_3).toNat * 2)).off + 1, none⟩ = some (.int .i64 ((rd_T35 x5_1 x14_3).f1))) (ds := []) #[false, false, false, false, false, false, false, false, false, false, false] zq1 rfl rfl ⟨(blk_cell BK655.out 0).trans rfl, (blk_cell BK655.out 1).trans rfl, hx673_0, hx673_1⟩ (fun hHeld => ?_); refine with_tabW isobathlaw05_ClockOrder.tab34 isobathlaw05_ClockOrder.bits34 (fun HT_ HW_ => ?_)
                          generalize wc.drew = w124 at HO_5 HO_6 HO_10 BK655 HB hx673_0 hx673_1 hHeld ⊢
                          refine zpz (i := 0) (N := some 212) (any_of HT_.out zq1) ?_
                          refine zpz (i := 1) (N := some 213) (any_of HT_.out zq1) ?_
                          refine zpz (i := 2) (N := some 214) (any_of HT_.out zq1) ?_
                          refine zpz (i := 4) (N := some 216) (any_of HT_.out zq1) ?_
                          refine zpz (i := 5) (N := some 217) (any_of HT_.out zq1) ?_
                          refine zpz (i := 6) (N := some 218) (any_of HT_.out zq1) ?_
                          refine ztz (i := 3) (N := some 215) (take_ofW HT_.out HW_.out zq1) hHeld ?_
                          refine ztz (i := 7) (N := some 219) (take_ofW HT_.out HW_.out zq1) hHeld ?_
                          refine one_ (i := 8) (N := some 220) #[true, true, true, true, true, true, true, true, true, false, false] rfl rfl (one_of HT_.out zq1) (by decide) (fun K hK => ?_)
                          refine goes_ Try.func23 zq1 rfl #[.agg #[.int .i64 t652, .int .i64 t653], .agg #[.int .i64 ((rd_T35 x5_1 x14_3).f0), .int .i64 ((rd_T35 x5_1 x14_3).f1)]] (by rfl) rfl rfl zq26 ?_
                          with_reducible refine (isobathlaw05_inside.calls t652 t653 ((rd_T35 x5_1 x14_3).f0) ((rd_T35 x5_1 x14_3).f1) true _ A122.out).mono ?_
                          rintro e w125 ⟨rfl, hb⟩
                          have HS2_ := (hb.cell (World.block_lt_of_cell? _ _ (hHeld.2.2.1))).trans (hHeld.2.2.1)
                          have HS3_ := (hb.cell (World.block_lt_of_cell? _ _ (hHeld.2.2.2))).trans (hHeld.2.2.2)
                          refine ⟨_, rfl, ?_⟩
                          replace HO_5 := zrbr HO_5 hb
                          replace HO_6 := zrbr HO_6 hb
                          replace HO_10 := zrbr HO_10 hb
                          replace BK655 := zbbr BK655 hb
                          replace HB := zbsr HB hb
                          (try clear hb)
                          (try clear hb2)
                          (try clear hk)
                          (try clear hi)
                          refine hK.out _ _ ⟨(blk_cell BK655.out 0).trans rfl, (blk_cell BK655.out 1).trans rfl, HS2_, HS3_⟩ (fun hHeld => ?_)
                          clear hK K
                          refine norm_ (by show Act.put _ (some 220) _ = _; simp only [Act.put, List.setIfInBounds_toArray, List.set_cons_zero, List.set_cons_succ, i64_w, i32_w]; rfl) ?_
                          refine zpz (i := 9) (N := some 221) (any_of HT_.out zq1) ?_
                          refine zpz (i := 10) (N := some 222) (any_of HT_.out zq1) ?_
                          refine done_ (done_of HT_.out zq1) ?_
                          try go_wp2
                          go_roundg kj110
                          case measure => have := HK1.out; have := HJ34.out; have := HK3.out; have := HK4.out; have := HJ110.out; omega
                          case rel => exact ⟨(wrap64 (x14_3 + 1)), zq23, H', ⟨by have := HK1.out; have := HJ34.out; have := HK3.out; have := HK4.out; have := HJ110.out; omega⟩, ⟨zq39⟩, ⟨zq53⟩, ⟨zq58⟩, ⟨zbfr⟩, ⟨zbzr⟩⟩
                         ·replace c123 := Bool.eq_false_iff.mpr c123
                          subst c123
                          have H1 : (some false) = some r := by rw [if_neg (show ¬ (false = true) by decide)] at H; exact H
                          clear H
                          have H := H1
                          clear H1
                          have hh_ := Option.some.inj H
                          rw [hr_.out] at hh_
                          cases hh_
                        ·rw [if_neg c121] at H
                         exact absurd H (by simp)
                       ·rw [if_neg c120] at H
                        exact absurd H (by simp)
                      ·rw [if_neg c119] at H
                       have c119b0 : (t654 == 0) = false := beq_eq_false_iff_ne.mpr c119
                       have c119b1 : (t654 != 0) = true := bne_iff_ne.mpr c119
                       have H' := Aside0.mk H
                       clear H
                       try go_wp2
                       replace HO_5 := Aside0.mk (Kd.R_drew HO_5.out)
                       replace HO_6 := Aside0.mk (Kd.R_drew HO_6.out)
                       replace HO_10 := Aside0.mk (Kd.R_drew HO_10.out)
                       replace BK655 := Aside0.mk (blk_drew BK655.out)
                       replace HB := Aside0.mk (below_drew1 HB.out)
                       refine start_ (n := 11) (S := fun w' => True) (ds := []) #[false, false, false, false, false, false, false, false, false, false, false] zq1 rfl rfl trivial (fun hHeld => ?_); refine with_tabW isobathlaw05_ClockOrder.tab34 isobathlaw05_ClockOrder.bits34 (fun HT_ HW_ => ?_)
                       generalize wc.drew = w128 at HO_5 HO_6 HO_10 BK655 HB hHeld ⊢
                       refine zpz (i := 0) (N := some 212) (any_of HT_.out zq1) ?_
                       refine zpz (i := 1) (N := some 213) (any_of HT_.out zq1) ?_
                       refine zpz (i := 2) (N := some 214) (any_of HT_.out zq1) ?_
                       refine pure_ (i := 3) (N := some 215) (v := undef) (a' := ?_) #[true, true, true, true, false, false, false, false, false, false, false] rfl rfl (any_of HT_.out zq1) (fun _ _ _ h => h) (Or.inr ⟨by rfl, rfl⟩) ?_ ?_
                       rotate_left
                       ·simp only [Act.put, List.setIfInBounds_toArray, List.set_cons_zero, List.set_cons_succ, i64_w, i32_w]
                        rfl
                       refine pure_ (i := 4) (N := some 216) (v := undef) (a' := ?_) #[true, true, true, true, true, false, false, false, false, false, false] rfl rfl (any_of HT_.out zq1) (fun _ _ _ h => h) (Or.inr ⟨by rfl, rfl⟩) ?_ ?_
                       rotate_left
                       ·simp only [Act.put, List.setIfInBounds_toArray, List.set_cons_zero, List.set_cons_succ, i64_w, i32_w]
                        rfl
                       refine pure_ (i := 5) (N := some 217) (v := undef) (a' := ?_) #[true, true, true, true, true, true, false, false, false, false, false] rfl rfl (any_of HT_.out zq1) (fun _ _ _ h => h) (Or.inr ⟨by rfl, rfl⟩) ?_ ?_
                       rotate_left
                       ·simp only [Act.put, List.setIfInBounds_toArray, List.set_cons_zero, List.set_cons_succ, i64_w, i32_w]
                        rfl
                       refine pure_ (i := 6) (N := some 218) (v := undef) (a' := ?_) #[true, true, true, true, true, true, true, false, false, false, false] rfl rfl (any_of HT_.out zq1) (fun _ _ _ h => h) (Or.inr ⟨by rfl, rfl⟩) ?_ ?_
                       rotate_left
                       ·simp only [Act.put, List.setIfInBounds_toArray, List.set_cons_zero, List.set_cons_succ, i64_w, i32_w]
                        rfl
                       refine pure_ (i := 7) (N := some 219) (v := undef) (a' := ?_) #[true, true, true, true, true, true, true, true, false, false, false] rfl rfl (any_of HT_.out zq1) (fun _ _ _ h => h) (Or.inr ⟨by rfl, rfl⟩) ?_ ?_
                       rotate_left
                       ·simp only [Act.put, List.setIfInBounds_toArray, List.set_cons_zero, List.set_cons_succ, i64_w, i32_w]
                        rfl
                       refine pure_ (i := 8) (N := some 220) (v := undef) (a' := ?_) #[true, true, true, true, true, true, true, true, true, false, false] rfl rfl (any_of HT_.out zq1) (fun _ _ _ h => h) (Or.inr ⟨by rfl, rfl⟩) ?_ ?_
                       rotate_left
                       ·simp only [Act.put, List.setIfInBounds_toArray, List.set_cons_zero, List.set_cons_succ, i64_w, i32_w]
                        rfl
                       refine pure_ (i := 9) (N := some 221) (v := undef) (a' := ?_) #[true, true, true, true, true, true, true, true, true, true, false] rfl rfl (any_of HT_.out zq1) (fun _ _ _ h => h) (Or.inr ⟨by rfl, rfl⟩) ?_ ?_
                       rotate_left
                       ·simp only [Act.put, List.setIfInBounds_toArray, List.set_cons_zero, List.set_cons_succ, i64_w, i32_w]
                        rfl
                       refine zpz (i := 10) (N := some 222) (any_of HT_.out zq1) ?_
                       refine done_ (done_of HT_.out zq1) ?_
                       try go_wp2
                       go_roundg kj110
                       case measure => have := HK1.out; have := HJ34.out; have := HK3.out; have := HK4.out; have := HJ110.out; omega
                       case rel => exact ⟨(wrap64 (x14_3 + 1)), zq23, H', ⟨by have := HK1.out; have := HJ34.out; have := HK3.out; have := HK4.out; have := HJ110.out; omega⟩, ⟨zq39⟩, ⟨zq53⟩, ⟨zq58⟩, ⟨zbfr⟩, ⟨zbzr⟩⟩
             ·rw [if_neg c51] at H
              have c51b0 : decide (x14_3 < (x5_1.length : Int)) = false := decide_eq_false c51
              clear c51
              replace H := Option.bind_eq_some_iff.mp H
              obtain ⟨t656, A1290, H⟩ := H
              replace H : (some t656) = some r := H
              have A129 := Aside0.mk A1290
              clear A1290
              obtain rfl := Option.some.inj H
              go_wp2_with (first | ((with_reducible refine gate_callee (f := 16) rfl ?_); refine goesL_ (some 223) rfl rfl Try.func16 zq1 rfl #[] rfl zq26 ?_; (with_reducible refine (isobathlaw05_Works.calls  t656 _ A129.out).mono ?_); rintro e w130 ⟨rfl, hb⟩; refine ⟨_, rfl, ?_⟩; replace HO_5 := zrbr HO_5 hb; replace HO_6 := zrbr HO_6 hb; replace HO_10 := zrbr HO_10 hb; replace BK655 := zbbr BK655 hb; replace HB := zbsr HB hb; (try clear hb); (try clear hb2); (try clear hk); (try clear hi)))
              go_ret
              exact ⟨zq3, zbzr⟩

end Go.Proofs.Ytcjdhajdoikojaa.Pr
end
