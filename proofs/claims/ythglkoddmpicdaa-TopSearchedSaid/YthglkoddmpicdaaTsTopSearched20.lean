/- Part 20 of the proof of TopSearched: what the functions compute. No condition. -/
import Derived.Test.YthglkoddmpicdaaTsTopSearched3
import Derived.Test.YthglkoddmpicdaaTsTopSearched5
import Derived.Test.YthglkoddmpicdaaTsTopSearched13
import Derived.Test.YthglkoddmpicdaaTsTopSearched12
import Derived.Test.YthglkoddmpicdaaTsTopSearched16
import Derived.Test.YthglkoddmpicdaaTsTopSearched17
import Derived.Test.YthglkoddmpicdaaTsTopSearched19
set_option linter.unusedVariables false
set_option linter.unusedSimpArgs false
section
namespace Go.Proofs.Ythglkoddmpicdaa.Pr
open Go.RowKit Go.Proofs.YthglkoddmpicdaaW.PrintWords Go.Proofs.YthglkoddmpicdaaW.PrintLast Go.Proofs.YthglkoddmpicdaaW.PrintMore
theorem zbbr {W0 W W1 : World} {g : Nat} {o : Obj} (h : Aside0 (W0.heap[g]? = some o)) (hb : Below W.heap.size W W1) (h2 : W.heap[g]? = some o := by (repeat first | (with_reducible first | refine blk_drewN ?_ _ | refine blk_drew ?_ | refine blk_alloc ?_ _) | refine blk_far ?_ (Aside0.out (by first | with_reducible assumption | assumption)) _); exact Aside0.out (by first | with_reducible assumption | assumption)) : Aside0 (W1.heap[g]? = some o) := ⟨blk_below h2 hb⟩
theorem zbsr {w W0 W W1 : World} (h : Aside0 (Below w.heap.size w W0)) (hb : Below W.heap.size W W1) (h2 : Below w.heap.size w W := by repeat (first | (with_reducible first | exact Aside0.out (by first | with_reducible assumption | assumption) | apply below_alloc | apply pw_below_drewN | apply below_drew1 | refine below_set ?_ (Aside0.out (by first | with_reducible assumption | assumption))) | exact Aside0.out (by first | with_reducible assumption | assumption))) : Aside0 (Below w.heap.size w W1) := ⟨below_step h2 hb⟩
theorem zgsr {w W0 W : World} {g : Nat} (h : Aside0 (Below w.heap.size w W0)) (hg : g = W.heap.size) (h2 : Below w.heap.size w W := by repeat (first | (with_reducible first | exact Aside0.out (by first | with_reducible assumption | assumption) | apply below_alloc | apply pw_below_drewN | apply below_drew1 | refine below_set ?_ (Aside0.out (by first | with_reducible assumption | assumption))) | exact Aside0.out (by first | with_reducible assumption | assumption))) : Aside0 (w.heap.size ≤ g) := ⟨by rw [hg]; exact below_size h2⟩
theorem znpr {W0 W : World} {g g1 : Nat} {o : Obj} (h : Aside0 (W0.heap[g]? = some o)) (hg : g1 = W.heap.size) (h2 : W.heap[g]? = some o := by (repeat first | (with_reducible first | refine blk_drewN ?_ _ | refine blk_drew ?_ | refine blk_alloc ?_ _) | refine blk_far ?_ (Aside0.out (by first | with_reducible assumption | assumption)) _); exact Aside0.out (by first | with_reducible assumption | assumption)) : Aside0 (g ≠ g1) := ⟨by rw [hg]; exact Nat.ne_of_lt (blk_lt h2)⟩
theorem znqr {W0 W : World} {g g1 : Nat} {o : Obj} (h : Aside0 (W0.heap[g]? = some o)) (hg : g1 = W.heap.size) (h2 : W.heap[g]? = some o := by (repeat first | (with_reducible first | refine blk_drewN ?_ _ | refine blk_drew ?_ | refine blk_alloc ?_ _) | refine blk_far ?_ (Aside0.out (by first | with_reducible assumption | assumption)) _); exact Aside0.out (by first | with_reducible assumption | assumption)) : Aside0 (g1 ≠ g) := ⟨by rw [hg]; exact Nat.ne_of_gt (blk_lt h2)⟩
theorem zbzr {p : Prop} (h : p := by repeat (first | (with_reducible first | exact Aside0.out (by first | with_reducible assumption | assumption) | apply below_alloc | apply pw_below_drewN | apply below_drew1 | refine below_set ?_ (Aside0.out (by first | with_reducible assumption | assumption))) | exact Aside0.out (by first | with_reducible assumption | assumption))) : p := h
theorem zbfr {p : Prop} (h : p := by (repeat first | (with_reducible first | refine blk_drewN ?_ _ | refine blk_drew ?_ | refine blk_alloc ?_ _) | refine blk_far ?_ (Aside0.out (by first | with_reducible assumption | assumption)) _); exact Aside0.out (by first | with_reducible assumption | assumption)) : p := h
theorem zrbr {α : Type} {d : Kd α} {e base : Nat} {ok : Nat → Prop} {v : Value} {xs : List α} {W0 W W1 : World} (h : Aside0 (d.R e W0 base ok v xs)) (hb : Below W.heap.size W W1) (h2 : d.R e W base ok v xs := by (with_reducible repeat (first | apply Kd.R_alloc | apply Kd.R_drewN | apply Kd.R_drew)); exact Aside0.out (by first | with_reducible assumption | assumption)) : Aside0 (d.R e W1 base ok v xs) := ⟨Kd.R_below h2 hb⟩
attribute [local go_sem] max2_int min2_int max_two min_two max_four
set_option linter.unusedVariables false
set_option linter.unusedSimpArgs false

/-! ### isobathtop_TopSearched: function 9 -/
mutual
def isobathtop_TopSearched.j0 : Nat → Int → List (S76) → Bool → Int → Int → Int → Int → Int → Int → Int → List Bool → List (S33) → Int → Int → Int → Int → Int → Int → Int → Int → Int → Int → Int → Int → Int → Int → Int → Int → Int → Option (Bool)
 | 0, _, _, _, _, _, _, _, _, _, _, _, _, _, _, _, _, _, _, _, _, _, _, _, _, _, _, _, _, _ => none
 | k + 1, x3, x4, x42, x283000, x283001, x283002, x283003, x283004, x283005, x283006, x283007, x283008, x284000, x284001, x284002, x284003, x284004, x284005, x284006, x285000, x285001, x285002, x285003, x286000, x286001, x286002, x286003, x286004, x286005 => if x42 = true then ((isobathtop_works03.f k).bind fun t287 => (some t287)) else ((glider_Run.f x283000 x283001 x283002 x283003 x283004 x283005 x283006 x283007 x283008 x284000 x284001 x284002 x284003 x284004 x284005 x284006 x285000 x285001 x285002 x285003 x3 x4).bind fun bt288 => (if bt288.2.2 = 0 then ((glider_Reach.f x283000 x283001 x283002 x283003 x283004 x283005 x283006 x283007 x283008 x284000 x284001 x284002 x284003 x284004 x284005 x284006 x285000 x285001 x285002 x285003 x3 (x4.length : Int)).bind fun bt294 => (if bt294.2 = 0 then (if bt288.2.1 = (x4.length : Int) then (if (bt288.1.length : Int) = bt288.2.1 then (isobathtop_TopSearched.j1 k x3 bt288.1 bt288.2.1 bt294.2 bt294.1 ((bt294.1.length : Int) != bt288.2.1) x283000 x283001 x283002 x283003 x283004 x283005 x283006 x283007 x283008 x284000 x284001 x284002 x284003 x284004 x284005 x284006 x285000 x285001 x285002 x285003 x286000 x286001 x286002 x286003 x286004 x286005) else (isobathtop_TopSearched.j1 k x3 bt288.1 bt288.2.1 bt294.2 bt294.1 true x283000 x283001 x283002 x283003 x283004 x283005 x283006 x283007 x283008 x284000 x284001 x284002 x284003 x284004 x284005 x284006 x285000 x285001 x285002 x285003 x286000 x286001 x286002 x286003 x286004 x286005)) else (isobathtop_TopSearched.j1 k x3 bt288.1 bt288.2.1 bt294.2 bt294.1 true x283000 x283001 x283002 x283003 x283004 x283005 x283006 x283007 x283008 x284000 x284001 x284002 x284003 x284004 x284005 x284006 x285000 x285001 x285002 x285003 x286000 x286001 x286002 x286003 x286004 x286005)) else (isobathtop_TopSearched.j1 k x3 bt288.1 bt288.2.1 bt294.2 bt294.1 true x283000 x283001 x283002 x283003 x283004 x283005 x283006 x283007 x283008 x284000 x284001 x284002 x284003 x284004 x284005 x284006 x285000 x285001 x285002 x285003 x286000 x286001 x286002 x286003 x286004 x286005))) else (if (bt288.1.length : Int) = 0 then ((isobathtop_works03.f k).bind fun t293 => (some t293)) else (some false))))
def isobathtop_TopSearched.j1 : Nat → Int → List (S29) → Int → Int → List (S29) → Bool → Int → Int → Int → Int → Int → Int → Int → List Bool → List (S33) → Int → Int → Int → Int → Int → Int → Int → Int → Int → Int → Int → Int → Int → Int → Int → Int → Int → Option (Bool)
 | 0, _, _, _, _, _, _, _, _, _, _, _, _, _, _, _, _, _, _, _, _, _, _, _, _, _, _, _, _, _, _, _, _ => none
 | k + 1, x3, x13, x14, x15, x16, x91, x283000, x283001, x283002, x283003, x283004, x283005, x283006, x283007, x283008, x284000, x284001, x284002, x284003, x284004, x284005, x284006, x285000, x285001, x285002, x285003, x286000, x286001, x286002, x286003, x286004, x286005 => if x91 = true then (if x15 = 5 then ((isobathtop_works03.f k).bind fun t298 => (some t298)) else (some false)) else ((visited_one.f k x283000 x283001 x283002 x283003 x283004 x283005 x283006 x283007 x283008 x13).bind fun bt299 => (if bt299.2 = 0 then (isobathtop_TopSearched.j2 k x3 x13 x14 x16 bt299.1 ((bt299.1.length : Int) != (wrap64 (x283000 * x283001))) x283000 x283001 x283002 x283003 x283004 x283005 x283006 x283007 x283008 x284000 x284001 x284002 x284003 x284004 x284005 x284006 x285000 x285001 x285002 x285003 x286000 x286001 x286002 x286003 x286004 x286005) else (isobathtop_TopSearched.j2 k x3 x13 x14 x16 bt299.1 true x283000 x283001 x283002 x283003 x283004 x283005 x283006 x283007 x283008 x284000 x284001 x284002 x284003 x284004 x284005 x284006 x285000 x285001 x285002 x285003 x286000 x286001 x286002 x286003 x286004 x286005)))
def isobathtop_TopSearched.j2 : Nat → Int → List (S29) → Int → List (S29) → List Int → Bool → Int → Int → Int → Int → Int → Int → Int → List Bool → List (S33) → Int → Int → Int → Int → Int → Int → Int → Int → Int → Int → Int → Int → Int → Int → Int → Int → Int → Option (Bool)
 | 0, _, _, _, _, _, _, _, _, _, _, _, _, _, _, _, _, _, _, _, _, _, _, _, _, _, _, _, _, _, _, _, _ => none
 | k + 1, x3, x13, x14, x16, x17, x115, x283000, x283001, x283002, x283003, x283004, x283005, x283006, x283007, x283008, x284000, x284001, x284002, x284003, x284004, x284005, x284006, x285000, x285001, x285002, x285003, x286000, x286001, x286002, x286003, x286004, x286005 => if x115 = true then (some false) else (isobathtop_TopSearched.l0 k x3 x13 x14 x16 x17 0 x283000 x283001 x283002 x283003 x283004 x283005 x283006 x283007 x283008 x284000 x284001 x284002 x284003 x284004 x284005 x284006 x285000 x285001 x285002 x285003 x286000 x286001 x286002 x286003 x286004 x286005)
def isobathtop_TopSearched.l0 : Nat → Int → List (S29) → Int → List (S29) → List Int → Int → Int → Int → Int → Int → Int → Int → Int → List Bool → List (S33) → Int → Int → Int → Int → Int → Int → Int → Int → Int → Int → Int → Int → Int → Int → Int → Int → Int → Option (Bool)
 | 0, _, _, _, _, _, _, _, _, _, _, _, _, _, _, _, _, _, _, _, _, _, _, _, _, _, _, _, _, _, _, _, _ => none
 | k + 1, x3, x13, x14, x16, x17, x18, x283000, x283001, x283002, x283003, x283004, x283005, x283006, x283007, x283008, x284000, x284001, x284002, x284003, x284004, x284005, x284006, x285000, x285001, x285002, x285003, x286000, x286001, x286002, x286003, x286004, x286005 => if x18 < (x17.length : Int) then (if x283000 = 0 then (none) else (isobathtop_TopSearched.l1 k x3 x13 x14 x16 x17 x18 (wrap64 ((Int.tmod x18 x283000) * x283002)) (wrap64 ((wrap64 (Int.tdiv x18 x283000)) * x283002)) false 0 x283000 x283001 x283002 x283003 x283004 x283005 x283006 x283007 x283008 x284000 x284001 x284002 x284003 x284004 x284005 x284006 x285000 x285001 x285002 x285003 x286000 x286001 x286002 x286003 x286004 x286005)) else ((glider_Never.f x283000 x283001 x283002 x283003 x283004 x283005 x283006 x283007 x283008 x284000 x284001 x284002 x284003 x284004 x284005 x284006 x285000 x285001 x285002 x285003 x3 x286000 x286001 x286002 x286003 x286004 x286005 x14).bind fun bt310 => (if bt310.2 = 0 then ((glider_Fetched.f k x284000 x284001 x284002 x284003 x284004 x284005 x284006 x3 x13 x286000 x286001 x286002 x286003 x286004 x286005).bind fun bt314 => (if bt314.2 = 0 then (if bt314.1 = 0 then ((isobathtop_works03.f k).bind fun t316 => (some t316)) else (some false)) else (some false))) else ((isobathtop_works03.f k).bind fun t317 => (some t317))))
def isobathtop_TopSearched.l1 : Nat → Int → List (S29) → Int → List (S29) → List Int → Int → Int → Int → Bool → Int → Int → Int → Int → Int → Int → Int → Int → List Bool → List (S33) → Int → Int → Int → Int → Int → Int → Int → Int → Int → Int → Int → Int → Int → Int → Int → Int → Int → Option (Bool)
 | 0, _, _, _, _, _, _, _, _, _, _, _, _, _, _, _, _, _, _, _, _, _, _, _, _, _, _, _, _, _, _, _, _, _, _, _, _ => none
 | k + 1, x3, x13, x14, x16, x17, x18, x19, x20, x21, x22, x283000, x283001, x283002, x283003, x283004, x283005, x283006, x283007, x283008, x284000, x284001, x284002, x284003, x284004, x284005, x284006, x285000, x285001, x285002, x285003, x286000, x286001, x286002, x286003, x286004, x286005 => if x22 < x14 then (if 0 ≤ x22 then (if x22 < (x16.length : Int) then ((bound_In.f k ((rd_T29 x16 x22).f0.f0) ((rd_T29 x16 x22).f0.f1) x19 (wrap64 (x19 + x283002))).bind fun bt305 => ((bound_In.f k ((rd_T29 x16 x22).f1.f0) ((rd_T29 x16 x22).f1.f1) x20 (wrap64 (x20 + x283002))).bind fun bt308 => (if bt305.2 = 0 then (if bt308.2 = 0 then (if x21 = true then (isobathtop_TopSearched.l1 k x3 x13 x14 x16 x17 x18 x19 x20 true (wrap64 (x22 + 1)) x283000 x283001 x283002 x283003 x283004 x283005 x283006 x283007 x283008 x284000 x284001 x284002 x284003 x284004 x284005 x284006 x285000 x285001 x285002 x285003 x286000 x286001 x286002 x286003 x286004 x286005) else (if bt305.1 = 0 then (isobathtop_TopSearched.l1 k x3 x13 x14 x16 x17 x18 x19 x20 false (wrap64 (x22 + 1)) x283000 x283001 x283002 x283003 x283004 x283005 x283006 x283007 x283008 x284000 x284001 x284002 x284003 x284004 x284005 x284006 x285000 x285001 x285002 x285003 x286000 x286001 x286002 x286003 x286004 x286005) else (isobathtop_TopSearched.l1 k x3 x13 x14 x16 x17 x18 x19 x20 (bt308.1 != 0) (wrap64 (x22 + 1)) x283000 x283001 x283002 x283003 x283004 x283005 x283006 x283007 x283008 x284000 x284001 x284002 x284003 x284004 x284005 x284006 x285000 x285001 x285002 x285003 x286000 x286001 x286002 x286003 x286004 x286005))) else (some false)) else (some false)))) else (none)) else (none)) else (if 0 ≤ x18 then (if x18 < (x17.length : Int) then (if (rd x17 x18) = 0 then (isobathtop_TopSearched.l0 k x3 x13 x14 x16 x17 (wrap64 (x18 + 1)) x283000 x283001 x283002 x283003 x283004 x283005 x283006 x283007 x283008 x284000 x284001 x284002 x284003 x284004 x284005 x284006 x285000 x285001 x285002 x285003 x286000 x286001 x286002 x286003 x286004 x286005) else (if x21 = true then (isobathtop_TopSearched.l0 k x3 x13 x14 x16 x17 (wrap64 (x18 + 1)) x283000 x283001 x283002 x283003 x283004 x283005 x283006 x283007 x283008 x284000 x284001 x284002 x284003 x284004 x284005 x284006 x285000 x285001 x285002 x285003 x286000 x286001 x286002 x286003 x286004 x286005) else (some false))) else (none)) else (none))
end
def isobathtop_TopSearched.f (k : Nat) (a0_0 : Int) (a0_1 : Int) (a0_2 : Int) (a0_3 : Int) (a0_4 : Int) (a0_5 : Int) (a0_6 : Int) (l0_7 : List Bool) (l0_8 : List (S33)) (a1_0 : Int) (a1_1 : Int) (a1_2 : Int) (a1_3 : Int) (a1_4 : Int) (a1_5 : Int) (a1_6 : Int) (a2_0 : Int) (a2_1 : Int) (a2_2 : Int) (a2_3 : Int) (a3 : Int) (l4 : List (S76)) (a5_0 : Int) (a5_1 : Int) (a5_2 : Int) (a5_3 : Int) (a5_4 : Int) (a5_5 : Int) : Option (Bool) := (isobathtop_large.f a0_0 a0_1 a0_2 a0_3 a0_4 a0_5 a0_6 l0_7 l0_8).bind fun t286 => (if t286 = true then (isobathtop_TopSearched.j0 k a3 l4 true a0_0 a0_1 a0_2 a0_3 a0_4 a0_5 a0_6 l0_7 l0_8 a1_0 a1_1 a1_2 a1_3 a1_4 a1_5 a1_6 a2_0 a2_1 a2_2 a2_3 a5_0 a5_1 a5_2 a5_3 a5_4 a5_5) else (if (l4.length : Int) > 5 then (isobathtop_TopSearched.j0 k a3 l4 true a0_0 a0_1 a0_2 a0_3 a0_4 a0_5 a0_6 l0_7 l0_8 a1_0 a1_1 a1_2 a1_3 a1_4 a1_5 a1_6 a2_0 a2_1 a2_2 a2_3 a5_0 a5_1 a5_2 a5_3 a5_4 a5_5) else (isobathtop_TopSearched.j0 k a3 l4 ((l4.length : Int) == 0) a0_0 a0_1 a0_2 a0_3 a0_4 a0_5 a0_6 l0_7 l0_8 a1_0 a1_1 a1_2 a1_3 a1_4 a1_5 a1_6 a2_0 a2_1 a2_2 a2_3 a5_0 a5_1 a5_2 a5_3 a5_4 a5_5)))
def isobathtop_TopSearched.T15 : Bool × List (List Nat × List Nat) := (true, [([], []), ([], []), ([1], [1]), ([0, 2], [0, 2]), ([], []), ([4], [4]), ([3, 5], [3, 5]), ([], []), ([], []), ([8], [8]), ([7, 9], [7, 9]), ([], []), ([11], [11]), ([10, 12], [10, 12]), ([6, 0, 1, 2, 3, 4, 5, 6], [6]), ([13, 14, 0, 1, 2, 3, 4, 5, 6, 7, 8, 9, 10, 11, 12, 13, 14], [13])])
def isobathtop_TopSearched.B15 : List Nat := [0, 0, 2, 7, 0, 16, 63, 0, 0, 256, 896, 0, 2048, 8064, 127, 32767]
theorem isobathtop_TopSearched.tab15 : rtab .any (opsOf Try.f9 15) = isobathtop_TopSearched.T15 := by kernel_rfl
theorem isobathtop_TopSearched.bits15 : waitsOk isobathtop_TopSearched.T15.2 isobathtop_TopSearched.B15 = true := by kernel_rfl
def isobathtop_TopSearched.T20 : Bool × List (List Nat × List Nat) := (true, [([], []), ([], []), ([0, 1], [0, 1]), ([2], [2]), ([3], [3]), ([], []), ([], []), ([], []), ([7], [7]), ([6, 8], [6, 8]), ([5, 9], [5, 9]), ([4, 10], [4, 10]), ([11], [11]), ([12], [12]), ([12], [12]), ([13, 11, 0, 1, 2, 3, 4, 5, 6, 7, 8, 9, 10, 11, 12, 13], [13]), ([14, 15, 0, 1, 2, 3, 4, 5, 6, 7, 8, 9, 10, 11, 12, 13, 14, 15], [14])])
def isobathtop_TopSearched.B20 : List Nat := [0, 0, 3, 7, 15, 0, 0, 0, 128, 448, 992, 2047, 4095, 8191, 8191, 16383, 65535]
theorem isobathtop_TopSearched.tab20 : rtab .any (opsOf Try.f9 20) = isobathtop_TopSearched.T20 := by kernel_rfl
theorem isobathtop_TopSearched.bits20 : waitsOk isobathtop_TopSearched.T20.2 isobathtop_TopSearched.B20 = true := by kernel_rfl
def isobathtop_TopSearched.T21 : Bool × List (List Nat × List Nat) := (true, [([], []), ([], []), ([0, 1], [0, 1]), ([2], [2]), ([3], [3]), ([], []), ([], []), ([], []), ([7], [7]), ([6, 8], [6, 8]), ([5, 9], [5, 9]), ([4, 10], [4, 10]), ([11], [11]), ([12], [12]), ([12], [12]), ([13, 11, 0, 1, 2, 3, 4, 5, 6, 7, 8, 9, 10, 11, 12, 13], [13]), ([14, 15, 0, 1, 2, 3, 4, 5, 6, 7, 8, 9, 10, 11, 12, 13, 14, 15], [14])])
def isobathtop_TopSearched.B21 : List Nat := [0, 0, 3, 7, 15, 0, 0, 0, 128, 448, 992, 2047, 4095, 8191, 8191, 16383, 65535]
theorem isobathtop_TopSearched.tab21 : rtab .any (opsOf Try.f9 21) = isobathtop_TopSearched.T21 := by kernel_rfl
theorem isobathtop_TopSearched.bits21 : waitsOk isobathtop_TopSearched.T21.2 isobathtop_TopSearched.B21 = true := by kernel_rfl
set_option maxHeartbeats 80000000 in
set_option maxRecDepth 100000 in
theorem isobathtop_TopSearched.calls (k : Nat) (a0_0 : Int) (a0_1 : Int) (a0_2 : Int) (a0_3 : Int) (a0_4 : Int) (a0_5 : Int) (a0_6 : Int) (A0_7 : Option Addr) (c0_7 : Nat) (l0_7 : List Bool) (A0_8 : Option Addr) (c0_8 : Nat) (l0_8 : List (S33)) (a1_0 : Int) (a1_1 : Int) (a1_2 : Int) (a1_3 : Int) (a1_4 : Int) (a1_5 : Int) (a1_6 : Int) (a2_0 : Int) (a2_1 : Int) (a2_2 : Int) (a2_3 : Int) (a3 : Int) (A4 : Option Addr) (c4 : Nat) (l4 : List (S76)) (a5_0 : Int) (a5_1 : Int) (a5_2 : Int) (a5_3 : Int) (a5_4 : Int) (a5_5 : Int) (r : Bool) (w : World) (hr0_7 : Kd.C Kd.bool w A0_7 l0_7.length l0_7) (hc0_7 : l0_7.length ≤ c0_7) (hr0_8 : Kd.C k33 w A0_8 l0_8.length l0_8) (hc0_8 : l0_8.length ≤ c0_8) (hr4 : Kd.C k76 w A4 l4.length l4) (hc4 : l4.length ≤ c4) (h : isobathtop_TopSearched.f k a0_0 a0_1 a0_2 a0_3 a0_4 a0_5 a0_6 l0_7 l0_8 a1_0 a1_1 a1_2 a1_3 a1_4 a1_5 a1_6 a2_0 a2_1 a2_2 a2_3 a3 l4 a5_0 a5_1 a5_2 a5_3 a5_4 a5_5 = some r) (hr_ : Aside0 (r = true)) :
  Calls Try.prog 9 #[.agg #[.int .i64 a0_0, .int .i64 a0_1, .int .i64 a0_2, .int .i64 a0_3, .int .i64 a0_4, .int .i64 a0_5, .int .i64 a0_6, .slice A0_7 l0_7.length c0_7, .slice A0_8 l0_8.length c0_8], .agg #[.int .i64 a1_0, .int .i64 a1_1, .int .i64 a1_2, .int .i64 a1_3, .int .i64 a1_4, .int .i64 a1_5, .int .i64 a1_6], .agg #[.int .i64 a2_0, .int .i64 a2_1, .int .i64 a2_2, .int .i64 a2_3], .int .i64 a3, .slice A4 l4.length c4, .agg #[.int .i64 a5_0, .int .i64 a5_1, .int .i64 a5_2, .int .i64 a5_3, .int .i64 a5_4, .int .i64 a5_5]] w fun e w' => e = .returned (.bool r) ∧ Below w.heap.size w w' := by
 have hu25 := Try.underlying25
 have hu41 := Try.underlying41
 have hu29 := Try.underlying29
 have hu44 := Try.underlying44
 have hu27 := Try.underlying27
 have HR0_7 := Aside0.mk hr0_7
 have HC0_7 := Aside0.mk hc0_7
 clear hr0_7 hc0_7
 have HR0_8 := Aside0.mk hr0_8
 have HC0_8 := Aside0.mk hc0_8
 clear hr0_8 hc0_8
 have HR4 := Aside0.mk hr4
 have HC4 := Aside0.mk hc4
 clear hr4 hc4
 have HB := Aside0.mk (Below.refl w.heap.size w)
 have H : ((isobathtop_large.f a0_0 a0_1 a0_2 a0_3 a0_4 a0_5 a0_6 l0_7 l0_8).bind fun t286 => (if t286 = true then (isobathtop_TopSearched.j0 k a3 l4 true a0_0 a0_1 a0_2 a0_3 a0_4 a0_5 a0_6 l0_7 l0_8 a1_0 a1_1 a1_2 a1_3 a1_4 a1_5 a1_6 a2_0 a2_1 a2_2 a2_3 a5_0 a5_1 a5_2 a5_3 a5_4 a5_5) else (if (l4.length : Int) > 5 then (isobathtop_TopSearched.j0 k a3 l4 true a0_0 a0_1 a0_2 a0_3 a0_4 a0_5 a0_6 l0_7 l0_8 a1_0 a1_1 a1_2 a1_3 a1_4 a1_5 a1_6 a2_0 a2_1 a2_2 a2_3 a5_0 a5_1 a5_2 a5_3 a5_4 a5_5) else (isobathtop_TopSearched.j0 k a3 l4 ((l4.length : Int) == 0) a0_0 a0_1 a0_2 a0_3 a0_4 a0_5 a0_6 l0_7 l0_8 a1_0 a1_1 a1_2 a1_3 a1_4 a1_5 a1_6 a2_0 a2_1 a2_2 a2_3 a5_0 a5_1 a5_2 a5_3 a5_4 a5_5)))) = some r := h
 clear h
 have HC7 := Aside0.mk H
 clear H
 go_enter Try.func9, Try.ntmps9
 go_upto_region 1 with (first | ((with_reducible refine gate_dst (N := 6) rfl ?_); (try (refine gate_guard (by rfl) ?_; dsimp only)); refine box_event (by rfl) (N := 6) (by rfl) (cs := #[.int .i64 a0_0, .int .i64 a0_1, .int .i64 a0_2, .int .i64 a0_3, .int .i64 a0_4, .int .i64 a0_5, .int .i64 a0_6, .slice A0_7 l0_7.length c0_7, .slice A0_8 l0_8.length c0_8]) (t := 25) zq1 ?_; intro gb282 hg w8 hbox hb; have BK282 := Aside0.mk (hbox); have GW282 := zgsr HB hg; have GE282 := zgsr HB hg; replace HB := zbsr HB hb; clear hb hbox hg) | ((with_reducible refine gate_dst (N := 7) rfl ?_); (try (refine gate_guard (by rfl) ?_; dsimp only)); refine box_event (by rfl) (N := 7) (by rfl) (cs := #[.int .i64 a1_0, .int .i64 a1_1, .int .i64 a1_2, .int .i64 a1_3, .int .i64 a1_4, .int .i64 a1_5, .int .i64 a1_6]) (t := 41) zq1 ?_; intro gb283 hg w9 hbox hb; have BK283 := Aside0.mk (hbox); have GW283 := zgsr HB hg; have GE283 := zgsr HB hg; have NB282_283 := znpr BK282 hg; have NB283_282 := znqr BK282 hg; replace BK282 := zbbr BK282 hb; replace HB := zbsr HB hb; clear hb hbox hg) | ((with_reducible refine gate_dst (N := 8) rfl ?_); (try (refine gate_guard (by rfl) ?_; dsimp only)); refine box_event (by rfl) (N := 8) (by rfl) (cs := #[.int .i64 a2_0, .int .i64 a2_1, .int .i64 a2_2, .int .i64 a2_3]) (t := 29) zq1 ?_; intro gb284 hg w10 hbox hb; have BK284 := Aside0.mk (hbox); have GW284 := zgsr HB hg; have GE284 := zgsr HB hg; have NB282_284 := znpr BK282 hg; have NB284_282 := znqr BK282 hg; have NB283_284 := znpr BK283 hg; have NB284_283 := znqr BK283 hg; replace BK282 := zbbr BK282 hb; replace BK283 := zbbr BK283 hb; replace HB := zbsr HB hb; clear hb hbox hg) | ((with_reducible refine gate_dst (N := 11) rfl ?_); (try (refine gate_guard (by rfl) ?_; dsimp only)); refine box_event (by rfl) (N := 11) (by rfl) (cs := #[.int .i64 a5_0, .int .i64 a5_1, .int .i64 a5_2, .int .i64 a5_3, .int .i64 a5_4, .int .i64 a5_5]) (t := 44) zq1 ?_; intro gb285 hg w11 hbox hb; have BK285 := Aside0.mk (hbox); have GW285 := zgsr HB hg; have GE285 := zgsr HB hg; have NB282_285 := znpr BK282 hg; have NB285_282 := znqr BK282 hg; have NB283_285 := znpr BK283 hg; have NB285_283 := znqr BK283 hg; have NB284_285 := znpr BK284 hg; have NB285_284 := znqr BK284 hg; replace BK282 := zbbr BK282 hb; replace BK283 := zbbr BK283 hb; replace BK284 := zbbr BK284 hb; replace HB := zbsr HB hb; clear hb hbox hg))
 (try simp only [Act.put, List.setIfInBounds_toArray, List.set_cons_zero, List.set_cons_succ])
 go_cut [42] (fun v42 wc => ∃ (kq : Nat) (x42_6 : Bool), v42 = .bool x42_6 ∧ Aside0 (isobathtop_TopSearched.j0 kq a3 l4 x42_6 a0_0 a0_1 a0_2 a0_3 a0_4 a0_5 a0_6 l0_7 l0_8 a1_0 a1_1 a1_2 a1_3 a1_4 a1_5 a1_6 a2_0 a2_1 a2_2 a2_3 a5_0 a5_1 a5_2 a5_3 a5_4 a5_5 = some r) ∧ Aside0 (kq ≤ k) ∧ Aside0 (wc.heap[gb282]? = some (.cells #[.int .i64 a0_0, .int .i64 a0_1, .int .i64 a0_2, .int .i64 a0_3, .int .i64 a0_4, .int .i64 a0_5, .int .i64 a0_6, (.slice A0_7 l0_7.length c0_7), (.slice A0_8 l0_8.length c0_8)] 25 (0, 0))) ∧ Aside0 (wc.heap[gb283]? = some (.cells #[.int .i64 a1_0, .int .i64 a1_1, .int .i64 a1_2, .int .i64 a1_3, .int .i64 a1_4, .int .i64 a1_5, .int .i64 a1_6] 41 (0, 0))) ∧ Aside0 (wc.heap[gb284]? = some (.cells #[.int .i64 a2_0, .int .i64 a2_1, .int .i64 a2_2, .int .i64 a2_3] 29 (0, 0))) ∧ Aside0 (wc.heap[gb285]? = some (.cells #[.int .i64 a5_0, .int .i64 a5_1, .int .i64 a5_2, .int .i64 a5_3, .int .i64 a5_4, .int .i64 a5_5] 44 (0, 0))) ∧ Aside0 (Below w.heap.size w wc))
 case first =>
  as_aux_lemma =>
   have H := HC7.out
   clear HC7
   replace H := Option.bind_eq_some_iff.mp H
   obtain ⟨t286, A120, H⟩ := H
   replace H : (if t286 = true then (isobathtop_TopSearched.j0 k a3 l4 true a0_0 a0_1 a0_2 a0_3 a0_4 a0_5 a0_6 l0_7 l0_8 a1_0 a1_1 a1_2 a1_3 a1_4 a1_5 a1_6 a2_0 a2_1 a2_2 a2_3 a5_0 a5_1 a5_2 a5_3 a5_4 a5_5) else (if (l4.length : Int) > 5 then (isobathtop_TopSearched.j0 k a3 l4 true a0_0 a0_1 a0_2 a0_3 a0_4 a0_5 a0_6 l0_7 l0_8 a1_0 a1_1 a1_2 a1_3 a1_4 a1_5 a1_6 a2_0 a2_1 a2_2 a2_3 a5_0 a5_1 a5_2 a5_3 a5_4 a5_5) else (isobathtop_TopSearched.j0 k a3 l4 ((l4.length : Int) == 0) a0_0 a0_1 a0_2 a0_3 a0_4 a0_5 a0_6 l0_7 l0_8 a1_0 a1_1 a1_2 a1_3 a1_4 a1_5 a1_6 a2_0 a2_1 a2_2 a2_3 a5_0 a5_1 a5_2 a5_3 a5_4 a5_5))) = some r := H
   have A12 := Aside0.mk A120
   clear A120
   by_cases c13 : t286 = true
   ·subst c13
    have H1 : (isobathtop_TopSearched.j0 k a3 l4 true a0_0 a0_1 a0_2 a0_3 a0_4 a0_5 a0_6 l0_7 l0_8 a1_0 a1_1 a1_2 a1_3 a1_4 a1_5 a1_6 a2_0 a2_1 a2_2 a2_3 a5_0 a5_1 a5_2 a5_3 a5_4 a5_5) = some r := by rw [if_pos rfl] at H; exact H
    clear H
    have H := H1
    clear H1
    have H' := Aside0.mk H
    clear H
    have hnb14 := NB282_283.out
    have hnc14 := NB283_282.out
    have hnb15 := NB282_284.out
    have hnc15 := NB284_282.out
    have hnb16 := NB282_285.out
    have hnc16 := NB285_282.out
    obtain ⟨hcz17_0, hcz17_1, hcz17_2, hcz17_3, hcz17_4, hcz17_5, hcz17_6, hcz17_7, hcz17_8, hfz17_0, hfz17_1, hfz17_2, hfz17_3, hfz17_4, hfz17_5, hfz17_6, hfz17_7, hfz17_8⟩ := zce9 BK282.out
    go_wp2_with (first | ((with_reducible refine gate_callee (f := 11) rfl ?_); refine goesL_ (some 32) rfl rfl Try.func11 zq3 rfl #[.agg #[.int .i64 a0_0, .int .i64 a0_1, .int .i64 a0_2, .int .i64 a0_3, .int .i64 a0_4, .int .i64 a0_5, .int .i64 a0_6, .slice A0_7 l0_7.length c0_7, .slice A0_8 l0_8.length c0_8]] rfl zq8 ?_; (with_reducible refine (isobathtop_large.calls a0_0 a0_1 a0_2 a0_3 a0_4 a0_5 a0_6 _ _ l0_7 _ _ l0_8 true _ ?side1 ?side2 ?side3 ?side4 A12.out).mono ?_); (case side1 => repeat (first | exact (Kd.C_below HR0_7.out HB.out) | (with_reducible refine Kd.C_alloc ?_ _) | (with_reducible refine Kd.C_drewN ?_ _) | (with_reducible refine Kd.C_drew ?_))); (case side2 => exact HC0_7.out); (case side3 => repeat (first | exact (Kd.C_below HR0_8.out HB.out) | (with_reducible refine Kd.C_alloc ?_ _) | (with_reducible refine Kd.C_drewN ?_ _) | (with_reducible refine Kd.C_drew ?_))); (case side4 => exact HC0_8.out); rintro e w18 ⟨rfl, hb⟩; refine ⟨_, rfl, ?_⟩; replace BK282 := zbbr BK282 hb; replace BK283 := zbbr BK283 hb; replace BK284 := zbbr BK284 hb; replace BK285 := zbbr BK285 hb; replace HB := zbsr HB hb; (try clear hb); (try clear hb2); (try clear hk); (try clear hi)))
    go_meet
    case rel => exact ⟨_, (true), zq4, H', ⟨zq39⟩, ⟨zbfr⟩, ⟨zbfr⟩, ⟨zbfr⟩, ⟨zbfr⟩, ⟨zbzr⟩⟩
   ·replace c13 := Bool.eq_false_iff.mpr c13
    subst c13
    have H1 : (if (l4.length : Int) > 5 then (isobathtop_TopSearched.j0 k a3 l4 true a0_0 a0_1 a0_2 a0_3 a0_4 a0_5 a0_6 l0_7 l0_8 a1_0 a1_1 a1_2 a1_3 a1_4 a1_5 a1_6 a2_0 a2_1 a2_2 a2_3 a5_0 a5_1 a5_2 a5_3 a5_4 a5_5) else (isobathtop_TopSearched.j0 k a3 l4 ((l4.length : Int) == 0) a0_0 a0_1 a0_2 a0_3 a0_4 a0_5 a0_6 l0_7 l0_8 a1_0 a1_1 a1_2 a1_3 a1_4 a1_5 a1_6 a2_0 a2_1 a2_2 a2_3 a5_0 a5_1 a5_2 a5_3 a5_4 a5_5)) = some r := by rw [if_neg (show ¬ (false = true) by decide)] at H; exact H
    clear H
    have H := H1
    clear H1
    by_cases c19 : (l4.length : Int) > 5
    ·rw [if_pos c19] at H
     have c19b0 : decide (5 < (l4.length : Int)) = true := decide_eq_true c19
     have c19b1 : decide (5 < l4.length) = true := decide_eq_true (by omega)
     clear c19
     (first | rw [c19b0] | (simp only [i64_w, i32_w]; rw [c19b0]) | skip)
     have H' := Aside0.mk H
     clear H
     have hnb20 := NB282_283.out
     have hnc20 := NB283_282.out
     have hnb21 := NB282_284.out
     have hnc21 := NB284_282.out
     have hnb22 := NB282_285.out
     have hnc22 := NB285_282.out
     obtain ⟨hcz23_0, hcz23_1, hcz23_2, hcz23_3, hcz23_4, hcz23_5, hcz23_6, hcz23_7, hcz23_8, hfz23_0, hfz23_1, hfz23_2, hfz23_3, hfz23_4, hfz23_5, hfz23_6, hfz23_7, hfz23_8⟩ := zce9 BK282.out
     go_wp2_with (first | ((with_reducible refine gate_callee (f := 11) rfl ?_); refine goesL_ (some 32) rfl rfl Try.func11 zq3 rfl #[.agg #[.int .i64 a0_0, .int .i64 a0_1, .int .i64 a0_2, .int .i64 a0_3, .int .i64 a0_4, .int .i64 a0_5, .int .i64 a0_6, .slice A0_7 l0_7.length c0_7, .slice A0_8 l0_8.length c0_8]] rfl zq8 ?_; (with_reducible refine (isobathtop_large.calls a0_0 a0_1 a0_2 a0_3 a0_4 a0_5 a0_6 _ _ l0_7 _ _ l0_8 false _ ?side1 ?side2 ?side3 ?side4 A12.out).mono ?_); (case side1 => repeat (first | exact (Kd.C_below HR0_7.out HB.out) | (with_reducible refine Kd.C_alloc ?_ _) | (with_reducible refine Kd.C_drewN ?_ _) | (with_reducible refine Kd.C_drew ?_))); (case side2 => exact HC0_7.out); (case side3 => repeat (first | exact (Kd.C_below HR0_8.out HB.out) | (with_reducible refine Kd.C_alloc ?_ _) | (with_reducible refine Kd.C_drewN ?_ _) | (with_reducible refine Kd.C_drew ?_))); (case side4 => exact HC0_8.out); rintro e w24 ⟨rfl, hb⟩; refine ⟨_, rfl, ?_⟩; replace BK282 := zbbr BK282 hb; replace BK283 := zbbr BK283 hb; replace BK284 := zbbr BK284 hb; replace BK285 := zbbr BK285 hb; replace HB := zbsr HB hb; (try clear hb); (try clear hb2); (try clear hk); (try clear hi)))
     go_meet
     case rel => exact ⟨_, (true), zq4, H', ⟨zq39⟩, ⟨zbfr⟩, ⟨zbfr⟩, ⟨zbfr⟩, ⟨zbfr⟩, ⟨zbzr⟩⟩
    ·rw [if_neg c19] at H
     have c19b0 : decide (5 < (l4.length : Int)) = false := decide_eq_false c19
     have c19b1 : decide (5 < l4.length) = false := decide_eq_false (by omega)
     clear c19
     (first | rw [c19b0] | (simp only [i64_w, i32_w]; rw [c19b0]) | skip)
     have H' := Aside0.mk H
     clear H
     have hnb25 := NB282_283.out
     have hnc25 := NB283_282.out
     have hnb26 := NB282_284.out
     have hnc26 := NB284_282.out
     have hnb27 := NB282_285.out
     have hnc27 := NB285_282.out
     obtain ⟨hcz28_0, hcz28_1, hcz28_2, hcz28_3, hcz28_4, hcz28_5, hcz28_6, hcz28_7, hcz28_8, hfz28_0, hfz28_1, hfz28_2, hfz28_3, hfz28_4, hfz28_5, hfz28_6, hfz28_7, hfz28_8⟩ := zce9 BK282.out
     go_wp2_with (first | ((with_reducible refine gate_callee (f := 11) rfl ?_); refine goesL_ (some 32) rfl rfl Try.func11 zq3 rfl #[.agg #[.int .i64 a0_0, .int .i64 a0_1, .int .i64 a0_2, .int .i64 a0_3, .int .i64 a0_4, .int .i64 a0_5, .int .i64 a0_6, .slice A0_7 l0_7.length c0_7, .slice A0_8 l0_8.length c0_8]] rfl zq8 ?_; (with_reducible refine (isobathtop_large.calls a0_0 a0_1 a0_2 a0_3 a0_4 a0_5 a0_6 _ _ l0_7 _ _ l0_8 false _ ?side1 ?side2 ?side3 ?side4 A12.out).mono ?_); (case side1 => repeat (first | exact (Kd.C_below HR0_7.out HB.out) | (with_reducible refine Kd.C_alloc ?_ _) | (with_reducible refine Kd.C_drewN ?_ _) | (with_reducible refine Kd.C_drew ?_))); (case side2 => exact HC0_7.out); (case side3 => repeat (first | exact (Kd.C_below HR0_8.out HB.out) | (with_reducible refine Kd.C_alloc ?_ _) | (with_reducible refine Kd.C_drewN ?_ _) | (with_reducible refine Kd.C_drew ?_))); (case side4 => exact HC0_8.out); rintro e w29 ⟨rfl, hb⟩; refine ⟨_, rfl, ?_⟩; replace BK282 := zbbr BK282 hb; replace BK283 := zbbr BK283 hb; replace BK284 := zbbr BK284 hb; replace BK285 := zbbr BK285 hb; replace HB := zbsr HB hb; (try clear hb); (try clear hb2); (try clear hk); (try clear hi)))
     go_meet
     case rel => exact ⟨_, (((l4.length : Int) == 0)), zq4, H', ⟨zq39⟩, ⟨zbfr⟩, ⟨zbfr⟩, ⟨zbfr⟩, ⟨zbfr⟩, ⟨zbzr⟩⟩
 case rest =>
  as_aux_lemma =>
   clear HC7
   try clear c1
   try clear c2
   try clear p2
   try clear c4
   try clear c9
   try clear c11
   try clear c13
   try clear c14
   try clear c15
   try clear c16
   try clear c19
   try clear c19b0
   try clear c19b1
   try clear c20
   try clear c21
   try clear c22
   try clear c25
   try clear c26
   try clear c27
   try clear hcz17_0 hcz17_1 hcz17_2 hcz17_3 hcz17_4 hcz17_5 hcz17_6 hcz17_7 hcz17_8
   try clear hcz23_0 hcz23_1 hcz23_2 hcz23_3 hcz23_4 hcz23_5 hcz23_6 hcz23_7 hcz23_8
   try clear hcz28_0 hcz28_1 hcz28_2 hcz28_3 hcz28_4 hcz28_5 hcz28_6 hcz28_7 hcz28_8
   try clear hfz17_0 hfz17_1 hfz17_2 hfz17_3 hfz17_4 hfz17_5 hfz17_6 hfz17_7 hfz17_8
   try clear hfz23_0 hfz23_1 hfz23_2 hfz23_3 hfz23_4 hfz23_5 hfz23_6 hfz23_7 hfz23_8
   try clear hfz28_0 hfz28_1 hfz28_2 hfz28_3 hfz28_4 hfz28_5 hfz28_6 hfz28_7 hfz28_8
   obtain ⟨kq, x42_6, rfl, HA, HJ6, BK282, BK283, BK284, BK285, HB⟩ := hcut
   cases kq with
   | zero => exact absurd HA.out (by simp [isobathtop_TopSearched.j0])
   | succ kj6 =>
    have H := HA.out
    clear HA
    simp only [isobathtop_TopSearched.j0] at H
    by_cases c30 : x42_6 = true
    ·subst c30
     have H1 : ((isobathtop_works03.f kj6).bind fun t287 => (some t287)) = some r := by rw [if_pos rfl] at H; exact H
     clear H
     have H := H1
     clear H1
     replace H := Option.bind_eq_some_iff.mp H
     obtain ⟨t287, A310, H⟩ := H
     replace H : (some t287) = some r := H
     have A31 := Aside0.mk A310
     clear A310
     obtain rfl := Option.some.inj H
     go_wp2_with (first | ((with_reducible refine gate_callee (f := 12) rfl ?_); refine goesL_ (some 43) rfl rfl Try.func12 zq3 rfl #[] rfl zq8 ?_; (with_reducible refine (isobathtop_works03.calls kj6  t287 _ A31.out).mono ?_); rintro e w32 ⟨rfl, hb⟩; refine ⟨_, rfl, ?_⟩; replace BK282 := zbbr BK282 hb; replace BK283 := zbbr BK283 hb; replace BK284 := zbbr BK284 hb; replace BK285 := zbbr BK285 hb; replace HB := zbsr HB hb; (try clear hb); (try clear hb2); (try clear hk); (try clear hi)))
     go_ret
     exact ⟨zq2, zbzr⟩
    ·replace c30 := Bool.eq_false_iff.mpr c30
     subst c30
     have H1 : ((glider_Run.f a0_0 a0_1 a0_2 a0_3 a0_4 a0_5 a0_6 l0_7 l0_8 a1_0 a1_1 a1_2 a1_3 a1_4 a1_5 a1_6 a2_0 a2_1 a2_2 a2_3 a3 l4).bind fun bt288 => (if bt288.2.2 = 0 then ((glider_Reach.f a0_0 a0_1 a0_2 a0_3 a0_4 a0_5 a0_6 l0_7 l0_8 a1_0 a1_1 a1_2 a1_3 a1_4 a1_5 a1_6 a2_0 a2_1 a2_2 a2_3 a3 (l4.length : Int)).bind fun bt294 => (if bt294.2 = 0 then (if bt288.2.1 = (l4.length : Int) then (if (bt288.1.length : Int) = bt288.2.1 then (isobathtop_TopSearched.j1 kj6 a3 bt288.1 bt288.2.1 bt294.2 bt294.1 ((bt294.1.length : Int) != bt288.2.1) a0_0 a0_1 a0_2 a0_3 a0_4 a0_5 a0_6 l0_7 l0_8 a1_0 a1_1 a1_2 a1_3 a1_4 a1_5 a1_6 a2_0 a2_1 a2_2 a2_3 a5_0 a5_1 a5_2 a5_3 a5_4 a5_5) else (isobathtop_TopSearched.j1 kj6 a3 bt288.1 bt288.2.1 bt294.2 bt294.1 true a0_0 a0_1 a0_2 a0_3 a0_4 a0_5 a0_6 l0_7 l0_8 a1_0 a1_1 a1_2 a1_3 a1_4 a1_5 a1_6 a2_0 a2_1 a2_2 a2_3 a5_0 a5_1 a5_2 a5_3 a5_4 a5_5)) else (isobathtop_TopSearched.j1 kj6 a3 bt288.1 bt288.2.1 bt294.2 bt294.1 true a0_0 a0_1 a0_2 a0_3 a0_4 a0_5 a0_6 l0_7 l0_8 a1_0 a1_1 a1_2 a1_3 a1_4 a1_5 a1_6 a2_0 a2_1 a2_2 a2_3 a5_0 a5_1 a5_2 a5_3 a5_4 a5_5)) else (isobathtop_TopSearched.j1 kj6 a3 bt288.1 bt288.2.1 bt294.2 bt294.1 true a0_0 a0_1 a0_2 a0_3 a0_4 a0_5 a0_6 l0_7 l0_8 a1_0 a1_1 a1_2 a1_3 a1_4 a1_5 a1_6 a2_0 a2_1 a2_2 a2_3 a5_0 a5_1 a5_2 a5_3 a5_4 a5_5))) else (if (bt288.1.length : Int) = 0 then ((isobathtop_works03.f kj6).bind fun t293 => (some t293)) else (some false)))) = some r := by rw [if_neg (show ¬ (false = true) by decide)] at H; exact H
     clear H
     have H := H1
     clear H1
     replace H := Option.bind_eq_some_iff.mp H
     obtain ⟨⟨t288, t291, t292⟩, A330, H⟩ := H
     replace H : (if t292 = 0 then ((glider_Reach.f a0_0 a0_1 a0_2 a0_3 a0_4 a0_5 a0_6 l0_7 l0_8 a1_0 a1_1 a1_2 a1_3 a1_4 a1_5 a1_6 a2_0 a2_1 a2_2 a2_3 a3 (l4.length : Int)).bind fun bt294 => (if bt294.2 = 0 then (if t291 = (l4.length : Int) then (if (t288.length : Int) = t291 then (isobathtop_TopSearched.j1 kj6 a3 t288 t291 bt294.2 bt294.1 ((bt294.1.length : Int) != t291) a0_0 a0_1 a0_2 a0_3 a0_4 a0_5 a0_6 l0_7 l0_8 a1_0 a1_1 a1_2 a1_3 a1_4 a1_5 a1_6 a2_0 a2_1 a2_2 a2_3 a5_0 a5_1 a5_2 a5_3 a5_4 a5_5) else (isobathtop_TopSearched.j1 kj6 a3 t288 t291 bt294.2 bt294.1 true a0_0 a0_1 a0_2 a0_3 a0_4 a0_5 a0_6 l0_7 l0_8 a1_0 a1_1 a1_2 a1_3 a1_4 a1_5 a1_6 a2_0 a2_1 a2_2 a2_3 a5_0 a5_1 a5_2 a5_3 a5_4 a5_5)) else (isobathtop_TopSearched.j1 kj6 a3 t288 t291 bt294.2 bt294.1 true a0_0 a0_1 a0_2 a0_3 a0_4 a0_5 a0_6 l0_7 l0_8 a1_0 a1_1 a1_2 a1_3 a1_4 a1_5 a1_6 a2_0 a2_1 a2_2 a2_3 a5_0 a5_1 a5_2 a5_3 a5_4 a5_5)) else (isobathtop_TopSearched.j1 kj6 a3 t288 t291 bt294.2 bt294.1 true a0_0 a0_1 a0_2 a0_3 a0_4 a0_5 a0_6 l0_7 l0_8 a1_0 a1_1 a1_2 a1_3 a1_4 a1_5 a1_6 a2_0 a2_1 a2_2 a2_3 a5_0 a5_1 a5_2 a5_3 a5_4 a5_5))) else (if (t288.length : Int) = 0 then ((isobathtop_works03.f kj6).bind fun t293 => (some t293)) else (some false))) = some r := H
     have A33 := Aside0.mk A330
     clear A330
     by_cases c34 : t292 = 0
     ·rw [if_pos c34] at H
      have c34b0 : (t292 == 0) = true := beq_iff_eq.mpr c34
      have c34b1 : (t292 != 0) = false := bne_eq_false_iff_eq.mpr c34
      clear c34
      replace H := Option.bind_eq_some_iff.mp H
      obtain ⟨⟨t294, t297⟩, A350, H⟩ := H
      replace H : (if t297 = 0 then (if t291 = (l4.length : Int) then (if (t288.length : Int) = t291 then (isobathtop_TopSearched.j1 kj6 a3 t288 t291 t297 t294 ((t294.length : Int) != t291) a0_0 a0_1 a0_2 a0_3 a0_4 a0_5 a0_6 l0_7 l0_8 a1_0 a1_1 a1_2 a1_3 a1_4 a1_5 a1_6 a2_0 a2_1 a2_2 a2_3 a5_0 a5_1 a5_2 a5_3 a5_4 a5_5) else (isobathtop_TopSearched.j1 kj6 a3 t288 t291 t297 t294 true a0_0 a0_1 a0_2 a0_3 a0_4 a0_5 a0_6 l0_7 l0_8 a1_0 a1_1 a1_2 a1_3 a1_4 a1_5 a1_6 a2_0 a2_1 a2_2 a2_3 a5_0 a5_1 a5_2 a5_3 a5_4 a5_5)) else (isobathtop_TopSearched.j1 kj6 a3 t288 t291 t297 t294 true a0_0 a0_1 a0_2 a0_3 a0_4 a0_5 a0_6 l0_7 l0_8 a1_0 a1_1 a1_2 a1_3 a1_4 a1_5 a1_6 a2_0 a2_1 a2_2 a2_3 a5_0 a5_1 a5_2 a5_3 a5_4 a5_5)) else (isobathtop_TopSearched.j1 kj6 a3 t288 t291 t297 t294 true a0_0 a0_1 a0_2 a0_3 a0_4 a0_5 a0_6 l0_7 l0_8 a1_0 a1_1 a1_2 a1_3 a1_4 a1_5 a1_6 a2_0 a2_1 a2_2 a2_3 a5_0 a5_1 a5_2 a5_3 a5_4 a5_5)) = some r := H
      have A35 := Aside0.mk A350
      clear A350
      have HC36 := Aside0.mk H
      clear H
      have hnb37 := NB282_283.out
      have hnc37 := NB283_282.out
      have hnb38 := NB282_284.out
      have hnc38 := NB284_282.out
      have hnb39 := NB282_285.out
      have hnc39 := NB285_282.out
      obtain ⟨hcz40_0, hcz40_1, hcz40_2, hcz40_3, hcz40_4, hcz40_5, hcz40_6, hcz40_7, hcz40_8, hfz40_0, hfz40_1, hfz40_2, hfz40_3, hfz40_4, hfz40_5, hfz40_6, hfz40_7, hfz40_8⟩ := zce9 BK282.out
      have hnb41 := NB283_284.out
      have hnc41 := NB284_283.out
      have hnb42 := NB283_285.out
      have hnc42 := NB285_283.out
      obtain ⟨hcz43_0, hcz43_1, hcz43_2, hcz43_3, hcz43_4, hcz43_5, hcz43_6, hfz43_0, hfz43_1, hfz43_2, hfz43_3, hfz43_4, hfz43_5, hfz43_6⟩ := zce7 BK283.out
      have hnb44 := NB284_285.out
      have hnc44 := NB285_284.out
      obtain ⟨hcz45_0, hcz45_1, hcz45_2, hcz45_3, hfz45_0, hfz45_1, hfz45_2, hfz45_3⟩ := zce4 BK284.out
      go_upto_region 7 with (first | ((with_reducible refine gate_callee (f := 43) rfl ?_); refine goesL_ (some 50) rfl rfl Try.func43 zq3 rfl #[.agg #[.int .i64 a0_0, .int .i64 a0_1, .int .i64 a0_2, .int .i64 a0_3, .int .i64 a0_4, .int .i64 a0_5, .int .i64 a0_6, .slice A0_7 l0_7.length c0_7, .slice A0_8 l0_8.length c0_8], .agg #[.int .i64 a1_0, .int .i64 a1_1, .int .i64 a1_2, .int .i64 a1_3, .int .i64 a1_4, .int .i64 a1_5, .int .i64 a1_6], .agg #[.int .i64 a2_0, .int .i64 a2_1, .int .i64 a2_2, .int .i64 a2_3], .int .i64 a3, .slice A4 l4.length c4] rfl zq8 ?_; (with_reducible refine (glider_Run.calls a0_0 a0_1 a0_2 a0_3 a0_4 a0_5 a0_6 _ _ l0_7 _ _ l0_8 a1_0 a1_1 a1_2 a1_3 a1_4 a1_5 a1_6 a2_0 a2_1 a2_2 a2_3 a3 _ _ l4 t288 t291 t292 _ ?side1 ?side2 ?side3 ?side4 ?side5 ?side6 A33.out).mono ?_); (case side1 => repeat (first | exact (Kd.C_below HR0_7.out HB.out) | (with_reducible refine Kd.C_alloc ?_ _) | (with_reducible refine Kd.C_drewN ?_ _) | (with_reducible refine Kd.C_drew ?_))); (case side2 => exact HC0_7.out); (case side3 => repeat (first | exact (Kd.C_below HR0_8.out HB.out) | (with_reducible refine Kd.C_alloc ?_ _) | (with_reducible refine Kd.C_drewN ?_ _) | (with_reducible refine Kd.C_drew ?_))); (case side4 => exact HC0_8.out); (case side5 => repeat (first | exact (Kd.C_below HR4.out HB.out) | (with_reducible refine Kd.C_alloc ?_ _) | (with_reducible refine Kd.C_drewN ?_ _) | (with_reducible refine Kd.C_drew ?_))); (case side6 => exact HC4.out); rintro e w46 ⟨v289, rfl, ho0, hb⟩; refine ⟨_, rfl, ?_⟩; have HO290 := Aside0.mk (Kd.R_lower (Kd.R_newB ho0 (g := gb284) (o := .cells #[.int .i64 a2_0, .int .i64 a2_1, .int .i64 a2_2, .int .i64 a2_3] 29 (0, 0)) zbfr) (below_size zbzr)); replace BK282 := zbbr BK282 hb; replace BK283 := zbbr BK283 hb; replace BK284 := zbbr BK284 hb; replace BK285 := zbbr BK285 hb; replace HB := zbsr HB hb; (try clear hb); (try clear hb2); (try clear hk); (try clear hi); (try clear ho0); obtain ⟨hcz47_0, hcz47_1, hcz47_2, hcz47_3, hcz47_4, hcz47_5, hcz47_6, hcz47_7, hcz47_8, hfz47_0, hfz47_1, hfz47_2, hfz47_3, hfz47_4, hfz47_5, hfz47_6, hfz47_7, hfz47_8⟩ := zce9 BK282.out; obtain ⟨hcz48_0, hcz48_1, hcz48_2, hcz48_3, hcz48_4, hcz48_5, hcz48_6, hfz48_0, hfz48_1, hfz48_2, hfz48_3, hfz48_4, hfz48_5, hfz48_6⟩ := zce7 BK283.out; obtain ⟨hcz49_0, hcz49_1, hcz49_2, hcz49_3, hfz49_0, hfz49_1, hfz49_2, hfz49_3⟩ := zce4 BK284.out) | ((with_reducible refine gate_callee (f := 44) rfl ?_); refine goesL_ (some 69) rfl rfl Try.func44 zq3 rfl #[.agg #[.int .i64 a0_0, .int .i64 a0_1, .int .i64 a0_2, .int .i64 a0_3, .int .i64 a0_4, .int .i64 a0_5, .int .i64 a0_6, .slice A0_7 l0_7.length c0_7, .slice A0_8 l0_8.length c0_8], .agg #[.int .i64 a1_0, .int .i64 a1_1, .int .i64 a1_2, .int .i64 a1_3, .int .i64 a1_4, .int .i64 a1_5, .int .i64 a1_6], .agg #[.int .i64 a2_0, .int .i64 a2_1, .int .i64 a2_2, .int .i64 a2_3], .int .i64 a3, .int .i64 (l4.length : Int)] rfl zq8 ?_; (with_reducible refine (glider_Reach.calls a0_0 a0_1 a0_2 a0_3 a0_4 a0_5 a0_6 _ _ l0_7 _ _ l0_8 a1_0 a1_1 a1_2 a1_3 a1_4 a1_5 a1_6 a2_0 a2_1 a2_2 a2_3 a3 (l4.length : Int) t294 t297 _ ?side1 ?side2 ?side3 ?side4 A35.out).mono ?_); (case side1 => repeat (first | exact (Kd.C_below HR0_7.out HB.out) | (with_reducible refine Kd.C_alloc ?_ _) | (with_reducible refine Kd.C_drewN ?_ _) | (with_reducible refine Kd.C_drew ?_))); (case side2 => exact HC0_7.out); (case side3 => repeat (first | exact (Kd.C_below HR0_8.out HB.out) | (with_reducible refine Kd.C_alloc ?_ _) | (with_reducible refine Kd.C_drewN ?_ _) | (with_reducible refine Kd.C_drew ?_))); (case side4 => exact HC0_8.out); rintro e w50 ⟨v295, rfl, ho0, hb⟩; refine ⟨_, rfl, ?_⟩; have n0_ := Aside0.mk (Kd.R_elder' (by (with_reducible repeat (first | apply Kd.R_alloc | apply Kd.R_drewN | apply Kd.R_drew)); exact HO290.out) (Kd.R_base ho0) hb); have n1_ := Aside0.mk (Kd.R_lower (Kd.R_newB (Kd.R_new' ho0 (Kd.R_lt (by (with_reducible repeat (first | apply Kd.R_alloc | apply Kd.R_drewN | apply Kd.R_drew)); exact HO290.out))) (g := gb284) (o := .cells #[.int .i64 a2_0, .int .i64 a2_1, .int .i64 a2_2, .int .i64 a2_3] 29 (0, 0)) zbfr) (below_size zbzr)); have n2_ := zbbr BK282 hb; have n3_ := zbbr BK283 hb; have n4_ := zbbr BK284 hb; have n5_ := zbbr BK285 hb; have n6_ := zbsr HB hb; clear HO290; clear BK282; clear BK283; clear BK284; clear BK285; clear HB; have HO290 := n0_; have HO296 := n1_; have BK282 := n2_; have BK283 := n3_; have BK284 := n4_; have BK285 := n5_; have HB := n6_; clear n0_ n1_ n2_ n3_ n4_ n5_ n6_; (try clear hb); (try clear hb2); (try clear hk); (try clear hi); (try clear ho0)))
      (try simp only [Act.put, List.setIfInBounds_toArray, List.set_cons_zero, List.set_cons_succ])
      go_cut [91] (fun v91 wc => ∃ (kq : Nat) (x91_35 : Bool), v91 = .bool x91_35 ∧ Aside0 (isobathtop_TopSearched.j1 kq a3 t288 t291 t297 t294 x91_35 a0_0 a0_1 a0_2 a0_3 a0_4 a0_5 a0_6 l0_7 l0_8 a1_0 a1_1 a1_2 a1_3 a1_4 a1_5 a1_6 a2_0 a2_1 a2_2 a2_3 a5_0 a5_1 a5_2 a5_3 a5_4 a5_5 = some r) ∧ Aside0 (kq ≤ kj6) ∧ Aside0 (Kd.R k29 29 wc w.heap.size (fun k_ => some k_ ≠ (v295 : Value).ownBlock ∧ k_ ≠ gb284) v289 t288) ∧ Aside0 (Kd.R k29 29 wc w.heap.size (fun k_ => some k_ ≠ (v289 : Value).ownBlock ∧ k_ ≠ gb284) v295 t294) ∧ Aside0 (wc.heap[gb282]? = some (.cells #[.int .i64 a0_0, .int .i64 a0_1, .int .i64 a0_2, .int .i64 a0_3, .int .i64 a0_4, .int .i64 a0_5, .int .i64 a0_6, (.slice A0_7 l0_7.length c0_7), (.slice A0_8 l0_8.length c0_8)] 25 (0, 0))) ∧ Aside0 (wc.heap[gb283]? = some (.cells #[.int .i64 a1_0, .int .i64 a1_1, .int .i64 a1_2, .int .i64 a1_3, .int .i64 a1_4, .int .i64 a1_5, .int .i64 a1_6] 41 (0, 0))) ∧ Aside0 (wc.heap[gb284]? = some (.cells #[.int .i64 a2_0, .int .i64 a2_1, .int .i64 a2_2, .int .i64 a2_3] 29 (0, 0))) ∧ Aside0 (wc.heap[gb285]? = some (.cells #[.int .i64 a5_0, .int .i64 a5_1, .int .i64 a5_2, .int .i64 a5_3, .int .i64 a5_4, .int .i64 a5_5] 44 (0, 0))) ∧ Aside0 (Below w.heap.size w wc))
      case first =>
       as_aux_lemma =>
        have H := HC36.out
        clear HC36
        by_cases c51 : t297 = 0
        ·rw [if_pos c51] at H
         have c51b0 : (t297 == 0) = true := beq_iff_eq.mpr c51
         have c51b1 : (t297 != 0) = false := bne_eq_false_iff_eq.mpr c51
         clear c51
         (first | rw [c51b0] | (simp only [i64_w, i32_w]; rw [c51b0]) | skip)
         by_cases c52 : t291 = (l4.length : Int)
         ·rw [if_pos c52] at H
          have c52b0 : (t291 == (l4.length : Int)) = true := beq_iff_eq.mpr c52
          have c52b1 : (t291 != (l4.length : Int)) = false := bne_eq_false_iff_eq.mpr c52
          clear c52
          by_cases c53 : (t288.length : Int) = t291
          ·rw [if_pos c53] at H
           have c53b0 : ((t288.length : Int) == t291) = true := beq_iff_eq.mpr c53
           have c53b1 : ((t288.length : Int) != t291) = false := bne_eq_false_iff_eq.mpr c53
           clear c53
           have H' := Aside0.mk H
           clear H
           obtain ⟨Ao54, co54, eo54⟩ := Kd.R_slice HO290.out
           subst eo54
           obtain ⟨Ao55, co55, eo55⟩ := Kd.R_slice HO296.out
           subst eo55
           go_wp2
           go_meet
           case rel => exact ⟨_, (((t294.length : Int) != t291)), zq4, H', ⟨zq42⟩, ⟨zq43⟩, ⟨zq44⟩, ⟨zbfr⟩, ⟨zbfr⟩, ⟨zbfr⟩, ⟨zbfr⟩, ⟨zbzr⟩⟩
          ·rw [if_neg c53] at H
           have c53b0 : ((t288.length : Int) == t291) = false := beq_eq_false_iff_ne.mpr c53
           have c53b1 : ((t288.length : Int) != t291) = true := bne_iff_ne.mpr c53
           have H' := Aside0.mk H
           clear H
           obtain ⟨Ao56, co56, eo56⟩ := Kd.R_slice HO290.out
           subst eo56
           go_wp2
           go_meet
           case rel => exact ⟨_, (true), zq4, H', ⟨zq42⟩, ⟨zq43⟩, ⟨zq44⟩, ⟨zbfr⟩, ⟨zbfr⟩, ⟨zbfr⟩, ⟨zbfr⟩, ⟨zbzr⟩⟩
         ·rw [if_neg c52] at H
          have c52b0 : (t291 == (l4.length : Int)) = false := beq_eq_false_iff_ne.mpr c52
          have c52b1 : (t291 != (l4.length : Int)) = true := bne_iff_ne.mpr c52
          have H' := Aside0.mk H
          clear H
          go_wp2
          go_meet
          case rel => exact ⟨_, (true), zq4, H', ⟨zq42⟩, ⟨zq43⟩, ⟨zq44⟩, ⟨zbfr⟩, ⟨zbfr⟩, ⟨zbfr⟩, ⟨zbfr⟩, ⟨zbzr⟩⟩
        ·rw [if_neg c51] at H
         have c51b0 : (t297 == 0) = false := beq_eq_false_iff_ne.mpr c51
         have c51b1 : (t297 != 0) = true := bne_iff_ne.mpr c51
         (first | rw [c51b0] | (simp only [i64_w, i32_w]; rw [c51b0]) | skip)
         have H' := Aside0.mk H
         clear H
         go_wp2
         go_meet
         case rel => exact ⟨_, (true), zq4, H', ⟨zq42⟩, ⟨zq43⟩, ⟨zq44⟩, ⟨zbfr⟩, ⟨zbfr⟩, ⟨zbfr⟩, ⟨zbfr⟩, ⟨zbzr⟩⟩
      case rest =>
       as_aux_lemma =>
        clear HC36
        try clear c1
        try clear c2
        try clear p2
        try clear c3
        try clear c4
        try clear c5
        try clear c9
        try clear c11
        try clear c12
        try clear c13
        try clear c14
        try clear c15
        try clear c16
        try clear c19
        try clear c19b0
        try clear c19b1
        try clear c20
        try clear c21
        try clear c22
        try clear c25
        try clear c26
        try clear c27
        try clear c30
        try clear c34
        try clear c34b0
        try clear c34b1
        try clear c37
        try clear c38
        try clear c39
        try clear c41
        try clear c42
        try clear c43
        try clear c44
        try clear c51
        try clear c51b0
        try clear c51b1
        try clear c52
        try clear c52b0
        try clear c52b1
        try clear c53
        try clear c53b0
        try clear c53b1
        try clear hcz17_0 hcz17_1 hcz17_2 hcz17_3 hcz17_4 hcz17_5 hcz17_6 hcz17_7 hcz17_8
        try clear hcz23_0 hcz23_1 hcz23_2 hcz23_3 hcz23_4 hcz23_5 hcz23_6 hcz23_7 hcz23_8
        try clear hcz28_0 hcz28_1 hcz28_2 hcz28_3 hcz28_4 hcz28_5 hcz28_6 hcz28_7 hcz28_8
        try clear hcz40_0 hcz40_1 hcz40_2 hcz40_3 hcz40_4 hcz40_5 hcz40_6 hcz40_7 hcz40_8
        try clear hcz43_0 hcz43_1 hcz43_2 hcz43_3 hcz43_4 hcz43_5 hcz43_6
        try clear hcz45_0 hcz45_1 hcz45_2 hcz45_3
        try clear hcz47_0 hcz47_1 hcz47_2 hcz47_3 hcz47_4 hcz47_5 hcz47_6 hcz47_7 hcz47_8
        try clear hcz48_0 hcz48_1 hcz48_2 hcz48_3 hcz48_4 hcz48_5 hcz48_6
        try clear hcz49_0 hcz49_1 hcz49_2 hcz49_3
        try clear hfz17_0 hfz17_1 hfz17_2 hfz17_3 hfz17_4 hfz17_5 hfz17_6 hfz17_7 hfz17_8
        try clear hfz23_0 hfz23_1 hfz23_2 hfz23_3 hfz23_4 hfz23_5 hfz23_6 hfz23_7 hfz23_8
        try clear hfz28_0 hfz28_1 hfz28_2 hfz28_3 hfz28_4 hfz28_5 hfz28_6 hfz28_7 hfz28_8
        try clear hfz40_0 hfz40_1 hfz40_2 hfz40_3 hfz40_4 hfz40_5 hfz40_6 hfz40_7 hfz40_8
        try clear hfz43_0 hfz43_1 hfz43_2 hfz43_3 hfz43_4 hfz43_5 hfz43_6
        try clear hfz45_0 hfz45_1 hfz45_2 hfz45_3
        try clear hfz47_0 hfz47_1 hfz47_2 hfz47_3 hfz47_4 hfz47_5 hfz47_6 hfz47_7 hfz47_8
        try clear hfz48_0 hfz48_1 hfz48_2 hfz48_3 hfz48_4 hfz48_5 hfz48_6
        try clear hfz49_0 hfz49_1 hfz49_2 hfz49_3
        try clear p2
        obtain ⟨kq, x91_35, rfl, HA, HJ35, HO_13, HO_16, BK282, BK283, BK284, BK285, HB⟩ := hcut
        cases kq with
        | zero => exact absurd HA.out (by simp [isobathtop_TopSearched.j1])
        | succ kj35 =>
         have H := HA.out
         clear HA
         simp only [isobathtop_TopSearched.j1] at H
         by_cases c57 : x91_35 = true
         ·subst c57
          have H1 : (if t297 = 5 then ((isobathtop_works03.f kj35).bind fun t298 => (some t298)) else (some false)) = some r := by rw [if_pos rfl] at H; exact H
          clear H
          have H := H1
          clear H1
          by_cases c58 : t297 = 5
          ·rw [if_pos c58] at H
           have c58b0 : (t297 == 5) = true := beq_iff_eq.mpr c58
           have c58b1 : (t297 != 5) = false := bne_eq_false_iff_eq.mpr c58
           clear c58
           replace H := Option.bind_eq_some_iff.mp H
           obtain ⟨t298, A590, H⟩ := H
           replace H : (some t298) = some r := H
           have A59 := Aside0.mk A590
           clear A590
           obtain rfl := Option.some.inj H
           go_wp2_with (first | (go_at_call 12; (with_reducible refine (isobathtop_works03.calls kj35  t298 _ A59.out).mono ?_); rintro e w60 ⟨rfl, hb⟩; replace HO_13 := zrbr HO_13 hb; replace HO_16 := zrbr HO_16 hb; replace BK282 := zbbr BK282 hb; replace BK283 := zbbr BK283 hb; replace BK284 := zbbr BK284 hb; replace BK285 := zbbr BK285 hb; replace HB := zbsr HB hb; (try clear hb); (try clear hb2); (try clear hk); (try clear hi)))
           go_ret
           exact ⟨zq2, zbzr⟩
          ·rw [if_neg c58] at H
           have c58b0 : (t297 == 5) = false := beq_eq_false_iff_ne.mpr c58
           have c58b1 : (t297 != 5) = true := bne_iff_ne.mpr c58
           have hh_ := Option.some.inj H
           rw [hr_.out] at hh_
           cases hh_
         ·replace c57 := Bool.eq_false_iff.mpr c57
          subst c57
          have H1 : ((visited_one.f kj35 a0_0 a0_1 a0_2 a0_3 a0_4 a0_5 a0_6 l0_7 l0_8 t288).bind fun bt299 => (if bt299.2 = 0 then (isobathtop_TopSearched.j2 kj35 a3 t288 t291 t294 bt299.1 ((bt299.1.length : Int) != (wrap64 (a0_0 * a0_1))) a0_0 a0_1 a0_2 a0_3 a0_4 a0_5 a0_6 l0_7 l0_8 a1_0 a1_1 a1_2 a1_3 a1_4 a1_5 a1_6 a2_0 a2_1 a2_2 a2_3 a5_0 a5_1 a5_2 a5_3 a5_4 a5_5) else (isobathtop_TopSearched.j2 kj35 a3 t288 t291 t294 bt299.1 true a0_0 a0_1 a0_2 a0_3 a0_4 a0_5 a0_6 l0_7 l0_8 a1_0 a1_1 a1_2 a1_3 a1_4 a1_5 a1_6 a2_0 a2_1 a2_2 a2_3 a5_0 a5_1 a5_2 a5_3 a5_4 a5_5))) = some r := by rw [if_neg (show ¬ (false = true) by decide)] at H; exact H
          clear H
          have H := H1
          clear H1
          replace H := Option.bind_eq_some_iff.mp H
          obtain ⟨⟨t299, t302⟩, A610, H⟩ := H
          replace H : (if t302 = 0 then (isobathtop_TopSearched.j2 kj35 a3 t288 t291 t294 t299 ((t299.length : Int) != (wrap64 (a0_0 * a0_1))) a0_0 a0_1 a0_2 a0_3 a0_4 a0_5 a0_6 l0_7 l0_8 a1_0 a1_1 a1_2 a1_3 a1_4 a1_5 a1_6 a2_0 a2_1 a2_2 a2_3 a5_0 a5_1 a5_2 a5_3 a5_4 a5_5) else (isobathtop_TopSearched.j2 kj35 a3 t288 t291 t294 t299 true a0_0 a0_1 a0_2 a0_3 a0_4 a0_5 a0_6 l0_7 l0_8 a1_0 a1_1 a1_2 a1_3 a1_4 a1_5 a1_6 a2_0 a2_1 a2_2 a2_3 a5_0 a5_1 a5_2 a5_3 a5_4 a5_5)) = some r := H
          have A61 := Aside0.mk A610
          clear A610
          have HC62 := Aside0.mk H
          clear H
          have hnb63 := NB282_283.out
          have hnc63 := NB283_282.out
          have hnb64 := NB282_284.out
          have hnc64 := NB284_282.out
          have hnb65 := NB282_285.out
          have hnc65 := NB285_282.out
          obtain ⟨hcz66_0, hcz66_1, hcz66_2, hcz66_3, hcz66_4, hcz66_5, hcz66_6, hcz66_7, hcz66_8, hfz66_0, hfz66_1, hfz66_2, hfz66_3, hfz66_4, hfz66_5, hfz66_6, hfz66_7, hfz66_8⟩ := zce9 BK282.out
          obtain ⟨Ao67, co67, eo67⟩ := Kd.R_slice HO_13.out
          subst eo67
          go_upto_region 10 with (first | ((with_reducible refine gate_callee (f := 20) rfl ?_); refine goesL_ (some 101) rfl rfl Try.func20 zq3 rfl #[.agg #[.int .i64 a0_0, .int .i64 a0_1, .int .i64 a0_2, .int .i64 a0_3, .int .i64 a0_4, .int .i64 a0_5, .int .i64 a0_6, .slice A0_7 l0_7.length c0_7, .slice A0_8 l0_8.length c0_8], .slice (some ⟨_, 0, none⟩) 1 1] rfl zq8 ?_; (with_reducible refine (visited_one.calls kj35 a0_0 a0_1 a0_2 a0_3 a0_4 a0_5 a0_6 _ _ l0_7 _ _ l0_8 _ _ t288 t299 t302 _ ?side1 ?side2 ?side3 ?side4 ?side5 ?side6 A61.out).mono ?_); (case side1 => repeat (first | exact (Kd.C_below HR0_7.out HB.out) | (with_reducible refine Kd.C_alloc ?_ _) | (with_reducible refine Kd.C_drewN ?_ _) | (with_reducible refine Kd.C_drew ?_))); (case side2 => exact HC0_7.out); (case side3 => repeat (first | exact (Kd.C_below HR0_8.out HB.out) | (with_reducible refine Kd.C_alloc ?_ _) | (with_reducible refine Kd.C_drewN ?_ _) | (with_reducible refine Kd.C_drew ?_))); (case side4 => exact HC0_8.out); (case side5 => repeat (first | exact (Kd.R_reads' HO_13.out).2.2 | (with_reducible refine Kd.C_alloc ?_ _) | (with_reducible refine Kd.C_drewN ?_ _) | (with_reducible refine Kd.C_drew ?_))); (case side6 => exact (Kd.R_reads' HO_13.out).2.1); rintro e w68 ⟨v300, rfl, ho0, hb⟩; refine ⟨_, rfl, ?_⟩; have HO301 := Aside0.mk (Kd.R_lower ho0 (below_size zbzr)); replace HO_13 := zrbr HO_13 hb; replace HO_16 := zrbr HO_16 hb; replace BK282 := zbbr BK282 hb; replace BK283 := zbbr BK283 hb; replace BK284 := zbbr BK284 hb; replace BK285 := zbbr BK285 hb; replace HB := zbsr HB hb; (try clear hb); (try clear hb2); (try clear hk); (try clear hi); (try clear ho0)))
          (try simp only [Act.put, List.setIfInBounds_toArray, List.set_cons_zero, List.set_cons_succ])
          go_cut [115] (fun v115 wc => ∃ (kq : Nat) (x115_61 : Bool), v115 = .bool x115_61 ∧ Aside0 (isobathtop_TopSearched.j2 kq a3 t288 t291 t294 t299 x115_61 a0_0 a0_1 a0_2 a0_3 a0_4 a0_5 a0_6 l0_7 l0_8 a1_0 a1_1 a1_2 a1_3 a1_4 a1_5 a1_6 a2_0 a2_1 a2_2 a2_3 a5_0 a5_1 a5_2 a5_3 a5_4 a5_5 = some r) ∧ Aside0 (kq ≤ kj35) ∧ Aside0 (Kd.R k29 29 wc w.heap.size (fun k_ => some k_ ≠ (v295 : Value).ownBlock ∧ k_ ≠ gb284) (.slice Ao67 t288.length co67) t288) ∧ Aside0 (Kd.R k29 29 wc w.heap.size (fun k_ => some k_ ≠ ((.slice Ao67 t288.length co67) : Value).ownBlock ∧ k_ ≠ gb284) v295 t294) ∧ Aside0 (Kd.R (Kd.int .i64) 46 wc w.heap.size (fun _ => True) v300 t299) ∧ Aside0 (wc.heap[gb282]? = some (.cells #[.int .i64 a0_0, .int .i64 a0_1, .int .i64 a0_2, .int .i64 a0_3, .int .i64 a0_4, .int .i64 a0_5, .int .i64 a0_6, (.slice A0_7 l0_7.length c0_7), (.slice A0_8 l0_8.length c0_8)] 25 (0, 0))) ∧ Aside0 (wc.heap[gb283]? = some (.cells #[.int .i64 a1_0, .int .i64 a1_1, .int .i64 a1_2, .int .i64 a1_3, .int .i64 a1_4, .int .i64 a1_5, .int .i64 a1_6] 41 (0, 0))) ∧ Aside0 (wc.heap[gb284]? = some (.cells #[.int .i64 a2_0, .int .i64 a2_1, .int .i64 a2_2, .int .i64 a2_3] 29 (0, 0))) ∧ Aside0 (wc.heap[gb285]? = some (.cells #[.int .i64 a5_0, .int .i64 a5_1, .int .i64 a5_2, .int .i64 a5_3, .int .i64 a5_4, .int .i64 a5_5] 44 (0, 0))) ∧ Aside0 (Below w.heap.size w wc))
          case first =>
           as_aux_lemma =>
            have H := HC62.out
            clear HC62
            by_cases c69 : t302 = 0
            ·rw [if_pos c69] at H
             have c69b0 : (t302 == 0) = true := beq_iff_eq.mpr c69
             have c69b1 : (t302 != 0) = false := bne_eq_false_iff_eq.mpr c69
             clear c69
             (first | rw [c69b0] | (simp only [i64_w, i32_w]; rw [c69b0]) | skip)
             have H' := Aside0.mk H
             clear H
             obtain ⟨Ao70, co70, eo70⟩ := Kd.R_slice HO301.out
             subst eo70
             have hnb71 := NB282_283.out
             have hnc71 := NB283_282.out
             have hnb72 := NB282_284.out
             have hnc72 := NB284_282.out
             have hnb73 := NB282_285.out
             have hnc73 := NB285_282.out
             obtain ⟨hcz74_0, hcz74_1, hcz74_2, hcz74_3, hcz74_4, hcz74_5, hcz74_6, hcz74_7, hcz74_8, hfz74_0, hfz74_1, hfz74_2, hfz74_3, hfz74_4, hfz74_5, hfz74_6, hfz74_7, hfz74_8⟩ := zce9 BK282.out
             go_wp2
             go_meet
             case rel => exact ⟨_, (((t299.length : Int) != (wrap64 (a0_0 * a0_1)))), zq4, H', ⟨by have := HJ6.out; have := HJ35.out; first | omega | exact Nat.le_refl _⟩, ⟨zq45⟩, ⟨zq46⟩, ⟨by (with_reducible repeat (first | apply Kd.R_alloc | apply Kd.R_drewN | apply Kd.R_drew)); exact HO301.out⟩, ⟨zbfr⟩, ⟨zbfr⟩, ⟨zbfr⟩, ⟨zbfr⟩, ⟨zbzr⟩⟩
            ·rw [if_neg c69] at H
             have c69b0 : (t302 == 0) = false := beq_eq_false_iff_ne.mpr c69
             have c69b1 : (t302 != 0) = true := bne_iff_ne.mpr c69
             (first | rw [c69b0] | (simp only [i64_w, i32_w]; rw [c69b0]) | skip)
             have H' := Aside0.mk H
             clear H
             go_wp2
             go_meet
             case rel => exact ⟨_, (true), zq4, H', ⟨by have := HJ6.out; have := HJ35.out; first | omega | exact Nat.le_refl _⟩, ⟨zq45⟩, ⟨zq46⟩, ⟨by (with_reducible repeat (first | apply Kd.R_alloc | apply Kd.R_drewN | apply Kd.R_drew)); exact HO301.out⟩, ⟨zbfr⟩, ⟨zbfr⟩, ⟨zbfr⟩, ⟨zbfr⟩, ⟨zbzr⟩⟩
          case rest =>
           as_aux_lemma =>
            clear HC62
            try clear c1
            try clear c2
            try clear p2
            try clear c3
            try clear c4
            try clear c5
            try clear c6
            try clear p6
            try clear c7
            try clear c9
            try clear c11
            try clear c12
            try clear c13
            try clear c14
            try clear c15
            try clear c16
            try clear c19
            try clear c19b0
            try clear c19b1
            try clear c20
            try clear c21
            try clear c22
            try clear c25
            try clear c26
            try clear c27
            try clear c30
            try clear c34
            try clear c34b0
            try clear c34b1
            try clear c37
            try clear c38
            try clear c39
            try clear c41
            try clear c42
            try clear c43
            try clear c44
            try clear c51
            try clear c51b0
            try clear c51b1
            try clear c52
            try clear c52b0
            try clear c52b1
            try clear c53
            try clear c53b0
            try clear c53b1
            try clear c57
            try clear c58
            try clear c58b0
            try clear c58b1
            try clear c63
            try clear c64
            try clear p64
            try clear c65
            try clear c69
            try clear c69b0
            try clear c69b1
            try clear c71
            try clear c72
            try clear c73
            try clear hcz17_0 hcz17_1 hcz17_2 hcz17_3 hcz17_4 hcz17_5 hcz17_6 hcz17_7 hcz17_8
            try clear hcz23_0 hcz23_1 hcz23_2 hcz23_3 hcz23_4 hcz23_5 hcz23_6 hcz23_7 hcz23_8
            try clear hcz28_0 hcz28_1 hcz28_2 hcz28_3 hcz28_4 hcz28_5 hcz28_6 hcz28_7 hcz28_8
            try clear hcz40_0 hcz40_1 hcz40_2 hcz40_3 hcz40_4 hcz40_5 hcz40_6 hcz40_7 hcz40_8
            try clear hcz43_0 hcz43_1 hcz43_2 hcz43_3 hcz43_4 hcz43_5 hcz43_6
            try clear hcz45_0 hcz45_1 hcz45_2 hcz45_3
            try clear hcz47_0 hcz47_1 hcz47_2 hcz47_3 hcz47_4 hcz47_5 hcz47_6 hcz47_7 hcz47_8
            try clear hcz48_0 hcz48_1 hcz48_2 hcz48_3 hcz48_4 hcz48_5 hcz48_6
            try clear hcz49_0 hcz49_1 hcz49_2 hcz49_3
            try clear hcz66_0 hcz66_1 hcz66_2 hcz66_3 hcz66_4 hcz66_5 hcz66_6 hcz66_7 hcz66_8
            try clear hcz74_0 hcz74_1 hcz74_2 hcz74_3 hcz74_4 hcz74_5 hcz74_6 hcz74_7 hcz74_8
            try clear hfz17_0 hfz17_1 hfz17_2 hfz17_3 hfz17_4 hfz17_5 hfz17_6 hfz17_7 hfz17_8
            try clear hfz23_0 hfz23_1 hfz23_2 hfz23_3 hfz23_4 hfz23_5 hfz23_6 hfz23_7 hfz23_8
            try clear hfz28_0 hfz28_1 hfz28_2 hfz28_3 hfz28_4 hfz28_5 hfz28_6 hfz28_7 hfz28_8
            try clear hfz40_0 hfz40_1 hfz40_2 hfz40_3 hfz40_4 hfz40_5 hfz40_6 hfz40_7 hfz40_8
            try clear hfz43_0 hfz43_1 hfz43_2 hfz43_3 hfz43_4 hfz43_5 hfz43_6
            try clear hfz45_0 hfz45_1 hfz45_2 hfz45_3
            try clear hfz47_0 hfz47_1 hfz47_2 hfz47_3 hfz47_4 hfz47_5 hfz47_6 hfz47_7 hfz47_8
            try clear hfz48_0 hfz48_1 hfz48_2 hfz48_3 hfz48_4 hfz48_5 hfz48_6
            try clear hfz49_0 hfz49_1 hfz49_2 hfz49_3
            try clear hfz66_0 hfz66_1 hfz66_2 hfz66_3 hfz66_4 hfz66_5 hfz66_6 hfz66_7 hfz66_8
            try clear hfz74_0 hfz74_1 hfz74_2 hfz74_3 hfz74_4 hfz74_5 hfz74_6 hfz74_7 hfz74_8
            try clear p2
            obtain ⟨kq, x115_61, rfl, HA, HJ61, HO_13, HO_16, HO_17, BK282, BK283, BK284, BK285, HB⟩ := hcut
            cases kq with
            | zero => exact absurd HA.out (by simp [isobathtop_TopSearched.j2])
            | succ kj61 =>
             have H := HA.out
             clear HA
             simp only [isobathtop_TopSearched.j2] at H
             by_cases c75 : x115_61 = true
             ·subst c75
              have H1 : (some false) = some r := by rw [if_pos rfl] at H; exact H
              clear H
              have H := H1
              clear H1
              have hh_ := Option.some.inj H
              rw [hr_.out] at hh_
              cases hh_
             ·replace c75 := Bool.eq_false_iff.mpr c75
              subst c75
              have H1 : (isobathtop_TopSearched.l0 kj61 a3 t288 t291 t294 t299 0 a0_0 a0_1 a0_2 a0_3 a0_4 a0_5 a0_6 l0_7 l0_8 a1_0 a1_1 a1_2 a1_3 a1_4 a1_5 a1_6 a2_0 a2_1 a2_2 a2_3 a5_0 a5_1 a5_2 a5_3 a5_4 a5_5) = some r := by rw [if_neg (show ¬ (false = true) by decide)] at H; exact H
              clear H
              have H := H1
              clear H1
              have H' := Aside0.mk H
              clear H
              go_wp2
              go_loopg [18] kj61 (fun kq v18 w' => ∃ (x18_4 : Int), v18 = .int .i64 x18_4 ∧ Aside0 (isobathtop_TopSearched.l0 kq a3 t288 t291 t294 t299 x18_4 a0_0 a0_1 a0_2 a0_3 a0_4 a0_5 a0_6 l0_7 l0_8 a1_0 a1_1 a1_2 a1_3 a1_4 a1_5 a1_6 a2_0 a2_1 a2_2 a2_3 a5_0 a5_1 a5_2 a5_3 a5_4 a5_5 = some r) ∧ Aside0 (kq ≤ kj61) ∧ Aside0 (Kd.R k29 29 w' w.heap.size (fun k_ => some k_ ≠ (v295 : Value).ownBlock ∧ k_ ≠ gb284) (.slice Ao67 t288.length co67) t288) ∧ Aside0 (Kd.R k29 29 w' w.heap.size (fun k_ => some k_ ≠ ((.slice Ao67 t288.length co67) : Value).ownBlock ∧ k_ ≠ gb284) v295 t294) ∧ Aside0 (Kd.R (Kd.int .i64) 46 w' w.heap.size (fun _ => True) v300 t299) ∧ Aside0 (w'.heap[gb282]? = some (.cells #[.int .i64 a0_0, .int .i64 a0_1, .int .i64 a0_2, .int .i64 a0_3, .int .i64 a0_4, .int .i64 a0_5, .int .i64 a0_6, (.slice A0_7 l0_7.length c0_7), (.slice A0_8 l0_8.length c0_8)] 25 (0, 0))) ∧ Aside0 (w'.heap[gb283]? = some (.cells #[.int .i64 a1_0, .int .i64 a1_1, .int .i64 a1_2, .int .i64 a1_3, .int .i64 a1_4, .int .i64 a1_5, .int .i64 a1_6] 41 (0, 0))) ∧ Aside0 (w'.heap[gb284]? = some (.cells #[.int .i64 a2_0, .int .i64 a2_1, .int .i64 a2_2, .int .i64 a2_3] 29 (0, 0))) ∧ Aside0 (w'.heap[gb285]? = some (.cells #[.int .i64 a5_0, .int .i64 a5_1, .int .i64 a5_2, .int .i64 a5_3, .int .i64 a5_4, .int .i64 a5_5] 44 (0, 0))) ∧ Aside0 (Below w.heap.size w w'))
              case atStart => exact ⟨(0), zq4, H', ⟨Nat.le_refl _⟩, ⟨zq45⟩, ⟨zq46⟩, ⟨zq47⟩, ⟨zbfr⟩, ⟨zbfr⟩, ⟨zbfr⟩, ⟨zbfr⟩, ⟨zbzr⟩⟩
              case round =>
               as_aux_lemma =>
                clear H'
                try clear c1
                try clear c2
                try clear p2
                try clear c3
                try clear c4
                try clear c5
                try clear c6
                try clear p6
                try clear c7
                try clear c9
                try clear c11
                try clear c12
                try clear c13
                try clear c14
                try clear c15
                try clear c16
                try clear c19
                try clear c19b0
                try clear c19b1
                try clear c20
                try clear c21
                try clear c22
                try clear c25
                try clear c26
                try clear c27
                try clear c30
                try clear c34
                try clear c34b0
                try clear c34b1
                try clear c37
                try clear c38
                try clear c39
                try clear c41
                try clear c42
                try clear c43
                try clear c44
                try clear c51
                try clear c51b0
                try clear c51b1
                try clear c52
                try clear c52b0
                try clear c52b1
                try clear c53
                try clear c53b0
                try clear c53b1
                try clear c57
                try clear c58
                try clear c58b0
                try clear c58b1
                try clear c63
                try clear c64
                try clear p64
                try clear c65
                try clear c69
                try clear c69b0
                try clear c69b1
                try clear c71
                try clear c72
                try clear c73
                try clear c75
                try clear hcz17_0 hcz17_1 hcz17_2 hcz17_3 hcz17_4 hcz17_5 hcz17_6 hcz17_7 hcz17_8
                try clear hcz23_0 hcz23_1 hcz23_2 hcz23_3 hcz23_4 hcz23_5 hcz23_6 hcz23_7 hcz23_8
                try clear hcz28_0 hcz28_1 hcz28_2 hcz28_3 hcz28_4 hcz28_5 hcz28_6 hcz28_7 hcz28_8
                try clear hcz40_0 hcz40_1 hcz40_2 hcz40_3 hcz40_4 hcz40_5 hcz40_6 hcz40_7 hcz40_8
                try clear hcz43_0 hcz43_1 hcz43_2 hcz43_3 hcz43_4 hcz43_5 hcz43_6
                try clear hcz45_0 hcz45_1 hcz45_2 hcz45_3
                try clear hcz47_0 hcz47_1 hcz47_2 hcz47_3 hcz47_4 hcz47_5 hcz47_6 hcz47_7 hcz47_8
                try clear hcz48_0 hcz48_1 hcz48_2 hcz48_3 hcz48_4 hcz48_5 hcz48_6
                try clear hcz49_0 hcz49_1 hcz49_2 hcz49_3
                try clear hcz66_0 hcz66_1 hcz66_2 hcz66_3 hcz66_4 hcz66_5 hcz66_6 hcz66_7 hcz66_8
                try clear hcz74_0 hcz74_1 hcz74_2 hcz74_3 hcz74_4 hcz74_5 hcz74_6 hcz74_7 hcz74_8
                try clear hfz17_0 hfz17_1 hfz17_2 hfz17_3 hfz17_4 hfz17_5 hfz17_6 hfz17_7 hfz17_8
                try clear hfz23_0 hfz23_1 hfz23_2 hfz23_3 hfz23_4 hfz23_5 hfz23_6 hfz23_7 hfz23_8
                try clear hfz28_0 hfz28_1 hfz28_2 hfz28_3 hfz28_4 hfz28_5 hfz28_6 hfz28_7 hfz28_8
                try clear hfz40_0 hfz40_1 hfz40_2 hfz40_3 hfz40_4 hfz40_5 hfz40_6 hfz40_7 hfz40_8
                try clear hfz43_0 hfz43_1 hfz43_2 hfz43_3 hfz43_4 hfz43_5 hfz43_6
                try clear hfz45_0 hfz45_1 hfz45_2 hfz45_3
                try clear hfz47_0 hfz47_1 hfz47_2 hfz47_3 hfz47_4 hfz47_5 hfz47_6 hfz47_7 hfz47_8
                try clear hfz48_0 hfz48_1 hfz48_2 hfz48_3 hfz48_4 hfz48_5 hfz48_6
                try clear hfz49_0 hfz49_1 hfz49_2 hfz49_3
                try clear hfz66_0 hfz66_1 hfz66_2 hfz66_3 hfz66_4 hfz66_5 hfz66_6 hfz66_7 hfz66_8
                try clear hfz74_0 hfz74_1 hfz74_2 hfz74_3 hfz74_4 hfz74_5 hfz74_6 hfz74_7 hfz74_8
                try clear p2
                try clear p6
                try clear p64
                obtain ⟨x18_4, rfl, HA, HK4, HO_13, HO_16, HO_17, BK282, BK283, BK284, BK285, HB⟩ := hrel
                cases gk with
                | zero => exact absurd HA.out (by simp [isobathtop_TopSearched.l0])
                | succ k4 =>
                 have H := HA.out
                 clear HA
                 simp only [isobathtop_TopSearched.l0] at H
                 by_cases c76 : x18_4 < (t299.length : Int)
                 ·rw [if_pos c76] at H
                  have c76b0 : decide (x18_4 < (t299.length : Int)) = true := decide_eq_true c76
                  clear c76
                  by_cases c77 : a0_0 = 0
                  ·rw [if_pos c77] at H
                   exact absurd H (by simp)
                  ·rw [if_neg c77] at H
                   have c77b0 : (a0_0 == 0) = false := beq_eq_false_iff_ne.mpr c77
                   have c77b1 : (a0_0 != 0) = true := bne_iff_ne.mpr c77
                   have H' := Aside0.mk H
                   clear H
                   obtain ⟨Ao78, co78, eo78⟩ := Kd.R_slice HO_17.out
                   subst eo78
                   try go_wp2
                   replace HO_13 := Aside0.mk (Kd.R_drew HO_13.out)
                   replace HO_16 := Aside0.mk (Kd.R_drew HO_16.out)
                   replace HO_17 := Aside0.mk (Kd.R_drew HO_17.out)
                   replace BK282 := Aside0.mk (blk_drew BK282.out)
                   replace BK283 := Aside0.mk (blk_drew BK283.out)
                   replace BK284 := Aside0.mk (blk_drew BK284.out)
                   replace BK285 := Aside0.mk (blk_drew BK285.out)
                   replace HB := Aside0.mk (below_drew1 HB.out)
                   refine start_ (n := 16) (S := fun w' => w'.cell? ⟨gb282, 0, none⟩ = some (.int .i64 a0_0) ∧ w'.cell? ⟨gb282, 1, none⟩ = some (.int .i64 a0_1) ∧ w'.cell? ⟨gb282, 2, none⟩ = some (.int .i64 a0_2) ∧ w'.cell? ⟨gb282, 3, none⟩ = some (.int .i64 a0_3) ∧ w'.cell? ⟨gb282, 4, none⟩ = some (.int .i64 a0_4) ∧ w'.cell? ⟨gb282, 5, none⟩ = some (.int .i64 a0_5) ∧ w'.cell? ⟨gb282, 6, none⟩ = some (.int .i64 a0_6) ∧ w'.cell? ⟨gb282, 7, none⟩ = some (.slice A0_7 l0_7.length c0_7) ∧ w'.cell? ⟨gb282, 8, none⟩ = some (.slice A0_8 l0_8.length c0_8)) (ds := []) #[false, false, false, false, false, false, false, false, false, false, false, false, false, false, false, false] zq3 rfl rfl (zcs9 BK282.out) (fun hHeld => ?_); refine with_tabW isobathtop_TopSearched.tab15 isobathtop_TopSearched.bits15 (fun HT_ HW_ => ?_)
                   generalize wr.drew = w79 at HO_13 HO_16 HO_17 BK282 BK283 BK284 BK285 HB hHeld ⊢
                   refine zpz (i := 0) (N := some 122) (any_of HT_.out zq3) ?_
                   refine zpz (i := 1) (N := some 123) (any_of HT_.out zq3) ?_
                   refine zpz (i := 4) (N := some 126) (any_of HT_.out zq3) ?_
                   refine zpz (i := 7) (N := some 129) (any_of HT_.out zq3) ?_
                   refine zpz (i := 8) (N := some 130) (any_of HT_.out zq3) ?_
                   refine zpz (i := 11) (N := some 133) (any_of HT_.out zq3) ?_
                   refine ztz (i := 2) (N := some 124) (take_ofW HT_.out HW_.out zq3) hHeld ?_
                   refine zpz (i := 3) (N := some 125) (any_of HT_.out zq3) ?_
                   refine ztz (i := 5) (N := some 127) (take_ofW HT_.out HW_.out zq3) hHeld ?_
                   refine zpz (i := 6) (N := some 128) (any_of HT_.out zq3) ?_
                   refine zpz (i := 14) (N := some 19) (any_of HT_.out zq3) ?_
                   refine ztz (i := 9) (N := some 131) (take_ofW HT_.out HW_.out zq3) hHeld ?_
                   refine zpz (i := 10) (N := some 132) (any_of HT_.out zq3) ?_
                   refine ztz (i := 12) (N := some 134) (take_ofW HT_.out HW_.out zq3) hHeld ?_
                   refine zpz (i := 13) (N := some 135) (any_of HT_.out zq3) ?_
                   refine zpz (i := 15) (N := some 20) (any_of HT_.out zq3) ?_
                   refine done_ (done_of HT_.out zq3) ?_
                   try go_wp2
                   go_loopg [21, 22] k4 (fun kq v21 v22 w' => ∃ (x21_5 : Bool) (x22_5 : Int), v21 = .bool x21_5 ∧ v22 = .int .i64 x22_5 ∧ Aside0 (isobathtop_TopSearched.l1 kq a3 t288 t291 t294 t299 x18_4 (wrap64 ((Int.tmod x18_4 a0_0) * a0_2)) (wrap64 ((wrap64 (Int.tdiv x18_4 a0_0)) * a0_2)) x21_5 x22_5 a0_0 a0_1 a0_2 a0_3 a0_4 a0_5 a0_6 l0_7 l0_8 a1_0 a1_1 a1_2 a1_3 a1_4 a1_5 a1_6 a2_0 a2_1 a2_2 a2_3 a5_0 a5_1 a5_2 a5_3 a5_4 a5_5 = some r) ∧ Aside0 (kq ≤ k4) ∧ Aside0 (Kd.R k29 29 w' w.heap.size (fun k_ => some k_ ≠ (v295 : Value).ownBlock ∧ k_ ≠ gb284) (.slice Ao67 t288.length co67) t288) ∧ Aside0 (Kd.R k29 29 w' w.heap.size (fun k_ => some k_ ≠ ((.slice Ao67 t288.length co67) : Value).ownBlock ∧ k_ ≠ gb284) v295 t294) ∧ Aside0 (Kd.R (Kd.int .i64) 46 w' w.heap.size (fun _ => True) (.slice Ao78 t299.length co78) t299) ∧ Aside0 (w'.heap[gb282]? = some (.cells #[.int .i64 a0_0, .int .i64 a0_1, .int .i64 a0_2, .int .i64 a0_3, .int .i64 a0_4, .int .i64 a0_5, .int .i64 a0_6, (.slice A0_7 l0_7.length c0_7), (.slice A0_8 l0_8.length c0_8)] 25 (0, 0))) ∧ Aside0 (w'.heap[gb283]? = some (.cells #[.int .i64 a1_0, .int .i64 a1_1, .int .i64 a1_2, .int .i64 a1_3, .int .i64 a1_4, .int .i64 a1_5, .int .i64 a1_6] 41 (0, 0))) ∧ Aside0 (w'.heap[gb284]? = some (.cells #[.int .i64 a2_0, .int .i64 a2_1, .int .i64 a2_2, .int .i64 a2_3] 29 (0, 0))) ∧ Aside0 (w'.heap[gb285]? = some (.cells #[.int .i64 a5_0, .int .i64 a5_1, .int .i64 a5_2, .int .i64 a5_3, .int .i64 a5_4, .int .i64 a5_5] 44 (0, 0))) ∧ Aside0 (Below w.heap.size w w'))
                   case atStart => exact ⟨(false), (0), zq4, zq4, H', ⟨Nat.le_refl _⟩, ⟨zq45⟩, ⟨zq46⟩, ⟨zq47⟩, ⟨zbfr⟩, ⟨zbfr⟩, ⟨zbfr⟩, ⟨zbfr⟩, ⟨zbzr⟩⟩
                   case round =>
                    as_aux_lemma =>
                     clear H'
                     try clear c1
                     try clear c2
                     try clear p2
                     try clear c3
                     try clear c4
                     try clear c5
                     try clear c6
                     try clear p6
                     try clear c7
                     try clear c9
                     try clear c11
                     try clear c12
                     try clear c13
                     try clear c14
                     try clear c15
                     try clear c16
                     try clear c19
                     try clear c19b0
                     try clear c19b1
                     try clear c20
                     try clear c21
                     try clear c22
                     try clear c25
                     try clear c26
                     try clear c27
                     try clear c30
                     try clear c34
                     try clear c34b0
                     try clear c34b1
                     try clear c37
                     try clear c38
                     try clear c39
                     try clear c41
                     try clear c42
                     try clear c43
                     try clear c44
                     try clear c51
                     try clear c51b0
                     try clear c51b1
                     try clear c52
                     try clear c52b0
                     try clear c52b1
                     try clear c53
                     try clear c53b0
                     try clear c53b1
                     try clear c57
                     try clear c58
                     try clear c58b0
                     try clear c58b1
                     try clear c63
                     try clear c64
                     try clear p64
                     try clear c65
                     try clear c69
                     try clear c69b0
                     try clear c69b1
                     try clear c71
                     try clear c72
                     try clear c73
                     try clear c75
                     try clear c76
                     try clear c76b0
                     try clear c77
                     try clear c77b0
                     try clear c77b1
                     try clear hcz17_0 hcz17_1 hcz17_2 hcz17_3 hcz17_4 hcz17_5 hcz17_6 hcz17_7 hcz17_8
                     try clear hcz23_0 hcz23_1 hcz23_2 hcz23_3 hcz23_4 hcz23_5 hcz23_6 hcz23_7 hcz23_8
                     try clear hcz28_0 hcz28_1 hcz28_2 hcz28_3 hcz28_4 hcz28_5 hcz28_6 hcz28_7 hcz28_8
                     try clear hcz40_0 hcz40_1 hcz40_2 hcz40_3 hcz40_4 hcz40_5 hcz40_6 hcz40_7 hcz40_8
                     try clear hcz43_0 hcz43_1 hcz43_2 hcz43_3 hcz43_4 hcz43_5 hcz43_6
                     try clear hcz45_0 hcz45_1 hcz45_2 hcz45_3
                     try clear hcz47_0 hcz47_1 hcz47_2 hcz47_3 hcz47_4 hcz47_5 hcz47_6 hcz47_7 hcz47_8
                     try clear hcz48_0 hcz48_1 hcz48_2 hcz48_3 hcz48_4 hcz48_5 hcz48_6
                     try clear hcz49_0 hcz49_1 hcz49_2 hcz49_3
                     try clear hcz66_0 hcz66_1 hcz66_2 hcz66_3 hcz66_4 hcz66_5 hcz66_6 hcz66_7 hcz66_8
                     try clear hcz74_0 hcz74_1 hcz74_2 hcz74_3 hcz74_4 hcz74_5 hcz74_6 hcz74_7 hcz74_8
                     try clear hfz17_0 hfz17_1 hfz17_2 hfz17_3 hfz17_4 hfz17_5 hfz17_6 hfz17_7 hfz17_8
                     try clear hfz23_0 hfz23_1 hfz23_2 hfz23_3 hfz23_4 hfz23_5 hfz23_6 hfz23_7 hfz23_8
                     try clear hfz28_0 hfz28_1 hfz28_2 hfz28_3 hfz28_4 hfz28_5 hfz28_6 hfz28_7 hfz28_8
                     try clear hfz40_0 hfz40_1 hfz40_2 hfz40_3 hfz40_4 hfz40_5 hfz40_6 hfz40_7 hfz40_8
                     try clear hfz43_0 hfz43_1 hfz43_2 hfz43_3 hfz43_4 hfz43_5 hfz43_6
                     try clear hfz45_0 hfz45_1 hfz45_2 hfz45_3
                     try clear hfz47_0 hfz47_1 hfz47_2 hfz47_3 hfz47_4 hfz47_5 hfz47_6 hfz47_7 hfz47_8
                     try clear hfz48_0 hfz48_1 hfz48_2 hfz48_3 hfz48_4 hfz48_5 hfz48_6
                     try clear hfz49_0 hfz49_1 hfz49_2 hfz49_3
                     try clear hfz66_0 hfz66_1 hfz66_2 hfz66_3 hfz66_4 hfz66_5 hfz66_6 hfz66_7 hfz66_8
                     try clear hfz74_0 hfz74_1 hfz74_2 hfz74_3 hfz74_4 hfz74_5 hfz74_6 hfz74_7 hfz74_8
                     try clear p2
                     try clear p6
                     try clear p64
                     obtain ⟨x21_5, x22_5, rfl, rfl, HA, HK5, HO_13, HO_16, HO_17, BK282, BK283, BK284, BK285, HB⟩ := hrel
                     cases gk with
                     | zero => exact absurd HA.out (by simp [isobathtop_TopSearched.l1])
                     | succ k5 =>
                      have H := HA.out
                      clear HA
                      simp only [isobathtop_TopSearched.l1] at H
                      by_cases c80 : x22_5 < t291
                      ·rw [if_pos c80] at H
                       have c80b0 : decide (x22_5 < t291) = true := decide_eq_true c80
                       clear c80
                       by_cases c81 : 0 ≤ x22_5
                       ·rw [if_pos c81] at H
                        have c81b0 : decide (0 ≤ x22_5) = true := decide_eq_true c81
                        clear c81
                        by_cases c82 : x22_5 < (t294.length : Int)
                        ·rw [if_pos c82] at H
                         have c82b0 : decide (x22_5 < (t294.length : Int)) = true := decide_eq_true c82
                         clear c82
                         replace H := Option.bind_eq_some_iff.mp H
                         obtain ⟨⟨t305, t306⟩, A830, H⟩ := H
                         replace H : ((bound_In.f k5 ((rd_T29 t294 x22_5).f1.f0) ((rd_T29 t294 x22_5).f1.f1) (wrap64 ((wrap64 (Int.tdiv x18_4 a0_0)) * a0_2)) (wrap64 ((wrap64 ((wrap64 (Int.tdiv x18_4 a0_0)) * a0_2)) + a0_2))).bind fun bt308 => (if t306 = 0 then (if bt308.2 = 0 then (if x21_5 = true then (isobathtop_TopSearched.l1 k5 a3 t288 t291 t294 t299 x18_4 (wrap64 ((Int.tmod x18_4 a0_0) * a0_2)) (wrap64 ((wrap64 (Int.tdiv x18_4 a0_0)) * a0_2)) true (wrap64 (x22_5 + 1)) a0_0 a0_1 a0_2 a0_3 a0_4 a0_5 a0_6 l0_7 l0_8 a1_0 a1_1 a1_2 a1_3 a1_4 a1_5 a1_6 a2_0 a2_1 a2_2 a2_3 a5_0 a5_1 a5_2 a5_3 a5_4 a5_5) else (if t305 = 0 then (isobathtop_TopSearched.l1 k5 a3 t288 t291 t294 t299 x18_4 (wrap64 ((Int.tmod x18_4 a0_0) * a0_2)) (wrap64 ((wrap64 (Int.tdiv x18_4 a0_0)) * a0_2)) false (wrap64 (x22_5 + 1)) a0_0 a0_1 a0_2 a0_3 a0_4 a0_5 a0_6 l0_7 l0_8 a1_0 a1_1 a1_2 a1_3 a1_4 a1_5 a1_6 a2_0 a2_1 a2_2 a2_3 a5_0 a5_1 a5_2 a5_3 a5_4 a5_5) else (isobathtop_TopSearched.l1 k5 a3 t288 t291 t294 t299 x18_4 (wrap64 ((Int.tmod x18_4 a0_0) * a0_2)) (wrap64 ((wrap64 (Int.tdiv x18_4 a0_0)) * a0_2)) (bt308.1 != 0) (wrap64 (x22_5 + 1)) a0_0 a0_1 a0_2 a0_3 a0_4 a0_5 a0_6 l0_7 l0_8 a1_0 a1_1 a1_2 a1_3 a1_4 a1_5 a1_6 a2_0 a2_1 a2_2 a2_3 a5_0 a5_1 a5_2 a5_3 a5_4 a5_5))) else (some false)) else (some false))) = some r := H
                         have A83 := Aside0.mk A830
                         clear A830
                         replace H := Option.bind_eq_some_iff.mp H
                         obtain ⟨⟨t308, t309⟩, A840, H⟩ := H
                         replace H : (if t306 = 0 then (if t309 = 0 then (if x21_5 = true then (isobathtop_TopSearched.l1 k5 a3 t288 t291 t294 t299 x18_4 (wrap64 ((Int.tmod x18_4 a0_0) * a0_2)) (wrap64 ((wrap64 (Int.tdiv x18_4 a0_0)) * a0_2)) true (wrap64 (x22_5 + 1)) a0_0 a0_1 a0_2 a0_3 a0_4 a0_5 a0_6 l0_7 l0_8 a1_0 a1_1 a1_2 a1_3 a1_4 a1_5 a1_6 a2_0 a2_1 a2_2 a2_3 a5_0 a5_1 a5_2 a5_3 a5_4 a5_5) else (if t305 = 0 then (isobathtop_TopSearched.l1 k5 a3 t288 t291 t294 t299 x18_4 (wrap64 ((Int.tmod x18_4 a0_0) * a0_2)) (wrap64 ((wrap64 (Int.tdiv x18_4 a0_0)) * a0_2)) false (wrap64 (x22_5 + 1)) a0_0 a0_1 a0_2 a0_3 a0_4 a0_5 a0_6 l0_7 l0_8 a1_0 a1_1 a1_2 a1_3 a1_4 a1_5 a1_6 a2_0 a2_1 a2_2 a2_3 a5_0 a5_1 a5_2 a5_3 a5_4 a5_5) else (isobathtop_TopSearched.l1 k5 a3 t288 t291 t294 t299 x18_4 (wrap64 ((Int.tmod x18_4 a0_0) * a0_2)) (wrap64 ((wrap64 (Int.tdiv x18_4 a0_0)) * a0_2)) (t308 != 0) (wrap64 (x22_5 + 1)) a0_0 a0_1 a0_2 a0_3 a0_4 a0_5 a0_6 l0_7 l0_8 a1_0 a1_1 a1_2 a1_3 a1_4 a1_5 a1_6 a2_0 a2_1 a2_2 a2_3 a5_0 a5_1 a5_2 a5_3 a5_4 a5_5))) else (some false)) else (some false)) = some r := H
                         have A84 := Aside0.mk A840
                         clear A840
                         by_cases c85 : t306 = 0
                         ·rw [if_pos c85] at H
                          have c85b0 : (t306 == 0) = true := beq_iff_eq.mpr c85
                          have c85b1 : (t306 != 0) = false := bne_eq_false_iff_eq.mpr c85
                          clear c85
                          by_cases c86 : t309 = 0
                          ·rw [if_pos c86] at H
                           have c86b0 : (t309 == 0) = true := beq_iff_eq.mpr c86
                           have c86b1 : (t309 != 0) = false := bne_eq_false_iff_eq.mpr c86
                           clear c86
                           by_cases c87 : x21_5 = true
                           ·subst c87
                            have H1 : (isobathtop_TopSearched.l1 k5 a3 t288 t291 t294 t299 x18_4 (wrap64 ((Int.tmod x18_4 a0_0) * a0_2)) (wrap64 ((wrap64 (Int.tdiv x18_4 a0_0)) * a0_2)) true (wrap64 (x22_5 + 1)) a0_0 a0_1 a0_2 a0_3 a0_4 a0_5 a0_6 l0_7 l0_8 a1_0 a1_1 a1_2 a1_3 a1_4 a1_5 a1_6 a2_0 a2_1 a2_2 a2_3 a5_0 a5_1 a5_2 a5_3 a5_4 a5_5) = some r := by rw [if_pos rfl] at H; exact H
                            clear H
                            have H := H1
                            clear H1
                            have H' := Aside0.mk H
                            clear H
                            try go_wp2
                            replace HO_13 := Aside0.mk (Kd.R_drew HO_13.out)
                            replace HO_16 := Aside0.mk (Kd.R_drew HO_16.out)
                            replace HO_17 := Aside0.mk (Kd.R_drew HO_17.out)
                            replace BK282 := Aside0.mk (blk_drew BK282.out)
                            replace BK283 := Aside0.mk (blk_drew BK283.out)
                            replace BK284 := Aside0.mk (blk_drew BK284.out)
                            replace BK285 := Aside0.mk (blk_drew BK285.out)
                            replace HB := Aside0.mk (below_drew1 HB.out)
                            obtain ⟨Ao89, co89, eo89⟩ := Kd.R_slice HO_16.out
                            (first | subst eo89 | (injection eo89 with f1_ f2_ f3_; have f4_ := f1_.symm; have f5_ := f3_.symm; clear f1_ f2_ f3_; subst f4_; subst f5_))
                            have p304 : 0 ≤ (x22_5 : Int) := of_decide_eq_true zq5
                            have q304 : x22_5 < (t294.length : Int) := of_decide_eq_true zq5
                            obtain ⟨ad304, e304, hx304_0, hx304_1, hx304_2, hx304_3⟩ := at_T29 (Kd.R_reads' HO_16.out).2.2 x22_5 p304 q304
                            cases e304
                            replace p304 := eq_true p304
                            replace q304 := eq_true q304
                            refine start_ (n := 17) (S := fun w' => w'.cell? ⟨gb282, 0, none⟩ = some (.int .i64 a0_0) ∧ w'.cell? ⟨gb282, 1, none⟩ = some (.int .i64 a0_1) ∧ w'.cell? ⟨gb282, 2, none⟩ = some (.int .i64 a0_2) ∧ w'.cell? ⟨gb282, 3, none⟩ = some (.int .i64 a0_3) ∧ w'.cell? ⟨gb282, 4, none⟩ = some (.int .i64 a0_4) ∧ w'.cell? ⟨gb282, 5, none⟩ = some (.int .i64 a0_5) ∧ w'.cell? ⟨gb282, 6, none⟩ = some (.int .i64 a0_6) ∧ w'.cell? ⟨gb282, 7, none⟩ = some (.slice A0_7 l0_7.length c0_7) ∧ w'.cell? ⟨gb282, 8, none⟩ = some (.slice A0_8 l0_8.length c0_8) ∧ w'.cell? (ad304.add ((x22_5).toNat * 4)) = some (.int .i64 ((rd_T29 t294 x22_5).f0.f0)) ∧ w'.cell? ⟨(ad304.add ((x22_5).toNat * 4)).block, (ad304.add ((x22_5).toNat * 4)).off + 1, none⟩ = some (.int .i64 ((rd_T29 t294 x22_5).f0.f1)) ∧ w'.cell? ⟨(ad304.add ((x22_5).toNat * 4)).block, (ad304.add ((x22_5).toNat * 4)).off + 2, none⟩ = some (.int .i64 ((rd_T29 t294 x22_5).f1.f0)) ∧ w'.cell? ⟨(ad304.add ((x22_5).toNat * 4)).block, (ad304.add ((x22_5).toNat * 4)).off + 3, none⟩ = some (.int .i64 ((rd_T29 t294 x22_5).f1.f1))) (ds := []) #[false, false, false, false, false, false, false, false, false, false, false, false, false, false, false, false, false] zq3 rfl rfl (zca9 BK282.out ⟨hx304_0, hx304_1, hx304_2, hx304_3⟩) (fun hHeld => ?_); refine with_tabW isobathtop_TopSearched.tab20 isobathtop_TopSearched.bits20 (fun HT_ HW_ => ?_)
                            generalize wr.drew = w88 at HO_13 HO_16 HO_17 BK282 BK283 BK284 BK285 HB hx304_0 hx304_1 hx304_2 hx304_3 hHeld ⊢
                            refine zpz (i := 0) (N := some 142) (any_of HT_.out zq3) ?_
                            refine zpz (i := 1) (N := some 143) (any_of HT_.out zq3) ?_
                            refine zpz (i := 2) (N := some 144) (any_of HT_.out zq3) ?_
                            refine zpz (i := 3) (N := some 145) (any_of HT_.out zq3) ?_
                            refine zpz (i := 5) (N := some 147) (any_of HT_.out zq3) ?_
                            refine zpz (i := 6) (N := some 148) (any_of HT_.out zq3) ?_
                            refine zpz (i := 7) (N := some 149) (any_of HT_.out zq3) ?_
                            refine ztz (i := 4) (N := some 146) (take_ofW HT_.out HW_.out zq3) hHeld ?_
                            refine ztz (i := 8) (N := some 150) (take_ofW HT_.out HW_.out zq3) hHeld ?_
                            refine zpz (i := 9) (N := some 151) (any_of HT_.out zq3) ?_
                            refine zpz (i := 10) (N := some 152) (any_of HT_.out zq3) ?_
                            refine one_ (i := 11) (N := some 153) #[true, true, true, true, true, true, true, true, true, true, true, true, false, false, false, false, false] rfl rfl (one_of HT_.out zq3) (by decide) (fun K hK => ?_)
                            refine goes_ Try.func45 zq3 rfl #[.agg #[.int .i64 ((rd_T29 t294 x22_5).f0.f0), .int .i64 ((rd_T29 t294 x22_5).f0.f1)], .agg #[.int .i64 (wrap64 ((Int.tmod x18_4 a0_0) * a0_2)), .int .i64 (wrap64 ((wrap64 ((Int.tmod x18_4 a0_0) * a0_2)) + a0_2))]] (by rfl) rfl rfl zq8 ?_
                            with_reducible refine (bound_In.calls k5 ((rd_T29 t294 x22_5).f0.f0) ((rd_T29 t294 x22_5).f0.f1) (wrap64 ((Int.tmod x18_4 a0_0) * a0_2)) (wrap64 ((wrap64 ((Int.tmod x18_4 a0_0) * a0_2)) + a0_2)) t305 t306 _ A83.out).mono ?_
                            rintro e w90 ⟨rfl, hb⟩
                            have HS9_ := (hb.cell (World.block_lt_of_cell? _ _ (hHeld.2.2.2.2.2.2.2.2.2.1))).trans (hHeld.2.2.2.2.2.2.2.2.2.1)
                            have HS10_ := (hb.cell (World.block_lt_of_cell? _ _ (hHeld.2.2.2.2.2.2.2.2.2.2.1))).trans (hHeld.2.2.2.2.2.2.2.2.2.2.1)
                            have HS11_ := (hb.cell (World.block_lt_of_cell? _ _ (hHeld.2.2.2.2.2.2.2.2.2.2.2.1))).trans (hHeld.2.2.2.2.2.2.2.2.2.2.2.1)
                            have HS12_ := (hb.cell (World.block_lt_of_cell? _ _ (hHeld.2.2.2.2.2.2.2.2.2.2.2.2))).trans (hHeld.2.2.2.2.2.2.2.2.2.2.2.2)
                            refine ⟨_, rfl, ?_⟩
                            replace HO_13 := zrbr HO_13 hb
                            replace HO_16 := zrbr HO_16 hb
                            replace HO_17 := zrbr HO_17 hb
                            replace BK282 := zbbr BK282 hb
                            replace BK283 := zbbr BK283 hb
                            replace BK284 := zbbr BK284 hb
                            replace BK285 := zbbr BK285 hb
                            replace HB := zbsr HB hb
                            (try clear hb)
                            (try clear hb2)
                            (try clear hk)
                            (try clear hi)
                            refine hK.out _ _ (zca9 BK282.out ⟨HS9_, HS10_, HS11_, HS12_⟩) (fun hHeld => ?_)
                            clear hK K
                            refine norm_ zq48 ?_
                            refine zpz (i := 12) (N := some 141) (any_of HT_.out zq3) ?_
                            refine zpz (i := 13) (N := some 154) (any_of HT_.out zq3) ?_
                            refine zpz (i := 14) (N := some 155) (any_of HT_.out zq3) ?_
                            refine zpz (i := 15) (N := some 23) (any_of HT_.out zq3) ?_
                            refine zpz (i := 16) (N := some 24) (any_of HT_.out zq3) ?_
                            refine done_ (done_of HT_.out zq3) ?_
                            try go_wp2
                            replace HO_13 := Aside0.mk (Kd.R_drew HO_13.out)
                            replace HO_16 := Aside0.mk (Kd.R_drew HO_16.out)
                            replace HO_17 := Aside0.mk (Kd.R_drew HO_17.out)
                            replace BK282 := Aside0.mk (blk_drew BK282.out)
                            replace BK283 := Aside0.mk (blk_drew BK283.out)
                            replace BK284 := Aside0.mk (blk_drew BK284.out)
                            replace BK285 := Aside0.mk (blk_drew BK285.out)
                            replace HB := Aside0.mk (below_drew1 HB.out)
                            have p307 : 0 ≤ (x22_5 : Int) := of_decide_eq_true zq5
                            have q307 : x22_5 < (t294.length : Int) := of_decide_eq_true zq5
                            obtain ⟨ad307, e307, hx307_0, hx307_1, hx307_2, hx307_3⟩ := at_T29 (Kd.R_reads' HO_16.out).2.2 x22_5 p307 q307
                            obtain rfl : ad304 = ad307 := (by injection e307)
                            replace p307 := eq_true p307
                            replace q307 := eq_true q307
                            refine start_ (n := 17) (S := fun w' => w'.cell? ⟨gb282, 0, none⟩ = some (.int .i64 a0_0) ∧ w'.cell? ⟨gb282, 1, none⟩ = some (.int .i64 a0_1) ∧ w'.cell? ⟨gb282, 2, none⟩ = some (.int .i64 a0_2) ∧ w'.cell? ⟨gb282, 3, none⟩ = some (.int .i64 a0_3) ∧ w'.cell? ⟨gb282, 4, none⟩ = some (.int .i64 a0_4) ∧ w'.cell? ⟨gb282, 5, none⟩ = some (.int .i64 a0_5) ∧ w'.cell? ⟨gb282, 6, none⟩ = some (.int .i64 a0_6) ∧ w'.cell? ⟨gb282, 7, none⟩ = some (.slice A0_7 l0_7.length c0_7) ∧ w'.cell? ⟨gb282, 8, none⟩ = some (.slice A0_8 l0_8.length c0_8) ∧ w'.cell? (ad304.add ((x22_5).toNat * 4)) = some (.int .i64 ((rd_T29 t294 x22_5).f0.f0)) ∧ w'.cell? ⟨(ad304.add ((x22_5).toNat * 4)).block, (ad304.add ((x22_5).toNat * 4)).off + 1, none⟩ = some (.int .i64 ((rd_T29 t294 x22_5).f0.f1)) ∧ w'.cell? ⟨(ad304.add ((x22_5).toNat * 4)).block, (ad304.add ((x22_5).toNat * 4)).off + 2, none⟩ = some (.int .i64 ((rd_T29 t294 x22_5).f1.f0)) ∧ w'.cell? ⟨(ad304.add ((x22_5).toNat * 4)).block, (ad304.add ((x22_5).toNat * 4)).off + 3, none⟩ = some (.int .i64 ((rd_T29 t294 x22_5).f1.f1))) (ds := []) #[false, false, false, false, false, false, false, false, false, false, false, false, false, false, false, false, false] zq3 rfl rfl (zca9 BK282.out ⟨hx307_0, hx307_1, hx307_2, hx307_3⟩) (fun hHeld => ?_); refine with_tabW isobathtop_TopSearched.tab21 isobathtop_TopSearched.bits21 (fun HT_ HW_ => ?_)
                            generalize w90.drew = w91 at HO_13 HO_16 HO_17 BK282 BK283 BK284 BK285 HB hx307_0 hx307_1 hx307_2 hx307_3 hHeld ⊢
                            refine zpz (i := 0) (N := some 157) (any_of HT_.out zq3) ?_
                            refine zpz (i := 1) (N := some 158) (any_of HT_.out zq3) ?_
                            refine zpz (i := 2) (N := some 159) (any_of HT_.out zq3) ?_
                            refine zpz (i := 3) (N := some 160) (any_of HT_.out zq3) ?_
                            refine zpz (i := 5) (N := some 162) (any_of HT_.out zq3) ?_
                            refine zpz (i := 6) (N := some 163) (any_of HT_.out zq3) ?_
                            refine zpz (i := 7) (N := some 164) (any_of HT_.out zq3) ?_
                            refine ztz (i := 4) (N := some 161) (take_ofW HT_.out HW_.out zq3) hHeld ?_
                            refine ztz (i := 8) (N := some 165) (take_ofW HT_.out HW_.out zq3) hHeld ?_
                            refine zpz (i := 9) (N := some 166) (any_of HT_.out zq3) ?_
                            refine zpz (i := 10) (N := some 167) (any_of HT_.out zq3) ?_
                            refine one_ (i := 11) (N := some 168) #[true, true, true, true, true, true, true, true, true, true, true, true, false, false, false, false, false] rfl rfl (one_of HT_.out zq3) (by decide) (fun K hK => ?_)
                            refine goes_ Try.func45 zq3 rfl #[.agg #[.int .i64 ((rd_T29 t294 x22_5).f1.f0), .int .i64 ((rd_T29 t294 x22_5).f1.f1)], .agg #[.int .i64 (wrap64 ((wrap64 (Int.tdiv x18_4 a0_0)) * a0_2)), .int .i64 (wrap64 ((wrap64 ((wrap64 (Int.tdiv x18_4 a0_0)) * a0_2)) + a0_2))]] (by rfl) rfl rfl zq8 ?_
                            with_reducible refine (bound_In.calls k5 ((rd_T29 t294 x22_5).f1.f0) ((rd_T29 t294 x22_5).f1.f1) (wrap64 ((wrap64 (Int.tdiv x18_4 a0_0)) * a0_2)) (wrap64 ((wrap64 ((wrap64 (Int.tdiv x18_4 a0_0)) * a0_2)) + a0_2)) t308 t309 _ A84.out).mono ?_
                            rintro e w92 ⟨rfl, hb⟩
                            have HS9_ := (hb.cell (World.block_lt_of_cell? _ _ (hHeld.2.2.2.2.2.2.2.2.2.1))).trans (hHeld.2.2.2.2.2.2.2.2.2.1)
                            have HS10_ := (hb.cell (World.block_lt_of_cell? _ _ (hHeld.2.2.2.2.2.2.2.2.2.2.1))).trans (hHeld.2.2.2.2.2.2.2.2.2.2.1)
                            have HS11_ := (hb.cell (World.block_lt_of_cell? _ _ (hHeld.2.2.2.2.2.2.2.2.2.2.2.1))).trans (hHeld.2.2.2.2.2.2.2.2.2.2.2.1)
                            have HS12_ := (hb.cell (World.block_lt_of_cell? _ _ (hHeld.2.2.2.2.2.2.2.2.2.2.2.2))).trans (hHeld.2.2.2.2.2.2.2.2.2.2.2.2)
                            refine ⟨_, rfl, ?_⟩
                            replace HO_13 := zrbr HO_13 hb
                            replace HO_16 := zrbr HO_16 hb
                            replace HO_17 := zrbr HO_17 hb
                            replace BK282 := zbbr BK282 hb
                            replace BK283 := zbbr BK283 hb
                            replace BK284 := zbbr BK284 hb
                            replace BK285 := zbbr BK285 hb
                            replace HB := zbsr HB hb
                            (try clear hb)
                            (try clear hb2)
                            (try clear hk)
                            (try clear hi)
                            refine hK.out _ _ (zca9 BK282.out ⟨HS9_, HS10_, HS11_, HS12_⟩) (fun hHeld => ?_)
                            clear hK K
                            refine norm_ zq49 ?_
                            refine zpz (i := 12) (N := some 156) (any_of HT_.out zq3) ?_
                            refine zpz (i := 13) (N := some 169) (any_of HT_.out zq3) ?_
                            refine zpz (i := 14) (N := some 170) (any_of HT_.out zq3) ?_
                            refine zpz (i := 15) (N := some 25) (any_of HT_.out zq3) ?_
                            refine zpz (i := 16) (N := some 26) (any_of HT_.out zq3) ?_
                            refine done_ (done_of HT_.out zq3) ?_
                            try go_wp2
                            go_roundg k5
                            case measure => have := HJ6.out; have := HJ35.out; have := HJ61.out; have := HK4.out; have := HK5.out; omega
                            case rel => exact ⟨(true), (wrap64 (x22_5 + 1)), zq4, zq4, H', ⟨zq50⟩, ⟨zq45⟩, ⟨zq46⟩, ⟨zq47⟩, ⟨zbfr⟩, ⟨zbfr⟩, ⟨zbfr⟩, ⟨zbfr⟩, ⟨zbzr⟩⟩
                           ·replace c87 := Bool.eq_false_iff.mpr c87
                            subst c87
                            have H1 : (if t305 = 0 then (isobathtop_TopSearched.l1 k5 a3 t288 t291 t294 t299 x18_4 (wrap64 ((Int.tmod x18_4 a0_0) * a0_2)) (wrap64 ((wrap64 (Int.tdiv x18_4 a0_0)) * a0_2)) false (wrap64 (x22_5 + 1)) a0_0 a0_1 a0_2 a0_3 a0_4 a0_5 a0_6 l0_7 l0_8 a1_0 a1_1 a1_2 a1_3 a1_4 a1_5 a1_6 a2_0 a2_1 a2_2 a2_3 a5_0 a5_1 a5_2 a5_3 a5_4 a5_5) else (isobathtop_TopSearched.l1 k5 a3 t288 t291 t294 t299 x18_4 (wrap64 ((Int.tmod x18_4 a0_0) * a0_2)) (wrap64 ((wrap64 (Int.tdiv x18_4 a0_0)) * a0_2)) (t308 != 0) (wrap64 (x22_5 + 1)) a0_0 a0_1 a0_2 a0_3 a0_4 a0_5 a0_6 l0_7 l0_8 a1_0 a1_1 a1_2 a1_3 a1_4 a1_5 a1_6 a2_0 a2_1 a2_2 a2_3 a5_0 a5_1 a5_2 a5_3 a5_4 a5_5)) = some r := by rw [if_neg (show ¬ (false = true) by decide)] at H; exact H
                            clear H
                            have H := H1
                            clear H1
                            by_cases c93 : t305 = 0
                            ·rw [if_pos c93] at H
                             have c93b0 : (t305 == 0) = true := beq_iff_eq.mpr c93
                             have c93b1 : (t305 != 0) = false := bne_eq_false_iff_eq.mpr c93
                             clear c93
                             have H' := Aside0.mk H
                             clear H
                             try go_wp2
                             replace HO_13 := Aside0.mk (Kd.R_drew HO_13.out)
                             replace HO_16 := Aside0.mk (Kd.R_drew HO_16.out)
                             replace HO_17 := Aside0.mk (Kd.R_drew HO_17.out)
                             replace BK282 := Aside0.mk (blk_drew BK282.out)
                             replace BK283 := Aside0.mk (blk_drew BK283.out)
                             replace BK284 := Aside0.mk (blk_drew BK284.out)
                             replace BK285 := Aside0.mk (blk_drew BK285.out)
                             replace HB := Aside0.mk (below_drew1 HB.out)
                             obtain ⟨Ao95, co95, eo95⟩ := Kd.R_slice HO_16.out
                             (first | subst eo95 | (injection eo95 with f1_ f2_ f3_; have f4_ := f1_.symm; have f5_ := f3_.symm; clear f1_ f2_ f3_; subst f4_; subst f5_))
                             have p304 : 0 ≤ (x22_5 : Int) := of_decide_eq_true zq5
                             have q304 : x22_5 < (t294.length : Int) := of_decide_eq_true zq5
                             obtain ⟨ad304, e304, hx304_0, hx304_1, hx304_2, hx304_3⟩ := at_T29 (Kd.R_reads' HO_16.out).2.2 x22_5 p304 q304
                             cases e304
                             replace p304 := eq_true p304
                             replace q304 := eq_true q304
                             refine start_ (n := 17) (S := fun w' => w'.cell? ⟨gb282, 0, none⟩ = some (.int .i64 a0_0) ∧ w'.cell? ⟨gb282, 1, none⟩ = some (.int .i64 a0_1) ∧ w'.cell? ⟨gb282, 2, none⟩ = some (.int .i64 a0_2) ∧ w'.cell? ⟨gb282, 3, none⟩ = some (.int .i64 a0_3) ∧ w'.cell? ⟨gb282, 4, none⟩ = some (.int .i64 a0_4) ∧ w'.cell? ⟨gb282, 5, none⟩ = some (.int .i64 a0_5) ∧ w'.cell? ⟨gb282, 6, none⟩ = some (.int .i64 a0_6) ∧ w'.cell? ⟨gb282, 7, none⟩ = some (.slice A0_7 l0_7.length c0_7) ∧ w'.cell? ⟨gb282, 8, none⟩ = some (.slice A0_8 l0_8.length c0_8) ∧ w'.cell? (ad304.add ((x22_5).toNat * 4)) = some (.int .i64 ((rd_T29 t294 x22_5).f0.f0)) ∧ w'.cell? ⟨(ad304.add ((x22_5).toNat * 4)).block, (ad304.add ((x22_5).toNat * 4)).off + 1, none⟩ = some (.int .i64 ((rd_T29 t294 x22_5).f0.f1)) ∧ w'.cell? ⟨(ad304.add ((x22_5).toNat * 4)).block, (ad304.add ((x22_5).toNat * 4)).off + 2, none⟩ = some (.int .i64 ((rd_T29 t294 x22_5).f1.f0)) ∧ w'.cell? ⟨(ad304.add ((x22_5).toNat * 4)).block, (ad304.add ((x22_5).toNat * 4)).off + 3, none⟩ = some (.int .i64 ((rd_T29 t294 x22_5).f1.f1))) (ds := []) #[false, false, false, false, false, false, false, false, false, false, false, false, false, false, false, false, false] zq3 rfl rfl (zca9 BK282.out ⟨hx304_0, hx304_1, hx304_2, hx304_3⟩) (fun hHeld => ?_); refine with_tabW isobathtop_TopSearched.tab20 isobathtop_TopSearched.bits20 (fun HT_ HW_ => ?_)
                             generalize wr.drew = w94 at HO_13 HO_16 HO_17 BK282 BK283 BK284 BK285 HB hx304_0 hx304_1 hx304_2 hx304_3 hHeld ⊢
                             refine zpz (i := 0) (N := some 142) (any_of HT_.out zq3) ?_
                             refine zpz (i := 1) (N := some 143) (any_of HT_.out zq3) ?_
                             refine zpz (i := 2) (N := some 144) (any_of HT_.out zq3) ?_
                             refine zpz (i := 3) (N := some 145) (any_of HT_.out zq3) ?_
                             refine zpz (i := 5) (N := some 147) (any_of HT_.out zq3) ?_
                             refine zpz (i := 6) (N := some 148) (any_of HT_.out zq3) ?_
                             refine zpz (i := 7) (N := some 149) (any_of HT_.out zq3) ?_
                             refine ztz (i := 4) (N := some 146) (take_ofW HT_.out HW_.out zq3) hHeld ?_
                             refine ztz (i := 8) (N := some 150) (take_ofW HT_.out HW_.out zq3) hHeld ?_
                             refine zpz (i := 9) (N := some 151) (any_of HT_.out zq3) ?_
                             refine zpz (i := 10) (N := some 152) (any_of HT_.out zq3) ?_
                             refine one_ (i := 11) (N := some 153) #[true, true, true, true, true, true, true, true, true, true, true, true, false, false, false, false, false] rfl rfl (one_of HT_.out zq3) (by decide) (fun K hK => ?_)
                             refine goes_ Try.func45 zq3 rfl #[.agg #[.int .i64 ((rd_T29 t294 x22_5).f0.f0), .int .i64 ((rd_T29 t294 x22_5).f0.f1)], .agg #[.int .i64 (wrap64 ((Int.tmod x18_4 a0_0) * a0_2)), .int .i64 (wrap64 ((wrap64 ((Int.tmod x18_4 a0_0) * a0_2)) + a0_2))]] (by rfl) rfl rfl zq8 ?_
                             with_reducible refine (bound_In.calls k5 ((rd_T29 t294 x22_5).f0.f0) ((rd_T29 t294 x22_5).f0.f1) (wrap64 ((Int.tmod x18_4 a0_0) * a0_2)) (wrap64 ((wrap64 ((Int.tmod x18_4 a0_0) * a0_2)) + a0_2)) t305 t306 _ A83.out).mono ?_
                             rintro e w96 ⟨rfl, hb⟩
                             have HS9_ := (hb.cell (World.block_lt_of_cell? _ _ (hHeld.2.2.2.2.2.2.2.2.2.1))).trans (hHeld.2.2.2.2.2.2.2.2.2.1)
                             have HS10_ := (hb.cell (World.block_lt_of_cell? _ _ (hHeld.2.2.2.2.2.2.2.2.2.2.1))).trans (hHeld.2.2.2.2.2.2.2.2.2.2.1)
                             have HS11_ := (hb.cell (World.block_lt_of_cell? _ _ (hHeld.2.2.2.2.2.2.2.2.2.2.2.1))).trans (hHeld.2.2.2.2.2.2.2.2.2.2.2.1)
                             have HS12_ := (hb.cell (World.block_lt_of_cell? _ _ (hHeld.2.2.2.2.2.2.2.2.2.2.2.2))).trans (hHeld.2.2.2.2.2.2.2.2.2.2.2.2)
                             refine ⟨_, rfl, ?_⟩
                             replace HO_13 := zrbr HO_13 hb
                             replace HO_16 := zrbr HO_16 hb
                             replace HO_17 := zrbr HO_17 hb
                             replace BK282 := zbbr BK282 hb
                             replace BK283 := zbbr BK283 hb
                             replace BK284 := zbbr BK284 hb
                             replace BK285 := zbbr BK285 hb
                             replace HB := zbsr HB hb
                             (try clear hb)
                             (try clear hb2)
                             (try clear hk)
                             (try clear hi)
                             refine hK.out _ _ (zca9 BK282.out ⟨HS9_, HS10_, HS11_, HS12_⟩) (fun hHeld => ?_)
                             clear hK K
                             refine norm_ zq48 ?_
                             refine zpz (i := 12) (N := some 141) (any_of HT_.out zq3) ?_
                             refine zpz (i := 13) (N := some 154) (any_of HT_.out zq3) ?_
                             refine zpz (i := 14) (N := some 155) (any_of HT_.out zq3) ?_
                             refine zpz (i := 15) (N := some 23) (any_of HT_.out zq3) ?_
                             refine zpz (i := 16) (N := some 24) (any_of HT_.out zq3) ?_
                             refine done_ (done_of HT_.out zq3) ?_
                             try go_wp2
                             replace HO_13 := Aside0.mk (Kd.R_drew HO_13.out)
                             replace HO_16 := Aside0.mk (Kd.R_drew HO_16.out)
                             replace HO_17 := Aside0.mk (Kd.R_drew HO_17.out)
                             replace BK282 := Aside0.mk (blk_drew BK282.out)
                             replace BK283 := Aside0.mk (blk_drew BK283.out)
                             replace BK284 := Aside0.mk (blk_drew BK284.out)
                             replace BK285 := Aside0.mk (blk_drew BK285.out)
                             replace HB := Aside0.mk (below_drew1 HB.out)
                             have p307 : 0 ≤ (x22_5 : Int) := of_decide_eq_true zq5
                             have q307 : x22_5 < (t294.length : Int) := of_decide_eq_true zq5
                             obtain ⟨ad307, e307, hx307_0, hx307_1, hx307_2, hx307_3⟩ := at_T29 (Kd.R_reads' HO_16.out).2.2 x22_5 p307 q307
                             obtain rfl : ad304 = ad307 := (by injection e307)
                             replace p307 := eq_true p307
                             replace q307 := eq_true q307
                             refine start_ (n := 17) (S := fun w' => w'.cell? ⟨gb282, 0, none⟩ = some (.int .i64 a0_0) ∧ w'.cell? ⟨gb282, 1, none⟩ = some (.int .i64 a0_1) ∧ w'.cell? ⟨gb282, 2, none⟩ = some (.int .i64 a0_2) ∧ w'.cell? ⟨gb282, 3, none⟩ = some (.int .i64 a0_3) ∧ w'.cell? ⟨gb282, 4, none⟩ = some (.int .i64 a0_4) ∧ w'.cell? ⟨gb282, 5, none⟩ = some (.int .i64 a0_5) ∧ w'.cell? ⟨gb282, 6, none⟩ = some (.int .i64 a0_6) ∧ w'.cell? ⟨gb282, 7, none⟩ = some (.slice A0_7 l0_7.length c0_7) ∧ w'.cell? ⟨gb282, 8, none⟩ = some (.slice A0_8 l0_8.length c0_8) ∧ w'.cell? (ad304.add ((x22_5).toNat * 4)) = some (.int .i64 ((rd_T29 t294 x22_5).f0.f0)) ∧ w'.cell? ⟨(ad304.add ((x22_5).toNat * 4)).block, (ad304.add ((x22_5).toNat * 4)).off + 1, none⟩ = some (.int .i64 ((rd_T29 t294 x22_5).f0.f1)) ∧ w'.cell? ⟨(ad304.add ((x22_5).toNat * 4)).block, (ad304.add ((x22_5).toNat * 4)).off + 2, none⟩ = some (.int .i64 ((rd_T29 t294 x22_5).f1.f0)) ∧ w'.cell? ⟨(ad304.add ((x22_5).toNat * 4)).block, (ad304.add ((x22_5).toNat * 4)).off + 3, none⟩ = some (.int .i64 ((rd_T29 t294 x22_5).f1.f1))) (ds := []) #[false, false, false, false, false, false, false, false, false, false, false, false, false, false, false, false, false] zq3 rfl rfl (zca9 BK282.out ⟨hx307_0, hx307_1, hx307_2, hx307_3⟩) (fun hHeld => ?_); refine with_tabW isobathtop_TopSearched.tab21 isobathtop_TopSearched.bits21 (fun HT_ HW_ => ?_)
                             generalize w96.drew = w97 at HO_13 HO_16 HO_17 BK282 BK283 BK284 BK285 HB hx307_0 hx307_1 hx307_2 hx307_3 hHeld ⊢
                             refine zpz (i := 0) (N := some 157) (any_of HT_.out zq3) ?_
                             refine zpz (i := 1) (N := some 158) (any_of HT_.out zq3) ?_
                             refine zpz (i := 2) (N := some 159) (any_of HT_.out zq3) ?_
                             refine zpz (i := 3) (N := some 160) (any_of HT_.out zq3) ?_
                             refine zpz (i := 5) (N := some 162) (any_of HT_.out zq3) ?_
                             refine zpz (i := 6) (N := some 163) (any_of HT_.out zq3) ?_
                             refine zpz (i := 7) (N := some 164) (any_of HT_.out zq3) ?_
                             refine ztz (i := 4) (N := some 161) (take_ofW HT_.out HW_.out zq3) hHeld ?_
                             refine ztz (i := 8) (N := some 165) (take_ofW HT_.out HW_.out zq3) hHeld ?_
                             refine zpz (i := 9) (N := some 166) (any_of HT_.out zq3) ?_
                             refine zpz (i := 10) (N := some 167) (any_of HT_.out zq3) ?_
                             refine one_ (i := 11) (N := some 168) #[true, true, true, true, true, true, true, true, true, true, true, true, false, false, false, false, false] rfl rfl (one_of HT_.out zq3) (by decide) (fun K hK => ?_)
                             refine goes_ Try.func45 zq3 rfl #[.agg #[.int .i64 ((rd_T29 t294 x22_5).f1.f0), .int .i64 ((rd_T29 t294 x22_5).f1.f1)], .agg #[.int .i64 (wrap64 ((wrap64 (Int.tdiv x18_4 a0_0)) * a0_2)), .int .i64 (wrap64 ((wrap64 ((wrap64 (Int.tdiv x18_4 a0_0)) * a0_2)) + a0_2))]] (by rfl) rfl rfl zq8 ?_
                             with_reducible refine (bound_In.calls k5 ((rd_T29 t294 x22_5).f1.f0) ((rd_T29 t294 x22_5).f1.f1) (wrap64 ((wrap64 (Int.tdiv x18_4 a0_0)) * a0_2)) (wrap64 ((wrap64 ((wrap64 (Int.tdiv x18_4 a0_0)) * a0_2)) + a0_2)) t308 t309 _ A84.out).mono ?_
                             rintro e w98 ⟨rfl, hb⟩
                             have HS9_ := (hb.cell (World.block_lt_of_cell? _ _ (hHeld.2.2.2.2.2.2.2.2.2.1))).trans (hHeld.2.2.2.2.2.2.2.2.2.1)
                             have HS10_ := (hb.cell (World.block_lt_of_cell? _ _ (hHeld.2.2.2.2.2.2.2.2.2.2.1))).trans (hHeld.2.2.2.2.2.2.2.2.2.2.1)
                             have HS11_ := (hb.cell (World.block_lt_of_cell? _ _ (hHeld.2.2.2.2.2.2.2.2.2.2.2.1))).trans (hHeld.2.2.2.2.2.2.2.2.2.2.2.1)
                             have HS12_ := (hb.cell (World.block_lt_of_cell? _ _ (hHeld.2.2.2.2.2.2.2.2.2.2.2.2))).trans (hHeld.2.2.2.2.2.2.2.2.2.2.2.2)
                             refine ⟨_, rfl, ?_⟩
                             replace HO_13 := zrbr HO_13 hb
                             replace HO_16 := zrbr HO_16 hb
                             replace HO_17 := zrbr HO_17 hb
                             replace BK282 := zbbr BK282 hb
                             replace BK283 := zbbr BK283 hb
                             replace BK284 := zbbr BK284 hb
                             replace BK285 := zbbr BK285 hb
                             replace HB := zbsr HB hb
                             (try clear hb)
                             (try clear hb2)
                             (try clear hk)
                             (try clear hi)
                             refine hK.out _ _ (zca9 BK282.out ⟨HS9_, HS10_, HS11_, HS12_⟩) (fun hHeld => ?_)
                             clear hK K
                             refine norm_ zq49 ?_
                             refine zpz (i := 12) (N := some 156) (any_of HT_.out zq3) ?_
                             refine zpz (i := 13) (N := some 169) (any_of HT_.out zq3) ?_
                             refine zpz (i := 14) (N := some 170) (any_of HT_.out zq3) ?_
                             refine zpz (i := 15) (N := some 25) (any_of HT_.out zq3) ?_
                             refine zpz (i := 16) (N := some 26) (any_of HT_.out zq3) ?_
                             refine done_ (done_of HT_.out zq3) ?_
                             try go_wp2
                             go_roundg k5
                             case measure => have := HJ6.out; have := HJ35.out; have := HJ61.out; have := HK4.out; have := HK5.out; omega
                             case rel => exact ⟨(false), (wrap64 (x22_5 + 1)), zq4, zq4, H', ⟨zq50⟩, ⟨zq45⟩, ⟨zq46⟩, ⟨zq47⟩, ⟨zbfr⟩, ⟨zbfr⟩, ⟨zbfr⟩, ⟨zbfr⟩, ⟨zbzr⟩⟩
                            ·rw [if_neg c93] at H
                             have c93b0 : (t305 == 0) = false := beq_eq_false_iff_ne.mpr c93
                             have c93b1 : (t305 != 0) = true := bne_iff_ne.mpr c93
                             have H' := Aside0.mk H
                             clear H
                             try go_wp2
                             replace HO_13 := Aside0.mk (Kd.R_drew HO_13.out)
                             replace HO_16 := Aside0.mk (Kd.R_drew HO_16.out)
                             replace HO_17 := Aside0.mk (Kd.R_drew HO_17.out)
                             replace BK282 := Aside0.mk (blk_drew BK282.out)
                             replace BK283 := Aside0.mk (blk_drew BK283.out)
                             replace BK284 := Aside0.mk (blk_drew BK284.out)
                             replace BK285 := Aside0.mk (blk_drew BK285.out)
                             replace HB := Aside0.mk (below_drew1 HB.out)
                             obtain ⟨Ao100, co100, eo100⟩ := Kd.R_slice HO_16.out
                             (first | subst eo100 | (injection eo100 with f1_ f2_ f3_; have f4_ := f1_.symm; have f5_ := f3_.symm; clear f1_ f2_ f3_; subst f4_; subst f5_))
                             have p304 : 0 ≤ (x22_5 : Int) := of_decide_eq_true zq5
                             have q304 : x22_5 < (t294.length : Int) := of_decide_eq_true zq5
                             obtain ⟨ad304, e304, hx304_0, hx304_1, hx304_2, hx304_3⟩ := at_T29 (Kd.R_reads' HO_16.out).2.2 x22_5 p304 q304
                             cases e304
                             replace p304 := eq_true p304
                             replace q304 := eq_true q304
                             refine start_ (n := 17) (S := fun w' => w'.cell? ⟨gb282, 0, none⟩ = some (.int .i64 a0_0) ∧ w'.cell? ⟨gb282, 1, none⟩ = some (.int .i64 a0_1) ∧ w'.cell? ⟨gb282, 2, none⟩ = some (.int .i64 a0_2) ∧ w'.cell? ⟨gb282, 3, none⟩ = some (.int .i64 a0_3) ∧ w'.cell? ⟨gb282, 4, none⟩ = some (.int .i64 a0_4) ∧ w'.cell? ⟨gb282, 5, none⟩ = some (.int .i64 a0_5) ∧ w'.cell? ⟨gb282, 6, none⟩ = some (.int .i64 a0_6) ∧ w'.cell? ⟨gb282, 7, none⟩ = some (.slice A0_7 l0_7.length c0_7) ∧ w'.cell? ⟨gb282, 8, none⟩ = some (.slice A0_8 l0_8.length c0_8) ∧ w'.cell? (ad304.add ((x22_5).toNat * 4)) = some (.int .i64 ((rd_T29 t294 x22_5).f0.f0)) ∧ w'.cell? ⟨(ad304.add ((x22_5).toNat * 4)).block, (ad304.add ((x22_5).toNat * 4)).off + 1, none⟩ = some (.int .i64 ((rd_T29 t294 x22_5).f0.f1)) ∧ w'.cell? ⟨(ad304.add ((x22_5).toNat * 4)).block, (ad304.add ((x22_5).toNat * 4)).off + 2, none⟩ = some (.int .i64 ((rd_T29 t294 x22_5).f1.f0)) ∧ w'.cell? ⟨(ad304.add ((x22_5).toNat * 4)).block, (ad304.add ((x22_5).toNat * 4)).off + 3, none⟩ = some (.int .i64 ((rd_T29 t294 x22_5).f1.f1))) (ds := []) #[false, false, false, false, false, false, false, false, false, false, false, false, false, false, false, false, false] zq3 rfl rfl (zca9 BK282.out ⟨hx304_0, hx304_1, hx304_2, hx304_3⟩) (fun hHeld => ?_); refine with_tabW isobathtop_TopSearched.tab20 isobathtop_TopSearched.bits20 (fun HT_ HW_ => ?_)
                             generalize wr.drew = w99 at HO_13 HO_16 HO_17 BK282 BK283 BK284 BK285 HB hx304_0 hx304_1 hx304_2 hx304_3 hHeld ⊢
                             refine zpz (i := 0) (N := some 142) (any_of HT_.out zq3) ?_
                             refine zpz (i := 1) (N := some 143) (any_of HT_.out zq3) ?_
                             refine zpz (i := 2) (N := some 144) (any_of HT_.out zq3) ?_
                             refine zpz (i := 3) (N := some 145) (any_of HT_.out zq3) ?_
                             refine zpz (i := 5) (N := some 147) (any_of HT_.out zq3) ?_
                             refine zpz (i := 6) (N := some 148) (any_of HT_.out zq3) ?_
                             refine zpz (i := 7) (N := some 149) (any_of HT_.out zq3) ?_
                             refine ztz (i := 4) (N := some 146) (take_ofW HT_.out HW_.out zq3) hHeld ?_
                             refine ztz (i := 8) (N := some 150) (take_ofW HT_.out HW_.out zq3) hHeld ?_
                             refine zpz (i := 9) (N := some 151) (any_of HT_.out zq3) ?_
                             refine zpz (i := 10) (N := some 152) (any_of HT_.out zq3) ?_
                             refine one_ (i := 11) (N := some 153) #[true, true, true, true, true, true, true, true, true, true, true, true, false, false, false, false, false] rfl rfl (one_of HT_.out zq3) (by decide) (fun K hK => ?_)
                             refine goes_ Try.func45 zq3 rfl #[.agg #[.int .i64 ((rd_T29 t294 x22_5).f0.f0), .int .i64 ((rd_T29 t294 x22_5).f0.f1)], .agg #[.int .i64 (wrap64 ((Int.tmod x18_4 a0_0) * a0_2)), .int .i64 (wrap64 ((wrap64 ((Int.tmod x18_4 a0_0) * a0_2)) + a0_2))]] (by rfl) rfl rfl zq8 ?_
                             with_reducible refine (bound_In.calls k5 ((rd_T29 t294 x22_5).f0.f0) ((rd_T29 t294 x22_5).f0.f1) (wrap64 ((Int.tmod x18_4 a0_0) * a0_2)) (wrap64 ((wrap64 ((Int.tmod x18_4 a0_0) * a0_2)) + a0_2)) t305 t306 _ A83.out).mono ?_
                             rintro e w101 ⟨rfl, hb⟩
                             have HS9_ := (hb.cell (World.block_lt_of_cell? _ _ (hHeld.2.2.2.2.2.2.2.2.2.1))).trans (hHeld.2.2.2.2.2.2.2.2.2.1)
                             have HS10_ := (hb.cell (World.block_lt_of_cell? _ _ (hHeld.2.2.2.2.2.2.2.2.2.2.1))).trans (hHeld.2.2.2.2.2.2.2.2.2.2.1)
                             have HS11_ := (hb.cell (World.block_lt_of_cell? _ _ (hHeld.2.2.2.2.2.2.2.2.2.2.2.1))).trans (hHeld.2.2.2.2.2.2.2.2.2.2.2.1)
                             have HS12_ := (hb.cell (World.block_lt_of_cell? _ _ (hHeld.2.2.2.2.2.2.2.2.2.2.2.2))).trans (hHeld.2.2.2.2.2.2.2.2.2.2.2.2)
                             refine ⟨_, rfl, ?_⟩
                             replace HO_13 := zrbr HO_13 hb
                             replace HO_16 := zrbr HO_16 hb
                             replace HO_17 := zrbr HO_17 hb
                             replace BK282 := zbbr BK282 hb
                             replace BK283 := zbbr BK283 hb
                             replace BK284 := zbbr BK284 hb
                             replace BK285 := zbbr BK285 hb
                             replace HB := zbsr HB hb
                             (try clear hb)
                             (try clear hb2)
                             (try clear hk)
                             (try clear hi)
                             refine hK.out _ _ (zca9 BK282.out ⟨HS9_, HS10_, HS11_, HS12_⟩) (fun hHeld => ?_)
                             clear hK K
                             refine norm_ zq48 ?_
                             refine zpz (i := 12) (N := some 141) (any_of HT_.out zq3) ?_
                             refine zpz (i := 13) (N := some 154) (any_of HT_.out zq3) ?_
                             refine zpz (i := 14) (N := some 155) (any_of HT_.out zq3) ?_
                             refine zpz (i := 15) (N := some 23) (any_of HT_.out zq3) ?_
                             refine zpz (i := 16) (N := some 24) (any_of HT_.out zq3) ?_
                             refine done_ (done_of HT_.out zq3) ?_
                             try go_wp2
                             replace HO_13 := Aside0.mk (Kd.R_drew HO_13.out)
                             replace HO_16 := Aside0.mk (Kd.R_drew HO_16.out)
                             replace HO_17 := Aside0.mk (Kd.R_drew HO_17.out)
                             replace BK282 := Aside0.mk (blk_drew BK282.out)
                             replace BK283 := Aside0.mk (blk_drew BK283.out)
                             replace BK284 := Aside0.mk (blk_drew BK284.out)
                             replace BK285 := Aside0.mk (blk_drew BK285.out)
                             replace HB := Aside0.mk (below_drew1 HB.out)
                             have p307 : 0 ≤ (x22_5 : Int) := of_decide_eq_true zq5
                             have q307 : x22_5 < (t294.length : Int) := of_decide_eq_true zq5
                             obtain ⟨ad307, e307, hx307_0, hx307_1, hx307_2, hx307_3⟩ := at_T29 (Kd.R_reads' HO_16.out).2.2 x22_5 p307 q307
                             obtain rfl : ad304 = ad307 := (by injection e307)
                             replace p307 := eq_true p307
                             replace q307 := eq_true q307
                             refine start_ (n := 17) (S := fun w' => w'.cell? ⟨gb282, 0, none⟩ = some (.int .i64 a0_0) ∧ w'.cell? ⟨gb282, 1, none⟩ = some (.int .i64 a0_1) ∧ w'.cell? ⟨gb282, 2, none⟩ = some (.int .i64 a0_2) ∧ w'.cell? ⟨gb282, 3, none⟩ = some (.int .i64 a0_3) ∧ w'.cell? ⟨gb282, 4, none⟩ = some (.int .i64 a0_4) ∧ w'.cell? ⟨gb282, 5, none⟩ = some (.int .i64 a0_5) ∧ w'.cell? ⟨gb282, 6, none⟩ = some (.int .i64 a0_6) ∧ w'.cell? ⟨gb282, 7, none⟩ = some (.slice A0_7 l0_7.length c0_7) ∧ w'.cell? ⟨gb282, 8, none⟩ = some (.slice A0_8 l0_8.length c0_8) ∧ w'.cell? (ad304.add ((x22_5).toNat * 4)) = some (.int .i64 ((rd_T29 t294 x22_5).f0.f0)) ∧ w'.cell? ⟨(ad304.add ((x22_5).toNat * 4)).block, (ad304.add ((x22_5).toNat * 4)).off + 1, none⟩ = some (.int .i64 ((rd_T29 t294 x22_5).f0.f1)) ∧ w'.cell? ⟨(ad304.add ((x22_5).toNat * 4)).block, (ad304.add ((x22_5).toNat * 4)).off + 2, none⟩ = some (.int .i64 ((rd_T29 t294 x22_5).f1.f0)) ∧ w'.cell? ⟨(ad304.add ((x22_5).toNat * 4)).block, (ad304.add ((x22_5).toNat * 4)).off + 3, none⟩ = some (.int .i64 ((rd_T29 t294 x22_5).f1.f1))) (ds := []) #[false, false, false, false, false, false, false, false, false, false, false, false, false, false, false, false, false] zq3 rfl rfl (zca9 BK282.out ⟨hx307_0, hx307_1, hx307_2, hx307_3⟩) (fun hHeld => ?_); refine with_tabW isobathtop_TopSearched.tab21 isobathtop_TopSearched.bits21 (fun HT_ HW_ => ?_)
                             generalize w101.drew = w102 at HO_13 HO_16 HO_17 BK282 BK283 BK284 BK285 HB hx307_0 hx307_1 hx307_2 hx307_3 hHeld ⊢
                             refine zpz (i := 0) (N := some 157) (any_of HT_.out zq3) ?_
                             refine zpz (i := 1) (N := some 158) (any_of HT_.out zq3) ?_
                             refine zpz (i := 2) (N := some 159) (any_of HT_.out zq3) ?_
                             refine zpz (i := 3) (N := some 160) (any_of HT_.out zq3) ?_
                             refine zpz (i := 5) (N := some 162) (any_of HT_.out zq3) ?_
                             refine zpz (i := 6) (N := some 163) (any_of HT_.out zq3) ?_
                             refine zpz (i := 7) (N := some 164) (any_of HT_.out zq3) ?_
                             refine ztz (i := 4) (N := some 161) (take_ofW HT_.out HW_.out zq3) hHeld ?_
                             refine ztz (i := 8) (N := some 165) (take_ofW HT_.out HW_.out zq3) hHeld ?_
                             refine zpz (i := 9) (N := some 166) (any_of HT_.out zq3) ?_
                             refine zpz (i := 10) (N := some 167) (any_of HT_.out zq3) ?_
                             refine one_ (i := 11) (N := some 168) #[true, true, true, true, true, true, true, true, true, true, true, true, false, false, false, false, false] rfl rfl (one_of HT_.out zq3) (by decide) (fun K hK => ?_)
                             refine goes_ Try.func45 zq3 rfl #[.agg #[.int .i64 ((rd_T29 t294 x22_5).f1.f0), .int .i64 ((rd_T29 t294 x22_5).f1.f1)], .agg #[.int .i64 (wrap64 ((wrap64 (Int.tdiv x18_4 a0_0)) * a0_2)), .int .i64 (wrap64 ((wrap64 ((wrap64 (Int.tdiv x18_4 a0_0)) * a0_2)) + a0_2))]] (by rfl) rfl rfl zq8 ?_
                             with_reducible refine (bound_In.calls k5 ((rd_T29 t294 x22_5).f1.f0) ((rd_T29 t294 x22_5).f1.f1) (wrap64 ((wrap64 (Int.tdiv x18_4 a0_0)) * a0_2)) (wrap64 ((wrap64 ((wrap64 (Int.tdiv x18_4 a0_0)) * a0_2)) + a0_2)) t308 t309 _ A84.out).mono ?_
                             rintro e w103 ⟨rfl, hb⟩
                             have HS9_ := (hb.cell (World.block_lt_of_cell? _ _ (hHeld.2.2.2.2.2.2.2.2.2.1))).trans (hHeld.2.2.2.2.2.2.2.2.2.1)
                             have HS10_ := (hb.cell (World.block_lt_of_cell? _ _ (hHeld.2.2.2.2.2.2.2.2.2.2.1))).trans (hHeld.2.2.2.2.2.2.2.2.2.2.1)
                             have HS11_ := (hb.cell (World.block_lt_of_cell? _ _ (hHeld.2.2.2.2.2.2.2.2.2.2.2.1))).trans (hHeld.2.2.2.2.2.2.2.2.2.2.2.1)
                             have HS12_ := (hb.cell (World.block_lt_of_cell? _ _ (hHeld.2.2.2.2.2.2.2.2.2.2.2.2))).trans (hHeld.2.2.2.2.2.2.2.2.2.2.2.2)
                             refine ⟨_, rfl, ?_⟩
                             replace HO_13 := zrbr HO_13 hb
                             replace HO_16 := zrbr HO_16 hb
                             replace HO_17 := zrbr HO_17 hb
                             replace BK282 := zbbr BK282 hb
                             replace BK283 := zbbr BK283 hb
                             replace BK284 := zbbr BK284 hb
                             replace BK285 := zbbr BK285 hb
                             replace HB := zbsr HB hb
                             (try clear hb)
                             (try clear hb2)
                             (try clear hk)
                             (try clear hi)
                             refine hK.out _ _ (zca9 BK282.out ⟨HS9_, HS10_, HS11_, HS12_⟩) (fun hHeld => ?_)
                             clear hK K
                             refine norm_ zq49 ?_
                             refine zpz (i := 12) (N := some 156) (any_of HT_.out zq3) ?_
                             refine zpz (i := 13) (N := some 169) (any_of HT_.out zq3) ?_
                             refine zpz (i := 14) (N := some 170) (any_of HT_.out zq3) ?_
                             refine zpz (i := 15) (N := some 25) (any_of HT_.out zq3) ?_
                             refine zpz (i := 16) (N := some 26) (any_of HT_.out zq3) ?_
                             refine done_ (done_of HT_.out zq3) ?_
                             try go_wp2
                             go_roundg k5
                             case measure => have := HJ6.out; have := HJ35.out; have := HJ61.out; have := HK4.out; have := HK5.out; omega
                             case rel => exact ⟨((t308 != 0)), (wrap64 (x22_5 + 1)), zq4, zq4, H', ⟨zq50⟩, ⟨zq45⟩, ⟨zq46⟩, ⟨zq47⟩, ⟨zbfr⟩, ⟨zbfr⟩, ⟨zbfr⟩, ⟨zbfr⟩, ⟨zbzr⟩⟩
                          ·rw [if_neg c86] at H
                           have c86b0 : (t309 == 0) = false := beq_eq_false_iff_ne.mpr c86
                           have c86b1 : (t309 != 0) = true := bne_iff_ne.mpr c86
                           have hh_ := Option.some.inj H
                           rw [hr_.out] at hh_
                           cases hh_
                         ·rw [if_neg c85] at H
                          have c85b0 : (t306 == 0) = false := beq_eq_false_iff_ne.mpr c85
                          have c85b1 : (t306 != 0) = true := bne_iff_ne.mpr c85
                          have hh_ := Option.some.inj H
                          rw [hr_.out] at hh_
                          cases hh_
                        ·rw [if_neg c82] at H
                         exact absurd H (by simp)
                       ·rw [if_neg c81] at H
                        exact absurd H (by simp)
                      ·rw [if_neg c80] at H
                       have c80b0 : decide (x22_5 < t291) = false := decide_eq_false c80
                       clear c80
                       by_cases c114 : 0 ≤ x18_4
                       ·rw [if_pos c114] at H
                        have c114b0 : decide (0 ≤ x18_4) = true := decide_eq_true c114
                        clear c114
                        by_cases c115 : x18_4 < (t299.length : Int)
                        ·rw [if_pos c115] at H
                         have c115b0 : decide (x18_4 < (t299.length : Int)) = true := decide_eq_true c115
                         clear c115
                         by_cases c116 : (rd t299 x18_4) = 0
                         ·rw [if_pos c116] at H
                          have c116b0 : ((rd t299 x18_4) == 0) = true := beq_iff_eq.mpr c116
                          have c116b1 : ((rd t299 x18_4) != 0) = false := bne_eq_false_iff_eq.mpr c116
                          clear c116
                          have H' := Aside0.mk H
                          clear H
                          have p303 : 0 ≤ (x18_4 : Int) := of_decide_eq_true zq5
                          have q303 : x18_4 < (t299.length : Int) := of_decide_eq_true zq5
                          obtain ⟨ad303, e303, hx303_0⟩ := Kd.at_int (Kd.R_reads' HO_17.out).2.2 x18_4 p303 q303
                          cases e303
                          replace p303 := eq_true p303
                          replace q303 := eq_true q303
                          go_wp2
                          go_roundg k5
                          case measure => have := HJ6.out; have := HJ35.out; have := HJ61.out; have := HK4.out; have := HK5.out; omega
                          case rel => exact ⟨(wrap64 (x18_4 + 1)), zq4, H', ⟨zq50⟩, ⟨zq45⟩, ⟨zq46⟩, ⟨zq47⟩, ⟨zbfr⟩, ⟨zbfr⟩, ⟨zbfr⟩, ⟨zbfr⟩, ⟨zbzr⟩⟩
                         ·rw [if_neg c116] at H
                          have c116b0 : ((rd t299 x18_4) == 0) = false := beq_eq_false_iff_ne.mpr c116
                          have c116b1 : ((rd t299 x18_4) != 0) = true := bne_iff_ne.mpr c116
                          by_cases c117 : x21_5 = true
                          ·subst c117
                           have H1 : (isobathtop_TopSearched.l0 k5 a3 t288 t291 t294 t299 (wrap64 (x18_4 + 1)) a0_0 a0_1 a0_2 a0_3 a0_4 a0_5 a0_6 l0_7 l0_8 a1_0 a1_1 a1_2 a1_3 a1_4 a1_5 a1_6 a2_0 a2_1 a2_2 a2_3 a5_0 a5_1 a5_2 a5_3 a5_4 a5_5) = some r := by rw [if_pos rfl] at H; exact H
                           clear H
                           have H := H1
                           clear H1
                           have H' := Aside0.mk H
                           clear H
                           have p303 : 0 ≤ (x18_4 : Int) := of_decide_eq_true zq5
                           have q303 : x18_4 < (t299.length : Int) := of_decide_eq_true zq5
                           obtain ⟨ad303, e303, hx303_0⟩ := Kd.at_int (Kd.R_reads' HO_17.out).2.2 x18_4 p303 q303
                           cases e303
                           replace p303 := eq_true p303
                           replace q303 := eq_true q303
                           go_wp2
                           go_roundg k5
                           case measure => have := HJ6.out; have := HJ35.out; have := HJ61.out; have := HK4.out; have := HK5.out; omega
                           case rel => exact ⟨(wrap64 (x18_4 + 1)), zq4, H', ⟨zq50⟩, ⟨zq45⟩, ⟨zq46⟩, ⟨zq47⟩, ⟨zbfr⟩, ⟨zbfr⟩, ⟨zbfr⟩, ⟨zbfr⟩, ⟨zbzr⟩⟩
                          ·replace c117 := Bool.eq_false_iff.mpr c117
                           subst c117
                           have H1 : (some false) = some r := by rw [if_neg (show ¬ (false = true) by decide)] at H; exact H
                           clear H
                           have H := H1
                           clear H1
                           have hh_ := Option.some.inj H
                           rw [hr_.out] at hh_
                           cases hh_
                        ·rw [if_neg c115] at H
                         exact absurd H (by simp)
                       ·rw [if_neg c114] at H
                        exact absurd H (by simp)
                 ·rw [if_neg c76] at H
                  have c76b0 : decide (x18_4 < (t299.length : Int)) = false := decide_eq_false c76
                  clear c76
                  replace H := Option.bind_eq_some_iff.mp H
                  obtain ⟨⟨t310, t313⟩, A1180, H⟩ := H
                  replace H : (if t313 = 0 then ((glider_Fetched.f k4 a1_0 a1_1 a1_2 a1_3 a1_4 a1_5 a1_6 a3 t288 a5_0 a5_1 a5_2 a5_3 a5_4 a5_5).bind fun bt314 => (if bt314.2 = 0 then (if bt314.1 = 0 then ((isobathtop_works03.f k4).bind fun t316 => (some t316)) else (some false)) else (some false))) else ((isobathtop_works03.f k4).bind fun t317 => (some t317))) = some r := H
                  have A118 := Aside0.mk A1180
                  clear A1180
                  by_cases c119 : t313 = 0
                  ·rw [if_pos c119] at H
                   have c119b0 : (t313 == 0) = true := beq_iff_eq.mpr c119
                   have c119b1 : (t313 != 0) = false := bne_eq_false_iff_eq.mpr c119
                   clear c119
                   replace H := Option.bind_eq_some_iff.mp H
                   obtain ⟨⟨t314, t315⟩, A1200, H⟩ := H
                   replace H : (if t315 = 0 then (if t314 = 0 then ((isobathtop_works03.f k4).bind fun t316 => (some t316)) else (some false)) else (some false)) = some r := H
                   have A120 := Aside0.mk A1200
                   clear A1200
                   by_cases c121 : t315 = 0
                   ·rw [if_pos c121] at H
                    have c121b0 : (t315 == 0) = true := beq_iff_eq.mpr c121
                    have c121b1 : (t315 != 0) = false := bne_eq_false_iff_eq.mpr c121
                    clear c121
                    by_cases c122 : t314 = 0
                    ·rw [if_pos c122] at H
                     have c122b0 : (t314 == 0) = true := beq_iff_eq.mpr c122
                     have c122b1 : (t314 != 0) = false := bne_eq_false_iff_eq.mpr c122
                     clear c122
                     replace H := Option.bind_eq_some_iff.mp H
                     obtain ⟨t316, A1230, H⟩ := H
                     replace H : (some t316) = some r := H
                     have A123 := Aside0.mk A1230
                     clear A1230
                     obtain rfl := Option.some.inj H
                     obtain ⟨Ao124, co124, eo124⟩ := Kd.R_slice HO_17.out
                     subst eo124
                     have hnb125 := NB282_283.out
                     have hnc125 := NB283_282.out
                     have hnb126 := NB282_284.out
                     have hnc126 := NB284_282.out
                     have hnb127 := NB282_285.out
                     have hnc127 := NB285_282.out
                     obtain ⟨hcz128_0, hcz128_1, hcz128_2, hcz128_3, hcz128_4, hcz128_5, hcz128_6, hcz128_7, hcz128_8, hfz128_0, hfz128_1, hfz128_2, hfz128_3, hfz128_4, hfz128_5, hfz128_6, hfz128_7, hfz128_8⟩ := zce9 BK282.out
                     have hnb129 := NB283_284.out
                     have hnc129 := NB284_283.out
                     have hnb130 := NB283_285.out
                     have hnc130 := NB285_283.out
                     obtain ⟨hcz131_0, hcz131_1, hcz131_2, hcz131_3, hcz131_4, hcz131_5, hcz131_6, hfz131_0, hfz131_1, hfz131_2, hfz131_3, hfz131_4, hfz131_5, hfz131_6⟩ := zce7 BK283.out
                     have hnb132 := NB284_285.out
                     have hnc132 := NB285_284.out
                     obtain ⟨hcz133_0, hcz133_1, hcz133_2, hcz133_3, hfz133_0, hfz133_1, hfz133_2, hfz133_3⟩ := zce4 BK284.out
                     obtain ⟨hcz134_0, hcz134_1, hcz134_2, hcz134_3, hcz134_4, hcz134_5, hfz134_0, hfz134_1, hfz134_2, hfz134_3, hfz134_4, hfz134_5⟩ := zce6 BK285.out
                     go_wp2_with (first | ((with_reducible refine gate_callee (f := 46) rfl ?_); refine goesL_ (some 202) rfl rfl Try.func46 zq3 rfl #[.agg #[.int .i64 a0_0, .int .i64 a0_1, .int .i64 a0_2, .int .i64 a0_3, .int .i64 a0_4, .int .i64 a0_5, .int .i64 a0_6, .slice A0_7 l0_7.length c0_7, .slice A0_8 l0_8.length c0_8], .agg #[.int .i64 a1_0, .int .i64 a1_1, .int .i64 a1_2, .int .i64 a1_3, .int .i64 a1_4, .int .i64 a1_5, .int .i64 a1_6], .agg #[.int .i64 a2_0, .int .i64 a2_1, .int .i64 a2_2, .int .i64 a2_3], .int .i64 a3, .agg #[.int .i64 a5_0, .int .i64 a5_1, .int .i64 a5_2, .int .i64 a5_3, .int .i64 a5_4, .int .i64 a5_5], .int .i64 t291] rfl zq8 ?_; (with_reducible refine (glider_Never.calls a0_0 a0_1 a0_2 a0_3 a0_4 a0_5 a0_6 _ _ l0_7 _ _ l0_8 a1_0 a1_1 a1_2 a1_3 a1_4 a1_5 a1_6 a2_0 a2_1 a2_2 a2_3 a3 a5_0 a5_1 a5_2 a5_3 a5_4 a5_5 t291 t310 t313 _ ?side1 ?side2 ?side3 ?side4 A118.out).mono ?_); (case side1 => repeat (first | exact (Kd.C_below HR0_7.out HB.out) | (with_reducible refine Kd.C_alloc ?_ _) | (with_reducible refine Kd.C_drewN ?_ _) | (with_reducible refine Kd.C_drew ?_))); (case side2 => exact HC0_7.out); (case side3 => repeat (first | exact (Kd.C_below HR0_8.out HB.out) | (with_reducible refine Kd.C_alloc ?_ _) | (with_reducible refine Kd.C_drewN ?_ _) | (with_reducible refine Kd.C_drew ?_))); (case side4 => exact HC0_8.out); rintro e w135 ⟨v311, rfl, ho0, hb⟩; refine ⟨_, rfl, ?_⟩; have HO312 := Aside0.mk (Kd.R_lower (Kd.R_newB (Kd.R_new' (Kd.R_new' ho0 (Kd.R_lt zq45)) (Kd.R_lt zq46)) (g := gb284) (o := .cells #[.int .i64 a2_0, .int .i64 a2_1, .int .i64 a2_2, .int .i64 a2_3] 29 (0, 0)) zbfr) (below_size zbzr)); replace HO_13 := Aside0.mk (Kd.R_elder' zq45 (Kd.R_base ho0) hb); replace HO_16 := Aside0.mk (Kd.R_elder' zq46 (Kd.R_base ho0) hb); replace HO_17 := zrbr HO_17 hb; replace BK282 := zbbr BK282 hb; replace BK283 := zbbr BK283 hb; replace BK284 := zbbr BK284 hb; replace BK285 := zbbr BK285 hb; replace HB := zbsr HB hb; (try clear hb); (try clear hb2); (try clear hk); (try clear hi); (try clear ho0); obtain ⟨hcz136_0, hcz136_1, hcz136_2, hcz136_3, hcz136_4, hcz136_5, hcz136_6, hfz136_0, hfz136_1, hfz136_2, hfz136_3, hfz136_4, hfz136_5, hfz136_6⟩ := zce7 BK283.out; obtain ⟨hcz137_0, hcz137_1, hcz137_2, hcz137_3, hcz137_4, hcz137_5, hfz137_0, hfz137_1, hfz137_2, hfz137_3, hfz137_4, hfz137_5⟩ := zce6 BK285.out) | ((with_reducible refine gate_callee (f := 17) rfl ?_); refine goesL_ (some 212) rfl rfl Try.func17 zq3 rfl #[.agg #[.int .i64 a1_0, .int .i64 a1_1, .int .i64 a1_2, .int .i64 a1_3, .int .i64 a1_4, .int .i64 a1_5, .int .i64 a1_6], .int .i64 a3, .slice Ao67 t288.length co67, .agg #[.int .i64 a5_0, .int .i64 a5_1, .int .i64 a5_2, .int .i64 a5_3, .int .i64 a5_4, .int .i64 a5_5]] rfl zq8 ?_; (with_reducible refine (glider_Fetched.calls k4 a1_0 a1_1 a1_2 a1_3 a1_4 a1_5 a1_6 a3 _ _ t288 a5_0 a5_1 a5_2 a5_3 a5_4 a5_5 t314 t315 _ ?side1 ?side2 A120.out).mono ?_); (case side1 => repeat (first | exact (Kd.R_reads' HO_13.out).2.2 | (with_reducible refine Kd.C_alloc ?_ _) | (with_reducible refine Kd.C_drewN ?_ _) | (with_reducible refine Kd.C_drew ?_))); (case side2 => exact (Kd.R_reads' HO_13.out).2.1); rintro e w138 ⟨rfl, hb⟩; refine ⟨_, rfl, ?_⟩; replace HO_13 := zrbr HO_13 hb; replace HO_16 := zrbr HO_16 hb; replace HO_17 := zrbr HO_17 hb; replace HO312 := zrbr HO312 hb; replace BK282 := zbbr BK282 hb; replace BK283 := zbbr BK283 hb; replace BK284 := zbbr BK284 hb; replace BK285 := zbbr BK285 hb; replace HB := zbsr HB hb; (try clear hb); (try clear hb2); (try clear hk); (try clear hi)) | ((with_reducible refine gate_callee (f := 12) rfl ?_); refine goesL_ (some 221) rfl rfl Try.func12 zq3 rfl #[] rfl zq8 ?_; (with_reducible refine (isobathtop_works03.calls k4  t316 _ A123.out).mono ?_); rintro e w139 ⟨rfl, hb⟩; refine ⟨_, rfl, ?_⟩; replace HO_13 := zrbr HO_13 hb; replace HO_16 := zrbr HO_16 hb; replace HO_17 := zrbr HO_17 hb; replace HO312 := zrbr HO312 hb; replace BK282 := zbbr BK282 hb; replace BK283 := zbbr BK283 hb; replace BK284 := zbbr BK284 hb; replace BK285 := zbbr BK285 hb; replace HB := zbsr HB hb; (try clear hb); (try clear hb2); (try clear hk); (try clear hi)))
                     go_ret
                     exact ⟨zq2, zbzr⟩
                    ·rw [if_neg c122] at H
                     have c122b0 : (t314 == 0) = false := beq_eq_false_iff_ne.mpr c122
                     have c122b1 : (t314 != 0) = true := bne_iff_ne.mpr c122
                     have hh_ := Option.some.inj H
                     rw [hr_.out] at hh_
                     cases hh_
                   ·rw [if_neg c121] at H
                    have c121b0 : (t315 == 0) = false := beq_eq_false_iff_ne.mpr c121
                    have c121b1 : (t315 != 0) = true := bne_iff_ne.mpr c121
                    have hh_ := Option.some.inj H
                    rw [hr_.out] at hh_
                    cases hh_
                  ·rw [if_neg c119] at H
                   have c119b0 : (t313 == 0) = false := beq_eq_false_iff_ne.mpr c119
                   have c119b1 : (t313 != 0) = true := bne_iff_ne.mpr c119
                   replace H := Option.bind_eq_some_iff.mp H
                   obtain ⟨t317, A1700, H⟩ := H
                   replace H : (some t317) = some r := H
                   have A170 := Aside0.mk A1700
                   clear A1700
                   obtain rfl := Option.some.inj H
                   obtain ⟨Ao171, co171, eo171⟩ := Kd.R_slice HO_17.out
                   subst eo171
                   have hnb172 := NB282_283.out
                   have hnc172 := NB283_282.out
                   have hnb173 := NB282_284.out
                   have hnc173 := NB284_282.out
                   have hnb174 := NB282_285.out
                   have hnc174 := NB285_282.out
                   obtain ⟨hcz175_0, hcz175_1, hcz175_2, hcz175_3, hcz175_4, hcz175_5, hcz175_6, hcz175_7, hcz175_8, hfz175_0, hfz175_1, hfz175_2, hfz175_3, hfz175_4, hfz175_5, hfz175_6, hfz175_7, hfz175_8⟩ := zce9 BK282.out
                   have hnb176 := NB283_284.out
                   have hnc176 := NB284_283.out
                   have hnb177 := NB283_285.out
                   have hnc177 := NB285_283.out
                   obtain ⟨hcz178_0, hcz178_1, hcz178_2, hcz178_3, hcz178_4, hcz178_5, hcz178_6, hfz178_0, hfz178_1, hfz178_2, hfz178_3, hfz178_4, hfz178_5, hfz178_6⟩ := zce7 BK283.out
                   have hnb179 := NB284_285.out
                   have hnc179 := NB285_284.out
                   obtain ⟨hcz180_0, hcz180_1, hcz180_2, hcz180_3, hfz180_0, hfz180_1, hfz180_2, hfz180_3⟩ := zce4 BK284.out
                   obtain ⟨hcz181_0, hcz181_1, hcz181_2, hcz181_3, hcz181_4, hcz181_5, hfz181_0, hfz181_1, hfz181_2, hfz181_3, hfz181_4, hfz181_5⟩ := zce6 BK285.out
                   go_wp2_with (first | ((with_reducible refine gate_callee (f := 46) rfl ?_); refine goesL_ (some 202) rfl rfl Try.func46 zq3 rfl #[.agg #[.int .i64 a0_0, .int .i64 a0_1, .int .i64 a0_2, .int .i64 a0_3, .int .i64 a0_4, .int .i64 a0_5, .int .i64 a0_6, .slice A0_7 l0_7.length c0_7, .slice A0_8 l0_8.length c0_8], .agg #[.int .i64 a1_0, .int .i64 a1_1, .int .i64 a1_2, .int .i64 a1_3, .int .i64 a1_4, .int .i64 a1_5, .int .i64 a1_6], .agg #[.int .i64 a2_0, .int .i64 a2_1, .int .i64 a2_2, .int .i64 a2_3], .int .i64 a3, .agg #[.int .i64 a5_0, .int .i64 a5_1, .int .i64 a5_2, .int .i64 a5_3, .int .i64 a5_4, .int .i64 a5_5], .int .i64 t291] rfl zq8 ?_; (with_reducible refine (glider_Never.calls a0_0 a0_1 a0_2 a0_3 a0_4 a0_5 a0_6 _ _ l0_7 _ _ l0_8 a1_0 a1_1 a1_2 a1_3 a1_4 a1_5 a1_6 a2_0 a2_1 a2_2 a2_3 a3 a5_0 a5_1 a5_2 a5_3 a5_4 a5_5 t291 t310 t313 _ ?side1 ?side2 ?side3 ?side4 A118.out).mono ?_); (case side1 => repeat (first | exact (Kd.C_below HR0_7.out HB.out) | (with_reducible refine Kd.C_alloc ?_ _) | (with_reducible refine Kd.C_drewN ?_ _) | (with_reducible refine Kd.C_drew ?_))); (case side2 => exact HC0_7.out); (case side3 => repeat (first | exact (Kd.C_below HR0_8.out HB.out) | (with_reducible refine Kd.C_alloc ?_ _) | (with_reducible refine Kd.C_drewN ?_ _) | (with_reducible refine Kd.C_drew ?_))); (case side4 => exact HC0_8.out); rintro e w182 ⟨v311, rfl, ho0, hb⟩; refine ⟨_, rfl, ?_⟩; have HO312 := Aside0.mk (Kd.R_lower (Kd.R_newB (Kd.R_new' (Kd.R_new' ho0 (Kd.R_lt zq45)) (Kd.R_lt zq46)) (g := gb284) (o := .cells #[.int .i64 a2_0, .int .i64 a2_1, .int .i64 a2_2, .int .i64 a2_3] 29 (0, 0)) zbfr) (below_size zbzr)); replace HO_13 := Aside0.mk (Kd.R_elder' zq45 (Kd.R_base ho0) hb); replace HO_16 := Aside0.mk (Kd.R_elder' zq46 (Kd.R_base ho0) hb); replace HO_17 := zrbr HO_17 hb; replace BK282 := zbbr BK282 hb; replace BK283 := zbbr BK283 hb; replace BK284 := zbbr BK284 hb; replace BK285 := zbbr BK285 hb; replace HB := zbsr HB hb; (try clear hb); (try clear hb2); (try clear hk); (try clear hi); (try clear ho0)) | ((with_reducible refine gate_callee (f := 12) rfl ?_); refine goesL_ (some 221) rfl rfl Try.func12 zq3 rfl #[] rfl zq8 ?_; (with_reducible refine (isobathtop_works03.calls k4  t317 _ A170.out).mono ?_); rintro e w183 ⟨rfl, hb⟩; refine ⟨_, rfl, ?_⟩; replace HO_13 := zrbr HO_13 hb; replace HO_16 := zrbr HO_16 hb; replace HO_17 := zrbr HO_17 hb; replace HO312 := zrbr HO312 hb; replace BK282 := zbbr BK282 hb; replace BK283 := zbbr BK283 hb; replace BK284 := zbbr BK284 hb; replace BK285 := zbbr BK285 hb; replace HB := zbsr HB hb; (try clear hb); (try clear hb2); (try clear hk); (try clear hi)))
                   go_ret
                   exact ⟨zq2, zbzr⟩
     ·rw [if_neg c34] at H
      have c34b0 : (t292 == 0) = false := beq_eq_false_iff_ne.mpr c34
      have c34b1 : (t292 != 0) = true := bne_iff_ne.mpr c34
      by_cases c184 : (t288.length : Int) = 0
      ·rw [if_pos c184] at H
       have c184b0 : ((t288.length : Int) == 0) = true := beq_iff_eq.mpr c184
       have c184b1 : ((t288.length : Int) != 0) = false := bne_eq_false_iff_eq.mpr c184
       clear c184
       replace H := Option.bind_eq_some_iff.mp H
       obtain ⟨t293, A1850, H⟩ := H
       replace H : (some t293) = some r := H
       have A185 := Aside0.mk A1850
       clear A1850
       obtain rfl := Option.some.inj H
       have hnb186 := NB282_283.out
       have hnc186 := NB283_282.out
       have hnb187 := NB282_284.out
       have hnc187 := NB284_282.out
       have hnb188 := NB282_285.out
       have hnc188 := NB285_282.out
       obtain ⟨hcz189_0, hcz189_1, hcz189_2, hcz189_3, hcz189_4, hcz189_5, hcz189_6, hcz189_7, hcz189_8, hfz189_0, hfz189_1, hfz189_2, hfz189_3, hfz189_4, hfz189_5, hfz189_6, hfz189_7, hfz189_8⟩ := zce9 BK282.out
       have hnb190 := NB283_284.out
       have hnc190 := NB284_283.out
       have hnb191 := NB283_285.out
       have hnc191 := NB285_283.out
       obtain ⟨hcz192_0, hcz192_1, hcz192_2, hcz192_3, hcz192_4, hcz192_5, hcz192_6, hfz192_0, hfz192_1, hfz192_2, hfz192_3, hfz192_4, hfz192_5, hfz192_6⟩ := zce7 BK283.out
       have hnb193 := NB284_285.out
       have hnc193 := NB285_284.out
       obtain ⟨hcz194_0, hcz194_1, hcz194_2, hcz194_3, hfz194_0, hfz194_1, hfz194_2, hfz194_3⟩ := zce4 BK284.out
       go_wp2_with (first | ((with_reducible refine gate_callee (f := 43) rfl ?_); refine goesL_ (some 50) rfl rfl Try.func43 zq3 rfl #[.agg #[.int .i64 a0_0, .int .i64 a0_1, .int .i64 a0_2, .int .i64 a0_3, .int .i64 a0_4, .int .i64 a0_5, .int .i64 a0_6, .slice A0_7 l0_7.length c0_7, .slice A0_8 l0_8.length c0_8], .agg #[.int .i64 a1_0, .int .i64 a1_1, .int .i64 a1_2, .int .i64 a1_3, .int .i64 a1_4, .int .i64 a1_5, .int .i64 a1_6], .agg #[.int .i64 a2_0, .int .i64 a2_1, .int .i64 a2_2, .int .i64 a2_3], .int .i64 a3, .slice A4 l4.length c4] rfl zq8 ?_; (with_reducible refine (glider_Run.calls a0_0 a0_1 a0_2 a0_3 a0_4 a0_5 a0_6 _ _ l0_7 _ _ l0_8 a1_0 a1_1 a1_2 a1_3 a1_4 a1_5 a1_6 a2_0 a2_1 a2_2 a2_3 a3 _ _ l4 t288 t291 t292 _ ?side1 ?side2 ?side3 ?side4 ?side5 ?side6 A33.out).mono ?_); (case side1 => repeat (first | exact (Kd.C_below HR0_7.out HB.out) | (with_reducible refine Kd.C_alloc ?_ _) | (with_reducible refine Kd.C_drewN ?_ _) | (with_reducible refine Kd.C_drew ?_))); (case side2 => exact HC0_7.out); (case side3 => repeat (first | exact (Kd.C_below HR0_8.out HB.out) | (with_reducible refine Kd.C_alloc ?_ _) | (with_reducible refine Kd.C_drewN ?_ _) | (with_reducible refine Kd.C_drew ?_))); (case side4 => exact HC0_8.out); (case side5 => repeat (first | exact (Kd.C_below HR4.out HB.out) | (with_reducible refine Kd.C_alloc ?_ _) | (with_reducible refine Kd.C_drewN ?_ _) | (with_reducible refine Kd.C_drew ?_))); (case side6 => exact HC4.out); rintro e w195 ⟨v289, rfl, ho0, hb⟩; refine ⟨_, rfl, ?_⟩; have HO290 := Aside0.mk (Kd.R_lower (Kd.R_newB ho0 (g := gb284) (o := .cells #[.int .i64 a2_0, .int .i64 a2_1, .int .i64 a2_2, .int .i64 a2_3] 29 (0, 0)) zbfr) (below_size zbzr)); replace BK282 := zbbr BK282 hb; replace BK283 := zbbr BK283 hb; replace BK284 := zbbr BK284 hb; replace BK285 := zbbr BK285 hb; replace HB := zbsr HB hb; (try clear hb); (try clear hb2); (try clear hk); (try clear hi); (try clear ho0); obtain ⟨Ao196, co196, eo196⟩ := Kd.R_slice HO290.out; subst eo196) | (go_at_call 12; (with_reducible refine (isobathtop_works03.calls kj6  t293 _ A185.out).mono ?_); rintro e w197 ⟨rfl, hb⟩; replace HO290 := zrbr HO290 hb; replace BK282 := zbbr BK282 hb; replace BK283 := zbbr BK283 hb; replace BK284 := zbbr BK284 hb; replace BK285 := zbbr BK285 hb; replace HB := zbsr HB hb; (try clear hb); (try clear hb2); (try clear hk); (try clear hi)))
       go_ret
       exact ⟨zq2, zbzr⟩
      ·rw [if_neg c184] at H
       have c184b0 : ((t288.length : Int) == 0) = false := beq_eq_false_iff_ne.mpr c184
       have c184b1 : ((t288.length : Int) != 0) = true := bne_iff_ne.mpr c184
       have c184b2 : ¬ (t288 = []) := fun h_ => c184 (by rw [h_]; rfl)
       have hh_ := Option.some.inj H
       rw [hr_.out] at hh_
       cases hh_

end Go.Proofs.Ythglkoddmpicdaa.Pr
end
