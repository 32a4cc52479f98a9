/- Part 23 of the proof of GliderKnown: what the functions compute. No condition. -/
import Derived.Test.YtmhaiihjfgfaoaaGkGliderKnown3
import Derived.Test.YtmhaiihjfgfaoaaGkGliderKnown13
import Derived.Test.YtmhaiihjfgfaoaaGkGliderKnown15
import Derived.Test.YtmhaiihjfgfaoaaGkGliderKnown5
import Derived.Test.YtmhaiihjfgfaoaaGkGliderKnown12
import Derived.Test.YtmhaiihjfgfaoaaGkGliderKnown18
import Derived.Test.YtmhaiihjfgfaoaaGkGliderKnown21
import Derived.Test.YtmhaiihjfgfaoaaGkGliderKnown22
set_option linter.unusedVariables false
set_option linter.unusedSimpArgs false
section
namespace Go.Proofs.Ytmhaiihjfgfaoaa.Pr
open Go.RowKit Go.Proofs.YtmhaiihjfgfaoaaW.PrintWords Go.Proofs.YtmhaiihjfgfaoaaW.PrintLast Go.Proofs.YtmhaiihjfgfaoaaW.PrintMore
theorem zbbr {W0 W W1 : World} {g : Nat} {o : Obj} (h : Aside0 (W0.heap[g]? = some o)) (hb : Below W.heap.size W W1) (h2 : W.heap[g]? = some o := by (repeat first | (with_reducible first | refine blk_drewN ?_ _ | refine blk_drew ?_ | refine blk_alloc ?_ _) | refine blk_far ?_ (Aside0.out (by first | with_reducible assumption | assumption)) _); exact Aside0.out (by first | with_reducible assumption | assumption)) : Aside0 (W1.heap[g]? = some o) := ⟨blk_below h2 hb⟩
theorem zbsr {w W0 W W1 : World} (h : Aside0 (Below w.heap.size w W0)) (hb : Below W.heap.size W W1) (h2 : Below w.heap.size w W := by repeat (first | (with_reducible first | exact Aside0.out (by first | with_reducible assumption | assumption) | apply below_alloc | apply pw_below_drewN | apply below_drew1 | refine below_set ?_ (Aside0.out (by first | with_reducible assumption | assumption))) | exact Aside0.out (by first | with_reducible assumption | assumption))) : Aside0 (Below w.heap.size w W1) := ⟨below_step h2 hb⟩
theorem zgsr {w W0 W : World} {g : Nat} (h : Aside0 (Below w.heap.size w W0)) (hg : g = W.heap.size) (h2 : Below w.heap.size w W := by repeat (first | (with_reducible first | exact Aside0.out (by first | with_reducible assumption | assumption) | apply below_alloc | apply pw_below_drewN | apply below_drew1 | refine below_set ?_ (Aside0.out (by first | with_reducible assumption | assumption))) | exact Aside0.out (by first | with_reducible assumption | assumption))) : Aside0 (w.heap.size ≤ g) := ⟨by rw [hg]; exact below_size h2⟩
theorem znpr {W0 W : World} {g g1 : Nat} {o : Obj} (h : Aside0 (W0.heap[g]? = some o)) (hg : g1 = W.heap.size) (h2 : W.heap[g]? = some o := by (repeat first | (with_reducible first | refine blk_drewN ?_ _ | refine blk_drew ?_ | refine blk_alloc ?_ _) | refine blk_far ?_ (Aside0.out (by first | with_reducible assumption | assumption)) _); exact Aside0.out (by first | with_reducible assumption | assumption)) : Aside0 (g ≠ g1) := ⟨by rw [hg]; exact Nat.ne_of_lt (blk_lt h2)⟩
theorem znqr {W0 W : World} {g g1 : Nat} {o : Obj} (h : Aside0 (W0.heap[g]? = some o)) (hg : g1 = W.heap.size) (h2 : W.heap[g]? = some o := by (repeat first | (with_reducible first | refine blk_drewN ?_ _ | refine blk_drew ?_ | refine blk_alloc ?_ _) | refine blk_far ?_ (Aside0.out (by first | with_reducible assumption | assumption)) _); exact Aside0.out (by first | with_reducible assumption | assumption)) : Aside0 (g1 ≠ g) := ⟨by rw [hg]; exact Nat.ne_of_gt (blk_lt h2)⟩
theorem zbzr {p : Prop} (h : p := by repeat (first | (with_reducible first | exact Aside0.out (by first | with_reducible assumption | assumption) | apply below_alloc | apply pw_below_drewN | apply below_drew1 | refine below_set ?_ (Aside0.out (by first | with_reducible assumption | assumption))) | exact Aside0.out (by first | with_reducible assumption | assumption))) : p := h
theorem zbfr {p : Prop} (h : p := by (repeat first | (with_reducible first | refine blk_drewN ?_ _ | refine blk_drew ?_ | refine blk_alloc ?_ _) | refine blk_far ?_ (Aside0.out (by first | with_reducible assumption | assumption)) _); exact Aside0.out (by first | with_reducible assumption | assumption)) : p := h
theorem zrbr {α : Type} {d : Kd α} {e base : Nat} {ok : Nat → Prop} {v : Value} {xs : List α} {W0 W W1 : World} (h : Aside0 (d.R e W0 base ok v xs)) (hb : Below W.heap.size W W1) (h2 : d.R e W base ok v xs := by (with_reducible repeat (first | apply Kd.R_alloc | apply Kd.R_drewN | apply Kd.R_drew)); exact Aside0.out (by first | with_reducible assumption | assumption)) : Aside0 (d.R e W1 base ok v xs) := ⟨Kd.R_below h2 hb⟩
attribute [local go_sem] max2_int min2_int max_two min_two max_four
set_option linter.unusedVariables false
set_option linter.unusedSimpArgs false

attribute [local go_sem high] eqA27 eqA31 eqA33
/-! ### isobathlaw03_GliderKnown: function 16 -/
mutual
def isobathlaw03_GliderKnown.j0 : Nat → Bool → Int → Int → Int → Int → Int → Int → Int → List Bool → List (S40) → Int → Int → Int → Int → Int → Int → Int → Int → Int → Option (Bool)
 | 0, _, _, _, _, _, _, _, _, _, _, _, _, _, _, _, _, _, _, _ => none
 | k + 1, x70, x318000, x318001, x318002, x318003, x318004, x318005, x318006, x318007, x318008, x319000, x319001, x319002, x319003, x319004, x319005, x319006, x320000, x320001 => if x70 = true then (some false) else (if 4 ≤ 17592186044416 then ((glider_Energy.f k x319000 x319001 x319002 x319003 x319004 x319005 x319006 x320000 x320001 (List.replicate 4 z33)).bind fun bt343 => (if bt343.2.2 = 19 then (isobathlaw03_GliderKnown.j1 k (bt343.2.1 != 3) x318000 x318001 x318002 x318003 x318004 x318005 x318006 x318007 x318008 x319000 x319001 x319002 x319003 x319004 x319005 x319006 x320000 x320001) else (isobathlaw03_GliderKnown.j1 k true x318000 x318001 x318002 x318003 x318004 x318005 x318006 x318007 x318008 x319000 x319001 x319002 x319003 x319004 x319005 x319006 x320000 x320001))) else (none))
def isobathlaw03_GliderKnown.j1 : Nat → Bool → Int → Int → Int → Int → Int → Int → Int → List Bool → List (S40) → Int → Int → Int → Int → Int → Int → Int → Int → Int → Option (Bool)
 | 0, _, _, _, _, _, _, _, _, _, _, _, _, _, _, _, _, _, _, _ => none
 | k + 1, x84, x318000, x318001, x318002, x318003, x318004, x318005, x318006, x318007, x318008, x319000, x319001, x319002, x319003, x319004, x319005, x319006, x320000, x320001 => if x84 = true then (some false) else ((isobathlaw03_point.f 2000 2000).bind fun bt349 => ((glider_Best.f x318000 x318001 x318002 x318003 x318004 x318005 x318006 x318007 x318008 x319000 x319001 x319002 x319003 x319004 x319005 x319006 bt349.1 bt349.2.1 bt349.2.2.1 bt349.2.2.2 0 x320000 x320001 2100 2600 1900 2100 0 2000 2).bind fun bt353 => (if bt353.2.2 = 0 then (if bt353.2.1 = 60 then (if (bt353.1.length : Int) = 1 then (if 0 < (bt353.1.length : Int) then (isobathlaw03_GliderKnown.j2 k bt353.1 (!(((rd_T33 bt353.1 0).f0) == 2) || (!(((rd_T33 bt353.1 0).f1) == 0))) x318000 x318001 x318002 x318003 x318004 x318005 x318006 x318007 x318008 x319000 x319001 x319002 x319003 x319004 x319005 x319006) else (none)) else (isobathlaw03_GliderKnown.j2 k bt353.1 true x318000 x318001 x318002 x318003 x318004 x318005 x318006 x318007 x318008 x319000 x319001 x319002 x319003 x319004 x319005 x319006)) else (isobathlaw03_GliderKnown.j2 k bt353.1 true x318000 x318001 x318002 x318003 x318004 x318005 x318006 x318007 x318008 x319000 x319001 x319002 x319003 x319004 x319005 x319006)) else (isobathlaw03_GliderKnown.j2 k bt353.1 true x318000 x318001 x318002 x318003 x318004 x318005 x318006 x318007 x318008 x319000 x319001 x319002 x319003 x319004 x319005 x319006))))
def isobathlaw03_GliderKnown.j2 : Nat → List (S33) → Bool → Int → Int → Int → Int → Int → Int → Int → List Bool → List (S40) → Int → Int → Int → Int → Int → Int → Int → Option (Bool)
 | 0, _, _, _, _, _, _, _, _, _, _, _, _, _, _, _, _, _, _ => none
 | k + 1, x10, x116, x318000, x318001, x318002, x318003, x318004, x318005, x318006, x318007, x318008, x319000, x319001, x319002, x319003, x319004, x319005, x319006 => if x116 = true then (some false) else ((isobathlaw03_point.f 2000 2000).bind fun bt359 => ((glider_Reach.f x318000 x318001 x318002 x318003 x318004 x318005 x318006 x318007 x318008 x319000 x319001 x319002 x319003 x319004 x319005 x319006 bt359.1 bt359.2.1 bt359.2.2.1 bt359.2.2.2 0 1).bind fun bt363 => ((isobathlaw03_point.f 2000 2000).bind fun bt367 => ((glider_Run.f x318000 x318001 x318002 x318003 x318004 x318005 x318006 x318007 x318008 x319000 x319001 x319002 x319003 x319004 x319005 x319006 bt367.1 bt367.2.1 bt367.2.2.1 bt367.2.2.2 0 x10).bind fun bt371 => (if bt363.2 = 0 then (if bt371.2.2 = 0 then (if (bt363.1.length : Int) = 1 then (if 0 < (bt363.1.length : Int) then (isobathlaw03_GliderKnown.j3 k bt371.1 ((!(((rd_T31 bt363.1 0).f0.f0) == 1600) || (!(((rd_T31 bt363.1 0).f0.f1) == 2400))) || ((!(((rd_T31 bt363.1 0).f1.f0) == 1700) || (!(((rd_T31 bt363.1 0).f1.f1) == 2300))))) x318000 x318001 x318002 x318003 x318004 x318005 x318006 x318007 x318008) else (none)) else (isobathlaw03_GliderKnown.j3 k bt371.1 true x318000 x318001 x318002 x318003 x318004 x318005 x318006 x318007 x318008)) else (isobathlaw03_GliderKnown.j3 k bt371.1 true x318000 x318001 x318002 x318003 x318004 x318005 x318006 x318007 x318008)) else (isobathlaw03_GliderKnown.j3 k bt371.1 true x318000 x318001 x318002 x318003 x318004 x318005 x318006 x318007 x318008))))))
def isobathlaw03_GliderKnown.j3 : Nat → List (S31) → Bool → Int → Int → Int → Int → Int → Int → Int → List Bool → List (S40) → Option (Bool)
 | 0, _, _, _, _, _, _, _, _, _, _, _ => none
 | k + 1, x13, x152, x318000, x318001, x318002, x318003, x318004, x318005, x318006, x318007, x318008 => if x152 = true then (some false) else ((glider_Visited.f k x318000 x318001 x318002 x318003 x318004 x318005 x318006 x318007 x318008 (([x13] : List (List (S31))))).bind fun bt380 => (if bt380.2 = 0 then (isobathlaw03_GliderKnown.j4 k bt380.1 ((bt380.1.length : Int) != 16)) else (isobathlaw03_GliderKnown.j4 k bt380.1 true)))
def isobathlaw03_GliderKnown.j4 : Nat → List Int → Bool → Option (Bool)
 | 0, _, _ => none
 | k + 1, x16, x166 => if x166 = true then (some false) else (isobathlaw03_GliderKnown.l0 k x16 0)
def isobathlaw03_GliderKnown.l0 : Nat → List Int → Int → Option (Bool)
 | 0, _, _ => none
 | k + 1, x16, x17 => if x17 < 16 then (if 0 ≤ x17 then (if x17 < (x16.length : Int) then (if x17 = 6 then (if (((rd x16 x17) == 2) != true) = true then (some false) else (if (rd x16 x17) = 1 then (some false) else (isobathlaw03_GliderKnown.l0 k x16 (wrap64 (x17 + 1))))) else (if (((rd x16 x17) == 2) != (x17 == 10)) = true then (some false) else (if (rd x16 x17) = 1 then (some false) else (isobathlaw03_GliderKnown.l0 k x16 (wrap64 (x17 + 1)))))) else (none)) else (none)) else ((isobathlaw03_Works.f k).bind fun t387 => (some t387))
end
def isobathlaw03_GliderKnown.f (k : Nat)  : Option (Bool) := (isobathlaw03_Example.f k).bind fun bt297 => ((isobathlaw03_point.f 400 2000).bind fun bt320 => ((glider_Dive.f bt297.1 bt297.2.1 bt297.2.2.1 bt297.2.2.2.1 bt297.2.2.2.2.1 bt297.2.2.2.2.2.1 bt297.2.2.2.2.2.2.1 bt297.2.2.2.2.2.2.2.1 bt297.2.2.2.2.2.2.2.2.1 bt297.2.2.2.2.2.2.2.2.2.1 bt297.2.2.2.2.2.2.2.2.2.2.1 bt297.2.2.2.2.2.2.2.2.2.2.2.1 bt297.2.2.2.2.2.2.2.2.2.2.2.2.1 bt297.2.2.2.2.2.2.2.2.2.2.2.2.2.1 bt297.2.2.2.2.2.2.2.2.2.2.2.2.2.2.1 bt297.2.2.2.2.2.2.2.2.2.2.2.2.2.2.2 bt320.1 bt320.2.1 bt320.2.2.1 bt320.2.2.2 0 0 0).bind fun bt324 => ((glider_Energy.f k bt297.2.2.2.2.2.2.2.2.2.1 bt297.2.2.2.2.2.2.2.2.2.2.1 bt297.2.2.2.2.2.2.2.2.2.2.2.1 bt297.2.2.2.2.2.2.2.2.2.2.2.2.1 bt297.2.2.2.2.2.2.2.2.2.2.2.2.2.1 bt297.2.2.2.2.2.2.2.2.2.2.2.2.2.2.1 bt297.2.2.2.2.2.2.2.2.2.2.2.2.2.2.2 300 310 (([(⟨2, 0⟩ : S33), (⟨8, 0⟩ : S33), (⟨2, 0⟩ : S33)] : List (S33)))).bind fun bt333 => (if bt324.2.2.2.2 = 5 then (if bt333.2.2 = 0 then (if bt333.2.1 = 3 then (if (bt333.1.length : Int) = 3 then (if 1 < (bt333.1.length : Int) then (if (!(((rd_T27 bt333.1 1).f0) == 234) || (!(((rd_T27 bt333.1 1).f1) == 255))) = true then (isobathlaw03_GliderKnown.j0 k true bt297.1 bt297.2.1 bt297.2.2.1 bt297.2.2.2.1 bt297.2.2.2.2.1 bt297.2.2.2.2.2.1 bt297.2.2.2.2.2.2.1 bt297.2.2.2.2.2.2.2.1 bt297.2.2.2.2.2.2.2.2.1 bt297.2.2.2.2.2.2.2.2.2.1 bt297.2.2.2.2.2.2.2.2.2.2.1 bt297.2.2.2.2.2.2.2.2.2.2.2.1 bt297.2.2.2.2.2.2.2.2.2.2.2.2.1 bt297.2.2.2.2.2.2.2.2.2.2.2.2.2.1 bt297.2.2.2.2.2.2.2.2.2.2.2.2.2.2.1 bt297.2.2.2.2.2.2.2.2.2.2.2.2.2.2.2 300 310) else (if 2 < (bt333.1.length : Int) then (isobathlaw03_GliderKnown.j0 k (!(((rd_T27 bt333.1 2).f0) == 174) || (!(((rd_T27 bt333.1 2).f1) == 205))) bt297.1 bt297.2.1 bt297.2.2.1 bt297.2.2.2.1 bt297.2.2.2.2.1 bt297.2.2.2.2.2.1 bt297.2.2.2.2.2.2.1 bt297.2.2.2.2.2.2.2.1 bt297.2.2.2.2.2.2.2.2.1 bt297.2.2.2.2.2.2.2.2.2.1 bt297.2.2.2.2.2.2.2.2.2.2.1 bt297.2.2.2.2.2.2.2.2.2.2.2.1 bt297.2.2.2.2.2.2.2.2.2.2.2.2.1 bt297.2.2.2.2.2.2.2.2.2.2.2.2.2.1 bt297.2.2.2.2.2.2.2.2.2.2.2.2.2.2.1 bt297.2.2.2.2.2.2.2.2.2.2.2.2.2.2.2 300 310) else (none))) else (none)) else (isobathlaw03_GliderKnown.j0 k true bt297.1 bt297.2.1 bt297.2.2.1 bt297.2.2.2.1 bt297.2.2.2.2.1 bt297.2.2.2.2.2.1 bt297.2.2.2.2.2.2.1 bt297.2.2.2.2.2.2.2.1 bt297.2.2.2.2.2.2.2.2.1 bt297.2.2.2.2.2.2.2.2.2.1 bt297.2.2.2.2.2.2.2.2.2.2.1 bt297.2.2.2.2.2.2.2.2.2.2.2.1 bt297.2.2.2.2.2.2.2.2.2.2.2.2.1 bt297.2.2.2.2.2.2.2.2.2.2.2.2.2.1 bt297.2.2.2.2.2.2.2.2.2.2.2.2.2.2.1 bt297.2.2.2.2.2.2.2.2.2.2.2.2.2.2.2 300 310)) else (isobathlaw03_GliderKnown.j0 k true bt297.1 bt297.2.1 bt297.2.2.1 bt297.2.2.2.1 bt297.2.2.2.2.1 bt297.2.2.2.2.2.1 bt297.2.2.2.2.2.2.1 bt297.2.2.2.2.2.2.2.1 bt297.2.2.2.2.2.2.2.2.1 bt297.2.2.2.2.2.2.2.2.2.1 bt297.2.2.2.2.2.2.2.2.2.2.1 bt297.2.2.2.2.2.2.2.2.2.2.2.1 bt297.2.2.2.2.2.2.2.2.2.2.2.2.1 bt297.2.2.2.2.2.2.2.2.2.2.2.2.2.1 bt297.2.2.2.2.2.2.2.2.2.2.2.2.2.2.1 bt297.2.2.2.2.2.2.2.2.2.2.2.2.2.2.2 300 310)) else (isobathlaw03_GliderKnown.j0 k true bt297.1 bt297.2.1 bt297.2.2.1 bt297.2.2.2.1 bt297.2.2.2.2.1 bt297.2.2.2.2.2.1 bt297.2.2.2.2.2.2.1 bt297.2.2.2.2.2.2.2.1 bt297.2.2.2.2.2.2.2.2.1 bt297.2.2.2.2.2.2.2.2.2.1 bt297.2.2.2.2.2.2.2.2.2.2.1 bt297.2.2.2.2.2.2.2.2.2.2.2.1 bt297.2.2.2.2.2.2.2.2.2.2.2.2.1 bt297.2.2.2.2.2.2.2.2.2.2.2.2.2.1 bt297.2.2.2.2.2.2.2.2.2.2.2.2.2.2.1 bt297.2.2.2.2.2.2.2.2.2.2.2.2.2.2.2 300 310)) else (isobathlaw03_GliderKnown.j0 k true bt297.1 bt297.2.1 bt297.2.2.1 bt297.2.2.2.1 bt297.2.2.2.2.1 bt297.2.2.2.2.2.1 bt297.2.2.2.2.2.2.1 bt297.2.2.2.2.2.2.2.1 bt297.2.2.2.2.2.2.2.2.1 bt297.2.2.2.2.2.2.2.2.2.1 bt297.2.2.2.2.2.2.2.2.2.2.1 bt297.2.2.2.2.2.2.2.2.2.2.2.1 bt297.2.2.2.2.2.2.2.2.2.2.2.2.1 bt297.2.2.2.2.2.2.2.2.2.2.2.2.2.1 bt297.2.2.2.2.2.2.2.2.2.2.2.2.2.2.1 bt297.2.2.2.2.2.2.2.2.2.2.2.2.2.2.2 300 310)))))
theorem isobathlaw03_GliderKnown.mono_l : ∀ k, (∀ y0 y1 y2 y3 y4 y5 y6 y7 y8 y9 y10 y11 y12 y13 y14 y15 y16 y17 y18, LeO (isobathlaw03_GliderKnown.j0 k y0 y1 y2 y3 y4 y5 y6 y7 y8 y9 y10 y11 y12 y13 y14 y15 y16 y17 y18) (isobathlaw03_GliderKnown.j0 (k + 1) y0 y1 y2 y3 y4 y5 y6 y7 y8 y9 y10 y11 y12 y13 y14 y15 y16 y17 y18)) ∧ (∀ y0 y1 y2 y3 y4 y5 y6 y7 y8 y9 y10 y11 y12 y13 y14 y15 y16 y17 y18, LeO (isobathlaw03_GliderKnown.j1 k y0 y1 y2 y3 y4 y5 y6 y7 y8 y9 y10 y11 y12 y13 y14 y15 y16 y17 y18) (isobathlaw03_GliderKnown.j1 (k + 1) y0 y1 y2 y3 y4 y5 y6 y7 y8 y9 y10 y11 y12 y13 y14 y15 y16 y17 y18)) ∧ (∀ y0 y1 y2 y3 y4 y5 y6 y7 y8 y9 y10 y11 y12 y13 y14 y15 y16 y17, LeO (isobathlaw03_GliderKnown.j2 k y0 y1 y2 y3 y4 y5 y6 y7 y8 y9 y10 y11 y12 y13 y14 y15 y16 y17) (isobathlaw03_GliderKnown.j2 (k + 1) y0 y1 y2 y3 y4 y5 y6 y7 y8 y9 y10 y11 y12 y13 y14 y15 y16 y17)) ∧ (∀ y0 y1 y2 y3 y4 y5 y6 y7 y8 y9 y10, LeO (isobathlaw03_GliderKnown.j3 k y0 y1 y2 y3 y4 y5 y6 y7 y8 y9 y10) (isobathlaw03_GliderKnown.j3 (k + 1) y0 y1 y2 y3 y4 y5 y6 y7 y8 y9 y10)) ∧ (∀ y0 y1, LeO (isobathlaw03_GliderKnown.j4 k y0 y1) (isobathlaw03_GliderKnown.j4 (k + 1) y0 y1)) ∧ (∀ y0 y1, LeO (isobathlaw03_GliderKnown.l0 k y0 y1) (isobathlaw03_GliderKnown.l0 (k + 1) y0 y1))
 | 0 => ⟨fun _ _ _ _ _ _ _ _ _ _ _ _ _ _ _ _ _ _ _ r h => by simp [isobathlaw03_GliderKnown.j0] at h, fun _ _ _ _ _ _ _ _ _ _ _ _ _ _ _ _ _ _ _ r h => by simp [isobathlaw03_GliderKnown.j1] at h, fun _ _ _ _ _ _ _ _ _ _ _ _ _ _ _ _ _ _ r h => by simp [isobathlaw03_GliderKnown.j2] at h, fun _ _ _ _ _ _ _ _ _ _ _ r h => by simp [isobathlaw03_GliderKnown.j3] at h, fun _ _ r h => by simp [isobathlaw03_GliderKnown.j4] at h, fun _ _ r h => by simp [isobathlaw03_GliderKnown.l0] at h⟩
 | k + 1 => by
  obtain ⟨ih0, ih1, ih2, ih3, ih4, ih5⟩ := isobathlaw03_GliderKnown.mono_l k
  refine ⟨?_, ?_, ?_, ?_, ?_, ?_⟩
  ·intro y0 y1 y2 y3 y4 y5 y6 y7 y8 y9 y10 y11 y12 y13 y14 y15 y16 y17 y18
   unfold isobathlaw03_GliderKnown.j0
   repeat' first
   | (with_reducible exact ih0 _ _ _ _ _ _ _ _ _ _ _ _ _ _ _ _ _ _ _)
   | (with_reducible exact ih1 _ _ _ _ _ _ _ _ _ _ _ _ _ _ _ _ _ _ _)
   | (with_reducible exact ih2 _ _ _ _ _ _ _ _ _ _ _ _ _ _ _ _ _ _)
   | (with_reducible exact ih3 _ _ _ _ _ _ _ _ _ _ _)
   | (with_reducible exact ih4 _ _)
   | (with_reducible exact ih5 _ _)
   | (with_reducible exact glider_Energy.mono _ _ _ _ _ _ _ _ _ _ _)
   | (with_reducible exact glider_Visited.mono _ _ _ _ _ _ _ _ _ _ _)
   | (with_reducible exact isobathlaw03_Example.mono _)
   | (with_reducible exact isobathlaw03_Works.mono _)
   | (with_reducible exact LeO.refl _)
   | (with_reducible exact LeO.none _)
   | (with_reducible refine LeO.ite ?_ ?_)
   | (with_reducible refine LeO.bind ?_ (fun _ => ?_))
   | exact ih0 _ _ _ _ _ _ _ _ _ _ _ _ _ _ _ _ _ _ _
   | exact ih1 _ _ _ _ _ _ _ _ _ _ _ _ _ _ _ _ _ _ _
   | exact ih2 _ _ _ _ _ _ _ _ _ _ _ _ _ _ _ _ _ _
   | exact ih3 _ _ _ _ _ _ _ _ _ _ _
   | exact ih4 _ _
   | exact ih5 _ _
   | exact glider_Energy.mono _ _ _ _ _ _ _ _ _ _ _
   | exact glider_Visited.mono _ _ _ _ _ _ _ _ _ _ _
   | exact isobathlaw03_Example.mono _
   | exact isobathlaw03_Works.mono _
   | exact LeO.none _
   | refine LeO.ite ?_ ?_
   | refine LeO.bind ?_ (fun _ => ?_)
  ·intro y0 y1 y2 y3 y4 y5 y6 y7 y8 y9 y10 y11 y12 y13 y14 y15 y16 y17 y18
   unfold isobathlaw03_GliderKnown.j1
   repeat' first
   | (with_reducible exact ih0 _ _ _ _ _ _ _ _ _ _ _ _ _ _ _ _ _ _ _)
   | (with_reducible exact ih1 _ _ _ _ _ _ _ _ _ _ _ _ _ _ _ _ _ _ _)
   | (with_reducible exact ih2 _ _ _ _ _ _ _ _ _ _ _ _ _ _ _ _ _ _)
   | (with_reducible exact ih3 _ _ _ _ _ _ _ _ _ _ _)
   | (with_reducible exact ih4 _ _)
   | (with_reducible exact ih5 _ _)
   | (with_reducible exact glider_Energy.mono _ _ _ _ _ _ _ _ _ _ _)
   | (with_reducible exact glider_Visited.mono _ _ _ _ _ _ _ _ _ _ _)
   | (with_reducible exact isobathlaw03_Example.mono _)
   | (with_reducible exact isobathlaw03_Works.mono _)
   | (with_reducible exact LeO.refl _)
   | (with_reducible exact LeO.none _)
   | (with_reducible refine LeO.ite ?_ ?_)
   | (with_reducible refine LeO.bind ?_ (fun _ => ?_))
   | exact ih0 _ _ _ _ _ _ _ _ _ _ _ _ _ _ _ _ _ _ _
   | exact ih1 _ _ _ _ _ _ _ _ _ _ _ _ _ _ _ _ _ _ _
   | exact ih2 _ _ _ _ _ _ _ _ _ _ _ _ _ _ _ _ _ _
   | exact ih3 _ _ _ _ _ _ _ _ _ _ _
   | exact ih4 _ _
   | exact ih5 _ _
   | exact glider_Energy.mono _ _ _ _ _ _ _ _ _ _ _
   | exact glider_Visited.mono _ _ _ _ _ _ _ _ _ _ _
   | exact isobathlaw03_Example.mono _
   | exact isobathlaw03_Works.mono _
   | exact LeO.none _
   | refine LeO.ite ?_ ?_
   | refine LeO.bind ?_ (fun _ => ?_)
  ·intro y0 y1 y2 y3 y4 y5 y6 y7 y8 y9 y10 y11 y12 y13 y14 y15 y16 y17
   unfold isobathlaw03_GliderKnown.j2
   repeat' first
   | (with_reducible exact ih0 _ _ _ _ _ _ _ _ _ _ _ _ _ _ _ _ _ _ _)
   | (with_reducible exact ih1 _ _ _ _ _ _ _ _ _ _ _ _ _ _ _ _ _ _ _)
   | (with_reducible exact ih2 _ _ _ _ _ _ _ _ _ _ _ _ _ _ _ _ _ _)
   | (with_reducible exact ih3 _ _ _ _ _ _ _ _ _ _ _)
   | (with_reducible exact ih4 _ _)
   | (with_reducible exact ih5 _ _)
   | (with_reducible exact glider_Energy.mono _ _ _ _ _ _ _ _ _ _ _)
   | (with_reducible exact glider_Visited.mono _ _ _ _ _ _ _ _ _ _ _)
   | (with_reducible exact isobathlaw03_Example.mono _)
   | (with_reducible exact isobathlaw03_Works.mono _)
   | (with_reducible exact LeO.refl _)
   | (with_reducible exact LeO.none _)
   | (with_reducible refine LeO.ite ?_ ?_)
   | (with_reducible refine LeO.bind ?_ (fun _ => ?_))
   | exact ih0 _ _ _ _ _ _ _ _ _ _ _ _ _ _ _ _ _ _ _
   | exact ih1 _ _ _ _ _ _ _ _ _ _ _ _ _ _ _ _ _ _ _
   | exact ih2 _ _ _ _ _ _ _ _ _ _ _ _ _ _ _ _ _ _
   | exact ih3 _ _ _ _ _ _ _ _ _ _ _
   | exact ih4 _ _
   | exact ih5 _ _
   | exact glider_Energy.mono _ _ _ _ _ _ _ _ _ _ _
   | exact glider_Visited.mono _ _ _ _ _ _ _ _ _ _ _
   | exact isobathlaw03_Example.mono _
   | exact isobathlaw03_Works.mono _
   | exact LeO.none _
   | refine LeO.ite ?_ ?_
   | refine LeO.bind ?_ (fun _ => ?_)
  ·intro y0 y1 y2 y3 y4 y5 y6 y7 y8 y9 y10
   unfold isobathlaw03_GliderKnown.j3
   repeat' first
   | (with_reducible exact ih0 _ _ _ _ _ _ _ _ _ _ _ _ _ _ _ _ _ _ _)
   | (with_reducible exact ih1 _ _ _ _ _ _ _ _ _ _ _ _ _ _ _ _ _ _ _)
   | (with_reducible exact ih2 _ _ _ _ _ _ _ _ _ _ _ _ _ _ _ _ _ _)
   | (with_reducible exact ih3 _ _ _ _ _ _ _ _ _ _ _)
   | (with_reducible exact ih4 _ _)
   | (with_reducible exact ih5 _ _)
   | (with_reducible exact glider_Energy.mono _ _ _ _ _ _ _ _ _ _ _)
   | (with_reducible exact glider_Visited.mono _ _ _ _ _ _ _ _ _ _ _)
   | (with_reducible exact isobathlaw03_Example.mono _)
   | (with_reducible exact isobathlaw03_Works.mono _)
   | (with_reducible exact LeO.refl _)
   | (with_reducible exact LeO.none _)
   | (with_reducible refine LeO.ite ?_ ?_)
   | (with_reducible refine LeO.bind ?_ (fun _ => ?_))
   | exact ih0 _ _ _ _ _ _ _ _ _ _ _ _ _ _ _ _ _ _ _
   | exact ih1 _ _ _ _ _ _ _ _ _ _ _ _ _ _ _ _ _ _ _
   | exact ih2 _ _ _ _ _ _ _ _ _ _ _ _ _ _ _ _ _ _
   | exact ih3 _ _ _ _ _ _ _ _ _ _ _
   | exact ih4 _ _
   | exact ih5 _ _
   | exact glider_Energy.mono _ _ _ _ _ _ _ _ _ _ _
   | exact glider_Visited.mono _ _ _ _ _ _ _ _ _ _ _
   | exact isobathlaw03_Example.mono _
   | exact isobathlaw03_Works.mono _
   | exact LeO.none _
   | refine LeO.ite ?_ ?_
   | refine LeO.bind ?_ (fun _ => ?_)
  ·intro y0 y1
   unfold isobathlaw03_GliderKnown.j4
   repeat' first
   | (with_reducible exact ih0 _ _ _ _ _ _ _ _ _ _ _ _ _ _ _ _ _ _ _)
   | (with_reducible exact ih1 _ _ _ _ _ _ _ _ _ _ _ _ _ _ _ _ _ _ _)
   | (with_reducible exact ih2 _ _ _ _ _ _ _ _ _ _ _ _ _ _ _ _ _ _)
   | (with_reducible exact ih3 _ _ _ _ _ _ _ _ _ _ _)
   | (with_reducible exact ih4 _ _)
   | (with_reducible exact ih5 _ _)
   | (with_reducible exact glider_Energy.mono _ _ _ _ _ _ _ _ _ _ _)
   | (with_reducible exact glider_Visited.mono _ _ _ _ _ _ _ _ _ _ _)
   | (with_reducible exact isobathlaw03_Example.mono _)
   | (with_reducible exact isobathlaw03_Works.mono _)
   | (with_reducible exact LeO.refl _)
   | (with_reducible exact LeO.none _)
   | (with_reducible refine LeO.ite ?_ ?_)
   | (with_reducible refine LeO.bind ?_ (fun _ => ?_))
   | exact ih0 _ _ _ _ _ _ _ _ _ _ _ _ _ _ _ _ _ _ _
   | exact ih1 _ _ _ _ _ _ _ _ _ _ _ _ _ _ _ _ _ _ _
   | exact ih2 _ _ _ _ _ _ _ _ _ _ _ _ _ _ _ _ _ _
   | exact ih3 _ _ _ _ _ _ _ _ _ _ _
   | exact ih4 _ _
   | exact ih5 _ _
   | exact glider_Energy.mono _ _ _ _ _ _ _ _ _ _ _
   | exact glider_Visited.mono _ _ _ _ _ _ _ _ _ _ _
   | exact isobathlaw03_Example.mono _
   | exact isobathlaw03_Works.mono _
   | exact LeO.none _
   | refine LeO.ite ?_ ?_
   | refine LeO.bind ?_ (fun _ => ?_)
  ·intro y0 y1
   unfold isobathlaw03_GliderKnown.l0
   repeat' first
   | (with_reducible exact ih0 _ _ _ _ _ _ _ _ _ _ _ _ _ _ _ _ _ _ _)
   | (with_reducible exact ih1 _ _ _ _ _ _ _ _ _ _ _ _ _ _ _ _ _ _ _)
   | (with_reducible exact ih2 _ _ _ _ _ _ _ _ _ _ _ _ _ _ _ _ _ _)
   | (with_reducible exact ih3 _ _ _ _ _ _ _ _ _ _ _)
   | (with_reducible exact ih4 _ _)
   | (with_reducible exact ih5 _ _)
   | (with_reducible exact glider_Energy.mono _ _ _ _ _ _ _ _ _ _ _)
   | (with_reducible exact glider_Visited.mono _ _ _ _ _ _ _ _ _ _ _)
   | (with_reducible exact isobathlaw03_Example.mono _)
   | (with_reducible exact isobathlaw03_Works.mono _)
   | (with_reducible exact LeO.refl _)
   | (with_reducible exact LeO.none _)
   | (with_reducible refine LeO.ite ?_ ?_)
   | (with_reducible refine LeO.bind ?_ (fun _ => ?_))
   | exact ih0 _ _ _ _ _ _ _ _ _ _ _ _ _ _ _ _ _ _ _
   | exact ih1 _ _ _ _ _ _ _ _ _ _ _ _ _ _ _ _ _ _ _
   | exact ih2 _ _ _ _ _ _ _ _ _ _ _ _ _ _ _ _ _ _
   | exact ih3 _ _ _ _ _ _ _ _ _ _ _
   | exact ih4 _ _
   | exact ih5 _ _
   | exact glider_Energy.mono _ _ _ _ _ _ _ _ _ _ _
   | exact glider_Visited.mono _ _ _ _ _ _ _ _ _ _ _
   | exact isobathlaw03_Example.mono _
   | exact isobathlaw03_Works.mono _
   | exact LeO.none _
   | refine LeO.ite ?_ ?_
   | refine LeO.bind ?_ (fun _ => ?_)
theorem isobathlaw03_GliderKnown.mono : ∀ k, LeO (isobathlaw03_GliderKnown.f k ) (isobathlaw03_GliderKnown.f (k + 1) ) := by
 intro  k
 obtain ⟨ih0, ih1, ih2, ih3, ih4, ih5⟩ := isobathlaw03_GliderKnown.mono_l k
 unfold isobathlaw03_GliderKnown.f
 repeat' first
   | (with_reducible exact ih0 _ _ _ _ _ _ _ _ _ _ _ _ _ _ _ _ _ _ _)
   | (with_reducible exact ih1 _ _ _ _ _ _ _ _ _ _ _ _ _ _ _ _ _ _ _)
   | (with_reducible exact ih2 _ _ _ _ _ _ _ _ _ _ _ _ _ _ _ _ _ _)
   | (with_reducible exact ih3 _ _ _ _ _ _ _ _ _ _ _)
   | (with_reducible exact ih4 _ _)
   | (with_reducible exact ih5 _ _)
   | (with_reducible exact glider_Energy.mono _ _ _ _ _ _ _ _ _ _ _)
   | (with_reducible exact glider_Visited.mono _ _ _ _ _ _ _ _ _ _ _)
   | (with_reducible exact isobathlaw03_Example.mono _)
   | (with_reducible exact isobathlaw03_Works.mono _)
   | (with_reducible exact LeO.refl _)
   | (with_reducible exact LeO.none _)
   | (with_reducible refine LeO.ite ?_ ?_)
   | (with_reducible refine LeO.bind ?_ (fun _ => ?_))
   | exact ih0 _ _ _ _ _ _ _ _ _ _ _ _ _ _ _ _ _ _ _
   | exact ih1 _ _ _ _ _ _ _ _ _ _ _ _ _ _ _ _ _ _ _
   | exact ih2 _ _ _ _ _ _ _ _ _ _ _ _ _ _ _ _ _ _
   | exact ih3 _ _ _ _ _ _ _ _ _ _ _
   | exact ih4 _ _
   | exact ih5 _ _
   | exact glider_Energy.mono _ _ _ _ _ _ _ _ _ _ _
   | exact glider_Visited.mono _ _ _ _ _ _ _ _ _ _ _
   | exact isobathlaw03_Example.mono _
   | exact isobathlaw03_Works.mono _
   | exact LeO.none _
   | refine LeO.ite ?_ ?_
   | refine LeO.bind ?_ (fun _ => ?_)
def isobathlaw03_GliderKnown.T3 : Bool × List (List Nat × List Nat) := (true, [([], []), ([], []), ([], []), ([], []), ([0, 1, 2, 3, 2], [0, 1, 2, 3]), ([4], [4]), ([5], [5]), ([5], [5]), ([], []), ([8, 6, 4, 0, 1, 2, 3, 4, 5, 6, 8], [6, 8]), ([7, 9, 0, 1, 2, 3, 4, 5, 6, 7, 8, 9], [7])])
def isobathlaw03_GliderKnown.B3 : List Nat := [0, 0, 0, 0, 15, 31, 63, 63, 0, 383, 1023]
theorem isobathlaw03_GliderKnown.tab3 : rtab .any (opsOf Try.f16 3) = isobathlaw03_GliderKnown.T3 := by kernel_rfl
theorem isobathlaw03_GliderKnown.bits3 : waitsOk isobathlaw03_GliderKnown.T3.2 isobathlaw03_GliderKnown.B3 = true := by kernel_rfl
def isobathlaw03_GliderKnown.T7 : Bool × List (List Nat × List Nat) := (true, [([], []), ([], []), ([], []), ([0, 1, 2], [0, 1, 2]), ([3], [3]), ([4], [4]), ([4], [4]), ([4], [4]), ([6, 3, 0, 1, 2, 3, 4, 5, 6], [6]), ([7, 8, 0, 1, 2, 3, 4, 5, 6, 7, 8], [7])])
def isobathlaw03_GliderKnown.B7 : List Nat := [0, 0, 0, 7, 15, 31, 31, 31, 127, 511]
theorem isobathlaw03_GliderKnown.tab7 : rtab .any (opsOf Try.f16 7) = isobathlaw03_GliderKnown.T7 := by kernel_rfl
theorem isobathlaw03_GliderKnown.bits7 : waitsOk isobathlaw03_GliderKnown.T7.2 isobathlaw03_GliderKnown.B7 = true := by kernel_rfl
def isobathlaw03_GliderKnown.T11 : Bool × List (List Nat × List Nat) := (true, [([], []), ([], []), ([], []), ([], []), ([], []), ([0, 1, 2, 3, 4, 2], [0, 1, 2, 3, 4]), ([5], [5]), ([6], [6]), ([6], [6]), ([6], [6]), ([7, 5, 0, 1, 2, 3, 4, 5, 6, 7], [7]), ([8, 10, 0, 1, 2, 3, 4, 5, 6, 7, 8, 10], [8]), ([9, 11, 0, 1, 2, 3, 4, 5, 6, 7, 8, 9, 10, 11], [9])])
def isobathlaw03_GliderKnown.B11 : List Nat := [0, 0, 0, 0, 0, 31, 63, 127, 127, 127, 255, 1535, 4095]
theorem isobathlaw03_GliderKnown.tab11 : rtab .any (opsOf Try.f16 11) = isobathlaw03_GliderKnown.T11 := by kernel_rfl
theorem isobathlaw03_GliderKnown.bits11 : waitsOk isobathlaw03_GliderKnown.T11.2 isobathlaw03_GliderKnown.B11 = true := by kernel_rfl
def isobathlaw03_GliderKnown.T14 : Bool × List (List Nat × List Nat) := (true, [([], []), ([], []), ([], []), ([0, 1, 2, 2], [0, 1, 2]), ([3], [3]), ([4], [4]), ([4], [4]), ([5, 3, 0, 1, 2, 3, 4, 5], [5]), ([6, 7, 0, 1, 2, 3, 4, 5, 6, 7], [6])])
def isobathlaw03_GliderKnown.B14 : List Nat := [0, 0, 0, 7, 15, 31, 31, 63, 255]
theorem isobathlaw03_GliderKnown.tab14 : rtab .any (opsOf Try.f16 14) = isobathlaw03_GliderKnown.T14 := by kernel_rfl
theorem isobathlaw03_GliderKnown.bits14 : waitsOk isobathlaw03_GliderKnown.T14.2 isobathlaw03_GliderKnown.B14 = true := by kernel_rfl
def isobathlaw03_GliderKnown.T15 : Bool × List (List Nat × List Nat) := (true, [([], []), ([], []), ([], []), ([], []), ([0, 1, 2, 3, 2], [0, 1, 2, 3]), ([4], [4]), ([5], [5]), ([5], [5]), ([5], [5]), ([6, 4, 0, 1, 2, 3, 4, 5, 6], [6]), ([7, 9, 0, 1, 2, 3, 4, 5, 6, 7, 9], [7]), ([8, 10, 0, 1, 2, 3, 4, 5, 6, 7, 8, 9, 10], [8])])
def isobathlaw03_GliderKnown.B15 : List Nat := [0, 0, 0, 0, 15, 31, 63, 63, 63, 127, 767, 2047]
theorem isobathlaw03_GliderKnown.tab15 : rtab .any (opsOf Try.f16 15) = isobathlaw03_GliderKnown.T15 := by kernel_rfl
theorem isobathlaw03_GliderKnown.bits15 : waitsOk isobathlaw03_GliderKnown.T15.2 isobathlaw03_GliderKnown.B15 = true := by kernel_rfl
set_option maxRecDepth 100000 in
theorem isobathlaw03_GliderKnown.true_ : isobathlaw03_GliderKnown.f 300 = some true := by kernel_rfl
set_option maxHeartbeats 80000000 in
set_option maxRecDepth 100000 in
theorem isobathlaw03_GliderKnown.calls (k : Nat)  (r : Bool) (w : World) (h : isobathlaw03_GliderKnown.f k  = some r) :
  Calls Try.prog 16 #[] w fun e w' => e = .returned (.bool r) ∧ Below w.heap.size w w' := by
 have hr_ : Aside0 (r = true) := ⟨Option.some.inj ((at_rounds isobathlaw03_GliderKnown.mono (Nat.le_max_left k 300) h).symm.trans (at_rounds isobathlaw03_GliderKnown.mono (Nat.le_max_right k 300) isobathlaw03_GliderKnown.true_))⟩
 have hu25 := Try.underlying25
 have hu29 := Try.underlying29
 have hu27 := Try.underlying27
 have hu33 := Try.underlying33
 have hu31 := Try.underlying31
 have hu81 := Try.underlying81
 have HB := Aside0.mk (Below.refl w.heap.size w)
 have H : ((isobathlaw03_Example.f k).bind fun bt297 => ((isobathlaw03_point.f 400 2000).bind fun bt320 => ((glider_Dive.f bt297.1 bt297.2.1 bt297.2.2.1 bt297.2.2.2.1 bt297.2.2.2.2.1 bt297.2.2.2.2.2.1 bt297.2.2.2.2.2.2.1 bt297.2.2.2.2.2.2.2.1 bt297.2.2.2.2.2.2.2.2.1 bt297.2.2.2.2.2.2.2.2.2.1 bt297.2.2.2.2.2.2.2.2.2.2.1 bt297.2.2.2.2.2.2.2.2.2.2.2.1 bt297.2.2.2.2.2.2.2.2.2.2.2.2.1 bt297.2.2.2.2.2.2.2.2.2.2.2.2.2.1 bt297.2.2.2.2.2.2.2.2.2.2.2.2.2.2.1 bt297.2.2.2.2.2.2.2.2.2.2.2.2.2.2.2 bt320.1 bt320.2.1 bt320.2.2.1 bt320.2.2.2 0 0 0).bind fun bt324 => ((glider_Energy.f k bt297.2.2.2.2.2.2.2.2.2.1 bt297.2.2.2.2.2.2.2.2.2.2.1 bt297.2.2.2.2.2.2.2.2.2.2.2.1 bt297.2.2.2.2.2.2.2.2.2.2.2.2.1 bt297.2.2.2.2.2.2.2.2.2.2.2.2.2.1 bt297.2.2.2.2.2.2.2.2.2.2.2.2.2.2.1 bt297.2.2.2.2.2.2.2.2.2.2.2.2.2.2.2 300 310 (([(⟨2, 0⟩ : S33), (⟨8, 0⟩ : S33), (⟨2, 0⟩ : S33)] : List (S33)))).bind fun bt333 => (if bt324.2.2.2.2 = 5 then (if bt333.2.2 = 0 then (if bt333.2.1 = 3 then (if (bt333.1.length : Int) = 3 then (if 1 < (bt333.1.length : Int) then (if (!(((rd_T27 bt333.1 1).f0) == 234) || (!(((rd_T27 bt333.1 1).f1) == 255))) = true then (isobathlaw03_GliderKnown.j0 k true bt297.1 bt297.2.1 bt297.2.2.1 bt297.2.2.2.1 bt297.2.2.2.2.1 bt297.2.2.2.2.2.1 bt297.2.2.2.2.2.2.1 bt297.2.2.2.2.2.2.2.1 bt297.2.2.2.2.2.2.2.2.1 bt297.2.2.2.2.2.2.2.2.2.1 bt297.2.2.2.2.2.2.2.2.2.2.1 bt297.2.2.2.2.2.2.2.2.2.2.2.1 bt297.2.2.2.2.2.2.2.2.2.2.2.2.1 bt297.2.2.2.2.2.2.2.2.2.2.2.2.2.1 bt297.2.2.2.2.2.2.2.2.2.2.2.2.2.2.1 bt297.2.2.2.2.2.2.2.2.2.2.2.2.2.2.2 300 310) else (if 2 < (bt333.1.length : Int) then (isobathlaw03_GliderKnown.j0 k (!(((rd_T27 bt333.1 2).f0) == 174) || (!(((rd_T27 bt333.1 2).f1) == 205))) bt297.1 bt297.2.1 bt297.2.2.1 bt297.2.2.2.1 bt297.2.2.2.2.1 bt297.2.2.2.2.2.1 bt297.2.2.2.2.2.2.1 bt297.2.2.2.2.2.2.2.1 bt297.2.2.2.2.2.2.2.2.1 bt297.2.2.2.2.2.2.2.2.2.1 bt297.2.2.2.2.2.2.2.2.2.2.1 bt297.2.2.2.2.2.2.2.2.2.2.2.1 bt297.2.2.2.2.2.2.2.2.2.2.2.2.1 bt297.2.2.2.2.2.2.2.2.2.2.2.2.2.1 bt297.2.2.2.2.2.2.2.2.2.2.2.2.2.2.1 bt297.2.2.2.2.2.2.2.2.2.2.2.2.2.2.2 300 310) else (none))) else (none)) else (isobathlaw03_GliderKnown.j0 k true bt297.1 bt297.2.1 bt297.2.2.1 bt297.2.2.2.1 bt297.2.2.2.2.1 bt297.2.2.2.2.2.1 bt297.2.2.2.2.2.2.1 bt297.2.2.2.2.2.2.2.1 bt297.2.2.2.2.2.2.2.2.1 bt297.2.2.2.2.2.2.2.2.2.1 bt297.2.2.2.2.2.2.2.2.2.2.1 bt297.2.2.2.2.2.2.2.2.2.2.2.1 bt297.2.2.2.2.2.2.2.2.2.2.2.2.1 bt297.2.2.2.2.2.2.2.2.2.2.2.2.2.1 bt297.2.2.2.2.2.2.2.2.2.2.2.2.2.2.1 bt297.2.2.2.2.2.2.2.2.2.2.2.2.2.2.2 300 310)) else (isobathlaw03_GliderKnown.j0 k true bt297.1 bt297.2.1 bt297.2.2.1 bt297.2.2.2.1 bt297.2.2.2.2.1 bt297.2.2.2.2.2.1 bt297.2.2.2.2.2.2.1 bt297.2.2.2.2.2.2.2.1 bt297.2.2.2.2.2.2.2.2.1 bt297.2.2.2.2.2.2.2.2.2.1 bt297.2.2.2.2.2.2.2.2.2.2.1 bt297.2.2.2.2.2.2.2.2.2.2.2.1 bt297.2.2.2.2.2.2.2.2.2.2.2.2.1 bt297.2.2.2.2.2.2.2.2.2.2.2.2.2.1 bt297.2.2.2.2.2.2.2.2.2.2.2.2.2.2.1 bt297.2.2.2.2.2.2.2.2.2.2.2.2.2.2.2 300 310)) else (isobathlaw03_GliderKnown.j0 k true bt297.1 bt297.2.1 bt297.2.2.1 bt297.2.2.2.1 bt297.2.2.2.2.1 bt297.2.2.2.2.2.1 bt297.2.2.2.2.2.2.1 bt297.2.2.2.2.2.2.2.1 bt297.2.2.2.2.2.2.2.2.1 bt297.2.2.2.2.2.2.2.2.2.1 bt297.2.2.2.2.2.2.2.2.2.2.1 bt297.2.2.2.2.2.2.2.2.2.2.2.1 bt297.2.2.2.2.2.2.2.2.2.2.2.2.1 bt297.2.2.2.2.2.2.2.2.2.2.2.2.2.1 bt297.2.2.2.2.2.2.2.2.2.2.2.2.2.2.1 bt297.2.2.2.2.2.2.2.2.2.2.2.2.2.2.2 300 310)) else (isobathlaw03_GliderKnown.j0 k true bt297.1 bt297.2.1 bt297.2.2.1 bt297.2.2.2.1 bt297.2.2.2.2.1 bt297.2.2.2.2.2.1 bt297.2.2.2.2.2.2.1 bt297.2.2.2.2.2.2.2.1 bt297.2.2.2.2.2.2.2.2.1 bt297.2.2.2.2.2.2.2.2.2.1 bt297.2.2.2.2.2.2.2.2.2.2.1 bt297.2.2.2.2.2.2.2.2.2.2.2.1 bt297.2.2.2.2.2.2.2.2.2.2.2.2.1 bt297.2.2.2.2.2.2.2.2.2.2.2.2.2.1 bt297.2.2.2.2.2.2.2.2.2.2.2.2.2.2.1 bt297.2.2.2.2.2.2.2.2.2.2.2.2.2.2.2 300 310)))))) = some r := h
 clear h
 replace H := Option.bind_eq_some_iff.mp H
 obtain ⟨⟨t297, t298, t299, t300, t301, t302, t303, t304, t307, t310, t311, t312, t313, t314, t315, t316⟩, A10, H⟩ := H
 replace H : ((isobathlaw03_point.f 400 2000).bind fun bt320 => ((glider_Dive.f t297 t298 t299 t300 t301 t302 t303 t304 t307 t310 t311 t312 t313 t314 t315 t316 bt320.1 bt320.2.1 bt320.2.2.1 bt320.2.2.2 0 0 0).bind fun bt324 => ((glider_Energy.f k t310 t311 t312 t313 t314 t315 t316 300 310 (([(⟨2, 0⟩ : S33), (⟨8, 0⟩ : S33), (⟨2, 0⟩ : S33)] : List (S33)))).bind fun bt333 => (if bt324.2.2.2.2 = 5 then (if bt333.2.2 = 0 then (if bt333.2.1 = 3 then (if (bt333.1.length : Int) = 3 then (if 1 < (bt333.1.length : Int) then (if (!(((rd_T27 bt333.1 1).f0) == 234) || (!(((rd_T27 bt333.1 1).f1) == 255))) = true then (isobathlaw03_GliderKnown.j0 k true t297 t298 t299 t300 t301 t302 t303 t304 t307 t310 t311 t312 t313 t314 t315 t316 300 310) else (if 2 < (bt333.1.length : Int) then (isobathlaw03_GliderKnown.j0 k (!(((rd_T27 bt333.1 2).f0) == 174) || (!(((rd_T27 bt333.1 2).f1) == 205))) t297 t298 t299 t300 t301 t302 t303 t304 t307 t310 t311 t312 t313 t314 t315 t316 300 310) else (none))) else (none)) else (isobathlaw03_GliderKnown.j0 k true t297 t298 t299 t300 t301 t302 t303 t304 t307 t310 t311 t312 t313 t314 t315 t316 300 310)) else (isobathlaw03_GliderKnown.j0 k true t297 t298 t299 t300 t301 t302 t303 t304 t307 t310 t311 t312 t313 t314 t315 t316 300 310)) else (isobathlaw03_GliderKnown.j0 k true t297 t298 t299 t300 t301 t302 t303 t304 t307 t310 t311 t312 t313 t314 t315 t316 300 310)) else (isobathlaw03_GliderKnown.j0 k true t297 t298 t299 t300 t301 t302 t303 t304 t307 t310 t311 t312 t313 t314 t315 t316 300 310))))) = some r := H
 have A1 := Aside0.mk A10
 clear A10
 replace H := Option.bind_eq_some_iff.mp H
 obtain ⟨⟨t320, t321, t322, t323⟩, A20, H⟩ := H
 replace H : ((glider_Dive.f t297 t298 t299 t300 t301 t302 t303 t304 t307 t310 t311 t312 t313 t314 t315 t316 t320 t321 t322 t323 0 0 0).bind fun bt324 => ((glider_Energy.f k t310 t311 t312 t313 t314 t315 t316 300 310 (([(⟨2, 0⟩ : S33), (⟨8, 0⟩ : S33), (⟨2, 0⟩ : S33)] : List (S33)))).bind fun bt333 => (if bt324.2.2.2.2 = 5 then (if bt333.2.2 = 0 then (if bt333.2.1 = 3 then (if (bt333.1.length : Int) = 3 then (if 1 < (bt333.1.length : Int) then (if (!(((rd_T27 bt333.1 1).f0) == 234) || (!(((rd_T27 bt333.1 1).f1) == 255))) = true then (isobathlaw03_GliderKnown.j0 k true t297 t298 t299 t300 t301 t302 t303 t304 t307 t310 t311 t312 t313 t314 t315 t316 300 310) else (if 2 < (bt333.1.length : Int) then (isobathlaw03_GliderKnown.j0 k (!(((rd_T27 bt333.1 2).f0) == 174) || (!(((rd_T27 bt333.1 2).f1) == 205))) t297 t298 t299 t300 t301 t302 t303 t304 t307 t310 t311 t312 t313 t314 t315 t316 300 310) else (none))) else (none)) else (isobathlaw03_GliderKnown.j0 k true t297 t298 t299 t300 t301 t302 t303 t304 t307 t310 t311 t312 t313 t314 t315 t316 300 310)) else (isobathlaw03_GliderKnown.j0 k true t297 t298 t299 t300 t301 t302 t303 t304 t307 t310 t311 t312 t313 t314 t315 t316 300 310)) else (isobathlaw03_GliderKnown.j0 k true t297 t298 t299 t300 t301 t302 t303 t304 t307 t310 t311 t312 t313 t314 t315 t316 300 310)) else (isobathlaw03_GliderKnown.j0 k true t297 t298 t299 t300 t301 t302 t303 t304 t307 t310 t311 t312 t313 t314 t315 t316 300 310)))) = some r := H
 have A2 := Aside0.mk A20
 clear A20
 replace H := Option.bind_eq_some_iff.mp H
 obtain ⟨⟨t324, t325, t326, t327, t328⟩, A30, H⟩ := H
 replace H : ((glider_Energy.f k t310 t311 t312 t313 t314 t315 t316 300 310 (([(⟨2, 0⟩ : S33), (⟨8, 0⟩ : S33), (⟨2, 0⟩ : S33)] : List (S33)))).bind fun bt333 => (if t328 = 5 then (if bt333.2.2 = 0 then (if bt333.2.1 = 3 then (if (bt333.1.length : Int) = 3 then (if 1 < (bt333.1.length : Int) then (if (!(((rd_T27 bt333.1 1).f0) == 234) || (!(((rd_T27 bt333.1 1).f1) == 255))) = true then (isobathlaw03_GliderKnown.j0 k true t297 t298 t299 t300 t301 t302 t303 t304 t307 t310 t311 t312 t313 t314 t315 t316 300 310) else (if 2 < (bt333.1.length : Int) then (isobathlaw03_GliderKnown.j0 k (!(((rd_T27 bt333.1 2).f0) == 174) || (!(((rd_T27 bt333.1 2).f1) == 205))) t297 t298 t299 t300 t301 t302 t303 t304 t307 t310 t311 t312 t313 t314 t315 t316 300 310) else (none))) else (none)) else (isobathlaw03_GliderKnown.j0 k true t297 t298 t299 t300 t301 t302 t303 t304 t307 t310 t311 t312 t313 t314 t315 t316 300 310)) else (isobathlaw03_GliderKnown.j0 k true t297 t298 t299 t300 t301 t302 t303 t304 t307 t310 t311 t312 t313 t314 t315 t316 300 310)) else (isobathlaw03_GliderKnown.j0 k true t297 t298 t299 t300 t301 t302 t303 t304 t307 t310 t311 t312 t313 t314 t315 t316 300 310)) else (isobathlaw03_GliderKnown.j0 k true t297 t298 t299 t300 t301 t302 t303 t304 t307 t310 t311 t312 t313 t314 t315 t316 300 310))) = some r := H
 have A3 := Aside0.mk A30
 clear A30
 obtain ⟨y330, hy330⟩ : ∃ y_ : List (S33), y_ = (([(⟨2, 0⟩ : S33), (⟨8, 0⟩ : S33), (⟨2, 0⟩ : S33)] : List (S33))) := ⟨_, rfl⟩
 replace H : ((glider_Energy.f k t310 t311 t312 t313 t314 t315 t316 300 310 y330).bind fun bt333 => (if t328 = 5 then (if bt333.2.2 = 0 then (if bt333.2.1 = 3 then (if (bt333.1.length : Int) = 3 then (if 1 < (bt333.1.length : Int) then (if (!(((rd_T27 bt333.1 1).f0) == 234) || (!(((rd_T27 bt333.1 1).f1) == 255))) = true then (isobathlaw03_GliderKnown.j0 k true t297 t298 t299 t300 t301 t302 t303 t304 t307 t310 t311 t312 t313 t314 t315 t316 300 310) else (if 2 < (bt333.1.length : Int) then (isobathlaw03_GliderKnown.j0 k (!(((rd_T27 bt333.1 2).f0) == 174) || (!(((rd_T27 bt333.1 2).f1) == 205))) t297 t298 t299 t300 t301 t302 t303 t304 t307 t310 t311 t312 t313 t314 t315 t316 300 310) else (none))) else (none)) else (isobathlaw03_GliderKnown.j0 k true t297 t298 t299 t300 t301 t302 t303 t304 t307 t310 t311 t312 t313 t314 t315 t316 300 310)) else (isobathlaw03_GliderKnown.j0 k true t297 t298 t299 t300 t301 t302 t303 t304 t307 t310 t311 t312 t313 t314 t315 t316 300 310)) else (isobathlaw03_GliderKnown.j0 k true t297 t298 t299 t300 t301 t302 t303 t304 t307 t310 t311 t312 t313 t314 t315 t316 300 310)) else (isobathlaw03_GliderKnown.j0 k true t297 t298 t299 t300 t301 t302 t303 t304 t307 t310 t311 t312 t313 t314 t315 t316 300 310))) = some r := by first | (rw [hy330]; with_reducible exact H) | (have H2_ := (Option.bind_some _ _).symm.trans H; rw [hy330]; with_reducible exact H2_) | (have H2_ := (Option.bind_some _ _).symm.trans H; with_reducible exact H2_) | with_reducible exact H | (rw [hy330]; exact H) | exact H
 have Ny330 := Aside0.mk hy330
 clear hy330
 replace H := Option.bind_eq_some_iff.mp H
 obtain ⟨⟨t333, t336, t337⟩, A40, H⟩ := H
 replace H : (if t328 = 5 then (if t337 = 0 then (if t336 = 3 then (if (t333.length : Int) = 3 then (if 1 < (t333.length : Int) then (if (!(((rd_T27 t333 1).f0) == 234) || (!(((rd_T27 t333 1).f1) == 255))) = true then (isobathlaw03_GliderKnown.j0 k true t297 t298 t299 t300 t301 t302 t303 t304 t307 t310 t311 t312 t313 t314 t315 t316 300 310) else (if 2 < (t333.length : Int) then (isobathlaw03_GliderKnown.j0 k (!(((rd_T27 t333 2).f0) == 174) || (!(((rd_T27 t333 2).f1) == 205))) t297 t298 t299 t300 t301 t302 t303 t304 t307 t310 t311 t312 t313 t314 t315 t316 300 310) else (none))) else (none)) else (isobathlaw03_GliderKnown.j0 k true t297 t298 t299 t300 t301 t302 t303 t304 t307 t310 t311 t312 t313 t314 t315 t316 300 310)) else (isobathlaw03_GliderKnown.j0 k true t297 t298 t299 t300 t301 t302 t303 t304 t307 t310 t311 t312 t313 t314 t315 t316 300 310)) else (isobathlaw03_GliderKnown.j0 k true t297 t298 t299 t300 t301 t302 t303 t304 t307 t310 t311 t312 t313 t314 t315 t316 300 310)) else (isobathlaw03_GliderKnown.j0 k true t297 t298 t299 t300 t301 t302 t303 t304 t307 t310 t311 t312 t313 t314 t315 t316 300 310)) = some r := H
 have A4 := Aside0.mk A40
 clear A40
 have HC5 := Aside0.mk H
 clear H
 go_enter Try.func16, Try.ntmps16
 try go_wp2_with (first | ((with_reducible refine gate_callee (f := 61) rfl ?_); refine goesL_ (some 19) rfl rfl Try.func61 zq1 rfl #[] rfl zq6 ?_; (with_reducible refine (isobathlaw03_Example.calls k  t297 t298 t299 t300 t301 t302 t303 t304 t307 t310 t311 t312 t313 t314 t315 t316 _ A1.out).mono ?_); rintro e w6 ⟨v305, v308, rfl, ho0, ho1, hb⟩; refine ⟨_, rfl, ?_⟩; have HO306 := Aside0.mk (Kd.R_lower ho0 (below_size zbzr)); have HO309 := Aside0.mk (Kd.R_lower ho1 (below_size zbzr)); replace HB := zbsr HB hb; (try clear hb); (try clear hb2); (try clear hk); (try clear hi); (try clear ho0); (try clear ho1)) | ((with_reducible refine gate_dst (N := 1) rfl ?_); (try (refine gate_guard (by rfl) ?_; dsimp only)); refine box_event (by rfl) (N := 1) (by rfl) (cs := #[.int .i64 0, .int .i64 0, .int .i64 0, .int .i64 0, .int .i64 0, .int .i64 0, .int .i64 0, .slice none 0 0, .slice none 0 0]) (t := 25) zq4 ?_; intro gb317 hg w7 hbox hb; have BK317 := Aside0.mk (hbox); have GW317 := zgsr HB hg; have GE317 := zgsr HB hg; replace HO306 := zrbr HO306 hb; replace HO309 := zrbr HO309 hb; replace HB := zbsr HB hb; clear hb hbox hg) | ((with_reducible refine gate_dst (N := 2) rfl ?_); (try (refine gate_guard (by rfl) ?_; dsimp only)); refine box_event (by rfl) (N := 2) (by rfl) (cs := #[.int .i64 0, .int .i64 0, .int .i64 0, .int .i64 0, .int .i64 0, .int .i64 0, .int .i64 0]) (t := 29) zq4 ?_; intro gb318 hg w8 hbox hb; have BK318 := Aside0.mk (hbox); have GW318 := zgsr HB hg; have GE318 := zgsr HB hg; have NB317_318 := znpr BK317 hg; have NB318_317 := znqr BK317 hg; replace HO306 := zrbr HO306 hb; replace HO309 := zrbr HO309 hb; replace BK317 := zbbr BK317 hb; replace HB := zbsr HB hb; clear hb hbox hg; have hnb9 := NB317_318.out; have hnc9 := NB318_317.out; obtain ⟨hcz10_0, hcz10_1, hcz10_2, hcz10_3, hcz10_4, hcz10_5, hcz10_6, hcz10_7, hcz10_8, hfz10_0, hfz10_1, hfz10_2, hfz10_3, hfz10_4, hfz10_5, hfz10_6, hfz10_7, hfz10_8⟩ := zce9 BK317.out; obtain ⟨Ao11, co11, eo11⟩ := Kd.R_slice HO306.out; subst eo11; obtain ⟨Ao12, co12, eo12⟩ := Kd.R_slice HO309.out; subst eo12; obtain ⟨hcz13_0, hcz13_1, hcz13_2, hcz13_3, hcz13_4, hcz13_5, hcz13_6, hfz13_0, hfz13_1, hfz13_2, hfz13_3, hfz13_4, hfz13_5, hfz13_6⟩ := zce7 BK318.out) | ((with_reducible refine gate_dst (N := 3) rfl ?_); (try (refine gate_guard (by rfl) ?_; dsimp only)); refine box_event (by rfl) (N := 3) (by rfl) (cs := #[.int .i64 0, .int .i64 0]) (t := 27) zq4 ?_; intro gb319 hg w14 hbox hb; have n0_ := Aside0.mk (Kd.R_below (by (with_reducible repeat (first | apply Kd.R_alloc | apply Kd.R_drewN | apply Kd.R_drew)); exact (Kd.R_mono (Kd.R_mono (Kd.R_far (p := ⟨gb318, 6, none⟩) (Kd.R_far (p := ⟨gb318, 5, none⟩) (Kd.R_far (p := ⟨gb318, 4, none⟩) (Kd.R_far (p := ⟨gb318, 3, none⟩) (Kd.R_far (p := ⟨gb318, 2, none⟩) (Kd.R_far (p := ⟨gb318, 1, none⟩) (Kd.R_far (p := ⟨gb318, 0, none⟩) (Kd.R_far (p := ⟨gb317, 8, none⟩) (Kd.R_far (p := ⟨gb317, 7, none⟩) (Kd.R_far (p := ⟨gb317, 6, none⟩) (Kd.R_far (p := ⟨gb317, 5, none⟩) (Kd.R_far (p := ⟨gb317, 4, none⟩) (Kd.R_far (p := ⟨gb317, 3, none⟩) (Kd.R_far (p := ⟨gb317, 2, none⟩) (Kd.R_far (p := ⟨gb317, 1, none⟩) (Kd.R_far (p := ⟨gb317, 0, none⟩) (Kd.R_types (Kd.R_types HO306.out BK317.out (by decide)) BK318.out (by decide)) (fun _ hk => hk.1.2) (.int .i64 t297)) (fun _ hk => hk.1.2) (.int .i64 t298)) (fun _ hk => hk.1.2) (.int .i64 t299)) (fun _ hk => hk.1.2) (.int .i64 t300)) (fun _ hk => hk.1.2) (.int .i64 t301)) (fun _ hk => hk.1.2) (.int .i64 t302)) (fun _ hk => hk.1.2) (.int .i64 t303)) (fun _ hk => hk.1.2) (.slice Ao11 t304.length co11)) (fun _ hk => hk.1.2) (.slice Ao12 t307.length co12)) (fun _ hk => hk.2) (.int .i64 t310)) (fun _ hk => hk.2) (.int .i64 t311)) (fun _ hk => hk.2) (.int .i64 t312)) (fun _ hk => hk.2) (.int .i64 t313)) (fun _ hk => hk.2) (.int .i64 t314)) (fun _ hk => hk.2) (.int .i64 t315)) (fun _ hk => hk.2) (.int .i64 t316)) (fun _ h_ => h_.1)) (fun _ h_ => h_.1))) hb); have n1_ := Aside0.mk (Kd.R_below (by (with_reducible repeat (first | apply Kd.R_alloc | apply Kd.R_drewN | apply Kd.R_drew)); exact (Kd.R_mono (Kd.R_mono (Kd.R_far (p := ⟨gb318, 6, none⟩) (Kd.R_far (p := ⟨gb318, 5, none⟩) (Kd.R_far (p := ⟨gb318, 4, none⟩) (Kd.R_far (p := ⟨gb318, 3, none⟩) (Kd.R_far (p := ⟨gb318, 2, none⟩) (Kd.R_far (p := ⟨gb318, 1, none⟩) (Kd.R_far (p := ⟨gb318, 0, none⟩) (Kd.R_far (p := ⟨gb317, 8, none⟩) (Kd.R_far (p := ⟨gb317, 7, none⟩) (Kd.R_far (p := ⟨gb317, 6, none⟩) (Kd.R_far (p := ⟨gb317, 5, none⟩) (Kd.R_far (p := ⟨gb317, 4, none⟩) (Kd.R_far (p := ⟨gb317, 3, none⟩) (Kd.R_far (p := ⟨gb317, 2, none⟩) (Kd.R_far (p := ⟨gb317, 1, none⟩) (Kd.R_far (p := ⟨gb317, 0, none⟩) (Kd.R_types (Kd.R_types HO309.out BK317.out (by decide)) BK318.out (by decide)) (fun _ hk => hk.1.2) (.int .i64 t297)) (fun _ hk => hk.1.2) (.int .i64 t298)) (fun _ hk => hk.1.2) (.int .i64 t299)) (fun _ hk => hk.1.2) (.int .i64 t300)) (fun _ hk => hk.1.2) (.int .i64 t301)) (fun _ hk => hk.1.2) (.int .i64 t302)) (fun _ hk => hk.1.2) (.int .i64 t303)) (fun _ hk => hk.1.2) (.slice Ao11 t304.length co11)) (fun _ hk => hk.1.2) (.slice Ao12 t307.length co12)) (fun _ hk => hk.2) (.int .i64 t310)) (fun _ hk => hk.2) (.int .i64 t311)) (fun _ hk => hk.2) (.int .i64 t312)) (fun _ hk => hk.2) (.int .i64 t313)) (fun _ hk => hk.2) (.int .i64 t314)) (fun _ hk => hk.2) (.int .i64 t315)) (fun _ hk => hk.2) (.int .i64 t316)) (fun _ h_ => h_.1)) (fun _ h_ => h_.1))) hb); have n2_ := Aside0.mk (blk_below (g := gb317) (o := .cells #[.int .i64 t297, .int .i64 t298, .int .i64 t299, .int .i64 t300, .int .i64 t301, .int .i64 t302, .int .i64 t303, .slice Ao11 t304.length co11, .slice Ao12 t307.length co12] 25 (0, 0)) (by (with_reducible repeat (first | refine blk_drewN ?_ _ | refine blk_drew ?_ | refine blk_alloc ?_ _)); refine blk_far ?_ NB317_318.out _; (with_reducible repeat (first | refine blk_drewN ?_ _ | refine blk_drew ?_ | refine blk_alloc ?_ _)); refine blk_far ?_ NB317_318.out _; (with_reducible repeat (first | refine blk_drewN ?_ _ | refine blk_drew ?_ | refine blk_alloc ?_ _)); refine blk_far ?_ NB317_318.out _; (with_reducible repeat (first | refine blk_drewN ?_ _ | refine blk_drew ?_ | refine blk_alloc ?_ _)); refine blk_far ?_ NB317_318.out _; (with_reducible repeat (first | refine blk_drewN ?_ _ | refine blk_drew ?_ | refine blk_alloc ?_ _)); refine blk_far ?_ NB317_318.out _; (with_reducible repeat (first | refine blk_drewN ?_ _ | refine blk_drew ?_ | refine blk_alloc ?_ _)); refine blk_far ?_ NB317_318.out _; (with_reducible repeat (first | refine blk_drewN ?_ _ | refine blk_drew ?_ | refine blk_alloc ?_ _)); refine blk_far ?_ NB317_318.out _; (with_reducible repeat (first | refine blk_drewN ?_ _ | refine blk_drew ?_ | refine blk_alloc ?_ _)); refine blk_put (cs := #[.int .i64 t297, .int .i64 t298, .int .i64 t299, .int .i64 t300, .int .i64 t301, .int .i64 t302, .int .i64 t303, .slice Ao11 t304.length co11, .slice none 0 0]) ?_ 8 _ rfl; (with_reducible repeat (first | refine blk_drewN ?_ _ | refine blk_drew ?_ | refine blk_alloc ?_ _)); refine blk_put (cs := #[.int .i64 t297, .int .i64 t298, .int .i64 t299, .int .i64 t300, .int .i64 t301, .int .i64 t302, .int .i64 t303, .slice none 0 0, .slice none 0 0]) ?_ 7 _ rfl; (with_reducible repeat (first | refine blk_drewN ?_ _ | refine blk_drew ?_ | refine blk_alloc ?_ _)); refine blk_put (cs := #[.int .i64 t297, .int .i64 t298, .int .i64 t299, .int .i64 t300, .int .i64 t301, .int .i64 t302, .int .i64 0, .slice none 0 0, .slice none 0 0]) ?_ 6 _ rfl; (with_reducible repeat (first | refine blk_drewN ?_ _ | refine blk_drew ?_ | refine blk_alloc ?_ _)); refine blk_put (cs := #[.int .i64 t297, .int .i64 t298, .int .i64 t299, .int .i64 t300, .int .i64 t301, .int .i64 0, .int .i64 0, .slice none 0 0, .slice none 0 0]) ?_ 5 _ rfl; (with_reducible repeat (first | refine blk_drewN ?_ _ | refine blk_drew ?_ | refine blk_alloc ?_ _)); refine blk_put (cs := #[.int .i64 t297, .int .i64 t298, .int .i64 t299, .int .i64 t300, .int .i64 0, .int .i64 0, .int .i64 0, .slice none 0 0, .slice none 0 0]) ?_ 4 _ rfl; (with_reducible repeat (first | refine blk_drewN ?_ _ | refine blk_drew ?_ | refine blk_alloc ?_ _)); refine blk_put (cs := #[.int .i64 t297, .int .i64 t298, .int .i64 t299, .int .i64 0, .int .i64 0, .int .i64 0, .int .i64 0, .slice none 0 0, .slice none 0 0]) ?_ 3 _ rfl; (with_reducible repeat (first | refine blk_drewN ?_ _ | refine blk_drew ?_ | refine blk_alloc ?_ _)); refine blk_put (cs := #[.int .i64 t297, .int .i64 t298, .int .i64 0, .int .i64 0, .int .i64 0, .int .i64 0, .int .i64 0, .slice none 0 0, .slice none 0 0]) ?_ 2 _ rfl; (with_reducible repeat (first | refine blk_drewN ?_ _ | refine blk_drew ?_ | refine blk_alloc ?_ _)); refine blk_put (cs := #[.int .i64 t297, .int .i64 0, .int .i64 0, .int .i64 0, .int .i64 0, .int .i64 0, .int .i64 0, .slice none 0 0, .slice none 0 0]) ?_ 1 _ rfl; (with_reducible repeat (first | refine blk_drewN ?_ _ | refine blk_drew ?_ | refine blk_alloc ?_ _)); refine blk_put (cs := #[.int .i64 0, .int .i64 0, .int .i64 0, .int .i64 0, .int .i64 0, .int .i64 0, .int .i64 0, .slice none 0 0, .slice none 0 0]) ?_ 0 _ rfl; (with_reducible repeat (first | refine blk_drewN ?_ _ | refine blk_drew ?_ | refine blk_alloc ?_ _)); exact BK317.out) hb); have n3_ := Aside0.mk (blk_below (g := gb318) (o := .cells #[.int .i64 t310, .int .i64 t311, .int .i64 t312, .int .i64 t313, .int .i64 t314, .int .i64 t315, .int .i64 t316] 29 (0, 0)) (by (with_reducible repeat (first | refine blk_drewN ?_ _ | refine blk_drew ?_ | refine blk_alloc ?_ _)); refine blk_put (cs := #[.int .i64 t310, .int .i64 t311, .int .i64 t312, .int .i64 t313, .int .i64 t314, .int .i64 t315, .int .i64 0]) ?_ 6 _ rfl; (with_reducible repeat (first | refine blk_drewN ?_ _ | refine blk_drew ?_ | refine blk_alloc ?_ _)); refine blk_put (cs := #[.int .i64 t310, .int .i64 t311, .int .i64 t312, .int .i64 t313, .int .i64 t314, .int .i64 0, .int .i64 0]) ?_ 5 _ rfl; (with_reducible repeat (first | refine blk_drewN ?_ _ | refine blk_drew ?_ | refine blk_alloc ?_ _)); refine blk_put (cs := #[.int .i64 t310, .int .i64 t311, .int .i64 t312, .int .i64 t313, .int .i64 0, .int .i64 0, .int .i64 0]) ?_ 4 _ rfl; (with_reducible repeat (first | refine blk_drewN ?_ _ | refine blk_drew ?_ | refine blk_alloc ?_ _)); refine blk_put (cs := #[.int .i64 t310, .int .i64 t311, .int .i64 t312, .int .i64 0, .int .i64 0, .int .i64 0, .int .i64 0]) ?_ 3 _ rfl; (with_reducible repeat (first | refine blk_drewN ?_ _ | refine blk_drew ?_ | refine blk_alloc ?_ _)); refine blk_put (cs := #[.int .i64 t310, .int .i64 t311, .int .i64 0, .int .i64 0, .int .i64 0, .int .i64 0, .int .i64 0]) ?_ 2 _ rfl; (with_reducible repeat (first | refine blk_drewN ?_ _ | refine blk_drew ?_ | refine blk_alloc ?_ _)); refine blk_put (cs := #[.int .i64 t310, .int .i64 0, .int .i64 0, .int .i64 0, .int .i64 0, .int .i64 0, .int .i64 0]) ?_ 1 _ rfl; (with_reducible repeat (first | refine blk_drewN ?_ _ | refine blk_drew ?_ | refine blk_alloc ?_ _)); refine blk_put (cs := #[.int .i64 0, .int .i64 0, .int .i64 0, .int .i64 0, .int .i64 0, .int .i64 0, .int .i64 0]) ?_ 0 _ rfl; (with_reducible repeat (first | refine blk_drewN ?_ _ | refine blk_drew ?_ | refine blk_alloc ?_ _)); refine blk_far ?_ NB318_317.out _; (with_reducible repeat (first | refine blk_drewN ?_ _ | refine blk_drew ?_ | refine blk_alloc ?_ _)); refine blk_far ?_ NB318_317.out _; (with_reducible repeat (first | refine blk_drewN ?_ _ | refine blk_drew ?_ | refine blk_alloc ?_ _)); refine blk_far ?_ NB318_317.out _; (with_reducible repeat (first | refine blk_drewN ?_ _ | refine blk_drew ?_ | refine blk_alloc ?_ _)); refine blk_far ?_ NB318_317.out _; (with_reducible repeat (first | refine blk_drewN ?_ _ | refine blk_drew ?_ | refine blk_alloc ?_ _)); refine blk_far ?_ NB318_317.out _; (with_reducible repeat (first | refine blk_drewN ?_ _ | refine blk_drew ?_ | refine blk_alloc ?_ _)); refine blk_far ?_ NB318_317.out _; (with_reducible repeat (first | refine blk_drewN ?_ _ | refine blk_drew ?_ | refine blk_alloc ?_ _)); refine blk_far ?_ NB318_317.out _; (with_reducible repeat (first | refine blk_drewN ?_ _ | refine blk_drew ?_ | refine blk_alloc ?_ _)); refine blk_far ?_ NB318_317.out _; (with_reducible repeat (first | refine blk_drewN ?_ _ | refine blk_drew ?_ | refine blk_alloc ?_ _)); refine blk_far ?_ NB318_317.out _; (with_reducible repeat (first | refine blk_drewN ?_ _ | refine blk_drew ?_ | refine blk_alloc ?_ _)); exact BK318.out) hb); have n4_ := zbsr HB hb; have n5_ := Aside0.mk (hbox); have n6_ := zgsr HB hg; have n7_ := zgsr HB hg; have n8_ := Aside0.mk ((by rw [hg]; exact Nat.ne_of_lt (blk_lt (g := gb317) (o := .cells #[.int .i64 t297, .int .i64 t298, .int .i64 t299, .int .i64 t300, .int .i64 t301, .int .i64 t302, .int .i64 t303, .slice Ao11 t304.length co11, .slice Ao12 t307.length co12] 25 (0, 0)) (by (with_reducible repeat (first | refine blk_drewN ?_ _ | refine blk_drew ?_ | refine blk_alloc ?_ _)); refine blk_far ?_ NB317_318.out _; (with_reducible repeat (first | refine blk_drewN ?_ _ | refine blk_drew ?_ | refine blk_alloc ?_ _)); refine blk_far ?_ NB317_318.out _; (with_reducible repeat (first | refine blk_drewN ?_ _ | refine blk_drew ?_ | refine blk_alloc ?_ _)); refine blk_far ?_ NB317_318.out _; (with_reducible repeat (first | refine blk_drewN ?_ _ | refine blk_drew ?_ | refine blk_alloc ?_ _)); refine blk_far ?_ NB317_318.out _; (with_reducible repeat (first | refine blk_drewN ?_ _ | refine blk_drew ?_ | refine blk_alloc ?_ _)); refine blk_far ?_ NB317_318.out _; (with_reducible repeat (first | refine blk_drewN ?_ _ | refine blk_drew ?_ | refine blk_alloc ?_ _)); refine blk_far ?_ NB317_318.out _; (with_reducible repeat (first | refine blk_drewN ?_ _ | refine blk_drew ?_ | refine blk_alloc ?_ _)); refine blk_far ?_ NB317_318.out _; (with_reducible repeat (first | refine blk_drewN ?_ _ | refine blk_drew ?_ | refine blk_alloc ?_ _)); refine blk_put (cs := #[.int .i64 t297, .int .i64 t298, .int .i64 t299, .int .i64 t300, .int .i64 t301, .int .i64 t302, .int .i64 t303, .slice Ao11 t304.length co11, .slice none 0 0]) ?_ 8 _ rfl; (with_reducible repeat (first | refine blk_drewN ?_ _ | refine blk_drew ?_ | refine blk_alloc ?_ _)); refine blk_put (cs := #[.int .i64 t297, .int .i64 t298, .int .i64 t299, .int .i64 t300, .int .i64 t301, .int .i64 t302, .int .i64 t303, .slice none 0 0, .slice none 0 0]) ?_ 7 _ rfl; (with_reducible repeat (first | refine blk_drewN ?_ _ | refine blk_drew ?_ | refine blk_alloc ?_ _)); refine blk_put (cs := #[.int .i64 t297, .int .i64 t298, .int .i64 t299, .int .i64 t300, .int .i64 t301, .int .i64 t302, .int .i64 0, .slice none 0 0, .slice none 0 0]) ?_ 6 _ rfl; (with_reducible repeat (first | refine blk_drewN ?_ _ | refine blk_drew ?_ | refine blk_alloc ?_ _)); refine blk_put (cs := #[.int .i64 t297, .int .i64 t298, .int .i64 t299, .int .i64 t300, .int .i64 t301, .int .i64 0, .int .i64 0, .slice none 0 0, .slice none 0 0]) ?_ 5 _ rfl; (with_reducible repeat (first | refine blk_drewN ?_ _ | refine blk_drew ?_ | refine blk_alloc ?_ _)); refine blk_put (cs := #[.int .i64 t297, .int .i64 t298, .int .i64 t299, .int .i64 t300, .int .i64 0, .int .i64 0, .int .i64 0, .slice none 0 0, .slice none 0 0]) ?_ 4 _ rfl; (with_reducible repeat (first | refine blk_drewN ?_ _ | refine blk_drew ?_ | refine blk_alloc ?_ _)); refine blk_put (cs := #[.int .i64 t297, .int .i64 t298, .int .i64 t299, .int .i64 0, .int .i64 0, .int .i64 0, .int .i64 0, .slice none 0 0, .slice none 0 0]) ?_ 3 _ rfl; (with_reducible repeat (first | refine blk_drewN ?_ _ | refine blk_drew ?_ | refine blk_alloc ?_ _)); refine blk_put (cs := #[.int .i64 t297, .int .i64 t298, .int .i64 0, .int .i64 0, .int .i64 0, .int .i64 0, .int .i64 0, .slice none 0 0, .slice none 0 0]) ?_ 2 _ rfl; (with_reducible repeat (first | refine blk_drewN ?_ _ | refine blk_drew ?_ | refine blk_alloc ?_ _)); refine blk_put (cs := #[.int .i64 t297, .int .i64 0, .int .i64 0, .int .i64 0, .int .i64 0, .int .i64 0, .int .i64 0, .slice none 0 0, .slice none 0 0]) ?_ 1 _ rfl; (with_reducible repeat (first | refine blk_drewN ?_ _ | refine blk_drew ?_ | refine blk_alloc ?_ _)); refine blk_put (cs := #[.int .i64 0, .int .i64 0, .int .i64 0, .int .i64 0, .int .i64 0, .int .i64 0, .int .i64 0, .slice none 0 0, .slice none 0 0]) ?_ 0 _ rfl; (with_reducible repeat (first | refine blk_drewN ?_ _ | refine blk_drew ?_ | refine blk_alloc ?_ _)); exact BK317.out)) : gb317 ≠ gb319)); have n9_ := Aside0.mk ((by rw [hg]; exact Nat.ne_of_gt (blk_lt (g := gb317) (o := .cells #[.int .i64 t297, .int .i64 t298, .int .i64 t299, .int .i64 t300, .int .i64 t301, .int .i64 t302, .int .i64 t303, .slice Ao11 t304.length co11, .slice Ao12 t307.length co12] 25 (0, 0)) (by (with_reducible repeat (first | refine blk_drewN ?_ _ | refine blk_drew ?_ | refine blk_alloc ?_ _)); refine blk_far ?_ NB317_318.out _; (with_reducible repeat (first | refine blk_drewN ?_ _ | refine blk_drew ?_ | refine blk_alloc ?_ _)); refine blk_far ?_ NB317_318.out _; (with_reducible repeat (first | refine blk_drewN ?_ _ | refine blk_drew ?_ | refine blk_alloc ?_ _)); refine blk_far ?_ NB317_318.out _; (with_reducible repeat (first | refine blk_drewN ?_ _ | refine blk_drew ?_ | refine blk_alloc ?_ _)); refine blk_far ?_ NB317_318.out _; (with_reducible repeat (first | refine blk_drewN ?_ _ | refine blk_drew ?_ | refine blk_alloc ?_ _)); refine blk_far ?_ NB317_318.out _; (with_reducible repeat (first | refine blk_drewN ?_ _ | refine blk_drew ?_ | refine blk_alloc ?_ _)); refine blk_far ?_ NB317_318.out _; (with_reducible repeat (first | refine blk_drewN ?_ _ | refine blk_drew ?_ | refine blk_alloc ?_ _)); refine blk_far ?_ NB317_318.out _; (with_reducible repeat (first | refine blk_drewN ?_ _ | refine blk_drew ?_ | refine blk_alloc ?_ _)); refine blk_put (cs := #[.int .i64 t297, .int .i64 t298, .int .i64 t299, .int .i64 t300, .int .i64 t301, .int .i64 t302, .int .i64 t303, .slice Ao11 t304.length co11, .slice none 0 0]) ?_ 8 _ rfl; (with_reducible repeat (first | refine blk_drewN ?_ _ | refine blk_drew ?_ | refine blk_alloc ?_ _)); refine blk_put (cs := #[.int .i64 t297, .int .i64 t298, .int .i64 t299, .int .i64 t300, .int .i64 t301, .int .i64 t302, .int .i64 t303, .slice none 0 0, .slice none 0 0]) ?_ 7 _ rfl; (with_reducible repeat (first | refine blk_drewN ?_ _ | refine blk_drew ?_ | refine blk_alloc ?_ _)); refine blk_put (cs := #[.int .i64 t297, .int .i64 t298, .int .i64 t299, .int .i64 t300, .int .i64 t301, .int .i64 t302, .int .i64 0, .slice none 0 0, .slice none 0 0]) ?_ 6 _ rfl; (with_reducible repeat (first | refine blk_drewN ?_ _ | refine blk_drew ?_ | refine blk_alloc ?_ _)); refine blk_put (cs := #[.int .i64 t297, .int .i64 t298, .int .i64 t299, .int .i64 t300, .int .i64 t301, .int .i64 0, .int .i64 0, .slice none 0 0, .slice none 0 0]) ?_ 5 _ rfl; (with_reducible repeat (first | refine blk_drewN ?_ _ | refine blk_drew ?_ | refine blk_alloc ?_ _)); refine blk_put (cs := #[.int .i64 t297, .int .i64 t298, .int .i64 t299, .int .i64 t300, .int .i64 0, .int .i64 0, .int .i64 0, .slice none 0 0, .slice none 0 0]) ?_ 4 _ rfl; (with_reducible repeat (first | refine blk_drewN ?_ _ | refine blk_drew ?_ | refine blk_alloc ?_ _)); refine blk_put (cs := #[.int .i64 t297, .int .i64 t298, .int .i64 t299, .int .i64 0, .int .i64 0, .int .i64 0, .int .i64 0, .slice none 0 0, .slice none 0 0]) ?_ 3 _ rfl; (with_reducible repeat (first | refine blk_drewN ?_ _ | refine blk_drew ?_ | refine blk_alloc ?_ _)); refine blk_put (cs := #[.int .i64 t297, .int .i64 t298, .int .i64 0, .int .i64 0, .int .i64 0, .int .i64 0, .int .i64 0, .slice none 0 0, .slice none 0 0]) ?_ 2 _ rfl; (with_reducible repeat (first | refine blk_drewN ?_ _ | refine blk_drew ?_ | refine blk_alloc ?_ _)); refine blk_put (cs := #[.int .i64 t297, .int .i64 0, .int .i64 0, .int .i64 0, .int .i64 0, .int .i64 0, .int .i64 0, .slice none 0 0, .slice none 0 0]) ?_ 1 _ rfl; (with_reducible repeat (first | refine blk_drewN ?_ _ | refine blk_drew ?_ | refine blk_alloc ?_ _)); refine blk_put (cs := #[.int .i64 0, .int .i64 0, .int .i64 0, .int .i64 0, .int .i64 0, .int .i64 0, .int .i64 0, .slice none 0 0, .slice none 0 0]) ?_ 0 _ rfl; (with_reducible repeat (first | refine blk_drewN ?_ _ | refine blk_drew ?_ | refine blk_alloc ?_ _)); exact BK317.out)) : gb319 ≠ gb317)); have n10_ := Aside0.mk ((by rw [hg]; exact Nat.ne_of_lt (blk_lt (g := gb318) (o := .cells #[.int .i64 t310, .int .i64 t311, .int .i64 t312, .int .i64 t313, .int .i64 t314, .int .i64 t315, .int .i64 t316] 29 (0, 0)) (by (with_reducible repeat (first | refine blk_drewN ?_ _ | refine blk_drew ?_ | refine blk_alloc ?_ _)); refine blk_put (cs := #[.int .i64 t310, .int .i64 t311, .int .i64 t312, .int .i64 t313, .int .i64 t314, .int .i64 t315, .int .i64 0]) ?_ 6 _ rfl; (with_reducible repeat (first | refine blk_drewN ?_ _ | refine blk_drew ?_ | refine blk_alloc ?_ _)); refine blk_put (cs := #[.int .i64 t310, .int .i64 t311, .int .i64 t312, .int .i64 t313, .int .i64 t314, .int .i64 0, .int .i64 0]) ?_ 5 _ rfl; (with_reducible repeat (first | refine blk_drewN ?_ _ | refine blk_drew ?_ | refine blk_alloc ?_ _)); refine blk_put (cs := #[.int .i64 t310, .int .i64 t311, .int .i64 t312, .int .i64 t313, .int .i64 0, .int .i64 0, .int .i64 0]) ?_ 4 _ rfl; (with_reducible repeat (first | refine blk_drewN ?_ _ | refine blk_drew ?_ | refine blk_alloc ?_ _)); refine blk_put (cs := #[.int .i64 t310, .int .i64 t311, .int .i64 t312, .int .i64 0, .int .i64 0, .int .i64 0, .int .i64 0]) ?_ 3 _ rfl; (with_reducible repeat (first | refine blk_drewN ?_ _ | refine blk_drew ?_ | refine blk_alloc ?_ _)); refine blk_put (cs := #[.int .i64 t310, .int .i64 t311, .int .i64 0, .int .i64 0, .int .i64 0, .int .i64 0, .int .i64 0]) ?_ 2 _ rfl; (with_reducible repeat (first | refine blk_drewN ?_ _ | refine blk_drew ?_ | refine blk_alloc ?_ _)); refine blk_put (cs := #[.int .i64 t310, .int .i64 0, .int .i64 0, .int .i64 0, .int .i64 0, .int .i64 0, .int .i64 0]) ?_ 1 _ rfl; (with_reducible repeat (first | refine blk_drewN ?_ _ | refine blk_drew ?_ | refine blk_alloc ?_ _)); refine blk_put (cs := #[.int .i64 0, .int .i64 0, .int .i64 0, .int .i64 0, .int .i64 0, .int .i64 0, .int .i64 0]) ?_ 0 _ rfl; (with_reducible repeat (first | refine blk_drewN ?_ _ | refine blk_drew ?_ | refine blk_alloc ?_ _)); refine blk_far ?_ NB318_317.out _; (with_reducible repeat (first | refine blk_drewN ?_ _ | refine blk_drew ?_ | refine blk_alloc ?_ _)); refine blk_far ?_ NB318_317.out _; (with_reducible repeat (first | refine blk_drewN ?_ _ | refine blk_drew ?_ | refine blk_alloc ?_ _)); refine blk_far ?_ NB318_317.out _; (with_reducible repeat (first | refine blk_drewN ?_ _ | refine blk_drew ?_ | refine blk_alloc ?_ _)); refine blk_far ?_ NB318_317.out _; (with_reducible repeat (first | refine blk_drewN ?_ _ | refine blk_drew ?_ | refine blk_alloc ?_ _)); refine blk_far ?_ NB318_317.out _; (with_reducible repeat (first | refine blk_drewN ?_ _ | refine blk_drew ?_ | refine blk_alloc ?_ _)); refine blk_far ?_ NB318_317.out _; (with_reducible repeat (first | refine blk_drewN ?_ _ | refine blk_drew ?_ | refine blk_alloc ?_ _)); refine blk_far ?_ NB318_317.out _; (with_reducible repeat (first | refine blk_drewN ?_ _ | refine blk_drew ?_ | refine blk_alloc ?_ _)); refine blk_far ?_ NB318_317.out _; (with_reducible repeat (first | refine blk_drewN ?_ _ | refine blk_drew ?_ | refine blk_alloc ?_ _)); refine blk_far ?_ NB318_317.out _; (with_reducible repeat (first | refine blk_drewN ?_ _ | refine blk_drew ?_ | refine blk_alloc ?_ _)); exact BK318.out)) : gb318 ≠ gb319)); have n11_ := Aside0.mk ((by rw [hg]; exact Nat.ne_of_gt (blk_lt (g := gb318) (o := .cells #[.int .i64 t310, .int .i64 t311, .int .i64 t312, .int .i64 t313, .int .i64 t314, .int .i64 t315, .int .i64 t316] 29 (0, 0)) (by (with_reducible repeat (first | refine blk_drewN ?_ _ | refine blk_drew ?_ | refine blk_alloc ?_ _)); refine blk_put (cs := #[.int .i64 t310, .int .i64 t311, .int .i64 t312, .int .i64 t313, .int .i64 t314, .int .i64 t315, .int .i64 0]) ?_ 6 _ rfl; (with_reducible repeat (first | refine blk_drewN ?_ _ | refine blk_drew ?_ | refine blk_alloc ?_ _)); refine blk_put (cs := #[.int .i64 t310, .int .i64 t311, .int .i64 t312, .int .i64 t313, .int .i64 t314, .int .i64 0, .int .i64 0]) ?_ 5 _ rfl; (with_reducible repeat (first | refine blk_drewN ?_ _ | refine blk_drew ?_ | refine blk_alloc ?_ _)); refine blk_put (cs := #[.int .i64 t310, .int .i64 t311, .int .i64 t312, .int .i64 t313, .int .i64 0, .int .i64 0, .int .i64 0]) ?_ 4 _ rfl; (with_reducible repeat (first | refine blk_drewN ?_ _ | refine blk_drew ?_ | refine blk_alloc ?_ _)); refine blk_put (cs := #[.int .i64 t310, .int .i64 t311, .int .i64 t312, .int .i64 0, .int .i64 0, .int .i64 0, .int .i64 0]) ?_ 3 _ rfl; (with_reducible repeat (first | refine blk_drewN ?_ _ | refine blk_drew ?_ | refine blk_alloc ?_ _)); refine blk_put (cs := #[.int .i64 t310, .int .i64 t311, .int .i64 0, .int .i64 0, .int .i64 0, .int .i64 0, .int .i64 0]) ?_ 2 _ rfl; (with_reducible repeat (first | refine blk_drewN ?_ _ | refine blk_drew ?_ | refine blk_alloc ?_ _)); refine blk_put (cs := #[.int .i64 t310, .int .i64 0, .int .i64 0, .int .i64 0, .int .i64 0, .int .i64 0, .int .i64 0]) ?_ 1 _ rfl; (with_reducible repeat (first | refine blk_drewN ?_ _ | refine blk_drew ?_ | refine blk_alloc ?_ _)); refine blk_put (cs := #[.int .i64 0, .int .i64 0, .int .i64 0, .int .i64 0, .int .i64 0, .int .i64 0, .int .i64 0]) ?_ 0 _ rfl; (with_reducible repeat (first | refine blk_drewN ?_ _ | refine blk_drew ?_ | refine blk_alloc ?_ _)); refine blk_far ?_ NB318_317.out _; (with_reducible repeat (first | refine blk_drewN ?_ _ | refine blk_drew ?_ | refine blk_alloc ?_ _)); refine blk_far ?_ NB318_317.out _; (with_reducible repeat (first | refine blk_drewN ?_ _ | refine blk_drew ?_ | refine blk_alloc ?_ _)); refine blk_far ?_ NB318_317.out _; (with_reducible repeat (first | refine blk_drewN ?_ _ | refine blk_drew ?_ | refine blk_alloc ?_ _)); refine blk_far ?_ NB318_317.out _; (with_reducible repeat (first | refine blk_drewN ?_ _ | refine blk_drew ?_ | refine blk_alloc ?_ _)); refine blk_far ?_ NB318_317.out _; (with_reducible repeat (first | refine blk_drewN ?_ _ | refine blk_drew ?_ | refine blk_alloc ?_ _)); refine blk_far ?_ NB318_317.out _; (with_reducible repeat (first | refine blk_drewN ?_ _ | refine blk_drew ?_ | refine blk_alloc ?_ _)); refine blk_far ?_ NB318_317.out _; (with_reducible repeat (first | refine blk_drewN ?_ _ | refine blk_drew ?_ | refine blk_alloc ?_ _)); refine blk_far ?_ NB318_317.out _; (with_reducible repeat (first | refine blk_drewN ?_ _ | refine blk_drew ?_ | refine blk_alloc ?_ _)); refine blk_far ?_ NB318_317.out _; (with_reducible repeat (first | refine blk_drewN ?_ _ | refine blk_drew ?_ | refine blk_alloc ?_ _)); exact BK318.out)) : gb319 ≠ gb318)); clear HO306; clear HO309; clear BK317; clear BK318; clear HB; have HO306 := n0_; have HO309 := n1_; have BK317 := n2_; have BK318 := n3_; have HB := n4_; have BK319 := n5_; have GW319 := n6_; have GE319 := n7_; have NB317_319 := n8_; have NB319_317 := n9_; have NB318_319 := n10_; have NB319_318 := n11_; clear n0_ n1_ n2_ n3_ n4_ n5_ n6_ n7_ n8_ n9_ n10_ n11_; clear hb hbox hg; have hnb15 := NB319_317.out; have hnc15 := NB317_319.out; have hnb16 := NB319_318.out; have hnc16 := NB318_319.out; obtain ⟨hcz17_0, hcz17_1, hfz17_0, hfz17_1⟩ := zce2 BK319.out))
 have n0_ : Aside0 (Kd.R Kd.bool 4 ((w14.setCell ⟨gb319, 0, none⟩ (.int .i64 300)).setCell ⟨gb319, 1, none⟩ (.int .i64 310)) w.heap.size (fun _ => True) (.slice Ao11 t304.length co11) t304) := ⟨by (with_reducible repeat (first | apply Kd.R_alloc | apply Kd.R_drewN | apply Kd.R_drew)); exact Kd.R_mono (Kd.R_far (p := ⟨gb319, 1, none⟩) (Kd.R_far (p := ⟨gb319, 0, none⟩) (Kd.R_types HO306.out BK319.out (by decide)) (fun _ hk => hk.2) (.int .i64 300)) (fun _ hk => hk.2) (.int .i64 310)) (fun _ hk => trivial)⟩
 have n1_ : Aside0 (Kd.R k40 40 ((w14.setCell ⟨gb319, 0, none⟩ (.int .i64 300)).setCell ⟨gb319, 1, none⟩ (.int .i64 310)) w.heap.size (fun _ => True) (.slice Ao12 t307.length co12) t307) := ⟨by (with_reducible repeat (first | apply Kd.R_alloc | apply Kd.R_drewN | apply Kd.R_drew)); exact Kd.R_mono (Kd.R_far (p := ⟨gb319, 1, none⟩) (Kd.R_far (p := ⟨gb319, 0, none⟩) (Kd.R_types HO309.out BK319.out (by decide)) (fun _ hk => hk.2) (.int .i64 300)) (fun _ hk => hk.2) (.int .i64 310)) (fun _ hk => trivial)⟩
 have n2_ : Aside0 (((w14.setCell ⟨gb319, 0, none⟩ (.int .i64 300)).setCell ⟨gb319, 1, none⟩ (.int .i64 310)).heap[gb317]? = some (.cells #[.int .i64 t297, .int .i64 t298, .int .i64 t299, .int .i64 t300, .int .i64 t301, .int .i64 t302, .int .i64 t303, .slice Ao11 t304.length co11, .slice Ao12 t307.length co12] 25 (0, 0))) := ⟨zbfr⟩
 have n3_ : Aside0 (((w14.setCell ⟨gb319, 0, none⟩ (.int .i64 300)).setCell ⟨gb319, 1, none⟩ (.int .i64 310)).heap[gb318]? = some (.cells #[.int .i64 t310, .int .i64 t311, .int .i64 t312, .int .i64 t313, .int .i64 t314, .int .i64 t315, .int .i64 t316] 29 (0, 0))) := ⟨zbfr⟩
 have n4_ : Aside0 (((w14.setCell ⟨gb319, 0, none⟩ (.int .i64 300)).setCell ⟨gb319, 1, none⟩ (.int .i64 310)).heap[gb319]? = some (.cells #[.int .i64 300, .int .i64 310] 27 (0, 0))) := ⟨by (with_reducible repeat (first | refine blk_drewN ?_ _ | refine blk_drew ?_ | refine blk_alloc ?_ _)); refine blk_put (cs := #[.int .i64 300, .int .i64 0]) ?_ 1 _ rfl; (with_reducible repeat (first | refine blk_drewN ?_ _ | refine blk_drew ?_ | refine blk_alloc ?_ _)); refine blk_put (cs := #[.int .i64 0, .int .i64 0]) ?_ 0 _ rfl; (with_reducible repeat (first | refine blk_drewN ?_ _ | refine blk_drew ?_ | refine blk_alloc ?_ _)); exact BK319.out⟩
 have n5_ : Aside0 (Below w.heap.size w ((w14.setCell ⟨gb319, 0, none⟩ (.int .i64 300)).setCell ⟨gb319, 1, none⟩ (.int .i64 310))) := ⟨zbzr⟩
 (try clear HO306)
 (try clear HO309)
 (try clear BK317)
 (try clear BK318)
 (try clear BK319)
 (try clear HB)
 generalize ((w14.setCell ⟨gb319, 0, none⟩ (.int .i64 300)).setCell ⟨gb319, 1, none⟩ (.int .i64 310)) = w18 at n0_ n1_ n2_ n3_ n4_ n5_ ⊢
 have HO306 := n0_
 have HO309 := n1_
 have BK317 := n2_
 have BK318 := n3_
 have BK319 := n4_
 have HB := n5_
 clear n0_ n1_ n2_ n3_ n4_ n5_
 replace HO306 := Aside0.mk (Kd.R_drew HO306.out)
 replace HO309 := Aside0.mk (Kd.R_drew HO309.out)
 replace BK317 := Aside0.mk (blk_drew BK317.out)
 replace BK318 := Aside0.mk (blk_drew BK318.out)
 replace BK319 := Aside0.mk (blk_drew BK319.out)
 replace HB := Aside0.mk (below_drew1 HB.out)
 refine start_ (n := 11) (S := fun w' => w'.cell? ⟨gb317, 0, none⟩ = some (.int .i64 t297) ∧ w'.cell? ⟨gb317, 1, none⟩ = some (.int .i64 t298) ∧ w'.cell? ⟨gb317, 2, none⟩ = some (.int .i64 t299) ∧ w'.cell? ⟨gb317, 3, none⟩ = some (.int .i64 t300) ∧ w'.cell? ⟨gb317, 4, none⟩ = some (.int .i64 t301) ∧ w'.cell? ⟨gb317, 5, none⟩ = some (.int .i64 t302) ∧ w'.cell? ⟨gb317, 6, none⟩ = some (.int .i64 t303) ∧ w'.cell? ⟨gb317, 7, none⟩ = some (.slice Ao11 t304.length co11) ∧ w'.cell? ⟨gb317, 8, none⟩ = some (.slice Ao12 t307.length co12) ∧ w'.cell? ⟨gb318, 0, none⟩ = some (.int .i64 t310) ∧ w'.cell? ⟨gb318, 1, none⟩ = some (.int .i64 t311) ∧ w'.cell? ⟨gb318, 2, none⟩ = some (.int .i64 t312) ∧ w'.cell? ⟨gb318, 3, none⟩ = some (.int .i64 t313) ∧ w'.cell? ⟨gb318, 4, none⟩ = some (.int .i64 t314) ∧ w'.cell? ⟨gb318, 5, none⟩ = some (.int .i64 t315) ∧ w'.cell? ⟨gb318, 6, none⟩ = some (.int .i64 t316)) (ds := []) #[false, false, false, false, false, false, false, false, false, false, false] zq1 rfl rfl (zca9 BK317.out (zcs7 BK318.out)) (fun hHeld => ?_); refine with_tabW isobathlaw03_GliderKnown.tab3 isobathlaw03_GliderKnown.bits3 (fun HT_ HW_ => ?_)
 generalize w18.drew = w19 at HO306 HO309 BK317 BK318 BK319 HB hHeld ⊢
 refine zpz (i := 3) (N := some 27) (any_of HT_.out zq1) ?_
 refine ztz (i := 0) (N := some 24) (take_ofW HT_.out HW_.out zq1) hHeld ?_
 refine ztz (i := 1) (N := some 25) (take_ofW HT_.out HW_.out zq1) hHeld ?_
 refine join_ (σ := Nat) 2 #[true, true, true, true, true, true, true, true, true, false, false] (fun s_ => [(26, .agg #[.int .i64 t320, .int .i64 t321, .int .i64 t322, .int .i64 t323]), (28, .tuple #[.agg #[.int .i64 t324, .int .i64 t325, .int .i64 t326, .int .i64 t327], .int .i64 t328]), (4, .pointer (some ⟨s_, 0, none⟩)), (23, .tuple #[.agg #[.int .i64 t324, .int .i64 t325, .int .i64 t326, .int .i64 t327], .int .i64 t328]), (29, .agg #[.int .i64 t324, .int .i64 t325, .int .i64 t326, .int .i64 t327]), (30, .int .i64 t328)]) (fun s_ w' => (w'.cell? ⟨gb317, 0, none⟩ = some (.int .i64 t297) ∧ w'.cell? ⟨gb317, 1, none⟩ = some (.int .i64 t298) ∧ w'.cell? ⟨gb317, 2, none⟩ = some (.int .i64 t299) ∧ w'.cell? ⟨gb317, 3, none⟩ = some (.int .i64 t300) ∧ w'.cell? ⟨gb317, 4, none⟩ = some (.int .i64 t301) ∧ w'.cell? ⟨gb317, 5, none⟩ = some (.int .i64 t302) ∧ w'.cell? ⟨gb317, 6, none⟩ = some (.int .i64 t303) ∧ w'.cell? ⟨gb317, 7, none⟩ = some (.slice Ao11 t304.length co11) ∧ w'.cell? ⟨gb317, 8, none⟩ = some (.slice Ao12 t307.length co12) ∧ w'.cell? ⟨gb318, 0, none⟩ = some (.int .i64 t310) ∧ w'.cell? ⟨gb318, 1, none⟩ = some (.int .i64 t311) ∧ w'.cell? ⟨gb318, 2, none⟩ = some (.int .i64 t312) ∧ w'.cell? ⟨gb318, 3, none⟩ = some (.int .i64 t313) ∧ w'.cell? ⟨gb318, 4, none⟩ = some (.int .i64 t314) ∧ w'.cell? ⟨gb318, 5, none⟩ = some (.int .i64 t315) ∧ w'.cell? ⟨gb318, 6, none⟩ = some (.int .i64 t316)) ∧ (Kd.R Kd.bool 4 w' w.heap.size (fun _ => True) (.slice Ao11 t304.length co11) t304) ∧ (Kd.R k40 40 w' w.heap.size (fun _ => True) (.slice Ao12 t307.length co12) t307) ∧ (w'.heap[gb317]? = some (.cells #[.int .i64 t297, .int .i64 t298, .int .i64 t299, .int .i64 t300, .int .i64 t301, .int .i64 t302, .int .i64 t303, .slice Ao11 t304.length co11, .slice Ao12 t307.length co12] 25 (0, 0))) ∧ (w'.heap[gb318]? = some (.cells #[.int .i64 t310, .int .i64 t311, .int .i64 t312, .int .i64 t313, .int .i64 t314, .int .i64 t315, .int .i64 t316] 29 (0, 0))) ∧ (w'.heap[gb319]? = some (.cells #[.int .i64 300, .int .i64 310] 27 (0, 0))) ∧ (w'.heap[s_]? = some (.cells #[.int .i64 0, .int .i64 0, .int .i64 0, .int .i64 0] 31 (0, 0))) ∧ (w.heap.size ≤ s_) ∧ (w.heap.size ≤ s_) ∧ (gb317 ≠ s_) ∧ (s_ ≠ gb317) ∧ (gb318 ≠ s_) ∧ (s_ ≠ gb318) ∧ (gb319 ≠ s_) ∧ (s_ ≠ gb319) ∧ (Below w.heap.size w w')) ?_ ?_
 rotate_left
 ·intro hCont
  refine two_ (i := 2) (j := 8) (Ni := some 26) (Nj := some 4) #[true, true, true, true, false, false, false, false, false, false, false] #[true, true, false, true, false, false, false, false, true, false, false] rfl rfl rfl rfl (two_of HT_.out zq1) (by decide) (by decide) (fun K hK => ?_) (fun K hK => ?_)
  ·skip
   refine goes_ Try.func62 zq1 rfl #[.int .i64 400, .int .i64 2000] (by rfl) rfl rfl zq6 ?_
   with_reducible refine (isobathlaw03_point.calls 400 2000 t320 t321 t322 t323 _ A2.out).mono ?_
   rintro e w20 ⟨rfl, hb⟩
   refine ⟨_, rfl, ?_⟩
   replace HO306 := zrbr HO306 hb
   replace HO309 := zrbr HO309 hb
   replace BK317 := zbbr BK317 hb
   replace BK318 := zbbr BK318 hb
   replace BK319 := zbbr BK319 hb
   replace HB := zbsr HB hb
   (try clear hb)
   (try clear hb2)
   (try clear hk)
   (try clear hi)
   refine hK.out _ _ (zca9 BK317.out (zcs7 BK318.out)) (fun hHeld => ?_)
   clear hK K
   refine norm_ zq60 ?_
   refine two_ (i := 4) (j := 8) (Ni := some 28) (Nj := some 4) #[true, true, true, true, true, false, false, false, false, false, false] #[true, true, true, true, false, false, false, false, true, false, false] rfl rfl rfl rfl (two_of HT_.out zq1) (by decide) (by decide) (fun K hK => ?_) (fun K hK => ?_)
   ·skip
    refine goes_ Try.func20 zq1 rfl #[.agg #[.int .i64 t297, .int .i64 t298, .int .i64 t299, .int .i64 t300, .int .i64 t301, .int .i64 t302, .int .i64 t303, .slice Ao11 t304.length co11, .slice Ao12 t307.length co12], .agg #[.int .i64 t310, .int .i64 t311, .int .i64 t312, .int .i64 t313, .int .i64 t314, .int .i64 t315, .int .i64 t316], .agg #[.int .i64 t320, .int .i64 t321, .int .i64 t322, .int .i64 t323], .int .i64 0, .agg #[.int .i64 0, .int .i64 0]] (by rfl) rfl rfl zq6 ?_
    with_reducible refine (glider_Dive.calls t297 t298 t299 t300 t301 t302 t303 _ _ t304 _ _ t307 t310 t311 t312 t313 t314 t315 t316 t320 t321 t322 t323 0 0 0 t324 t325 t326 t327 t328 _ ?side1 ?side2 ?side3 ?side4 A3.out).mono ?_
    (case side1 => repeat (first | exact (Kd.R_reads' HO306.out).2.2 | (with_reducible refine Kd.C_alloc ?_ _) | (with_reducible refine Kd.C_drewN ?_ _) | (with_reducible refine Kd.C_drew ?_)))
    (case side2 => exact (Kd.R_reads' HO306.out).2.1)
    (case side3 => repeat (first | exact (Kd.R_reads' HO309.out).2.2 | (with_reducible refine Kd.C_alloc ?_ _) | (with_reducible refine Kd.C_drewN ?_ _) | (with_reducible refine Kd.C_drew ?_)))
    (case side4 => exact (Kd.R_reads' HO309.out).2.1)
    rintro e w21 ⟨rfl, hb⟩
    refine ⟨_, rfl, ?_⟩
    replace HO306 := zrbr HO306 hb
    replace HO309 := zrbr HO309 hb
    replace BK317 := zbbr BK317 hb
    replace BK318 := zbbr BK318 hb
    replace BK319 := zbbr BK319 hb
    replace HB := zbsr HB hb
    (try clear hb)
    (try clear hb2)
    (try clear hk)
    (try clear hi)
    refine hK.out _ _ (zca9 BK317.out (zcs7 BK318.out)) (fun hHeld => ?_)
    clear hK K
    refine norm_ zq33 ?_
    refine zpz (i := 5) (N := some 23) (any_of HT_.out zq1) ?_
    refine zpz (i := 6) (N := some 29) (any_of HT_.out zq1) ?_
    refine zpz (i := 7) (N := some 30) (any_of HT_.out zq1) ?_
    refine one_ (i := 8) (N := some 4) #[true, true, true, true, true, true, true, true, true, false, false] rfl rfl (one_of HT_.out zq1) (by decide) (fun K hK => ?_)
    refine box_step ?hg (N := 4) ?hd (cs := #[.int .i64 0, .int .i64 0, .int .i64 0, .int .i64 0]) (t := 31) ?hr ?_; (case hd => rfl); (case hg => rfl); (case hr => first | (go_simp; done) | (go_simp; rfl))
    intro gb329 hg w22 hbox hb
    have BK329 := Aside0.mk (hbox)
    have GW329 := zgsr HB hg
    have GE329 := zgsr HB hg
    have NB317_329 := znpr BK317 hg
    have NB329_317 := znqr BK317 hg
    have NB318_329 := znpr BK318 hg
    have NB329_318 := znqr BK318 hg
    have NB319_329 := znpr BK319 hg
    have NB329_319 := znqr BK319 hg
    replace HO306 := zrbr HO306 hb
    replace HO309 := zrbr HO309 hb
    replace BK317 := zbbr BK317 hb
    replace BK318 := zbbr BK318 hb
    replace BK319 := zbbr BK319 hb
    replace HB := zbsr HB hb
    clear hb hbox hg
    refine hK.out _ _ (zca9 BK317.out (zcs7 BK318.out)) (fun hHeld => ?_)
    clear hK K
    refine norm_ zq61 ?_
    exact norm_ zq39 (hCont (gb329) _ ⟨hHeld, zq62, zq63, zbfr, zbfr, zbfr, zbfr, GW329.out, GE329.out, NB317_329.out, NB329_317.out, NB318_329.out, NB329_318.out, NB319_329.out, NB329_319.out, zbzr⟩)
   ·skip
    refine box_step ?hg (N := 4) ?hd (cs := #[.int .i64 0, .int .i64 0, .int .i64 0, .int .i64 0]) (t := 31) ?hr ?_; (case hd => rfl); (case hg => rfl); (case hr => first | (go_simp; done) | (go_simp; rfl))
    intro gb329 hg w21 hbox hb
    have BK329 := Aside0.mk (hbox)
    have GW329 := zgsr HB hg
    have GE329 := zgsr HB hg
    have NB317_329 := znpr BK317 hg
    have NB329_317 := znqr BK317 hg
    have NB318_329 := znpr BK318 hg
    have NB329_318 := znqr BK318 hg
    have NB319_329 := znpr BK319 hg
    have NB329_319 := znqr BK319 hg
    replace HO306 := zrbr HO306 hb
    replace HO309 := zrbr HO309 hb
    replace BK317 := zbbr BK317 hb
    replace BK318 := zbbr BK318 hb
    replace BK319 := zbbr BK319 hb
    replace HB := zbsr HB hb
    clear hb hbox hg
    refine hK.out _ _ (zca9 BK317.out (zcs7 BK318.out)) (fun hHeld => ?_)
    clear hK K
    refine norm_ zq61 ?_
    refine one_ (i := 4) (N := some 28) #[true, true, true, true, true, false, false, false, true, false, false] rfl rfl (one_of HT_.out zq1) (by decide) (fun K hK => ?_)
    refine goes_ Try.func20 zq1 rfl #[.agg #[.int .i64 t297, .int .i64 t298, .int .i64 t299, .int .i64 t300, .int .i64 t301, .int .i64 t302, .int .i64 t303, .slice Ao11 t304.length co11, .slice Ao12 t307.length co12], .agg #[.int .i64 t310, .int .i64 t311, .int .i64 t312, .int .i64 t313, .int .i64 t314, .int .i64 t315, .int .i64 t316], .agg #[.int .i64 t320, .int .i64 t321, .int .i64 t322, .int .i64 t323], .int .i64 0, .agg #[.int .i64 0, .int .i64 0]] (by rfl) rfl rfl zq6 ?_
    with_reducible refine (glider_Dive.calls t297 t298 t299 t300 t301 t302 t303 _ _ t304 _ _ t307 t310 t311 t312 t313 t314 t315 t316 t320 t321 t322 t323 0 0 0 t324 t325 t326 t327 t328 _ ?side1 ?side2 ?side3 ?side4 A3.out).mono ?_
    (case side1 => repeat (first | exact (Kd.R_reads' HO306.out).2.2 | (with_reducible refine Kd.C_alloc ?_ _) | (with_reducible refine Kd.C_drewN ?_ _) | (with_reducible refine Kd.C_drew ?_)))
    (case side2 => exact (Kd.R_reads' HO306.out).2.1)
    (case side3 => repeat (first | exact (Kd.R_reads' HO309.out).2.2 | (with_reducible refine Kd.C_alloc ?_ _) | (with_reducible refine Kd.C_drewN ?_ _) | (with_reducible refine Kd.C_drew ?_)))
    (case side4 => exact (Kd.R_reads' HO309.out).2.1)
    rintro e w22 ⟨rfl, hb⟩
    refine ⟨_, rfl, ?_⟩
    replace HO306 := zrbr HO306 hb
    replace HO309 := zrbr HO309 hb
    replace BK317 := zbbr BK317 hb
    replace BK318 := zbbr BK318 hb
    replace BK319 := zbbr BK319 hb
    replace BK329 := zbbr BK329 hb
    replace HB := zbsr HB hb
    (try clear hb)
    (try clear hb2)
    (try clear hk)
    (try clear hi)
    refine hK.out _ _ (zca9 BK317.out (zcs7 BK318.out)) (fun hHeld => ?_)
    clear hK K
    refine norm_ zq33 ?_
    refine zpz (i := 5) (N := some 23) (any_of HT_.out zq1) ?_
    refine zpz (i := 6) (N := some 29) (any_of HT_.out zq1) ?_
    refine zpz (i := 7) (N := some 30) (any_of HT_.out zq1) ?_
    exact norm_ zq39 (hCont (gb329) _ ⟨hHeld, zq62, zq63, zbfr, zbfr, zbfr, zbfr, GW329.out, GE329.out, NB317_329.out, NB329_317.out, NB318_329.out, NB329_318.out, NB319_329.out, NB329_319.out, zbzr⟩)
  ·skip
   refine box_step ?hg (N := 4) ?hd (cs := #[.int .i64 0, .int .i64 0, .int .i64 0, .int .i64 0]) (t := 31) ?hr ?_; (case hd => rfl); (case hg => rfl); (case hr => first | (go_simp; done) | (go_simp; rfl))
   intro gb329 hg w20 hbox hb
   have BK329 := Aside0.mk (hbox)
   have GW329 := zgsr HB hg
   have GE329 := zgsr HB hg
   have NB317_329 := znpr BK317 hg
   have NB329_317 := znqr BK317 hg
   have NB318_329 := znpr BK318 hg
   have NB329_318 := znqr BK318 hg
   have NB319_329 := znpr BK319 hg
   have NB329_319 := znqr BK319 hg
   replace HO306 := zrbr HO306 hb
   replace HO309 := zrbr HO309 hb
   replace BK317 := zbbr BK317 hb
   replace BK318 := zbbr BK318 hb
   replace BK319 := zbbr BK319 hb
   replace HB := zbsr HB hb
   clear hb hbox hg
   refine hK.out _ _ (zca9 BK317.out (zcs7 BK318.out)) (fun hHeld => ?_)
   clear hK K
   refine norm_ zq61 ?_
   refine one_ (i := 2) (N := some 26) #[true, true, true, true, false, false, false, false, true, false, false] rfl rfl (one_of HT_.out zq1) (by decide) (fun K hK => ?_)
   refine goes_ Try.func62 zq1 rfl #[.int .i64 400, .int .i64 2000] (by rfl) rfl rfl zq6 ?_
   with_reducible refine (isobathlaw03_point.calls 400 2000 t320 t321 t322 t323 _ A2.out).mono ?_
   rintro e w21 ⟨rfl, hb⟩
   refine ⟨_, rfl, ?_⟩
   replace HO306 := zrbr HO306 hb
   replace HO309 := zrbr HO309 hb
   replace BK317 := zbbr BK317 hb
   replace BK318 := zbbr BK318 hb
   replace BK319 := zbbr BK319 hb
   replace BK329 := zbbr BK329 hb
   replace HB := zbsr HB hb
   (try clear hb)
   (try clear hb2)
   (try clear hk)
   (try clear hi)
   refine hK.out _ _ (zca9 BK317.out (zcs7 BK318.out)) (fun hHeld => ?_)
   clear hK K
   refine norm_ zq60 ?_
   refine one_ (i := 4) (N := some 28) #[true, true, true, true, true, false, false, false, true, false, false] rfl rfl (one_of HT_.out zq1) (by decide) (fun K hK => ?_)
   refine goes_ Try.func20 zq1 rfl #[.agg #[.int .i64 t297, .int .i64 t298, .int .i64 t299, .int .i64 t300, .int .i64 t301, .int .i64 t302, .int .i64 t303, .slice Ao11 t304.length co11, .slice Ao12 t307.length co12], .agg #[.int .i64 t310, .int .i64 t311, .int .i64 t312, .int .i64 t313, .int .i64 t314, .int .i64 t315, .int .i64 t316], .agg #[.int .i64 t320, .int .i64 t321, .int .i64 t322, .int .i64 t323], .int .i64 0, .agg #[.int .i64 0, .int .i64 0]] (by rfl) rfl rfl zq6 ?_
   with_reducible refine (glider_Dive.calls t297 t298 t299 t300 t301 t302 t303 _ _ t304 _ _ t307 t310 t311 t312 t313 t314 t315 t316 t320 t321 t322 t323 0 0 0 t324 t325 t326 t327 t328 _ ?side1 ?side2 ?side3 ?side4 A3.out).mono ?_
   (case side1 => repeat (first | exact (Kd.R_reads' HO306.out).2.2 | (with_reducible refine Kd.C_alloc ?_ _) | (with_reducible refine Kd.C_drewN ?_ _) | (with_reducible refine Kd.C_drew ?_)))
   (case side2 => exact (Kd.R_reads' HO306.out).2.1)
   (case side3 => repeat (first | exact (Kd.R_reads' HO309.out).2.2 | (with_reducible refine Kd.C_alloc ?_ _) | (with_reducible refine Kd.C_drewN ?_ _) | (with_reducible refine Kd.C_drew ?_)))
   (case side4 => exact (Kd.R_reads' HO309.out).2.1)
   rintro e w22 ⟨rfl, hb⟩
   refine ⟨_, rfl, ?_⟩
   replace HO306 := zrbr HO306 hb
   replace HO309 := zrbr HO309 hb
   replace BK317 := zbbr BK317 hb
   replace BK318 := zbbr BK318 hb
   replace BK319 := zbbr BK319 hb
   replace BK329 := zbbr BK329 hb
   replace HB := zbsr HB hb
   (try clear hb)
   (try clear hb2)
   (try clear hk)
   (try clear hi)
   refine hK.out _ _ (zca9 BK317.out (zcs7 BK318.out)) (fun hHeld => ?_)
   clear hK K
   refine norm_ zq33 ?_
   refine zpz (i := 5) (N := some 23) (any_of HT_.out zq1) ?_
   refine zpz (i := 6) (N := some 29) (any_of HT_.out zq1) ?_
   refine zpz (i := 7) (N := some 30) (any_of HT_.out zq1) ?_
   exact norm_ zq39 (hCont (gb329) _ ⟨hHeld, zq62, zq63, zbfr, zbfr, zbfr, zbfr, GW329.out, GE329.out, NB317_329.out, NB329_317.out, NB318_329.out, NB329_318.out, NB319_329.out, NB329_319.out, zbzr⟩)
 rintro gb329 w23 ⟨hS_, h0_, h1_, h2_, h3_, h4_, h5_, h6_, h7_, h8_, h9_, h10_, h11_, h12_, h13_, h14_⟩
 have n0_ : Aside0 (Kd.R Kd.bool 4 w23 w.heap.size (fun _ => True) (.slice Ao11 t304.length co11) t304) := ⟨h0_⟩
 have n1_ : Aside0 (Kd.R k40 40 w23 w.heap.size (fun _ => True) (.slice Ao12 t307.length co12) t307) := ⟨h1_⟩
 have n2_ : Aside0 (w23.heap[gb317]? = some (.cells #[.int .i64 t297, .int .i64 t298, .int .i64 t299, .int .i64 t300, .int .i64 t301, .int .i64 t302, .int .i64 t303, .slice Ao11 t304.length co11, .slice Ao12 t307.length co12] 25 (0, 0))) := ⟨h2_⟩
 have n3_ : Aside0 (w23.heap[gb318]? = some (.cells #[.int .i64 t310, .int .i64 t311, .int .i64 t312, .int .i64 t313, .int .i64 t314, .int .i64 t315, .int .i64 t316] 29 (0, 0))) := ⟨h3_⟩
 have n4_ : Aside0 (w23.heap[gb319]? = some (.cells #[.int .i64 300, .int .i64 310] 27 (0, 0))) := ⟨h4_⟩
 have n5_ : Aside0 (w23.heap[gb329]? = some (.cells #[.int .i64 0, .int .i64 0, .int .i64 0, .int .i64 0] 31 (0, 0))) := ⟨h5_⟩
 have n6_ : Aside0 (w.heap.size ≤ gb329) := ⟨h6_⟩
 have n7_ : Aside0 (w.heap.size ≤ gb329) := ⟨h7_⟩
 have n8_ : Aside0 (gb317 ≠ gb329) := ⟨h8_⟩
 have n9_ : Aside0 (gb329 ≠ gb317) := ⟨h9_⟩
 have n10_ : Aside0 (gb318 ≠ gb329) := ⟨h10_⟩
 have n11_ : Aside0 (gb329 ≠ gb318) := ⟨h11_⟩
 have n12_ : Aside0 (gb319 ≠ gb329) := ⟨h12_⟩
 have n13_ : Aside0 (gb329 ≠ gb319) := ⟨h13_⟩
 have n14_ : Aside0 (Below w.heap.size w w23) := ⟨h14_⟩
 clear HO306 HO309 BK317 BK318 BK319 HB
 clear h0_ h1_ h2_ h3_ h4_ h5_ h6_ h7_ h8_ h9_ h10_ h11_ h12_ h13_ h14_
 have HO306 := n0_
 have HO309 := n1_
 have BK317 := n2_
 have BK318 := n3_
 have BK319 := n4_
 have BK329 := n5_
 have GW329 := n6_
 have GE329 := n7_
 have NB317_329 := n8_
 have NB329_317 := n9_
 have NB318_329 := n10_
 have NB329_318 := n11_
 have NB319_329 := n12_
 have NB329_319 := n13_
 have HB := n14_
 clear n0_ n1_ n2_ n3_ n4_ n5_ n6_ n7_ n8_ n9_ n10_ n11_ n12_ n13_ n14_
 have hHeld : w23.cell? ⟨gb317, 0, none⟩ = some (.int .i64 t297) ∧ w23.cell? ⟨gb317, 1, none⟩ = some (.int .i64 t298) ∧ w23.cell? ⟨gb317, 2, none⟩ = some (.int .i64 t299) ∧ w23.cell? ⟨gb317, 3, none⟩ = some (.int .i64 t300) ∧ w23.cell? ⟨gb317, 4, none⟩ = some (.int .i64 t301) ∧ w23.cell? ⟨gb317, 5, none⟩ = some (.int .i64 t302) ∧ w23.cell? ⟨gb317, 6, none⟩ = some (.int .i64 t303) ∧ w23.cell? ⟨gb317, 7, none⟩ = some (.slice Ao11 t304.length co11) ∧ w23.cell? ⟨gb317, 8, none⟩ = some (.slice Ao12 t307.length co12) ∧ w23.cell? ⟨gb318, 0, none⟩ = some (.int .i64 t310) ∧ w23.cell? ⟨gb318, 1, none⟩ = some (.int .i64 t311) ∧ w23.cell? ⟨gb318, 2, none⟩ = some (.int .i64 t312) ∧ w23.cell? ⟨gb318, 3, none⟩ = some (.int .i64 t313) ∧ w23.cell? ⟨gb318, 4, none⟩ = some (.int .i64 t314) ∧ w23.cell? ⟨gb318, 5, none⟩ = some (.int .i64 t315) ∧ w23.cell? ⟨gb318, 6, none⟩ = some (.int .i64 t316) := hS_
 refine norm_ (a' := ?_) ?_ ?_
 rotate_left
 ·simp only [putAll, Act.put, List.setIfInBounds_toArray, List.set_cons_zero, List.set_cons_succ]
  rfl
 refine one_ (i := 9) (N := none) #[true, true, true, true, true, true, true, true, true, true, false] rfl rfl (one_of HT_.out zq1) (by decide) (fun K hK => ?_)
 have hs24 : w23.cell? ⟨gb329, 0, none⟩ = some (.int .i64 0) := (blk_cell BK329.out 0).trans rfl
 have hfs24 := blk_frozen BK329.out 0
 have hns24_0 := NB317_329.out
 have hns24_1 := NB318_329.out
 have hns24_2 := NB319_329.out
 have hms24_0 := NB329_317.out
 have hms24_1 := NB329_318.out
 have hms24_2 := NB329_319.out
 have hs25 : w23.cell? ⟨gb329, 1, none⟩ = some (.int .i64 0) := (blk_cell BK329.out 1).trans rfl
 have hfs25 := blk_frozen BK329.out 1
 have hns25_0 := NB317_329.out
 have hns25_1 := NB318_329.out
 have hns25_2 := NB319_329.out
 have hms25_0 := NB329_317.out
 have hms25_1 := NB329_318.out
 have hms25_2 := NB329_319.out
 have hs26 : w23.cell? ⟨gb329, 2, none⟩ = some (.int .i64 0) := (blk_cell BK329.out 2).trans rfl
 have hfs26 := blk_frozen BK329.out 2
 have hns26_0 := NB317_329.out
 have hns26_1 := NB318_329.out
 have hns26_2 := NB319_329.out
 have hms26_0 := NB329_317.out
 have hms26_1 := NB329_318.out
 have hms26_2 := NB329_319.out
 have hs27 : w23.cell? ⟨gb329, 3, none⟩ = some (.int .i64 0) := (blk_cell BK329.out 3).trans rfl
 have hfs27 := blk_frozen BK329.out 3
 have hns27_0 := NB317_329.out
 have hns27_1 := NB318_329.out
 have hns27_2 := NB319_329.out
 have hms27_0 := NB329_317.out
 have hms27_1 := NB329_318.out
 have hms27_2 := NB329_319.out
 refine skip_ (w1 := ?_) (by rfl) rfl ?_ ?_
 rotate_left
 ·go_simp
  rfl
 refine hK.out _ _ ⟨((cell_far (p := ⟨gb329, _, none⟩) NB317_329.out _).trans (((cell_far (p := ⟨gb329, _, none⟩) NB317_329.out _).trans (((cell_far (p := ⟨gb329, _, none⟩) NB317_329.out _).trans (((cell_far (p := ⟨gb329, _, none⟩) NB317_329.out _).trans (hHeld.1)))))))), ((cell_far (p := ⟨gb329, _, none⟩) NB317_329.out _).trans (((cell_far (p := ⟨gb329, _, none⟩) NB317_329.out _).trans (((cell_far (p := ⟨gb329, _, none⟩) NB317_329.out _).trans (((cell_far (p := ⟨gb329, _, none⟩) NB317_329.out _).trans (hHeld.2.1)))))))), ((cell_far (p := ⟨gb329, _, none⟩) NB317_329.out _).trans (((cell_far (p := ⟨gb329, _, none⟩) NB317_329.out _).trans (((cell_far (p := ⟨gb329, _, none⟩) NB317_329.out _).trans (((cell_far (p := ⟨gb329, _, none⟩) NB317_329.out _).trans (hHeld.2.2.1)))))))), ((cell_far (p := ⟨gb329, _, none⟩) NB317_329.out _).trans (((cell_far (p := ⟨gb329, _, none⟩) NB317_329.out _).trans (((cell_far (p := ⟨gb329, _, none⟩) NB317_329.out _).trans (((cell_far (p := ⟨gb329, _, none⟩) NB317_329.out _).trans (hHeld.2.2.2.1)))))))), ((cell_far (p := ⟨gb329, _, none⟩) NB317_329.out _).trans (((cell_far (p := ⟨gb329, _, none⟩) NB317_329.out _).trans (((cell_far (p := ⟨gb329, _, none⟩) NB317_329.out _).trans (((cell_far (p := ⟨gb329, _, none⟩) NB317_329.out _).trans (hHeld.2.2.2.2.1)))))))), ((cell_far (p := ⟨gb329, _, none⟩) NB317_329.out _).trans (((cell_far (p := ⟨gb329, _, none⟩) NB317_329.out _).trans (((cell_far (p := ⟨gb329, _, none⟩) NB317_329.out _).trans (((cell_far (p := ⟨gb329, _, none⟩) NB317_329.out _).trans (hHeld.2.2.2.2.2.1)))))))), ((cell_far (p := ⟨gb329, _, none⟩) NB317_329.out _).trans (((cell_far (p := ⟨gb329, _, none⟩) NB317_329.out _).trans (((cell_far (p := ⟨gb329, _, none⟩) NB317_329.out _).trans (((cell_far (p := ⟨gb329, _, none⟩) NB317_329.out _).trans (hHeld.2.2.2.2.2.2.1)))))))), ((cell_far (p := ⟨gb329, _, none⟩) NB317_329.out _).trans (((cell_far (p := ⟨gb329, _, none⟩) NB317_329.out _).trans (((cell_far (p := ⟨gb329, _, none⟩) NB317_329.out _).trans (((cell_far (p := ⟨gb329, _, none⟩) NB317_329.out _).trans (hHeld.2.2.2.2.2.2.2.1)))))))), ((cell_far (p := ⟨gb329, _, none⟩) NB317_329.out _).trans (((cell_far (p := ⟨gb329, _, none⟩) NB317_329.out _).trans (((cell_far (p := ⟨gb329, _, none⟩) NB317_329.out _).trans (((cell_far (p := ⟨gb329, _, none⟩) NB317_329.out _).trans (hHeld.2.2.2.2.2.2.2.2.1)))))))), ((cell_far (p := ⟨gb329, _, none⟩) NB318_329.out _).trans (((cell_far (p := ⟨gb329, _, none⟩) NB318_329.out _).trans (((cell_far (p := ⟨gb329, _, none⟩) NB318_329.out _).trans (((cell_far (p := ⟨gb329, _, none⟩) NB318_329.out _).trans (hHeld.2.2.2.2.2.2.2.2.2.1)))))))), ((cell_far (p := ⟨gb329, _, none⟩) NB318_329.out _).trans (((cell_far (p := ⟨gb329, _, none⟩) NB318_329.out _).trans (((cell_far (p := ⟨gb329, _, none⟩) NB318_329.out _).trans (((cell_far (p := ⟨gb329, _, none⟩) NB318_329.out _).trans (hHeld.2.2.2.2.2.2.2.2.2.2.1)))))))), ((cell_far (p := ⟨gb329, _, none⟩) NB318_329.out _).trans (((cell_far (p := ⟨gb329, _, none⟩) NB318_329.out _).trans (((cell_far (p := ⟨gb329, _, none⟩) NB318_329.out _).trans (((cell_far (p := ⟨gb329, _, none⟩) NB318_329.out _).trans (hHeld.2.2.2.2.2.2.2.2.2.2.2.1)))))))), ((cell_far (p := ⟨gb329, _, none⟩) NB318_329.out _).trans (((cell_far (p := ⟨gb329, _, none⟩) NB318_329.out _).trans (((cell_far (p := ⟨gb329, _, none⟩) NB318_329.out _).trans (((cell_far (p := ⟨gb329, _, none⟩) NB318_329.out _).trans (hHeld.2.2.2.2.2.2.2.2.2.2.2.2.1)))))))), ((cell_far (p := ⟨gb329, _, none⟩) NB318_329.out _).trans (((cell_far (p := ⟨gb329, _, none⟩) NB318_329.out _).trans (((cell_far (p := ⟨gb329, _, none⟩) NB318_329.out _).trans (((cell_far (p := ⟨gb329, _, none⟩) NB318_329.out _).trans (hHeld.2.2.2.2.2.2.2.2.2.2.2.2.2.1)))))))), ((cell_far (p := ⟨gb329, _, none⟩) NB318_329.out _).trans (((cell_far (p := ⟨gb329, _, none⟩) NB318_329.out _).trans (((cell_far (p := ⟨gb329, _, none⟩) NB318_329.out _).trans (((cell_far (p := ⟨gb329, _, none⟩) NB318_329.out _).trans (hHeld.2.2.2.2.2.2.2.2.2.2.2.2.2.2.1)))))))), ((cell_far (p := ⟨gb329, _, none⟩) NB318_329.out _).trans (((cell_far (p := ⟨gb329, _, none⟩) NB318_329.out _).trans (((cell_far (p := ⟨gb329, _, none⟩) NB318_329.out _).trans (((cell_far (p := ⟨gb329, _, none⟩) NB318_329.out _).trans (hHeld.2.2.2.2.2.2.2.2.2.2.2.2.2.2.2))))))))⟩ (fun hHeld => ?_)
 clear hK K
 refine zpz (i := 10) (N := some 5) (any_of HT_.out zq1) ?_
 refine done_ (done_of HT_.out zq1) ?_
 have hnb28 := NB318_329.out
 have hnc28 := NB329_318.out
 obtain ⟨hcz29_0, hcz29_1, hcz29_2, hcz29_3, hcz29_4, hcz29_5, hcz29_6, hfz29_0, hfz29_1, hfz29_2, hfz29_3, hfz29_4, hfz29_5, hfz29_6⟩ := zce7 BK318.out
 have hnb30 := NB319_329.out
 have hnc30 := NB329_319.out
 obtain ⟨hcz31_0, hcz31_1, hfz31_0, hfz31_1⟩ := zce2 BK319.out
 go_upto_region 5 with (first | ((with_reducible refine gate_dst (N := 37) rfl ?_); (try (refine gate_guard (by rfl) ?_; dsimp only)); refine Kd.R_lit k33 _ 33 (by rfl) (N := 37) (by rfl) (xs := ([(⟨2, 0⟩ : S33), (⟨8, 0⟩ : S33), (⟨2, 0⟩ : S33)] : List (S33))) (inner := [.int .i64 2, .int .i64 0, .int .i64 8, .int .i64 0, .int .i64 2, .int .i64 0]) (ok := fun _ => True) (okp := fun _ => True) zq4 (by exact (Reps.c2 (show Kd.M k33 _ _ _ (⟨2, 0⟩ : S33) [.int .i64 2, .int .i64 0] from (k33_mkM _ _ _ (⟨2, 0⟩ : S33) )) (Reps.c2 (show Kd.M k33 _ _ _ (⟨8, 0⟩ : S33) [.int .i64 8, .int .i64 0] from (k33_mkM _ _ _ (⟨8, 0⟩ : S33) )) (Reps.c2 (show Kd.M k33 _ _ _ (⟨2, 0⟩ : S33) [.int .i64 2, .int .i64 0] from (k33_mkM _ _ _ (⟨2, 0⟩ : S33) )) (Reps.none _ _))))) (fun _ hk => hk) trivial (Below.refl _ _) (Nat.le_refl _) (by simp) ?_; intro v331 w32 ho33 hb hg_ hnew_; clear hg_ hnew_; (first | rw [← Ny330.out] at ho33 | (simp only [Int.reduceToNat] at ho33; rw [← Ny330.out] at ho33)); have n0_ := Aside0.mk (Kd.R_below (by (with_reducible repeat (first | apply Kd.R_alloc | apply Kd.R_drewN | apply Kd.R_drew)); exact (Kd.R_mono (Kd.R_far (p := ⟨gb329, 3, none⟩) (Kd.R_far (p := ⟨gb329, 2, none⟩) (Kd.R_far (p := ⟨gb329, 1, none⟩) (Kd.R_far (p := ⟨gb329, 0, none⟩) (Kd.R_types HO306.out BK329.out (by decide)) (fun _ hk => hk.2) (.int .i64 t324)) (fun _ hk => hk.2) (.int .i64 t325)) (fun _ hk => hk.2) (.int .i64 t326)) (fun _ hk => hk.2) (.int .i64 t327)) (fun _ h_ => h_.1))) hb); have n1_ := Aside0.mk (Kd.R_below (by (with_reducible repeat (first | apply Kd.R_alloc | apply Kd.R_drewN | apply Kd.R_drew)); exact (Kd.R_mono (Kd.R_far (p := ⟨gb329, 3, none⟩) (Kd.R_far (p := ⟨gb329, 2, none⟩) (Kd.R_far (p := ⟨gb329, 1, none⟩) (Kd.R_far (p := ⟨gb329, 0, none⟩) (Kd.R_types HO309.out BK329.out (by decide)) (fun _ hk => hk.2) (.int .i64 t324)) (fun _ hk => hk.2) (.int .i64 t325)) (fun _ hk => hk.2) (.int .i64 t326)) (fun _ hk => hk.2) (.int .i64 t327)) (fun _ h_ => h_.1))) hb); have n2_ := Aside0.mk (Kd.R_lower ho33 (below_size zbzr)); have n3_ := zbbr BK317 hb; have n4_ := zbbr BK318 hb; have n5_ := zbbr BK319 hb; have n6_ := Aside0.mk (blk_below (g := gb329) (o := .cells #[.int .i64 t324, .int .i64 t325, .int .i64 t326, .int .i64 t327] 31 (0, 0)) (by (with_reducible repeat (first | refine blk_drewN ?_ _ | refine blk_drew ?_ | refine blk_alloc ?_ _)); refine blk_put (cs := #[.int .i64 t324, .int .i64 t325, .int .i64 t326, .int .i64 0]) ?_ 3 _ rfl; (with_reducible repeat (first | refine blk_drewN ?_ _ | refine blk_drew ?_ | refine blk_alloc ?_ _)); refine blk_put (cs := #[.int .i64 t324, .int .i64 t325, .int .i64 0, .int .i64 0]) ?_ 2 _ rfl; (with_reducible repeat (first | refine blk_drewN ?_ _ | refine blk_drew ?_ | refine blk_alloc ?_ _)); refine blk_put (cs := #[.int .i64 t324, .int .i64 0, .int .i64 0, .int .i64 0]) ?_ 1 _ rfl; (with_reducible repeat (first | refine blk_drewN ?_ _ | refine blk_drew ?_ | refine blk_alloc ?_ _)); refine blk_put (cs := #[.int .i64 0, .int .i64 0, .int .i64 0, .int .i64 0]) ?_ 0 _ rfl; (with_reducible repeat (first | refine blk_drewN ?_ _ | refine blk_drew ?_ | refine blk_alloc ?_ _)); exact BK329.out) hb); have n7_ := zbsr HB hb; clear HO306; clear HO309; clear BK317; clear BK318; clear BK319; clear BK329; clear HB; have HO306 := n0_; have HO309 := n1_; have HO332 := n2_; have BK317 := n3_; have BK318 := n4_; have BK319 := n5_; have BK329 := n6_; have HB := n7_; clear n0_ n1_ n2_ n3_ n4_ n5_ n6_ n7_; clear hb ho33; obtain ⟨Ao34, co34, eo34⟩ := Kd.R_slice HO332.out; subst eo34) | ((with_reducible refine gate_callee (f := 38) rfl ?_); refine goesL_ (some 38) rfl rfl Try.func38 zq1 rfl #[.agg #[.int .i64 t310, .int .i64 t311, .int .i64 t312, .int .i64 t313, .int .i64 t314, .int .i64 t315, .int .i64 t316], .agg #[.int .i64 300, .int .i64 310], .slice Ao34 y330.length co34] rfl zq6 ?_; (with_reducible refine (glider_Energy.calls k t310 t311 t312 t313 t314 t315 t316 300 310 _ _ y330 t333 t336 t337 _ ?side1 ?side2 A4.out).mono ?_); (case side1 => repeat (first | exact (Kd.R_reads' HO332.out).2.2 | (with_reducible refine Kd.C_alloc ?_ _) | (with_reducible refine Kd.C_drewN ?_ _) | (with_reducible refine Kd.C_drew ?_))); (case side2 => exact (Kd.R_reads' HO332.out).2.1); rintro e w35 ⟨v334, rfl, ho0, hb⟩; refine ⟨_, rfl, ?_⟩; have HO335 := Aside0.mk (Kd.R_lower (Kd.R_newB ho0 (g := gb319) (o := .cells #[.int .i64 300, .int .i64 310] 27 (0, 0)) zbfr) (below_size zbzr)); replace HO306 := zrbr HO306 hb; replace HO309 := zrbr HO309 hb; replace HO332 := zrbr HO332 hb; replace BK317 := zbbr BK317 hb; replace BK318 := zbbr BK318 hb; replace BK319 := zbbr BK319 hb; replace BK329 := zbbr BK329 hb; replace HB := zbsr HB hb; (try clear hb); (try clear hb2); (try clear hk); (try clear hi); (try clear ho0)))
 (try simp only [Act.put, List.setIfInBounds_toArray, List.set_cons_zero, List.set_cons_succ])
 go_cut [70] (fun v70 wc => ∃ (kq : Nat) (x70_4 : Bool), v70 = .bool x70_4 ∧ Aside0 (isobathlaw03_GliderKnown.j0 kq x70_4 t297 t298 t299 t300 t301 t302 t303 t304 t307 t310 t311 t312 t313 t314 t315 t316 300 310 = some r) ∧ Aside0 (kq ≤ k) ∧ Aside0 (Kd.R Kd.bool 4 wc w.heap.size (fun _ => True) (.slice Ao11 t304.length co11) t304) ∧ Aside0 (Kd.R k40 40 wc w.heap.size (fun _ => True) (.slice Ao12 t307.length co12) t307) ∧ Aside0 (wc.heap[gb317]? = some (.cells #[.int .i64 t297, .int .i64 t298, .int .i64 t299, .int .i64 t300, .int .i64 t301, .int .i64 t302, .int .i64 t303, (.slice Ao11 t304.length co11), (.slice Ao12 t307.length co12)] 25 (0, 0))) ∧ Aside0 (wc.heap[gb318]? = some (.cells #[.int .i64 t310, .int .i64 t311, .int .i64 t312, .int .i64 t313, .int .i64 t314, .int .i64 t315, .int .i64 t316] 29 (0, 0))) ∧ Aside0 (wc.heap[gb319]? = some (.cells #[.int .i64 300, .int .i64 310] 27 (0, 0))) ∧ Aside0 (wc.heap[gb329]? = some (.cells #[.int .i64 t324, .int .i64 t325, .int .i64 t326, .int .i64 t327] 31 (0, 0))) ∧ Aside0 (Below w.heap.size w wc))
 case first =>
  as_aux_lemma =>
   have H := HC5.out
   clear HC5
   by_cases c36 : t328 = 5
   ·rw [if_pos c36] at H
    have c36b0 : (t328 == 5) = true := beq_iff_eq.mpr c36
    have c36b1 : (t328 != 5) = false := bne_eq_false_iff_eq.mpr c36
    clear c36
    (first | rw [c36b0] | (simp only [i64_w, i32_w]; rw [c36b0]) | skip)
    by_cases c37 : t337 = 0
    ·rw [if_pos c37] at H
     have c37b0 : (t337 == 0) = true := beq_iff_eq.mpr c37
     have c37b1 : (t337 != 0) = false := bne_eq_false_iff_eq.mpr c37
     clear c37
     by_cases c38 : t336 = 3
     ·rw [if_pos c38] at H
      have c38b0 : (t336 == 3) = true := beq_iff_eq.mpr c38
      have c38b1 : (t336 != 3) = false := bne_eq_false_iff_eq.mpr c38
      clear c38
      by_cases c39 : (t333.length : Int) = 3
      ·rw [if_pos c39] at H
       have c39b0 : ((t333.length : Int) == 3) = true := beq_iff_eq.mpr c39
       have c39b1 : ((t333.length : Int) != 3) = false := bne_eq_false_iff_eq.mpr c39
       clear c39
       by_cases c40 : 1 < (t333.length : Int)
       ·rw [if_pos c40] at H
        have c40b0 : decide (1 < (t333.length : Int)) = true := decide_eq_true c40
        have c40b1 : decide (1 < t333.length) = true := decide_eq_true (by omega)
        clear c40
        by_cases c41 : (!(((rd_T27 t333 1).f0) == 234) || (!(((rd_T27 t333 1).f1) == 255))) = true
        ·rw [if_pos c41] at H
         have c41b0 : (!(((rd_T27 t333 1).f0) == 234) || (!(((rd_T27 t333 1).f1) == 255))) = true := c41
         clear c41
         have H' := Aside0.mk H
         clear H
         obtain ⟨Ao42, co42, eo42⟩ := Kd.R_slice HO335.out
         subst eo42
         have p338 : 0 ≤ (1 : Int) := (by omega)
         have q338 : 1 < (t333.length : Int) := of_decide_eq_true zq3
         obtain ⟨ad338, e338, hx338_0, hx338_1⟩ := at_T27 (Kd.R_reads' HO335.out).2.2 1 p338 q338
         cases e338
         (try simp only [show (1 : Int).toNat = 1 from rfl, Nat.reduceMul, Nat.reduceEqDiff, Go.Addr.add, ↓reduceIte] at hx338_0)
         (try simp only [show (1 : Int).toNat = 1 from rfl, Nat.reduceMul, Nat.reduceEqDiff, Go.Addr.add, ↓reduceIte] at hx338_1)
         have qi338 : (1 < t333.length) = True := eq_true (by omega)
         (try rw [show ((1 : Int)).toNat = 1 from rfl] at hx338_0)
         (try rw [show 1 * 2 = 2 from rfl] at hx338_0)
         (try rw [show ((1 : Int)).toNat = 1 from rfl] at hx338_1)
         (try rw [show 1 * 2 = 2 from rfl] at hx338_1)
         replace p338 := eq_true p338
         replace q338 := eq_true q338
         go_wp2
         go_meet
         case rel => exact ⟨_, (true), zq2, H', ⟨zq58⟩, ⟨zq62⟩, ⟨zq63⟩, ⟨zbfr⟩, ⟨zbfr⟩, ⟨zbfr⟩, ⟨zbfr⟩, ⟨zbzr⟩⟩
        ·rw [if_neg c41] at H
         have c41b0 : (!(((rd_T27 t333 1).f0) == 234) || (!(((rd_T27 t333 1).f1) == 255))) = false := by simpa using c41
         clear c41
         by_cases c43 : 2 < (t333.length : Int)
         ·rw [if_pos c43] at H
          have c43b0 : decide (2 < (t333.length : Int)) = true := decide_eq_true c43
          have c43b1 : decide (2 < t333.length) = true := decide_eq_true (by omega)
          clear c43
          have H' := Aside0.mk H
          clear H
          obtain ⟨Ao44, co44, eo44⟩ := Kd.R_slice HO335.out
          subst eo44
          have p338 : 0 ≤ (1 : Int) := (by omega)
          have q338 : 1 < (t333.length : Int) := of_decide_eq_true zq3
          obtain ⟨ad338, e338, hx338_0, hx338_1⟩ := at_T27 (Kd.R_reads' HO335.out).2.2 1 p338 q338
          cases e338
          (try simp only [show (1 : Int).toNat = 1 from rfl, Nat.reduceMul, Nat.reduceEqDiff, Go.Addr.add, ↓reduceIte] at hx338_0)
          (try simp only [show (1 : Int).toNat = 1 from rfl, Nat.reduceMul, Nat.reduceEqDiff, Go.Addr.add, ↓reduceIte] at hx338_1)
          have qi338 : (1 < t333.length) = True := eq_true (by omega)
          (try rw [show ((1 : Int)).toNat = 1 from rfl] at hx338_0)
          (try rw [show 1 * 2 = 2 from rfl] at hx338_0)
          (try rw [show ((1 : Int)).toNat = 1 from rfl] at hx338_1)
          (try rw [show 1 * 2 = 2 from rfl] at hx338_1)
          replace p338 := eq_true p338
          replace q338 := eq_true q338
          have p339 : 0 ≤ (2 : Int) := (by omega)
          have q339 : 2 < (t333.length : Int) := of_decide_eq_true zq3
          obtain ⟨ad339, e339, hx339_0, hx339_1⟩ := at_T27 (Kd.R_reads' HO335.out).2.2 2 p339 q339
          obtain rfl : ad338 = ad339 := (by injection e339)
          (try simp only [show (2 : Int).toNat = 2 from rfl, Nat.reduceMul, Nat.reduceEqDiff, Go.Addr.add, ↓reduceIte] at hx339_0)
          (try simp only [show (2 : Int).toNat = 2 from rfl, Nat.reduceMul, Nat.reduceEqDiff, Go.Addr.add, ↓reduceIte] at hx339_1)
          have qi339 : (2 < t333.length) = True := eq_true (by omega)
          (try rw [show ((2 : Int)).toNat = 2 from rfl] at hx339_0)
          (try rw [show 2 * 2 = 4 from rfl] at hx339_0)
          (try rw [show ((2 : Int)).toNat = 2 from rfl] at hx339_1)
          (try rw [show 2 * 2 = 4 from rfl] at hx339_1)
          replace p339 := eq_true p339
          replace q339 := eq_true q339
          go_wp2
          go_meet
          case rel => exact ⟨_, ((!(((rd_T27 t333 2).f0) == 174) || (!(((rd_T27 t333 2).f1) == 205)))), zq2, H', ⟨zq58⟩, ⟨zq62⟩, ⟨zq63⟩, ⟨zbfr⟩, ⟨zbfr⟩, ⟨zbfr⟩, ⟨zbfr⟩, ⟨zbzr⟩⟩
         ·rw [if_neg c43] at H
          exact absurd H (by simp)
       ·rw [if_neg c40] at H
        exact absurd H (by simp)
      ·rw [if_neg c39] at H
       have c39b0 : ((t333.length : Int) == 3) = false := beq_eq_false_iff_ne.mpr c39
       have c39b1 : ((t333.length : Int) != 3) = true := bne_iff_ne.mpr c39
       have H' := Aside0.mk H
       clear H
       obtain ⟨Ao45, co45, eo45⟩ := Kd.R_slice HO335.out
       subst eo45
       go_wp2
       go_meet
       case rel => exact ⟨_, (true), zq2, H', ⟨zq58⟩, ⟨zq62⟩, ⟨zq63⟩, ⟨zbfr⟩, ⟨zbfr⟩, ⟨zbfr⟩, ⟨zbfr⟩, ⟨zbzr⟩⟩
     ·rw [if_neg c38] at H
      have c38b0 : (t336 == 3) = false := beq_eq_false_iff_ne.mpr c38
      have c38b1 : (t336 != 3) = true := bne_iff_ne.mpr c38
      have H' := Aside0.mk H
      clear H
      go_wp2
      go_meet
      case rel => exact ⟨_, (true), zq2, H', ⟨zq58⟩, ⟨zq62⟩, ⟨zq63⟩, ⟨zbfr⟩, ⟨zbfr⟩, ⟨zbfr⟩, ⟨zbfr⟩, ⟨zbzr⟩⟩
    ·rw [if_neg c37] at H
     have c37b0 : (t337 == 0) = false := beq_eq_false_iff_ne.mpr c37
     have c37b1 : (t337 != 0) = true := bne_iff_ne.mpr c37
     have H' := Aside0.mk H
     clear H
     go_wp2
     go_meet
     case rel => exact ⟨_, (true), zq2, H', ⟨zq58⟩, ⟨zq62⟩, ⟨zq63⟩, ⟨zbfr⟩, ⟨zbfr⟩, ⟨zbfr⟩, ⟨zbfr⟩, ⟨zbzr⟩⟩
   ·rw [if_neg c36] at H
    have c36b0 : (t328 == 5) = false := beq_eq_false_iff_ne.mpr c36
    have c36b1 : (t328 != 5) = true := bne_iff_ne.mpr c36
    (first | rw [c36b0] | (simp only [i64_w, i32_w]; rw [c36b0]) | skip)
    have H' := Aside0.mk H
    clear H
    go_wp2
    go_meet
    case rel => exact ⟨_, (true), zq2, H', ⟨zq58⟩, ⟨zq62⟩, ⟨zq63⟩, ⟨zbfr⟩, ⟨zbfr⟩, ⟨zbfr⟩, ⟨zbfr⟩, ⟨zbzr⟩⟩
 case rest =>
  as_aux_lemma =>
   clear HC5
   try clear c2
   try clear p2
   try clear c3
   try clear p3
   try clear q3
   try clear hx3
   try clear qi3
   try clear c4
   try clear c6
   try clear c20
   try clear c28
   try clear c30
   try clear p33
   try clear q33
   try clear hx33
   try clear qi33
   try clear c36
   try clear c36b0
   try clear c36b1
   try clear c37
   try clear c37b0
   try clear c37b1
   try clear c38
   try clear c38b0
   try clear c38b1
   try clear c39
   try clear c39b0
   try clear c39b1
   try clear c40
   try clear c40b0
   try clear c40b1
   try clear c41
   try clear c41b0
   try clear c43
   try clear c43b0
   try clear c43b1
   try clear hcz29_0 hcz29_1 hcz29_2 hcz29_3 hcz29_4 hcz29_5 hcz29_6
   try clear hcz31_0 hcz31_1
   try clear hfz29_0 hfz29_1 hfz29_2 hfz29_3 hfz29_4 hfz29_5 hfz29_6
   try clear hfz31_0 hfz31_1
   try clear hx338_0 hx338_1
   try clear hx339_0 hx339_1
   try clear p338
   try clear p339
   try clear q338
   try clear q339
   obtain ⟨kq, x70_4, rfl, HA, HJ4, HO_318007, HO_318008, BK317, BK318, BK319, BK329, HB⟩ := hcut
   cases kq with
   | zero => exact absurd HA.out (by simp [isobathlaw03_GliderKnown.j0])
   | succ kj4 =>
    have H := HA.out
    clear HA
    simp only [isobathlaw03_GliderKnown.j0] at H
    by_cases c46 : x70_4 = true
    ·subst c46
     have H1 : (some false) = some r := by rw [if_pos rfl] at H; exact H
     clear H
     have H := H1
     clear H1
     have hh_ := Option.some.inj H
     rw [hr_.out] at hh_
     cases hh_
    ·replace c46 := Bool.eq_false_iff.mpr c46
     subst c46
     have H1 : (if 4 ≤ 17592186044416 then ((glider_Energy.f kj4 t310 t311 t312 t313 t314 t315 t316 300 310 (List.replicate 4 z33)).bind fun bt343 => (if bt343.2.2 = 19 then (isobathlaw03_GliderKnown.j1 kj4 (bt343.2.1 != 3) t297 t298 t299 t300 t301 t302 t303 t304 t307 t310 t311 t312 t313 t314 t315 t316 300 310) else (isobathlaw03_GliderKnown.j1 kj4 true t297 t298 t299 t300 t301 t302 t303 t304 t307 t310 t311 t312 t313 t314 t315 t316 300 310))) else (none)) = some r := by rw [if_neg (show ¬ (false = true) by decide)] at H; exact H
     clear H
     have H := H1
     clear H1
     by_cases c47 : 4 ≤ 17592186044416
     ·rw [if_pos c47] at H
      have c47b0 := eq_true c47
      have c47b1 : decide (4 ≤ 17592186044416) = true := decide_eq_true c47
      clear c47
      obtain ⟨y340, hy340⟩ : ∃ y_ : List (S33), y_ = (List.replicate 4 z33) := ⟨_, rfl⟩
      replace H : ((glider_Energy.f kj4 t310 t311 t312 t313 t314 t315 t316 300 310 y340).bind fun bt343 => (if bt343.2.2 = 19 then (isobathlaw03_GliderKnown.j1 kj4 (bt343.2.1 != 3) t297 t298 t299 t300 t301 t302 t303 t304 t307 t310 t311 t312 t313 t314 t315 t316 300 310) else (isobathlaw03_GliderKnown.j1 kj4 true t297 t298 t299 t300 t301 t302 t303 t304 t307 t310 t311 t312 t313 t314 t315 t316 300 310))) = some r := by first | (rw [hy340]; with_reducible exact H) | (have H2_ := (Option.bind_some _ _).symm.trans H; rw [hy340]; with_reducible exact H2_) | (have H2_ := (Option.bind_some _ _).symm.trans H; with_reducible exact H2_) | with_reducible exact H | (rw [hy340]; exact H) | exact H
      have Ny340 := Aside0.mk hy340
      clear hy340
      replace H := Option.bind_eq_some_iff.mp H
      obtain ⟨⟨t343, t346, t347⟩, A480, H⟩ := H
      replace H : (if t347 = 19 then (isobathlaw03_GliderKnown.j1 kj4 (t346 != 3) t297 t298 t299 t300 t301 t302 t303 t304 t307 t310 t311 t312 t313 t314 t315 t316 300 310) else (isobathlaw03_GliderKnown.j1 kj4 true t297 t298 t299 t300 t301 t302 t303 t304 t307 t310 t311 t312 t313 t314 t315 t316 300 310)) = some r := H
      have A48 := Aside0.mk A480
      clear A480
      have HC49 := Aside0.mk H
      clear H
      try go_wp2
      replace HO_318007 := Aside0.mk (Kd.R_drew HO_318007.out)
      replace HO_318008 := Aside0.mk (Kd.R_drew HO_318008.out)
      replace BK317 := Aside0.mk (blk_drew BK317.out)
      replace BK318 := Aside0.mk (blk_drew BK318.out)
      replace BK319 := Aside0.mk (blk_drew BK319.out)
      replace BK329 := Aside0.mk (blk_drew BK329.out)
      replace HB := Aside0.mk (below_drew1 HB.out)
      refine start_ (n := 10) (S := fun w' => w'.cell? ⟨gb318, 0, none⟩ = some (.int .i64 t310) ∧ w'.cell? ⟨gb318, 1, none⟩ = some (.int .i64 t311) ∧ w'.cell? ⟨gb318, 2, none⟩ = some (.int .i64 t312) ∧ w'.cell? ⟨gb318, 3, none⟩ = some (.int .i64 t313) ∧ w'.cell? ⟨gb318, 4, none⟩ = some (.int .i64 t314) ∧ w'.cell? ⟨gb318, 5, none⟩ = some (.int .i64 t315) ∧ w'.cell? ⟨gb318, 6, none⟩ = some (.int .i64 t316) ∧ w'.cell? ⟨gb319, 0, none⟩ = some (.int .i64 300) ∧ w'.cell? ⟨gb319, 1, none⟩ = some (.int .i64 310)) (ds := []) #[false, false, false, false, false, false, false, false, false, false] zq1 rfl rfl (zca7 BK318.out (zcs2 BK319.out)) (fun hHeld => ?_); refine with_tabW isobathlaw03_GliderKnown.tab7 isobathlaw03_GliderKnown.bits7 (fun HT_ HW_ => ?_)
      generalize wc.drew = w50 at HO_318007 HO_318008 BK317 BK318 BK319 BK329 HB hHeld ⊢
      refine ztz (i := 0) (N := some 72) (take_ofW HT_.out HW_.out zq1) hHeld ?_
      refine ztz (i := 1) (N := some 73) (take_ofW HT_.out HW_.out zq1) hHeld ?_
      refine one_ (i := 2) (N := some 74) #[true, true, true, false, false, false, false, false, false, false] rfl rfl (one_of HT_.out zq1) (by decide) (fun K hK => ?_)
      refine Kd.R_make_step k33 _ 33 (by rfl) (N := 74) rfl 49 _ _ rfl 4 rfl rfl Try.underlying49 (.agg #[(.int .i64 0), (.int .i64 0)]) 16 info33 rfl (by decide) (by omega) z33 (ok := fun _ => True) (okp := fun _ => True) (k33_mkM _ _ _ z33 ) (fun _ hk => hk) trivial (by omega) (by omega) (Below.refl _ _) (Nat.le_refl _) ?_
      intro v341 w51 ho52 hb hg_ hnew_
      clear hg_ hnew_
      (first | rw [← Ny340.out] at ho52 | (simp only [Int.reduceToNat] at ho52; rw [← Ny340.out] at ho52))
      have HO342 := Aside0.mk (Kd.R_lower ho52 (below_size zbzr))
      replace HO_318007 := zrbr HO_318007 hb
      replace HO_318008 := zrbr HO_318008 hb
      replace BK317 := zbbr BK317 hb
      replace BK318 := zbbr BK318 hb
      replace BK319 := zbbr BK319 hb
      replace BK329 := zbbr BK329 hb
      replace HB := zbsr HB hb
      clear hb ho52
      obtain ⟨Ao53, co53, eo53⟩ := Kd.R_slice HO342.out
      (first | subst eo53 | (injection eo53 with f1_ f2_ f3_; have f4_ := f1_.symm; have f5_ := f3_.symm; clear f1_ f2_ f3_; subst f4_; subst f5_))
      refine hK.out _ _ (zca7 BK318.out (zcs2 BK319.out)) (fun hHeld => ?_)
      clear hK K
      refine norm_ (by show Act.put _ (some 74) _ = _; simp only [Act.put, List.setIfInBounds_toArray, List.set_cons_zero, List.set_cons_succ, i64_w, i32_w]; rfl) ?_
      refine one_ (i := 3) (N := some 75) #[true, true, true, true, false, false, false, false, false, false] rfl rfl (one_of HT_.out zq1) (by decide) (fun K hK => ?_)
      refine goes_ Try.func38 zq1 rfl #[.agg #[.int .i64 t310, .int .i64 t311, .int .i64 t312, .int .i64 t313, .int .i64 t314, .int .i64 t315, .int .i64 t316], .agg #[.int .i64 300, .int .i64 310], .slice Ao53 y340.length co53] (by rfl) rfl rfl zq6 ?_
      with_reducible refine (glider_Energy.calls kj4 t310 t311 t312 t313 t314 t315 t316 300 310 _ _ y340 t343 t346 t347 _ ?side1 ?side2 A48.out).mono ?_
      (case side1 => repeat (first | exact (Kd.R_reads' HO342.out).2.2 | (with_reducible refine Kd.C_alloc ?_ _) | (with_reducible refine Kd.C_drewN ?_ _) | (with_reducible refine Kd.C_drew ?_)))
      (case side2 => exact (Kd.R_reads' HO342.out).2.1)
      rintro e w54 ⟨v344, rfl, ho0, hb⟩
      refine ⟨_, rfl, ?_⟩
      have HO345 := Aside0.mk (Kd.R_lower (Kd.R_newB ho0 (g := gb319) (o := .cells #[.int .i64 300, .int .i64 310] 27 (0, 0)) zbfr) (below_size zbzr))
      replace HO_318007 := zrbr HO_318007 hb
      replace HO_318008 := zrbr HO_318008 hb
      replace HO342 := zrbr HO342 hb
      replace BK317 := zbbr BK317 hb
      replace BK318 := zbbr BK318 hb
      replace BK319 := zbbr BK319 hb
      replace BK329 := zbbr BK329 hb
      replace HB := zbsr HB hb
      (try clear hb)
      (try clear hb2)
      (try clear hk)
      (try clear hi)
      (try clear ho0)
      refine hK.out _ _ (zca7 BK318.out (zcs2 BK319.out)) (fun hHeld => ?_)
      clear hK K
      refine norm_ (by show Act.put _ (some 75) _ = _; simp only [Act.put, List.setIfInBounds_toArray, List.set_cons_zero, List.set_cons_succ, i64_w, i32_w]; rfl) ?_
      refine zpz (i := 4) (N := some 71) (any_of HT_.out zq1) ?_
      refine zpz (i := 5) (N := some 76) (any_of HT_.out zq1) ?_
      refine zpz (i := 6) (N := some 77) (any_of HT_.out zq1) ?_
      refine zpz (i := 7) (N := some 78) (any_of HT_.out zq1) ?_
      refine zpz (i := 8) (N := some 7) (any_of HT_.out zq1) ?_
      refine zpz (i := 9) (N := some 8) (any_of HT_.out zq1) ?_
      refine done_ (done_of HT_.out zq1) ?_
      go_upto_region 8 with (fail)
      go_cut [84] (fun v84 wc => ∃ (kq : Nat) (x84_48 : Bool), v84 = .bool x84_48 ∧ Aside0 (isobathlaw03_GliderKnown.j1 kq x84_48 t297 t298 t299 t300 t301 t302 t303 t304 t307 t310 t311 t312 t313 t314 t315 t316 300 310 = some r) ∧ Aside0 (kq ≤ kj4) ∧ Aside0 (Kd.R Kd.bool 4 wc w.heap.size (fun _ => True) (.slice Ao11 t304.length co11) t304) ∧ Aside0 (Kd.R k40 40 wc w.heap.size (fun _ => True) (.slice Ao12 t307.length co12) t307) ∧ Aside0 (wc.heap[gb317]? = some (.cells #[.int .i64 t297, .int .i64 t298, .int .i64 t299, .int .i64 t300, .int .i64 t301, .int .i64 t302, .int .i64 t303, (.slice Ao11 t304.length co11), (.slice Ao12 t307.length co12)] 25 (0, 0))) ∧ Aside0 (wc.heap[gb318]? = some (.cells #[.int .i64 t310, .int .i64 t311, .int .i64 t312, .int .i64 t313, .int .i64 t314, .int .i64 t315, .int .i64 t316] 29 (0, 0))) ∧ Aside0 (wc.heap[gb319]? = some (.cells #[.int .i64 300, .int .i64 310] 27 (0, 0))) ∧ Aside0 (wc.heap[gb329]? = some (.cells #[.int .i64 t324, .int .i64 t325, .int .i64 t326, .int .i64 t327] 31 (0, 0))) ∧ Aside0 (Below w.heap.size w wc))
      case first =>
       as_aux_lemma =>
        have H := HC49.out
        clear HC49
        by_cases c55 : t347 = 19
        ·rw [if_pos c55] at H
         have c55b0 : (t347 == 19) = true := beq_iff_eq.mpr c55
         have c55b1 : (t347 != 19) = false := bne_eq_false_iff_eq.mpr c55
         clear c55
         (first | rw [c55b0] | (simp only [i64_w, i32_w]; rw [c55b0]) | skip)
         have H' := Aside0.mk H
         clear H
         go_wp2
         go_meet
         case rel => exact ⟨_, ((t346 != 3)), zq2, H', ⟨by have := HJ4.out; first | omega | exact Nat.le_refl _⟩, ⟨zq64⟩, ⟨zq65⟩, ⟨zbfr⟩, ⟨zbfr⟩, ⟨zbfr⟩, ⟨zbfr⟩, ⟨zbzr⟩⟩
        ·rw [if_neg c55] at H
         have c55b0 : (t347 == 19) = false := beq_eq_false_iff_ne.mpr c55
         have c55b1 : (t347 != 19) = true := bne_iff_ne.mpr c55
         (first | rw [c55b0] | (simp only [i64_w, i32_w]; rw [c55b0]) | skip)
         have H' := Aside0.mk H
         clear H
         go_wp2
         go_meet
         case rel => exact ⟨_, (true), zq2, H', ⟨by have := HJ4.out; first | omega | exact Nat.le_refl _⟩, ⟨zq64⟩, ⟨zq65⟩, ⟨zbfr⟩, ⟨zbfr⟩, ⟨zbfr⟩, ⟨zbfr⟩, ⟨zbzr⟩⟩
      case rest =>
       as_aux_lemma =>
        clear HC49
        try clear c2
        try clear p2
        try clear c3
        try clear p3
        try clear q3
        try clear hx3
        try clear qi3
        try clear c4
        try clear c5
        try clear c6
        try clear c20
        try clear c28
        try clear c30
        try clear p33
        try clear q33
        try clear hx33
        try clear qi33
        try clear c36
        try clear c36b0
        try clear c36b1
        try clear c37
        try clear c37b0
        try clear c37b1
        try clear c38
        try clear c38b0
        try clear c38b1
        try clear c39
        try clear c39b0
        try clear c39b1
        try clear c40
        try clear c40b0
        try clear c40b1
        try clear c41
        try clear c41b0
        try clear c43
        try clear c43b0
        try clear c43b1
        try clear c46
        try clear c47
        try clear c47b0
        try clear c47b1
        try clear c55
        try clear c55b0
        try clear c55b1
        try clear hcz29_0 hcz29_1 hcz29_2 hcz29_3 hcz29_4 hcz29_5 hcz29_6
        try clear hcz31_0 hcz31_1
        try clear hfz29_0 hfz29_1 hfz29_2 hfz29_3 hfz29_4 hfz29_5 hfz29_6
        try clear hfz31_0 hfz31_1
        try clear hx338_0 hx338_1
        try clear hx339_0 hx339_1
        try clear p2
        try clear p3
        try clear p33
        try clear p338
        try clear p339
        try clear q3
        try clear q33
        try clear q338
        try clear q339
        obtain ⟨kq, x84_48, rfl, HA, HJ48, HO_318007, HO_318008, BK317, BK318, BK319, BK329, HB⟩ := hcut
        cases kq with
        | zero => exact absurd HA.out (by simp [isobathlaw03_GliderKnown.j1])
        | succ kj48 =>
         have H := HA.out
         clear HA
         simp only [isobathlaw03_GliderKnown.j1] at H
         by_cases c56 : x84_48 = true
         ·subst c56
          have H1 : (some false) = some r := by rw [if_pos rfl] at H; exact H
          clear H
          have H := H1
          clear H1
          have hh_ := Option.some.inj H
          rw [hr_.out] at hh_
          cases hh_
         ·replace c56 := Bool.eq_false_iff.mpr c56
          subst c56
          have H1 : ((isobathlaw03_point.f 2000 2000).bind fun bt349 => ((glider_Best.f t297 t298 t299 t300 t301 t302 t303 t304 t307 t310 t311 t312 t313 t314 t315 t316 bt349.1 bt349.2.1 bt349.2.2.1 bt349.2.2.2 0 300 310 2100 2600 1900 2100 0 2000 2).bind fun bt353 => (if bt353.2.2 = 0 then (if bt353.2.1 = 60 then (if (bt353.1.length : Int) = 1 then (if 0 < (bt353.1.length : Int) then (isobathlaw03_GliderKnown.j2 kj48 bt353.1 (!(((rd_T33 bt353.1 0).f0) == 2) || (!(((rd_T33 bt353.1 0).f1) == 0))) t297 t298 t299 t300 t301 t302 t303 t304 t307 t310 t311 t312 t313 t314 t315 t316) else (none)) else (isobathlaw03_GliderKnown.j2 kj48 bt353.1 true t297 t298 t299 t300 t301 t302 t303 t304 t307 t310 t311 t312 t313 t314 t315 t316)) else (isobathlaw03_GliderKnown.j2 kj48 bt353.1 true t297 t298 t299 t300 t301 t302 t303 t304 t307 t310 t311 t312 t313 t314 t315 t316)) else (isobathlaw03_GliderKnown.j2 kj48 bt353.1 true t297 t298 t299 t300 t301 t302 t303 t304 t307 t310 t311 t312 t313 t314 t315 t316)))) = some r := by rw [if_neg (show ¬ (false = true) by decide)] at H; exact H
          clear H
          have H := H1
          clear H1
          replace H := Option.bind_eq_some_iff.mp H
          obtain ⟨⟨t349, t350, t351, t352⟩, A570, H⟩ := H
          replace H : ((glider_Best.f t297 t298 t299 t300 t301 t302 t303 t304 t307 t310 t311 t312 t313 t314 t315 t316 t349 t350 t351 t352 0 300 310 2100 2600 1900 2100 0 2000 2).bind fun bt353 => (if bt353.2.2 = 0 then (if bt353.2.1 = 60 then (if (bt353.1.length : Int) = 1 then (if 0 < (bt353.1.length : Int) then (isobathlaw03_GliderKnown.j2 kj48 bt353.1 (!(((rd_T33 bt353.1 0).f0) == 2) || (!(((rd_T33 bt353.1 0).f1) == 0))) t297 t298 t299 t300 t301 t302 t303 t304 t307 t310 t311 t312 t313 t314 t315 t316) else (none)) else (isobathlaw03_GliderKnown.j2 kj48 bt353.1 true t297 t298 t299 t300 t301 t302 t303 t304 t307 t310 t311 t312 t313 t314 t315 t316)) else (isobathlaw03_GliderKnown.j2 kj48 bt353.1 true t297 t298 t299 t300 t301 t302 t303 t304 t307 t310 t311 t312 t313 t314 t315 t316)) else (isobathlaw03_GliderKnown.j2 kj48 bt353.1 true t297 t298 t299 t300 t301 t302 t303 t304 t307 t310 t311 t312 t313 t314 t315 t316))) = some r := H
          have A57 := Aside0.mk A570
          clear A570
          replace H := Option.bind_eq_some_iff.mp H
          obtain ⟨⟨t353, t356, t357⟩, A580, H⟩ := H
          replace H : (if t357 = 0 then (if t356 = 60 then (if (t353.length : Int) = 1 then (if 0 < (t353.length : Int) then (isobathlaw03_GliderKnown.j2 kj48 t353 (!(((rd_T33 t353 0).f0) == 2) || (!(((rd_T33 t353 0).f1) == 0))) t297 t298 t299 t300 t301 t302 t303 t304 t307 t310 t311 t312 t313 t314 t315 t316) else (none)) else (isobathlaw03_GliderKnown.j2 kj48 t353 true t297 t298 t299 t300 t301 t302 t303 t304 t307 t310 t311 t312 t313 t314 t315 t316)) else (isobathlaw03_GliderKnown.j2 kj48 t353 true t297 t298 t299 t300 t301 t302 t303 t304 t307 t310 t311 t312 t313 t314 t315 t316)) else (isobathlaw03_GliderKnown.j2 kj48 t353 true t297 t298 t299 t300 t301 t302 t303 t304 t307 t310 t311 t312 t313 t314 t315 t316)) = some r := H
          have A58 := Aside0.mk A580
          clear A580
          have HC59 := Aside0.mk H
          clear H
          try go_wp2_with (first | ((with_reducible refine gate_dst (N := 9) rfl ?_); (try (refine gate_guard (by rfl) ?_; dsimp only)); refine box_event (by rfl) (N := 9) (by rfl) (cs := #[.int .i64 0, .int .i64 0, .int .i64 0, .int .i64 0, .int .i64 0, .int .i64 0]) (t := 81) zq4 ?_; intro gb348 hg w60 hbox hb; have BK348 := Aside0.mk (hbox); have GW348 := zgsr HB hg; have GE348 := zgsr HB hg; have NB317_348 := znpr BK317 hg; have NB348_317 := znqr BK317 hg; have NB318_348 := znpr BK318 hg; have NB348_318 := znqr BK318 hg; have NB319_348 := znpr BK319 hg; have NB348_319 := znqr BK319 hg; have NB329_348 := znpr BK329 hg; have NB348_329 := znqr BK329 hg; replace HO_318007 := zrbr HO_318007 hb; replace HO_318008 := zrbr HO_318008 hb; replace BK317 := zbbr BK317 hb; replace BK318 := zbbr BK318 hb; replace BK319 := zbbr BK319 hb; replace BK329 := zbbr BK329 hb; replace HB := zbsr HB hb; clear hb hbox hg; have hnb61 := NB348_317.out; have hnc61 := NB317_348.out; have hnb62 := NB348_318.out; have hnc62 := NB318_348.out; have hnb63 := NB348_319.out; have hnc63 := NB319_348.out; have hnb64 := NB348_329.out; have hnc64 := NB329_348.out; obtain ⟨hcz65_0, hcz65_1, hcz65_2, hcz65_3, hcz65_4, hcz65_5, hfz65_0, hfz65_1, hfz65_2, hfz65_3, hfz65_4, hfz65_5⟩ := zce6 BK348.out))
          have n0_ : Aside0 (Kd.R Kd.bool 4 ((((((w60.setCell ⟨gb348, 0, none⟩ (.int .i64 2100)).setCell ⟨gb348, 1, none⟩ (.int .i64 2600)).setCell ⟨gb348, 2, none⟩ (.int .i64 1900)).setCell ⟨gb348, 3, none⟩ (.int .i64 2100)).setCell ⟨gb348, 4, none⟩ (.int .i64 0)).setCell ⟨gb348, 5, none⟩ (.int .i64 2000)) w.heap.size (fun _ => True) (.slice Ao11 t304.length co11) t304) := ⟨by (with_reducible repeat (first | apply Kd.R_alloc | apply Kd.R_drewN | apply Kd.R_drew)); exact Kd.R_mono (Kd.R_far (p := ⟨gb348, 5, none⟩) (Kd.R_far (p := ⟨gb348, 4, none⟩) (Kd.R_far (p := ⟨gb348, 3, none⟩) (Kd.R_far (p := ⟨gb348, 2, none⟩) (Kd.R_far (p := ⟨gb348, 1, none⟩) (Kd.R_far (p := ⟨gb348, 0, none⟩) (Kd.R_types HO_318007.out BK348.out (by decide)) (fun _ hk => hk.2) (.int .i64 2100)) (fun _ hk => hk.2) (.int .i64 2600)) (fun _ hk => hk.2) (.int .i64 1900)) (fun _ hk => hk.2) (.int .i64 2100)) (fun _ hk => hk.2) (.int .i64 0)) (fun _ hk => hk.2) (.int .i64 2000)) (fun _ hk => trivial)⟩
          have n1_ : Aside0 (Kd.R k40 40 ((((((w60.setCell ⟨gb348, 0, none⟩ (.int .i64 2100)).setCell ⟨gb348, 1, none⟩ (.int .i64 2600)).setCell ⟨gb348, 2, none⟩ (.int .i64 1900)).setCell ⟨gb348, 3, none⟩ (.int .i64 2100)).setCell ⟨gb348, 4, none⟩ (.int .i64 0)).setCell ⟨gb348, 5, none⟩ (.int .i64 2000)) w.heap.size (fun _ => True) (.slice Ao12 t307.length co12) t307) := ⟨by (with_reducible repeat (first | apply Kd.R_alloc | apply Kd.R_drewN | apply Kd.R_drew)); exact Kd.R_mono (Kd.R_far (p := ⟨gb348, 5, none⟩) (Kd.R_far (p := ⟨gb348, 4, none⟩) (Kd.R_far (p := ⟨gb348, 3, none⟩) (Kd.R_far (p := ⟨gb348, 2, none⟩) (Kd.R_far (p := ⟨gb348, 1, none⟩) (Kd.R_far (p := ⟨gb348, 0, none⟩) (Kd.R_types HO_318008.out BK348.out (by decide)) (fun _ hk => hk.2) (.int .i64 2100)) (fun _ hk => hk.2) (.int .i64 2600)) (fun _ hk => hk.2) (.int .i64 1900)) (fun _ hk => hk.2) (.int .i64 2100)) (fun _ hk => hk.2) (.int .i64 0)) (fun _ hk => hk.2) (.int .i64 2000)) (fun _ hk => trivial)⟩
          have n2_ : Aside0 (((((((w60.setCell ⟨gb348, 0, none⟩ (.int .i64 2100)).setCell ⟨gb348, 1, none⟩ (.int .i64 2600)).setCell ⟨gb348, 2, none⟩ (.int .i64 1900)).setCell ⟨gb348, 3, none⟩ (.int .i64 2100)).setCell ⟨gb348, 4, none⟩ (.int .i64 0)).setCell ⟨gb348, 5, none⟩ (.int .i64 2000)).heap[gb317]? = some (.cells #[.int .i64 t297, .int .i64 t298, .int .i64 t299, .int .i64 t300, .int .i64 t301, .int .i64 t302, .int .i64 t303, .slice Ao11 t304.length co11, .slice Ao12 t307.length co12] 25 (0, 0))) := ⟨zbfr⟩
          have n3_ : Aside0 (((((((w60.setCell ⟨gb348, 0, none⟩ (.int .i64 2100)).setCell ⟨gb348, 1, none⟩ (.int .i64 2600)).setCell ⟨gb348, 2, none⟩ (.int .i64 1900)).setCell ⟨gb348, 3, none⟩ (.int .i64 2100)).setCell ⟨gb348, 4, none⟩ (.int .i64 0)).setCell ⟨gb348, 5, none⟩ (.int .i64 2000)).heap[gb318]? = some (.cells #[.int .i64 t310, .int .i64 t311, .int .i64 t312, .int .i64 t313, .int .i64 t314, .int .i64 t315, .int .i64 t316] 29 (0, 0))) := ⟨zbfr⟩
          have n4_ : Aside0 (((((((w60.setCell ⟨gb348, 0, none⟩ (.int .i64 2100)).setCell ⟨gb348, 1, none⟩ (.int .i64 2600)).setCell ⟨gb348, 2, none⟩ (.int .i64 1900)).setCell ⟨gb348, 3, none⟩ (.int .i64 2100)).setCell ⟨gb348, 4, none⟩ (.int .i64 0)).setCell ⟨gb348, 5, none⟩ (.int .i64 2000)).heap[gb319]? = some (.cells #[.int .i64 300, .int .i64 310] 27 (0, 0))) := ⟨zbfr⟩
          have n5_ : Aside0 (((((((w60.setCell ⟨gb348, 0, none⟩ (.int .i64 2100)).setCell ⟨gb348, 1, none⟩ (.int .i64 2600)).setCell ⟨gb348, 2, none⟩ (.int .i64 1900)).setCell ⟨gb348, 3, none⟩ (.int .i64 2100)).setCell ⟨gb348, 4, none⟩ (.int .i64 0)).setCell ⟨gb348, 5, none⟩ (.int .i64 2000)).heap[gb329]? = some (.cells #[.int .i64 t324, .int .i64 t325, .int .i64 t326, .int .i64 t327] 31 (0, 0))) := ⟨zbfr⟩
          have n6_ : Aside0 (((((((w60.setCell ⟨gb348, 0, none⟩ (.int .i64 2100)).setCell ⟨gb348, 1, none⟩ (.int .i64 2600)).setCell ⟨gb348, 2, none⟩ (.int .i64 1900)).setCell ⟨gb348, 3, none⟩ (.int .i64 2100)).setCell ⟨gb348, 4, none⟩ (.int .i64 0)).setCell ⟨gb348, 5, none⟩ (.int .i64 2000)).heap[gb348]? = some (.cells #[.int .i64 2100, .int .i64 2600, .int .i64 1900, .int .i64 2100, .int .i64 0, .int .i64 2000] 81 (0, 0))) := ⟨by (with_reducible repeat (first | refine blk_drewN ?_ _ | refine blk_drew ?_ | refine blk_alloc ?_ _)); refine blk_put (cs := #[.int .i64 2100, .int .i64 2600, .int .i64 1900, .int .i64 2100, .int .i64 0, .int .i64 0]) ?_ 5 _ rfl; (with_reducible repeat (first | refine blk_drewN ?_ _ | refine blk_drew ?_ | refine blk_alloc ?_ _)); refine blk_put (cs := #[.int .i64 2100, .int .i64 2600, .int .i64 1900, .int .i64 2100, .int .i64 0, .int .i64 0]) ?_ 4 _ rfl; (with_reducible repeat (first | refine blk_drewN ?_ _ | refine blk_drew ?_ | refine blk_alloc ?_ _)); refine blk_put (cs := #[.int .i64 2100, .int .i64 2600, .int .i64 1900, .int .i64 0, .int .i64 0, .int .i64 0]) ?_ 3 _ rfl; (with_reducible repeat (first | refine blk_drewN ?_ _ | refine blk_drew ?_ | refine blk_alloc ?_ _)); refine blk_put (cs := #[.int .i64 2100, .int .i64 2600, .int .i64 0, .int .i64 0, .int .i64 0, .int .i64 0]) ?_ 2 _ rfl; (with_reducible repeat (first | refine blk_drewN ?_ _ | refine blk_drew ?_ | refine blk_alloc ?_ _)); refine blk_put (cs := #[.int .i64 2100, .int .i64 0, .int .i64 0, .int .i64 0, .int .i64 0, .int .i64 0]) ?_ 1 _ rfl; (with_reducible repeat (first | refine blk_drewN ?_ _ | refine blk_drew ?_ | refine blk_alloc ?_ _)); refine blk_put (cs := #[.int .i64 0, .int .i64 0, .int .i64 0, .int .i64 0, .int .i64 0, .int .i64 0]) ?_ 0 _ rfl; (with_reducible repeat (first | refine blk_drewN ?_ _ | refine blk_drew ?_ | refine blk_alloc ?_ _)); exact BK348.out⟩
          have n7_ : Aside0 (Below w.heap.size w ((((((w60.setCell ⟨gb348, 0, none⟩ (.int .i64 2100)).setCell ⟨gb348, 1, none⟩ (.int .i64 2600)).setCell ⟨gb348, 2, none⟩ (.int .i64 1900)).setCell ⟨gb348, 3, none⟩ (.int .i64 2100)).setCell ⟨gb348, 4, none⟩ (.int .i64 0)).setCell ⟨gb348, 5, none⟩ (.int .i64 2000))) := ⟨zbzr⟩
          (try clear HO_318007)
          (try clear HO_318008)
          (try clear BK317)
          (try clear BK318)
          (try clear BK319)
          (try clear BK329)
          (try clear BK348)
          (try clear HB)
          generalize ((((((w60.setCell ⟨gb348, 0, none⟩ (.int .i64 2100)).setCell ⟨gb348, 1, none⟩ (.int .i64 2600)).setCell ⟨gb348, 2, none⟩ (.int .i64 1900)).setCell ⟨gb348, 3, none⟩ (.int .i64 2100)).setCell ⟨gb348, 4, none⟩ (.int .i64 0)).setCell ⟨gb348, 5, none⟩ (.int .i64 2000)) = w66 at n0_ n1_ n2_ n3_ n4_ n5_ n6_ n7_ ⊢
          have HO_318007 := n0_
          have HO_318008 := n1_
          have BK317 := n2_
          have BK318 := n3_
          have BK319 := n4_
          have BK329 := n5_
          have BK348 := n6_
          have HB := n7_
          clear n0_ n1_ n2_ n3_ n4_ n5_ n6_ n7_
          replace HO_318007 := Aside0.mk (Kd.R_drew HO_318007.out)
          replace HO_318008 := Aside0.mk (Kd.R_drew HO_318008.out)
          replace BK317 := Aside0.mk (blk_drew BK317.out)
          replace BK318 := Aside0.mk (blk_drew BK318.out)
          replace BK319 := Aside0.mk (blk_drew BK319.out)
          replace BK329 := Aside0.mk (blk_drew BK329.out)
          replace BK348 := Aside0.mk (blk_drew BK348.out)
          replace HB := Aside0.mk (below_drew1 HB.out)
          refine start_ (n := 13) (S := fun w' => w'.cell? ⟨gb317, 0, none⟩ = some (.int .i64 t297) ∧ w'.cell? ⟨gb317, 1, none⟩ = some (.int .i64 t298) ∧ w'.cell? ⟨gb317, 2, none⟩ = some (.int .i64 t299) ∧ w'.cell? ⟨gb317, 3, none⟩ = some (.int .i64 t300) ∧ w'.cell? ⟨gb317, 4, none⟩ = some (.int .i64 t301) ∧ w'.cell? ⟨gb317, 5, none⟩ = some (.int .i64 t302) ∧ w'.cell? ⟨gb317, 6, none⟩ = some (.int .i64 t303) ∧ w'.cell? ⟨gb317, 7, none⟩ = some (.slice Ao11 t304.length co11) ∧ w'.cell? ⟨gb317, 8, none⟩ = some (.slice Ao12 t307.length co12) ∧ w'.cell? ⟨gb318, 0, none⟩ = some (.int .i64 t310) ∧ w'.cell? ⟨gb318, 1, none⟩ = some (.int .i64 t311) ∧ w'.cell? ⟨gb318, 2, none⟩ = some (.int .i64 t312) ∧ w'.cell? ⟨gb318, 3, none⟩ = some (.int .i64 t313) ∧ w'.cell? ⟨gb318, 4, none⟩ = some (.int .i64 t314) ∧ w'.cell? ⟨gb318, 5, none⟩ = some (.int .i64 t315) ∧ w'.cell? ⟨gb318, 6, none⟩ = some (.int .i64 t316) ∧ w'.cell? ⟨gb319, 0, none⟩ = some (.int .i64 300) ∧ w'.cell? ⟨gb319, 1, none⟩ = some (.int .i64 310) ∧ w'.cell? ⟨gb348, 0, none⟩ = some (.int .i64 2100) ∧ w'.cell? ⟨gb348, 1, none⟩ = some (.int .i64 2600) ∧ w'.cell? ⟨gb348, 2, none⟩ = some (.int .i64 1900) ∧ w'.cell? ⟨gb348, 3, none⟩ = some (.int .i64 2100) ∧ w'.cell? ⟨gb348, 4, none⟩ = some (.int .i64 0) ∧ w'.cell? ⟨gb348, 5, none⟩ = some (.int .i64 2000)) (ds := []) #[false, false, false, false, false, false, false, false, false, false, false, false, false] zq1 rfl rfl (zca9 BK317.out (zca7 BK318.out (zca2 BK319.out (zcs6 BK348.out)))) (fun hHeld => ?_); refine with_tabW isobathlaw03_GliderKnown.tab11 isobathlaw03_GliderKnown.bits11 (fun HT_ HW_ => ?_)
          generalize w66.drew = w67 at HO_318007 HO_318008 BK317 BK318 BK319 BK329 BK348 HB hHeld ⊢
          refine ztz (i := 0) (N := some 90) (take_ofW HT_.out HW_.out zq1) hHeld ?_
          refine ztz (i := 1) (N := some 91) (take_ofW HT_.out HW_.out zq1) hHeld ?_
          refine ztz (i := 3) (N := some 93) (take_ofW HT_.out HW_.out zq1) hHeld ?_
          refine ztz (i := 4) (N := some 94) (take_ofW HT_.out HW_.out zq1) hHeld ?_
          refine one_ (i := 2) (N := some 92) #[true, true, true, true, true, false, false, false, false, false, false, false, false] rfl rfl (one_of HT_.out zq1) (by decide) (fun K hK => ?_)
          refine goes_ Try.func62 zq1 rfl #[.int .i64 2000, .int .i64 2000] (by rfl) rfl rfl zq6 ?_
          with_reducible refine (isobathlaw03_point.calls 2000 2000 t349 t350 t351 t352 _ A57.out).mono ?_
          rintro e w68 ⟨rfl, hb⟩
          refine ⟨_, rfl, ?_⟩
          replace HO_318007 := zrbr HO_318007 hb
          replace HO_318008 := zrbr HO_318008 hb
          replace BK317 := zbbr BK317 hb
          replace BK318 := zbbr BK318 hb
          replace BK319 := zbbr BK319 hb
          replace BK329 := zbbr BK329 hb
          replace BK348 := zbbr BK348 hb
          replace HB := zbsr HB hb
          (try clear hb)
          (try clear hb2)
          (try clear hk)
          (try clear hi)
          refine hK.out _ _ (zca9 BK317.out (zca7 BK318.out (zca2 BK319.out (zcs6 BK348.out)))) (fun hHeld => ?_)
          clear hK K
          refine norm_ (by show Act.put _ (some 92) _ = _; simp only [Act.put, List.setIfInBounds_toArray, List.set_cons_zero, List.set_cons_succ, i64_w, i32_w]; rfl) ?_
          refine one_ (i := 5) (N := some 95) #[true, true, true, true, true, true, false, false, false, false, false, false, false] rfl rfl (one_of HT_.out zq1) (by decide) (fun K hK => ?_)
          refine goes_ Try.func57 zq1 rfl #[.agg #[.int .i64 t297, .int .i64 t298, .int .i64 t299, .int .i64 t300, .int .i64 t301, .int .i64 t302, .int .i64 t303, .slice Ao11 t304.length co11, .slice Ao12 t307.length co12], .agg #[.int .i64 t310, .int .i64 t311, .int .i64 t312, .int .i64 t313, .int .i64 t314, .int .i64 t315, .int .i64 t316], .agg #[.int .i64 t349, .int .i64 t350, .int .i64 t351, .int .i64 t352], .int .i64 0, .agg #[.int .i64 300, .int .i64 310], .agg #[.int .i64 2100, .int .i64 2600, .int .i64 1900, .int .i64 2100, .int .i64 0, .int .i64 2000], .int .i64 2] (by rfl) rfl rfl zq6 ?_
          with_reducible refine (glider_Best.calls t297 t298 t299 t300 t301 t302 t303 _ _ t304 _ _ t307 t310 t311 t312 t313 t314 t315 t316 t349 t350 t351 t352 0 300 310 2100 2600 1900 2100 0 2000 2 t353 t356 t357 _ ?side1 ?side2 ?side3 ?side4 A58.out).mono ?_
          (case side1 => repeat (first | exact (Kd.R_reads' HO_318007.out).2.2 | (with_reducible refine Kd.C_alloc ?_ _) | (with_reducible refine Kd.C_drewN ?_ _) | (with_reducible refine Kd.C_drew ?_)))
          (case side2 => exact (Kd.R_reads' HO_318007.out).2.1)
          (case side3 => repeat (first | exact (Kd.R_reads' HO_318008.out).2.2 | (with_reducible refine Kd.C_alloc ?_ _) | (with_reducible refine Kd.C_drewN ?_ _) | (with_reducible refine Kd.C_drew ?_)))
          (case side4 => exact (Kd.R_reads' HO_318008.out).2.1)
          rintro e w69 ⟨v354, rfl, ho0, hb⟩
          refine ⟨_, rfl, ?_⟩
          have HO355 := Aside0.mk (Kd.R_lower ho0 (below_size zbzr))
          replace HO_318007 := zrbr HO_318007 hb
          replace HO_318008 := zrbr HO_318008 hb
          replace BK317 := zbbr BK317 hb
          replace BK318 := zbbr BK318 hb
          replace BK319 := zbbr BK319 hb
          replace BK329 := zbbr BK329 hb
          replace BK348 := zbbr BK348 hb
          replace HB := zbsr HB hb
          (try clear hb)
          (try clear hb2)
          (try clear hk)
          (try clear hi)
          (try clear ho0)
          refine hK.out _ _ (zca9 BK317.out (zca7 BK318.out (zca2 BK319.out (zcs6 BK348.out)))) (fun hHeld => ?_)
          clear hK K
          refine norm_ (by show Act.put _ (some 95) _ = _; simp only [Act.put, List.setIfInBounds_toArray, List.set_cons_zero, List.set_cons_succ, i64_w, i32_w]; rfl) ?_
          refine zpz (i := 6) (N := some 89) (any_of HT_.out zq1) ?_
          refine zpz (i := 7) (N := some 96) (any_of HT_.out zq1) ?_
          refine zpz (i := 8) (N := some 97) (any_of HT_.out zq1) ?_
          refine zpz (i := 9) (N := some 98) (any_of HT_.out zq1) ?_
          refine zpz (i := 10) (N := some 10) (any_of HT_.out zq1) ?_
          refine zpz (i := 11) (N := some 11) (any_of HT_.out zq1) ?_
          refine zpz (i := 12) (N := some 8) (any_of HT_.out zq1) ?_
          refine done_ (done_of HT_.out zq1) ?_
          go_upto_region 12 with (fail)
          go_cut [116] (fun v116 wc => ∃ (kq : Nat) (x116_58 : Bool), v116 = .bool x116_58 ∧ Aside0 (isobathlaw03_GliderKnown.j2 kq t353 x116_58 t297 t298 t299 t300 t301 t302 t303 t304 t307 t310 t311 t312 t313 t314 t315 t316 = some r) ∧ Aside0 (kq ≤ kj48) ∧ Aside0 (Kd.R k33 33 wc w.heap.size (fun _ => True) v354 t353) ∧ Aside0 (Kd.R Kd.bool 4 wc w.heap.size (fun _ => True) (.slice Ao11 t304.length co11) t304) ∧ Aside0 (Kd.R k40 40 wc w.heap.size (fun _ => True) (.slice Ao12 t307.length co12) t307) ∧ Aside0 (wc.heap[gb317]? = some (.cells #[.int .i64 t297, .int .i64 t298, .int .i64 t299, .int .i64 t300, .int .i64 t301, .int .i64 t302, .int .i64 t303, (.slice Ao11 t304.length co11), (.slice Ao12 t307.length co12)] 25 (0, 0))) ∧ Aside0 (wc.heap[gb318]? = some (.cells #[.int .i64 t310, .int .i64 t311, .int .i64 t312, .int .i64 t313, .int .i64 t314, .int .i64 t315, .int .i64 t316] 29 (0, 0))) ∧ Aside0 (wc.heap[gb319]? = some (.cells #[.int .i64 300, .int .i64 310] 27 (0, 0))) ∧ Aside0 (wc.heap[gb329]? = some (.cells #[.int .i64 t324, .int .i64 t325, .int .i64 t326, .int .i64 t327] 31 (0, 0))) ∧ Aside0 (wc.heap[gb348]? = some (.cells #[.int .i64 2100, .int .i64 2600, .int .i64 1900, .int .i64 2100, .int .i64 0, .int .i64 2000] 81 (0, 0))) ∧ Aside0 (Below w.heap.size w wc))
          case first =>
           as_aux_lemma =>
            have H := HC59.out
            clear HC59
            by_cases c70 : t357 = 0
            ·rw [if_pos c70] at H
             have c70b0 : (t357 == 0) = true := beq_iff_eq.mpr c70
             have c70b1 : (t357 != 0) = false := bne_eq_false_iff_eq.mpr c70
             clear c70
             (first | rw [c70b0] | (simp only [i64_w, i32_w]; rw [c70b0]) | skip)
             by_cases c71 : t356 = 60
             ·rw [if_pos c71] at H
              have c71b0 : (t356 == 60) = true := beq_iff_eq.mpr c71
              have c71b1 : (t356 != 60) = false := bne_eq_false_iff_eq.mpr c71
              clear c71
              by_cases c72 : (t353.length : Int) = 1
              ·rw [if_pos c72] at H
               have c72b0 : ((t353.length : Int) == 1) = true := beq_iff_eq.mpr c72
               have c72b1 : ((t353.length : Int) != 1) = false := bne_eq_false_iff_eq.mpr c72
               clear c72
               by_cases c73 : 0 < (t353.length : Int)
               ·rw [if_pos c73] at H
                have c73b0 : decide (0 < (t353.length : Int)) = true := decide_eq_true c73
                have c73b1 : decide (0 < t353.length) = true := decide_eq_true (by omega)
                clear c73
                have H' := Aside0.mk H
                clear H
                obtain ⟨Ao74, co74, eo74⟩ := Kd.R_slice HO355.out
                subst eo74
                have p358 : 0 ≤ (0 : Int) := (by omega)
                have q358 : 0 < (t353.length : Int) := of_decide_eq_true zq3
                obtain ⟨ad358, e358, hx358_0, hx358_1⟩ := at_T33 (Kd.R_reads' HO355.out).2.2 0 p358 q358
                cases e358
                have qi358 : (0 < t353.length) = True := eq_true (by omega)
                (try rw [show ((0 : Int)).toNat = 0 from rfl] at hx358_0)
                (try rw [show 0 * 2 = 0 from rfl] at hx358_0)
                (try rw [Addr.add_zero'] at hx358_0)
                (try rw [show ((0 : Int)).toNat = 0 from rfl] at hx358_1)
                (try rw [show 0 * 2 = 0 from rfl] at hx358_1)
                (try rw [Addr.add_zero'] at hx358_1)
                replace p358 := eq_true p358
                replace q358 := eq_true q358
                go_wp2
                go_meet
                case rel => exact ⟨_, ((!(((rd_T33 t353 0).f0) == 2) || (!(((rd_T33 t353 0).f1) == 0)))), zq2, H', ⟨zq66⟩, ⟨zq67⟩, ⟨zq64⟩, ⟨zq65⟩, ⟨zbfr⟩, ⟨zbfr⟩, ⟨zbfr⟩, ⟨zbfr⟩, ⟨zbfr⟩, ⟨zbzr⟩⟩
               ·rw [if_neg c73] at H
                exact absurd H (by simp)
              ·rw [if_neg c72] at H
               have c72b0 : ((t353.length : Int) == 1) = false := beq_eq_false_iff_ne.mpr c72
               have c72b1 : ((t353.length : Int) != 1) = true := bne_iff_ne.mpr c72
               have H' := Aside0.mk H
               clear H
               obtain ⟨Ao75, co75, eo75⟩ := Kd.R_slice HO355.out
               subst eo75
               go_wp2
               go_meet
               case rel => exact ⟨_, (true), zq2, H', ⟨zq66⟩, ⟨zq67⟩, ⟨zq64⟩, ⟨zq65⟩, ⟨zbfr⟩, ⟨zbfr⟩, ⟨zbfr⟩, ⟨zbfr⟩, ⟨zbfr⟩, ⟨zbzr⟩⟩
             ·rw [if_neg c71] at H
              have c71b0 : (t356 == 60) = false := beq_eq_false_iff_ne.mpr c71
              have c71b1 : (t356 != 60) = true := bne_iff_ne.mpr c71
              have H' := Aside0.mk H
              clear H
              go_wp2
              go_meet
              case rel => exact ⟨_, (true), zq2, H', ⟨zq66⟩, ⟨zq67⟩, ⟨zq64⟩, ⟨zq65⟩, ⟨zbfr⟩, ⟨zbfr⟩, ⟨zbfr⟩, ⟨zbfr⟩, ⟨zbfr⟩, ⟨zbzr⟩⟩
            ·rw [if_neg c70] at H
             have c70b0 : (t357 == 0) = false := beq_eq_false_iff_ne.mpr c70
             have c70b1 : (t357 != 0) = true := bne_iff_ne.mpr c70
             (first | rw [c70b0] | (simp only [i64_w, i32_w]; rw [c70b0]) | skip)
             have H' := Aside0.mk H
             clear H
             go_wp2
             go_meet
             case rel => exact ⟨_, (true), zq2, H', ⟨zq66⟩, ⟨zq67⟩, ⟨zq64⟩, ⟨zq65⟩, ⟨zbfr⟩, ⟨zbfr⟩, ⟨zbfr⟩, ⟨zbfr⟩, ⟨zbfr⟩, ⟨zbzr⟩⟩
          case rest =>
           as_aux_lemma =>
            clear HC59
            try clear c2
            try clear p2
            try clear c3
            try clear p3
            try clear q3
            try clear hx3
            try clear qi3
            try clear c4
            try clear c5
            try clear c6
            try clear c7
            try clear c20
            try clear c28
            try clear c30
            try clear p33
            try clear q33
            try clear hx33
            try clear qi33
            try clear p35
            try clear q35
            try clear hx35
            try clear qi35
            try clear c36
            try clear c36b0
            try clear c36b1
            try clear c37
            try clear c37b0
            try clear c37b1
            try clear c38
            try clear c38b0
            try clear c38b1
            try clear c39
            try clear c39b0
            try clear c39b1
            try clear c40
            try clear c40b0
            try clear c40b1
            try clear c41
            try clear c41b0
            try clear c43
            try clear c43b0
            try clear c43b1
            try clear c46
            try clear c47
            try clear c47b0
            try clear c47b1
            try clear c55
            try clear c55b0
            try clear c55b1
            try clear c56
            try clear c57
            try clear c61
            try clear c62
            try clear c63
            try clear c64
            try clear c70
            try clear c70b0
            try clear c70b1
            try clear c71
            try clear c71b0
            try clear c71b1
            try clear c72
            try clear c72b0
            try clear c72b1
            try clear c73
            try clear c73b0
            try clear c73b1
            try clear hcz29_0 hcz29_1 hcz29_2 hcz29_3 hcz29_4 hcz29_5 hcz29_6
            try clear hcz31_0 hcz31_1
            try clear hcz65_0 hcz65_1 hcz65_2 hcz65_3 hcz65_4 hcz65_5
            try clear hfz29_0 hfz29_1 hfz29_2 hfz29_3 hfz29_4 hfz29_5 hfz29_6
            try clear hfz31_0 hfz31_1
            try clear hfz65_0 hfz65_1 hfz65_2 hfz65_3 hfz65_4 hfz65_5
            try clear hx338_0 hx338_1
            try clear hx339_0 hx339_1
            try clear hx358_0 hx358_1
            try clear p2
            try clear p3
            try clear p33
            try clear p338
            try clear p339
            try clear p358
            try clear q3
            try clear q33
            try clear q338
            try clear q339
            try clear q358
            obtain ⟨kq, x116_58, rfl, HA, HJ58, HO_10, HO_318007, HO_318008, BK317, BK318, BK319, BK329, BK348, HB⟩ := hcut
            cases kq with
            | zero => exact absurd HA.out (by simp [isobathlaw03_GliderKnown.j2])
            | succ kj58 =>
             have H := HA.out
             clear HA
             simp only [isobathlaw03_GliderKnown.j2] at H
             by_cases c76 : x116_58 = true
             ·subst c76
              have H1 : (some false) = some r := by rw [if_pos rfl] at H; exact H
              clear H
              have H := H1
              clear H1
              have hh_ := Option.some.inj H
              rw [hr_.out] at hh_
              cases hh_
             ·replace c76 := Bool.eq_false_iff.mpr c76
              subst c76
              have H1 : ((isobathlaw03_point.f 2000 2000).bind fun bt359 => ((glider_Reach.f t297 t298 t299 t300 t301 t302 t303 t304 t307 t310 t311 t312 t313 t314 t315 t316 bt359.1 bt359.2.1 bt359.2.2.1 bt359.2.2.2 0 1).bind fun bt363 => ((isobathlaw03_point.f 2000 2000).bind fun bt367 => ((glider_Run.f t297 t298 t299 t300 t301 t302 t303 t304 t307 t310 t311 t312 t313 t314 t315 t316 bt367.1 bt367.2.1 bt367.2.2.1 bt367.2.2.2 0 t353).bind fun bt371 => (if bt363.2 = 0 then (if bt371.2.2 = 0 then (if (bt363.1.length : Int) = 1 then (if 0 < (bt363.1.length : Int) then (isobathlaw03_GliderKnown.j3 kj58 bt371.1 ((!(((rd_T31 bt363.1 0).f0.f0) == 1600) || (!(((rd_T31 bt363.1 0).f0.f1) == 2400))) || ((!(((rd_T31 bt363.1 0).f1.f0) == 1700) || (!(((rd_T31 bt363.1 0).f1.f1) == 2300))))) t297 t298 t299 t300 t301 t302 t303 t304 t307) else (none)) else (isobathlaw03_GliderKnown.j3 kj58 bt371.1 true t297 t298 t299 t300 t301 t302 t303 t304 t307)) else (isobathlaw03_GliderKnown.j3 kj58 bt371.1 true t297 t298 t299 t300 t301 t302 t303 t304 t307)) else (isobathlaw03_GliderKnown.j3 kj58 bt371.1 true t297 t298 t299 t300 t301 t302 t303 t304 t307)))))) = some r := by rw [if_neg (show ¬ (false = true) by decide)] at H; exact H
              clear H
              have H := H1
              clear H1
              replace H := Option.bind_eq_some_iff.mp H
              obtain ⟨⟨t359, t360, t361, t362⟩, A770, H⟩ := H
              replace H : ((glider_Reach.f t297 t298 t299 t300 t301 t302 t303 t304 t307 t310 t311 t312 t313 t314 t315 t316 t359 t360 t361 t362 0 1).bind fun bt363 => ((isobathlaw03_point.f 2000 2000).bind fun bt367 => ((glider_Run.f t297 t298 t299 t300 t301 t302 t303 t304 t307 t310 t311 t312 t313 t314 t315 t316 bt367.1 bt367.2.1 bt367.2.2.1 bt367.2.2.2 0 t353).bind fun bt371 => (if bt363.2 = 0 then (if bt371.2.2 = 0 then (if (bt363.1.length : Int) = 1 then (if 0 < (bt363.1.length : Int) then (isobathlaw03_GliderKnown.j3 kj58 bt371.1 ((!(((rd_T31 bt363.1 0).f0.f0) == 1600) || (!(((rd_T31 bt363.1 0).f0.f1) == 2400))) || ((!(((rd_T31 bt363.1 0).f1.f0) == 1700) || (!(((rd_T31 bt363.1 0).f1.f1) == 2300))))) t297 t298 t299 t300 t301 t302 t303 t304 t307) else (none)) else (isobathlaw03_GliderKnown.j3 kj58 bt371.1 true t297 t298 t299 t300 t301 t302 t303 t304 t307)) else (isobathlaw03_GliderKnown.j3 kj58 bt371.1 true t297 t298 t299 t300 t301 t302 t303 t304 t307)) else (isobathlaw03_GliderKnown.j3 kj58 bt371.1 true t297 t298 t299 t300 t301 t302 t303 t304 t307))))) = some r := H
              have A77 := Aside0.mk A770
              clear A770
              replace H := Option.bind_eq_some_iff.mp H
              obtain ⟨⟨t363, t366⟩, A780, H⟩ := H
              replace H : ((isobathlaw03_point.f 2000 2000).bind fun bt367 => ((glider_Run.f t297 t298 t299 t300 t301 t302 t303 t304 t307 t310 t311 t312 t313 t314 t315 t316 bt367.1 bt367.2.1 bt367.2.2.1 bt367.2.2.2 0 t353).bind fun bt371 => (if t366 = 0 then (if bt371.2.2 = 0 then (if (t363.length : Int) = 1 then (if 0 < (t363.length : Int) then (isobathlaw03_GliderKnown.j3 kj58 bt371.1 ((!(((rd_T31 t363 0).f0.f0) == 1600) || (!(((rd_T31 t363 0).f0.f1) == 2400))) || ((!(((rd_T31 t363 0).f1.f0) == 1700) || (!(((rd_T31 t363 0).f1.f1) == 2300))))) t297 t298 t299 t300 t301 t302 t303 t304 t307) else (none)) else (isobathlaw03_GliderKnown.j3 kj58 bt371.1 true t297 t298 t299 t300 t301 t302 t303 t304 t307)) else (isobathlaw03_GliderKnown.j3 kj58 bt371.1 true t297 t298 t299 t300 t301 t302 t303 t304 t307)) else (isobathlaw03_GliderKnown.j3 kj58 bt371.1 true t297 t298 t299 t300 t301 t302 t303 t304 t307)))) = some r := H
              have A78 := Aside0.mk A780
              clear A780
              replace H := Option.bind_eq_some_iff.mp H
              obtain ⟨⟨t367, t368, t369, t370⟩, A790, H⟩ := H
              replace H : ((glider_Run.f t297 t298 t299 t300 t301 t302 t303 t304 t307 t310 t311 t312 t313 t314 t315 t316 t367 t368 t369 t370 0 t353).bind fun bt371 => (if t366 = 0 then (if bt371.2.2 = 0 then (if (t363.length : Int) = 1 then (if 0 < (t363.length : Int) then (isobathlaw03_GliderKnown.j3 kj58 bt371.1 ((!(((rd_T31 t363 0).f0.f0) == 1600) || (!(((rd_T31 t363 0).f0.f1) == 2400))) || ((!(((rd_T31 t363 0).f1.f0) == 1700) || (!(((rd_T31 t363 0).f1.f1) == 2300))))) t297 t298 t299 t300 t301 t302 t303 t304 t307) else (none)) else (isobathlaw03_GliderKnown.j3 kj58 bt371.1 true t297 t298 t299 t300 t301 t302 t303 t304 t307)) else (isobathlaw03_GliderKnown.j3 kj58 bt371.1 true t297 t298 t299 t300 t301 t302 t303 t304 t307)) else (isobathlaw03_GliderKnown.j3 kj58 bt371.1 true t297 t298 t299 t300 t301 t302 t303 t304 t307))) = some r := H
              have A79 := Aside0.mk A790
              clear A790
              replace H := Option.bind_eq_some_iff.mp H
              obtain ⟨⟨t371, t374, t375⟩, A800, H⟩ := H
              replace H : (if t366 = 0 then (if t375 = 0 then (if (t363.length : Int) = 1 then (if 0 < (t363.length : Int) then (isobathlaw03_GliderKnown.j3 kj58 t371 ((!(((rd_T31 t363 0).f0.f0) == 1600) || (!(((rd_T31 t363 0).f0.f1) == 2400))) || ((!(((rd_T31 t363 0).f1.f0) == 1700) || (!(((rd_T31 t363 0).f1.f1) == 2300))))) t297 t298 t299 t300 t301 t302 t303 t304 t307) else (none)) else (isobathlaw03_GliderKnown.j3 kj58 t371 true t297 t298 t299 t300 t301 t302 t303 t304 t307)) else (isobathlaw03_GliderKnown.j3 kj58 t371 true t297 t298 t299 t300 t301 t302 t303 t304 t307)) else (isobathlaw03_GliderKnown.j3 kj58 t371 true t297 t298 t299 t300 t301 t302 t303 t304 t307)) = some r := H
              have A80 := Aside0.mk A800
              clear A800
              have HC81 := Aside0.mk H
              clear H
              try go_wp2
              replace HO_10 := Aside0.mk (Kd.R_drew HO_10.out)
              replace HO_318007 := Aside0.mk (Kd.R_drew HO_318007.out)
              replace HO_318008 := Aside0.mk (Kd.R_drew HO_318008.out)
              replace BK317 := Aside0.mk (blk_drew BK317.out)
              replace BK318 := Aside0.mk (blk_drew BK318.out)
              replace BK319 := Aside0.mk (blk_drew BK319.out)
              replace BK329 := Aside0.mk (blk_drew BK329.out)
              replace BK348 := Aside0.mk (blk_drew BK348.out)
              replace HB := Aside0.mk (below_drew1 HB.out)
              refine start_ (n := 9) (S := fun w' => w'.cell? ⟨gb317, 0, none⟩ = some (.int .i64 t297) ∧ w'.cell? ⟨gb317, 1, none⟩ = some (.int .i64 t298) ∧ w'.cell? ⟨gb317, 2, none⟩ = some (.int .i64 t299) ∧ w'.cell? ⟨gb317, 3, none⟩ = some (.int .i64 t300) ∧ w'.cell? ⟨gb317, 4, none⟩ = some (.int .i64 t301) ∧ w'.cell? ⟨gb317, 5, none⟩ = some (.int .i64 t302) ∧ w'.cell? ⟨gb317, 6, none⟩ = some (.int .i64 t303) ∧ w'.cell? ⟨gb317, 7, none⟩ = some (.slice Ao11 t304.length co11) ∧ w'.cell? ⟨gb317, 8, none⟩ = some (.slice Ao12 t307.length co12) ∧ w'.cell? ⟨gb318, 0, none⟩ = some (.int .i64 t310) ∧ w'.cell? ⟨gb318, 1, none⟩ = some (.int .i64 t311) ∧ w'.cell? ⟨gb318, 2, none⟩ = some (.int .i64 t312) ∧ w'.cell? ⟨gb318, 3, none⟩ = some (.int .i64 t313) ∧ w'.cell? ⟨gb318, 4, none⟩ = some (.int .i64 t314) ∧ w'.cell? ⟨gb318, 5, none⟩ = some (.int .i64 t315) ∧ w'.cell? ⟨gb318, 6, none⟩ = some (.int .i64 t316)) (ds := []) #[false, false, false, false, false, false, false, false, false] zq1 rfl rfl (zca9 BK317.out (zcs7 BK318.out)) (fun hHeld => ?_); refine with_tabW isobathlaw03_GliderKnown.tab14 isobathlaw03_GliderKnown.bits14 (fun HT_ HW_ => ?_)
              generalize wc.drew = w82 at HO_10 HO_318007 HO_318008 BK317 BK318 BK319 BK329 BK348 HB hHeld ⊢
              refine ztz (i := 0) (N := some 118) (take_ofW HT_.out HW_.out zq1) hHeld ?_
              refine ztz (i := 1) (N := some 119) (take_ofW HT_.out HW_.out zq1) hHeld ?_
              refine one_ (i := 2) (N := some 120) #[true, true, true, false, false, false, false, false, false] rfl rfl (one_of HT_.out zq1) (by decide) (fun K hK => ?_)
              refine goes_ Try.func62 zq1 rfl #[.int .i64 2000, .int .i64 2000] (by rfl) rfl rfl zq6 ?_
              with_reducible refine (isobathlaw03_point.calls 2000 2000 t359 t360 t361 t362 _ A77.out).mono ?_
              rintro e w83 ⟨rfl, hb⟩
              refine ⟨_, rfl, ?_⟩
              replace HO_10 := zrbr HO_10 hb
              replace HO_318007 := zrbr HO_318007 hb
              replace HO_318008 := zrbr HO_318008 hb
              replace BK317 := zbbr BK317 hb
              replace BK318 := zbbr BK318 hb
              replace BK319 := zbbr BK319 hb
              replace BK329 := zbbr BK329 hb
              replace BK348 := zbbr BK348 hb
              replace HB := zbsr HB hb
              (try clear hb)
              (try clear hb2)
              (try clear hk)
              (try clear hi)
              refine hK.out _ _ (zca9 BK317.out (zcs7 BK318.out)) (fun hHeld => ?_)
              clear hK K
              refine norm_ (by show Act.put _ (some 120) _ = _; simp only [Act.put, List.setIfInBounds_toArray, List.set_cons_zero, List.set_cons_succ, i64_w, i32_w]; rfl) ?_
              refine one_ (i := 3) (N := some 121) #[true, true, true, true, false, false, false, false, false] rfl rfl (one_of HT_.out zq1) (by decide) (fun K hK => ?_)
              refine goes_ Try.func50 zq1 rfl #[.agg #[.int .i64 t297, .int .i64 t298, .int .i64 t299, .int .i64 t300, .int .i64 t301, .int .i64 t302, .int .i64 t303, .slice Ao11 t304.length co11, .slice Ao12 t307.length co12], .agg #[.int .i64 t310, .int .i64 t311, .int .i64 t312, .int .i64 t313, .int .i64 t314, .int .i64 t315, .int .i64 t316], .agg #[.int .i64 t359, .int .i64 t360, .int .i64 t361, .int .i64 t362], .int .i64 0, .int .i64 1] (by rfl) rfl rfl zq6 ?_
              with_reducible refine (glider_Reach.calls t297 t298 t299 t300 t301 t302 t303 _ _ t304 _ _ t307 t310 t311 t312 t313 t314 t315 t316 t359 t360 t361 t362 0 1 t363 t366 _ ?side1 ?side2 ?side3 ?side4 A78.out).mono ?_
              (case side1 => repeat (first | exact (Kd.R_reads' HO_318007.out).2.2 | (with_reducible refine Kd.C_alloc ?_ _) | (with_reducible refine Kd.C_drewN ?_ _) | (with_reducible refine Kd.C_drew ?_)))
              (case side2 => exact (Kd.R_reads' HO_318007.out).2.1)
              (case side3 => repeat (first | exact (Kd.R_reads' HO_318008.out).2.2 | (with_reducible refine Kd.C_alloc ?_ _) | (with_reducible refine Kd.C_drewN ?_ _) | (with_reducible refine Kd.C_drew ?_)))
              (case side4 => exact (Kd.R_reads' HO_318008.out).2.1)
              rintro e w84 ⟨v364, rfl, ho0, hb⟩
              refine ⟨_, rfl, ?_⟩
              have HO365 := Aside0.mk (Kd.R_lower (Kd.R_newB ho0 (g := gb329) (o := .cells #[.int .i64 t324, .int .i64 t325, .int .i64 t326, .int .i64 t327] 31 (0, 0)) zbfr) (below_size zbzr))
              replace HO_10 := zrbr HO_10 hb
              replace HO_318007 := zrbr HO_318007 hb
              replace HO_318008 := zrbr HO_318008 hb
              replace BK317 := zbbr BK317 hb
              replace BK318 := zbbr BK318 hb
              replace BK319 := zbbr BK319 hb
              replace BK329 := zbbr BK329 hb
              replace BK348 := zbbr BK348 hb
              replace HB := zbsr HB hb
              (try clear hb)
              (try clear hb2)
              (try clear hk)
              (try clear hi)
              (try clear ho0)
              refine hK.out _ _ (zca9 BK317.out (zcs7 BK318.out)) (fun hHeld => ?_)
              clear hK K
              refine norm_ (by show Act.put _ (some 121) _ = _; simp only [Act.put, List.setIfInBounds_toArray, List.set_cons_zero, List.set_cons_succ, i64_w, i32_w]; rfl) ?_
              refine zpz (i := 4) (N := some 117) (any_of HT_.out zq1) ?_
              refine zpz (i := 5) (N := some 122) (any_of HT_.out zq1) ?_
              refine zpz (i := 6) (N := some 123) (any_of HT_.out zq1) ?_
              refine zpz (i := 7) (N := some 12) (any_of HT_.out zq1) ?_
              refine zpz (i := 8) (N := some 8) (any_of HT_.out zq1) ?_
              refine done_ (done_of HT_.out zq1) ?_
              try go_wp2
              replace HO_10 := Aside0.mk (Kd.R_drew HO_10.out)
              replace HO_318007 := Aside0.mk (Kd.R_drew HO_318007.out)
              replace HO_318008 := Aside0.mk (Kd.R_drew HO_318008.out)
              replace HO365 := Aside0.mk (Kd.R_drew HO365.out)
              replace BK317 := Aside0.mk (blk_drew BK317.out)
              replace BK318 := Aside0.mk (blk_drew BK318.out)
              replace BK319 := Aside0.mk (blk_drew BK319.out)
              replace BK329 := Aside0.mk (blk_drew BK329.out)
              replace BK348 := Aside0.mk (blk_drew BK348.out)
              replace HB := Aside0.mk (below_drew1 HB.out)
              refine start_ (n := 12) (S := fun w' => w'.cell? ⟨gb317, 0, none⟩ = some (.int .i64 t297) ∧ w'.cell? ⟨gb317, 1, none⟩ = some (.int .i64 t298) ∧ w'.cell? ⟨gb317, 2, none⟩ = some (.int .i64 t299) ∧ w'.cell? ⟨gb317, 3, none⟩ = some (.int .i64 t300) ∧ w'.cell? ⟨gb317, 4, none⟩ = some (.int .i64 t301) ∧ w'.cell? ⟨gb317, 5, none⟩ = some (.int .i64 t302) ∧ w'.cell? ⟨gb317, 6, none⟩ = some (.int .i64 t303) ∧ w'.cell? ⟨gb317, 7, none⟩ = some (.slice Ao11 t304.length co11) ∧ w'.cell? ⟨gb317, 8, none⟩ = some (.slice Ao12 t307.length co12) ∧ w'.cell? ⟨gb318, 0, none⟩ = some (.int .i64 t310) ∧ w'.cell? ⟨gb318, 1, none⟩ = some (.int .i64 t311) ∧ w'.cell? ⟨gb318, 2, none⟩ = some (.int .i64 t312) ∧ w'.cell? ⟨gb318, 3, none⟩ = some (.int .i64 t313) ∧ w'.cell? ⟨gb318, 4, none⟩ = some (.int .i64 t314) ∧ w'.cell? ⟨gb318, 5, none⟩ = some (.int .i64 t315) ∧ w'.cell? ⟨gb318, 6, none⟩ = some (.int .i64 t316)) (ds := []) #[false, false, false, false, false, false, false, false, false, false, false, false] zq1 rfl rfl (zca9 BK317.out (zcs7 BK318.out)) (fun hHeld => ?_); refine with_tabW isobathlaw03_GliderKnown.tab15 isobathlaw03_GliderKnown.bits15 (fun HT_ HW_ => ?_)
              generalize w84.drew = w85 at HO_10 HO_318007 HO_318008 HO365 BK317 BK318 BK319 BK329 BK348 HB hHeld ⊢
              refine zpz (i := 3) (N := some 128) (any_of HT_.out zq1) ?_
              refine ztz (i := 0) (N := some 125) (take_ofW HT_.out HW_.out zq1) hHeld ?_
              refine ztz (i := 1) (N := some 126) (take_ofW HT_.out HW_.out zq1) hHeld ?_
              refine one_ (i := 2) (N := some 127) #[true, true, true, true, false, false, false, false, false, false, false, false] rfl rfl (one_of HT_.out zq1) (by decide) (fun K hK => ?_)
              refine goes_ Try.func62 zq1 rfl #[.int .i64 2000, .int .i64 2000] (by rfl) rfl rfl zq6 ?_
              with_reducible refine (isobathlaw03_point.calls 2000 2000 t367 t368 t369 t370 _ A79.out).mono ?_
              rintro e w86 ⟨rfl, hb⟩
              refine ⟨_, rfl, ?_⟩
              replace HO_10 := zrbr HO_10 hb
              replace HO_318007 := zrbr HO_318007 hb
              replace HO_318008 := zrbr HO_318008 hb
              replace HO365 := zrbr HO365 hb
              replace BK317 := zbbr BK317 hb
              replace BK318 := zbbr BK318 hb
              replace BK319 := zbbr BK319 hb
              replace BK329 := zbbr BK329 hb
              replace BK348 := zbbr BK348 hb
              replace HB := zbsr HB hb
              (try clear hb)
              (try clear hb2)
              (try clear hk)
              (try clear hi)
              obtain ⟨Ao87, co87, eo87⟩ := Kd.R_slice HO_10.out
              (first | subst eo87 | (injection eo87 with f1_ f2_ f3_; have f4_ := f1_.symm; have f5_ := f3_.symm; clear f1_ f2_ f3_; subst f4_; subst f5_))
              refine hK.out _ _ (zca9 BK317.out (zcs7 BK318.out)) (fun hHeld => ?_)
              clear hK K
              refine norm_ (by show Act.put _ (some 127) _ = _; simp only [Act.put, List.setIfInBounds_toArray, List.set_cons_zero, List.set_cons_succ, i64_w, i32_w]; rfl) ?_
              refine one_ (i := 4) (N := some 129) #[true, true, true, true, true, false, false, false, false, false, false, false] rfl rfl (one_of HT_.out zq1) (by decide) (fun K hK => ?_)
              refine goes_ Try.func30 zq1 rfl #[.agg #[.int .i64 t297, .int .i64 t298, .int .i64 t299, .int .i64 t300, .int .i64 t301, .int .i64 t302, .int .i64 t303, .slice Ao11 t304.length co11, .slice Ao12 t307.length co12], .agg #[.int .i64 t310, .int .i64 t311, .int .i64 t312, .int .i64 t313, .int .i64 t314, .int .i64 t315, .int .i64 t316], .agg #[.int .i64 t367, .int .i64 t368, .int .i64 t369, .int .i64 t370], .int .i64 0, .slice Ao87 t353.length co87] (by rfl) rfl rfl zq6 ?_
              with_reducible refine (glider_Run.calls t297 t298 t299 t300 t301 t302 t303 _ _ t304 _ _ t307 t310 t311 t312 t313 t314 t315 t316 t367 t368 t369 t370 0 _ _ t353 t371 t374 t375 _ ?side1 ?side2 ?side3 ?side4 ?side5 ?side6 A80.out).mono ?_
              (case side1 => repeat (first | exact (Kd.R_reads' HO_318007.out).2.2 | (with_reducible refine Kd.C_alloc ?_ _) | (with_reducible refine Kd.C_drewN ?_ _) | (with_reducible refine Kd.C_drew ?_)))
              (case side2 => exact (Kd.R_reads' HO_318007.out).2.1)
              (case side3 => repeat (first | exact (Kd.R_reads' HO_318008.out).2.2 | (with_reducible refine Kd.C_alloc ?_ _) | (with_reducible refine Kd.C_drewN ?_ _) | (with_reducible refine Kd.C_drew ?_)))
              (case side4 => exact (Kd.R_reads' HO_318008.out).2.1)
              (case side5 => repeat (first | exact (Kd.R_reads' HO_10.out).2.2 | (with_reducible refine Kd.C_alloc ?_ _) | (with_reducible refine Kd.C_drewN ?_ _) | (with_reducible refine Kd.C_drew ?_)))
              (case side6 => exact (Kd.R_reads' HO_10.out).2.1)
              rintro e w88 ⟨v372, rfl, ho0, hb⟩
              refine ⟨_, rfl, ?_⟩
              have n0_ := zrbr HO_10 hb
              have n1_ := zrbr HO_318007 hb
              have n2_ := zrbr HO_318008 hb
              have n3_ := Aside0.mk (Kd.R_elder' (by (with_reducible repeat (first | apply Kd.R_alloc | apply Kd.R_drewN | apply Kd.R_drew)); exact HO365.out) (Kd.R_base ho0) hb)
              have n4_ := Aside0.mk (Kd.R_lower (Kd.R_newB (Kd.R_new' ho0 (Kd.R_lt (by (with_reducible repeat (first | apply Kd.R_alloc | apply Kd.R_drewN | apply Kd.R_drew)); exact HO365.out))) (g := gb329) (o := .cells #[.int .i64 t324, .int .i64 t325, .int .i64 t326, .int .i64 t327] 31 (0, 0)) zbfr) (below_size zbzr))
              have n5_ := zbbr BK317 hb
              have n6_ := zbbr BK318 hb
              have n7_ := zbbr BK319 hb
              have n8_ := zbbr BK329 hb
              have n9_ := zbbr BK348 hb
              have n10_ := zbsr HB hb
              clear HO_10 HO_318007 HO_318008 HO365 BK317 BK318 BK319 BK329 BK348 HB
              have HO_10 := n0_
              have HO_318007 := n1_
              have HO_318008 := n2_
              have HO365 := n3_
              have HO373 := n4_
              have BK317 := n5_
              have BK318 := n6_
              have BK319 := n7_
              have BK329 := n8_
              have BK348 := n9_
              have HB := n10_
              clear n0_ n1_ n2_ n3_ n4_ n5_ n6_ n7_ n8_ n9_ n10_
              (try clear hb)
              (try clear hb2)
              (try clear hk)
              (try clear hi)
              (try clear ho0)
              refine hK.out _ _ (zca9 BK317.out (zcs7 BK318.out)) (fun hHeld => ?_)
              clear hK K
              refine norm_ (by show Act.put _ (some 129) _ = _; simp only [Act.put, List.setIfInBounds_toArray, List.set_cons_zero, List.set_cons_succ, i64_w, i32_w]; rfl) ?_
              refine zpz (i := 5) (N := some 124) (any_of HT_.out zq1) ?_
              refine zpz (i := 6) (N := some 130) (any_of HT_.out zq1) ?_
              refine zpz (i := 7) (N := some 131) (any_of HT_.out zq1) ?_
              refine zpz (i := 8) (N := some 132) (any_of HT_.out zq1) ?_
              refine zpz (i := 9) (N := some 13) (any_of HT_.out zq1) ?_
              refine zpz (i := 10) (N := some 14) (any_of HT_.out zq1) ?_
              refine zpz (i := 11) (N := some 15) (any_of HT_.out zq1) ?_
              refine done_ (done_of HT_.out zq1) ?_
              go_upto_region 16 with (fail)
              go_cut [152] (fun v152 wc => ∃ (kq : Nat) (x152_80 : Bool), v152 = .bool x152_80 ∧ Aside0 (isobathlaw03_GliderKnown.j3 kq t371 x152_80 t297 t298 t299 t300 t301 t302 t303 t304 t307 = some r) ∧ Aside0 (kq ≤ kj58) ∧ Aside0 (Kd.R k31 31 wc w.heap.size (fun k_ => k_ ≠ gb329) v372 t371) ∧ Aside0 (Kd.R Kd.bool 4 wc w.heap.size (fun _ => True) (.slice Ao11 t304.length co11) t304) ∧ Aside0 (Kd.R k40 40 wc w.heap.size (fun _ => True) (.slice Ao12 t307.length co12) t307) ∧ Aside0 (wc.heap[gb317]? = some (.cells #[.int .i64 t297, .int .i64 t298, .int .i64 t299, .int .i64 t300, .int .i64 t301, .int .i64 t302, .int .i64 t303, (.slice Ao11 t304.length co11), (.slice Ao12 t307.length co12)] 25 (0, 0))) ∧ Aside0 (wc.heap[gb318]? = some (.cells #[.int .i64 t310, .int .i64 t311, .int .i64 t312, .int .i64 t313, .int .i64 t314, .int .i64 t315, .int .i64 t316] 29 (0, 0))) ∧ Aside0 (wc.heap[gb319]? = some (.cells #[.int .i64 300, .int .i64 310] 27 (0, 0))) ∧ Aside0 (wc.heap[gb329]? = some (.cells #[.int .i64 t324, .int .i64 t325, .int .i64 t326, .int .i64 t327] 31 (0, 0))) ∧ Aside0 (wc.heap[gb348]? = some (.cells #[.int .i64 2100, .int .i64 2600, .int .i64 1900, .int .i64 2100, .int .i64 0, .int .i64 2000] 81 (0, 0))) ∧ Aside0 (Below w.heap.size w wc))
              case first =>
               as_aux_lemma =>
                have H := HC81.out
                clear HC81
                by_cases c89 : t366 = 0
                ·rw [if_pos c89] at H
                 have c89b0 : (t366 == 0) = true := beq_iff_eq.mpr c89
                 have c89b1 : (t366 != 0) = false := bne_eq_false_iff_eq.mpr c89
                 clear c89
                 (first | rw [c89b0] | (simp only [i64_w, i32_w]; rw [c89b0]) | skip)
                 by_cases c90 : t375 = 0
                 ·rw [if_pos c90] at H
                  have c90b0 : (t375 == 0) = true := beq_iff_eq.mpr c90
                  have c90b1 : (t375 != 0) = false := bne_eq_false_iff_eq.mpr c90
                  clear c90
                  by_cases c91 : (t363.length : Int) = 1
                  ·rw [if_pos c91] at H
                   have c91b0 : ((t363.length : Int) == 1) = true := beq_iff_eq.mpr c91
                   have c91b1 : ((t363.length : Int) != 1) = false := bne_eq_false_iff_eq.mpr c91
                   clear c91
                   by_cases c92 : 0 < (t363.length : Int)
                   ·rw [if_pos c92] at H
                    have c92b0 : decide (0 < (t363.length : Int)) = true := decide_eq_true c92
                    have c92b1 : decide (0 < t363.length) = true := decide_eq_true (by omega)
                    clear c92
                    have H' := Aside0.mk H
                    clear H
                    obtain ⟨Ao93, co93, eo93⟩ := Kd.R_slice HO365.out
                    subst eo93
                    have p376 : 0 ≤ (0 : Int) := (by omega)
                    have q376 : 0 < (t363.length : Int) := of_decide_eq_true zq3
                    obtain ⟨ad376, e376, hx376_0, hx376_1, hx376_2, hx376_3⟩ := at_T31 (Kd.R_reads' HO365.out).2.2 0 p376 q376
                    cases e376
                    have qi376 : (0 < t363.length) = True := eq_true (by omega)
                    (try rw [show ((0 : Int)).toNat = 0 from rfl] at hx376_0)
                    (try rw [show 0 * 4 = 0 from rfl] at hx376_0)
                    (try rw [Addr.add_zero'] at hx376_0)
                    (try rw [show ((0 : Int)).toNat = 0 from rfl] at hx376_1)
                    (try rw [show 0 * 4 = 0 from rfl] at hx376_1)
                    (try rw [Addr.add_zero'] at hx376_1)
                    (try rw [show ((0 : Int)).toNat = 0 from rfl] at hx376_2)
                    (try rw [show 0 * 4 = 0 from rfl] at hx376_2)
                    (try rw [Addr.add_zero'] at hx376_2)
                    (try rw [show ((0 : Int)).toNat = 0 from rfl] at hx376_3)
                    (try rw [show 0 * 4 = 0 from rfl] at hx376_3)
                    (try rw [Addr.add_zero'] at hx376_3)
                    replace p376 := eq_true p376
                    replace q376 := eq_true q376
                    go_wp2
                    go_meet
                    case rel => exact ⟨_, (((!(((rd_T31 t363 0).f0.f0) == 1600) || (!(((rd_T31 t363 0).f0.f1) == 2400))) || ((!(((rd_T31 t363 0).f1.f0) == 1700) || (!(((rd_T31 t363 0).f1.f1) == 2300)))))), zq2, H', ⟨zq68⟩, ⟨zq69⟩, ⟨zq64⟩, ⟨zq65⟩, ⟨zbfr⟩, ⟨zbfr⟩, ⟨zbfr⟩, ⟨zbfr⟩, ⟨zbfr⟩, ⟨zbzr⟩⟩
                   ·rw [if_neg c92] at H
                    exact absurd H (by simp)
                  ·rw [if_neg c91] at H
                   have c91b0 : ((t363.length : Int) == 1) = false := beq_eq_false_iff_ne.mpr c91
                   have c91b1 : ((t363.length : Int) != 1) = true := bne_iff_ne.mpr c91
                   have H' := Aside0.mk H
                   clear H
                   obtain ⟨Ao94, co94, eo94⟩ := Kd.R_slice HO365.out
                   subst eo94
                   go_wp2
                   go_meet
                   case rel => exact ⟨_, (true), zq2, H', ⟨zq68⟩, ⟨zq69⟩, ⟨zq64⟩, ⟨zq65⟩, ⟨zbfr⟩, ⟨zbfr⟩, ⟨zbfr⟩, ⟨zbfr⟩, ⟨zbfr⟩, ⟨zbzr⟩⟩
                 ·rw [if_neg c90] at H
                  have c90b0 : (t375 == 0) = false := beq_eq_false_iff_ne.mpr c90
                  have c90b1 : (t375 != 0) = true := bne_iff_ne.mpr c90
                  have H' := Aside0.mk H
                  clear H
                  go_wp2
                  go_meet
                  case rel => exact ⟨_, (true), zq2, H', ⟨zq68⟩, ⟨zq69⟩, ⟨zq64⟩, ⟨zq65⟩, ⟨zbfr⟩, ⟨zbfr⟩, ⟨zbfr⟩, ⟨zbfr⟩, ⟨zbfr⟩, ⟨zbzr⟩⟩
                ·rw [if_neg c89] at H
                 have c89b0 : (t366 == 0) = false := beq_eq_false_iff_ne.mpr c89
                 have c89b1 : (t366 != 0) = true := bne_iff_ne.mpr c89
                 (first | rw [c89b0] | (simp only [i64_w, i32_w]; rw [c89b0]) | skip)
                 have H' := Aside0.mk H
                 clear H
                 go_wp2
                 go_meet
                 case rel => exact ⟨_, (true), zq2, H', ⟨zq68⟩, ⟨zq69⟩, ⟨zq64⟩, ⟨zq65⟩, ⟨zbfr⟩, ⟨zbfr⟩, ⟨zbfr⟩, ⟨zbfr⟩, ⟨zbfr⟩, ⟨zbzr⟩⟩
              case rest =>
               as_aux_lemma =>
                clear HC81
                try clear p2
                try clear c3
                try clear p3
                try clear q3
                try clear hx3
                try clear qi3
                try clear c4
                try clear c5
                try clear c6
                try clear c7
                try clear c8
                try clear c9
                try clear c30
                try clear p33
                try clear q33
                try clear hx33
                try clear p35
                try clear q35
                try clear hx35
                try clear p37
                try clear q37
                try clear hx37
                try clear qi37
                try clear c47
                try clear c47b1
                try clear c50
                try clear c55
                try clear c55b0
                try clear c55b1
                try clear c56
                try clear c57
                try clear c61
                try clear c62
                try clear c63
                try clear c64
                try clear c70
                try clear c70b0
                try clear c70b1
                try clear c71
                try clear c71b0
                try clear c71b1
                try clear c72
                try clear c72b0
                try clear c72b1
                try clear c73
                try clear c73b0
                try clear c73b1
                try clear c76
                try clear c89
                try clear c89b0
                try clear c89b1
                try clear c90
                try clear c90b0
                try clear c90b1
                try clear c91
                try clear c91b0
                try clear c91b1
                try clear c92
                try clear c92b0
                try clear c92b1
                try clear hcz29_0 hcz29_1 hcz29_2 hcz29_3 hcz29_4 hcz29_5 hcz29_6
                try clear hcz31_0 hcz31_1
                try clear hcz65_0 hcz65_1 hcz65_2 hcz65_3 hcz65_4 hcz65_5
                try clear hfz29_0 hfz29_1 hfz29_2 hfz29_3 hfz29_4 hfz29_5 hfz29_6
                try clear hfz31_0 hfz31_1
                try clear hfz65_0 hfz65_1 hfz65_2 hfz65_3 hfz65_4 hfz65_5
                try clear hx338_0 hx338_1
                try clear hx339_0 hx339_1
                try clear hx358_0 hx358_1
                try clear hx376_0 hx376_1 hx376_2 hx376_3
                try clear p2
                try clear p3
                try clear p33
                try clear p338
                try clear p339
                try clear p358
                try clear p376
                try clear q3
                try clear q33
                try clear q338
                try clear q339
                try clear q358
                try clear q376
                obtain ⟨kq, x152_80, rfl, HA, HJ80, HO_13, HO_318007, HO_318008, BK317, BK318, BK319, BK329, BK348, HB⟩ := hcut
                cases kq with
                | zero => exact absurd HA.out (by simp [isobathlaw03_GliderKnown.j3])
                | succ kj80 =>
                 have H := HA.out
                 clear HA
                 simp only [isobathlaw03_GliderKnown.j3] at H
                 by_cases c95 : x152_80 = true
                 ·subst c95
                  have H1 : (some false) = some r := by rw [if_pos rfl] at H; exact H
                  clear H
                  have H := H1
                  clear H1
                  have hh_ := Option.some.inj H
                  rw [hr_.out] at hh_
                  cases hh_
                 ·replace c95 := Bool.eq_false_iff.mpr c95
                  subst c95
                  have H1 : ((glider_Visited.f kj80 t297 t298 t299 t300 t301 t302 t303 t304 t307 (([t371] : List (List (S31))))).bind fun bt380 => (if bt380.2 = 0 then (isobathlaw03_GliderKnown.j4 kj80 bt380.1 ((bt380.1.length : Int) != 16)) else (isobathlaw03_GliderKnown.j4 kj80 bt380.1 true))) = some r := by rw [if_neg (show ¬ (false = true) by decide)] at H; exact H
                  clear H
                  have H := H1
                  clear H1
                  obtain ⟨y377, hy377⟩ : ∃ y_ : List (List (S31)), y_ = (([t371] : List (List (S31)))) := ⟨_, rfl⟩
                  replace H : ((glider_Visited.f kj80 t297 t298 t299 t300 t301 t302 t303 t304 t307 y377).bind fun bt380 => (if bt380.2 = 0 then (isobathlaw03_GliderKnown.j4 kj80 bt380.1 ((bt380.1.length : Int) != 16)) else (isobathlaw03_GliderKnown.j4 kj80 bt380.1 true))) = some r := by first | (rw [hy377]; with_reducible exact H) | (have H2_ := (Option.bind_some _ _).symm.trans H; rw [hy377]; with_reducible exact H2_) | (have H2_ := (Option.bind_some _ _).symm.trans H; with_reducible exact H2_) | with_reducible exact H | (rw [hy377]; exact H) | exact H
                  have Ny377 := Aside0.mk hy377
                  clear hy377
                  replace H := Option.bind_eq_some_iff.mp H
                  obtain ⟨⟨t380, t383⟩, A960, H⟩ := H
                  replace H : (if t383 = 0 then (isobathlaw03_GliderKnown.j4 kj80 t380 ((t380.length : Int) != 16)) else (isobathlaw03_GliderKnown.j4 kj80 t380 true)) = some r := H
                  have A96 := Aside0.mk A960
                  clear A960
                  have HC97 := Aside0.mk H
                  clear H
                  have hnb98 := NB317_318.out
                  have hnc98 := NB318_317.out
                  have hnb99 := NB317_319.out
                  have hnc99 := NB319_317.out
                  have hnb100 := NB317_329.out
                  have hnc100 := NB329_317.out
                  have hnb101 := NB317_348.out
                  have hnc101 := NB348_317.out
                  obtain ⟨hcz102_0, hcz102_1, hcz102_2, hcz102_3, hcz102_4, hcz102_5, hcz102_6, hcz102_7, hcz102_8, hfz102_0, hfz102_1, hfz102_2, hfz102_3, hfz102_4, hfz102_5, hfz102_6, hfz102_7, hfz102_8⟩ := zce9 BK317.out
                  obtain ⟨Ao103, co103, eo103⟩ := Kd.R_slice HO_13.out
                  subst eo103
                  go_upto_region 19 with (first | ((with_reducible refine gate_dst (N := 156) rfl ?_); (try (refine gate_guard (by rfl) ?_; dsimp only)); refine Kd.N_lit (Kd.slice 31 k31) _ 50 (by rfl) (N' := 156) (by rfl) (xs := ([t371] : List (List (S31)))) (inner := [.slice Ao103 t371.length co103]) (ok := (fun k_ => some k_ ≠ (.slice Ao11 t304.length co11 : Value).ownBlock ∧ some k_ ≠ (.slice Ao12 t307.length co12 : Value).ownBlock ∧ k_ ≠ gb317 ∧ k_ ≠ gb318 ∧ k_ ≠ gb319 ∧ k_ ≠ gb329 ∧ k_ ≠ gb348)) (okp := (fun k_ => some k_ ≠ (.slice Ao11 t304.length co11 : Value).ownBlock ∧ some k_ ≠ (.slice Ao12 t307.length co12 : Value).ownBlock ∧ k_ ≠ gb317 ∧ k_ ≠ gb318 ∧ k_ ≠ gb319 ∧ k_ ≠ gb329 ∧ k_ ≠ gb348)) zq4 (by exact (Reps.one (show Kd.FK (Kd.slice 31 k31) _ _ t371 [.slice Ao103 t371.length co103] from (Kd.FK_slice_mk (Kd.R_reads' (Kd.R_mono (ok' := (fun k_ => some k_ ≠ (.slice Ao11 t304.length co11 : Value).ownBlock ∧ some k_ ≠ (.slice Ao12 t307.length co12 : Value).ownBlock ∧ k_ ≠ gb317 ∧ k_ ≠ gb318 ∧ k_ ≠ gb319 ∧ k_ ≠ gb329 ∧ k_ ≠ gb348)) (Kd.R_types (Kd.R_types (Kd.R_types (Kd.R_types (Kd.R_apart' (Kd.R_apart' (HO_13.out) (Kd.R_typed HO_318007.out) (by decide)) (Kd.R_typed HO_318008.out) (by decide)) BK317.out (by decide)) BK318.out (by decide)) BK319.out (by decide)) BK348.out (by decide)) (fun k_ hk => ⟨hk.1.1.1.1.1.2, ⟨hk.1.1.1.1.2, ⟨hk.1.1.1.2, ⟨hk.1.1.2, ⟨hk.1.2, ⟨hk.1.1.1.1.1.1, hk.2⟩⟩⟩⟩⟩⟩))).2.1 (Kd.R_F (Kd.R_mono (ok' := (fun k_ => some k_ ≠ (.slice Ao11 t304.length co11 : Value).ownBlock ∧ some k_ ≠ (.slice Ao12 t307.length co12 : Value).ownBlock ∧ k_ ≠ gb317 ∧ k_ ≠ gb318 ∧ k_ ≠ gb319 ∧ k_ ≠ gb329 ∧ k_ ≠ gb348)) (Kd.R_types (Kd.R_types (Kd.R_types (Kd.R_types (Kd.R_apart' (Kd.R_apart' (HO_13.out) (Kd.R_typed HO_318007.out) (by decide)) (Kd.R_typed HO_318008.out) (by decide)) BK317.out (by decide)) BK318.out (by decide)) BK319.out (by decide)) BK348.out (by decide)) (fun k_ hk => ⟨hk.1.1.1.1.1.2, ⟨hk.1.1.1.1.2, ⟨hk.1.1.1.2, ⟨hk.1.1.2, ⟨hk.1.2, ⟨hk.1.1.1.1.1.1, hk.2⟩⟩⟩⟩⟩⟩))))) (Reps.none _ _))) (fun _ hk => hk) ((show ∀ k_, wc.heap.size ≤ k_ → (fun k_ => some k_ ≠ (.slice Ao11 t304.length co11 : Value).ownBlock ∧ some k_ ≠ (.slice Ao12 t307.length co12 : Value).ownBlock ∧ k_ ≠ gb317 ∧ k_ ≠ gb318 ∧ k_ ≠ gb319 ∧ k_ ≠ gb329 ∧ k_ ≠ gb348) k_ from fun k_ hk => ⟨Kd.fresh' (Kd.R_lt zq64) k_ hk, Kd.fresh' (Kd.R_lt zq65) k_ hk, Kd.freshB (g := gb317) (o := .cells #[.int .i64 t297, .int .i64 t298, .int .i64 t299, .int .i64 t300, .int .i64 t301, .int .i64 t302, .int .i64 t303, .slice Ao11 t304.length co11, .slice Ao12 t307.length co12] 25 (0, 0)) zbfr k_ hk, Kd.freshB (g := gb318) (o := .cells #[.int .i64 t310, .int .i64 t311, .int .i64 t312, .int .i64 t313, .int .i64 t314, .int .i64 t315, .int .i64 t316] 29 (0, 0)) zbfr k_ hk, Kd.freshB (g := gb319) (o := .cells #[.int .i64 300, .int .i64 310] 27 (0, 0)) zbfr k_ hk, Kd.freshB (g := gb329) (o := .cells #[.int .i64 t324, .int .i64 t325, .int .i64 t326, .int .i64 t327] 31 (0, 0)) zbfr k_ hk, Kd.freshB (g := gb348) (o := .cells #[.int .i64 2100, .int .i64 2600, .int .i64 1900, .int .i64 2100, .int .i64 0, .int .i64 2000] 81 (0, 0)) zbfr k_ hk⟩) _ (Nat.le_refl _)) (Below.refl _ _) (Nat.le_refl _) (by simp) ?_; intro v378 w104 ho105 hb hg_ hnew_; clear hg_ hnew_; (first | rw [← Ny377.out] at ho105 | (simp only [Int.reduceToNat] at ho105; rw [← Ny377.out] at ho105)); have n0_ := zrbr HO_318007 hb; have n1_ := zrbr HO_318008 hb; have n2_ := Aside0.mk (Kd.N_lower ho105 (below_size zbzr)); have n3_ := zbbr BK317 hb; have n4_ := zbbr BK318 hb; have n5_ := zbbr BK319 hb; have n6_ := zbbr BK329 hb; have n7_ := zbbr BK348 hb; have n8_ := zbsr HB hb; clear HO_318007; clear HO_318008; clear BK317; clear BK318; clear BK319; clear BK329; clear BK348; clear HB; clear HO_13; have HO_318007 := n0_; have HO_318008 := n1_; have HO379 := n2_; have BK317 := n3_; have BK318 := n4_; have BK319 := n5_; have BK329 := n6_; have BK348 := n7_; have HB := n8_; clear n0_ n1_ n2_ n3_ n4_ n5_ n6_ n7_ n8_; clear hb ho105; obtain ⟨Ao106, co106, eo106⟩ := Kd.N_slice HO379.out; subst eo106) | ((with_reducible refine gate_callee (f := 40) rfl ?_); refine goesL_ (some 157) rfl rfl Try.func40 zq1 rfl #[.agg #[.int .i64 t297, .int .i64 t298, .int .i64 t299, .int .i64 t300, .int .i64 t301, .int .i64 t302, .int .i64 t303, .slice Ao11 t304.length co11, .slice Ao12 t307.length co12], .slice Ao106 y377.length co106] rfl zq6 ?_; (with_reducible refine (glider_Visited.calls kj80 t297 t298 t299 t300 t301 t302 t303 _ _ t304 _ _ t307 _ _ y377 t380 t383 _ ?side1 ?side2 ?side3 ?side4 ?side5 ?side6 A96.out).mono ?_); (case side1 => repeat (first | exact (Kd.R_reads' HO_318007.out).2.2 | (with_reducible refine Kd.C_alloc ?_ _) | (with_reducible refine Kd.C_drewN ?_ _) | (with_reducible refine Kd.C_drew ?_))); (case side2 => exact (Kd.R_reads' HO_318007.out).2.1); (case side3 => repeat (first | exact (Kd.R_reads' HO_318008.out).2.2 | (with_reducible refine Kd.C_alloc ?_ _) | (with_reducible refine Kd.C_drewN ?_ _) | (with_reducible refine Kd.C_drew ?_))); (case side4 => exact (Kd.R_reads' HO_318008.out).2.1); (case side5 => repeat (first | exact (Kd.N_reads' HO379.out).2.2 | (with_reducible refine Kd.C_alloc ?_ _) | (with_reducible refine Kd.C_drewN ?_ _) | (with_reducible refine Kd.C_drew ?_))); (case side6 => exact (Kd.N_reads' HO379.out).2.1); rintro e w107 ⟨v381, rfl, ho0, hb⟩; refine ⟨_, rfl, ?_⟩; have n0_ := zrbr HO_318007 hb; have n1_ := zrbr HO_318008 hb; have n2_ := Aside0.mk (Kd.N_elder' (by (with_reducible repeat (first | apply Kd.N_alloc | apply Kd.N_drewN | apply Kd.N_drew)); exact HO379.out) (Kd.R_base ho0) hb); have n3_ := Aside0.mk (Kd.R_lower ho0 (below_size zbzr)); have n4_ := zbbr BK317 hb; have n5_ := zbbr BK318 hb; have n6_ := zbbr BK319 hb; have n7_ := zbbr BK329 hb; have n8_ := zbbr BK348 hb; have n9_ := zbsr HB hb; clear HO_318007; clear HO_318008; clear HO379; clear BK317; clear BK318; clear BK319; clear BK329; clear BK348; clear HB; have HO_318007 := n0_; have HO_318008 := n1_; have HO379 := n2_; have HO382 := n3_; have BK317 := n4_; have BK318 := n5_; have BK319 := n6_; have BK329 := n7_; have BK348 := n8_; have HB := n9_; clear n0_ n1_ n2_ n3_ n4_ n5_ n6_ n7_ n8_ n9_; (try clear hb); (try clear hb2); (try clear hk); (try clear hi); (try clear ho0)))
                  (try simp only [Act.put, List.setIfInBounds_toArray, List.set_cons_zero, List.set_cons_succ])
                  go_cut [166] (fun v166 wc => ∃ (kq : Nat) (x166_96 : Bool), v166 = .bool x166_96 ∧ Aside0 (isobathlaw03_GliderKnown.j4 kq t380 x166_96 = some r) ∧ Aside0 (kq ≤ kj80) ∧ Aside0 (Kd.R (Kd.int .i64) 75 wc w.heap.size (fun _ => True) v381 t380) ∧ Aside0 (Kd.R Kd.bool 4 wc w.heap.size (fun _ => True) (.slice Ao11 t304.length co11) t304) ∧ Aside0 (Kd.R k40 40 wc w.heap.size (fun _ => True) (.slice Ao12 t307.length co12) t307) ∧ Aside0 (wc.heap[gb317]? = some (.cells #[.int .i64 t297, .int .i64 t298, .int .i64 t299, .int .i64 t300, .int .i64 t301, .int .i64 t302, .int .i64 t303, (.slice Ao11 t304.length co11), (.slice Ao12 t307.length co12)] 25 (0, 0))) ∧ Aside0 (wc.heap[gb318]? = some (.cells #[.int .i64 t310, .int .i64 t311, .int .i64 t312, .int .i64 t313, .int .i64 t314, .int .i64 t315, .int .i64 t316] 29 (0, 0))) ∧ Aside0 (wc.heap[gb319]? = some (.cells #[.int .i64 300, .int .i64 310] 27 (0, 0))) ∧ Aside0 (wc.heap[gb329]? = some (.cells #[.int .i64 t324, .int .i64 t325, .int .i64 t326, .int .i64 t327] 31 (0, 0))) ∧ Aside0 (wc.heap[gb348]? = some (.cells #[.int .i64 2100, .int .i64 2600, .int .i64 1900, .int .i64 2100, .int .i64 0, .int .i64 2000] 81 (0, 0))) ∧ Aside0 (Below w.heap.size w wc))
                  case first =>
                   as_aux_lemma =>
                    have H := HC97.out
                    clear HC97
                    by_cases c108 : t383 = 0
                    ·rw [if_pos c108] at H
                     have c108b0 : (t383 == 0) = true := beq_iff_eq.mpr c108
                     have c108b1 : (t383 != 0) = false := bne_eq_false_iff_eq.mpr c108
                     clear c108
                     (first | rw [c108b0] | (simp only [i64_w, i32_w]; rw [c108b0]) | skip)
                     have H' := Aside0.mk H
                     clear H
                     obtain ⟨Ao109, co109, eo109⟩ := Kd.R_slice HO382.out
                     subst eo109
                     go_wp2
                     go_meet
                     case rel => exact ⟨_, (((t380.length : Int) != 16)), zq2, H', ⟨by have := HJ4.out; have := HJ48.out; have := HJ58.out; have := HJ80.out; first | omega | exact Nat.le_refl _⟩, ⟨by (with_reducible repeat (first | apply Kd.R_alloc | apply Kd.R_drewN | apply Kd.R_drew)); exact HO382.out⟩, ⟨zq64⟩, ⟨zq65⟩, ⟨zbfr⟩, ⟨zbfr⟩, ⟨zbfr⟩, ⟨zbfr⟩, ⟨zbfr⟩, ⟨zbzr⟩⟩
                    ·rw [if_neg c108] at H
                     have c108b0 : (t383 == 0) = false := beq_eq_false_iff_ne.mpr c108
                     have c108b1 : (t383 != 0) = true := bne_iff_ne.mpr c108
                     (first | rw [c108b0] | (simp only [i64_w, i32_w]; rw [c108b0]) | skip)
                     have H' := Aside0.mk H
                     clear H
                     go_wp2
                     go_meet
                     case rel => exact ⟨_, (true), zq2, H', ⟨by have := HJ4.out; have := HJ48.out; have := HJ58.out; have := HJ80.out; first | omega | exact Nat.le_refl _⟩, ⟨by (with_reducible repeat (first | apply Kd.R_alloc | apply Kd.R_drewN | apply Kd.R_drew)); exact HO382.out⟩, ⟨zq64⟩, ⟨zq65⟩, ⟨zbfr⟩, ⟨zbfr⟩, ⟨zbfr⟩, ⟨zbfr⟩, ⟨zbfr⟩, ⟨zbzr⟩⟩
                  case rest =>
                   as_aux_lemma =>
                    clear HC97
                    try clear c1
                    try clear p2
                    try clear c3
                    try clear p3
                    try clear q3
                    try clear hx3
                    try clear qi3
                    try clear c4
                    try clear c5
                    try clear c6
                    try clear c7
                    try clear c8
                    try clear c9
                    try clear c10
                    try clear c30
                    try clear p33
                    try clear q33
                    try clear hx33
                    try clear p35
                    try clear q35
                    try clear hx35
                    try clear p37
                    try clear q37
                    try clear hx37
                    try clear qi37
                    try clear c40
                    try clear c47
                    try clear c47b1
                    try clear c50
                    try clear c55
                    try clear c55b0
                    try clear c55b1
                    try clear c56
                    try clear c57
                    try clear c61
                    try clear c62
                    try clear c63
                    try clear c64
                    try clear c70
                    try clear c70b0
                    try clear c70b1
                    try clear c71
                    try clear c71b0
                    try clear c71b1
                    try clear c72
                    try clear c72b0
                    try clear c72b1
                    try clear c73
                    try clear c73b0
                    try clear c73b1
                    try clear c76
                    try clear c89
                    try clear c89b0
                    try clear c89b1
                    try clear c90
                    try clear c90b0
                    try clear c90b1
                    try clear c91
                    try clear c91b0
                    try clear c91b1
                    try clear c92
                    try clear c92b0
                    try clear c92b1
                    try clear c95
                    try clear c98
                    try clear c99
                    try clear c100
                    try clear c101
                    try clear c108
                    try clear c108b0
                    try clear c108b1
                    try clear hcz102_0 hcz102_1 hcz102_2 hcz102_3 hcz102_4 hcz102_5 hcz102_6 hcz102_7 hcz102_8
                    try clear hcz29_0 hcz29_1 hcz29_2 hcz29_3 hcz29_4 hcz29_5 hcz29_6
                    try clear hcz31_0 hcz31_1
                    try clear hcz65_0 hcz65_1 hcz65_2 hcz65_3 hcz65_4 hcz65_5
                    try clear hfz102_0 hfz102_1 hfz102_2 hfz102_3 hfz102_4 hfz102_5 hfz102_6 hfz102_7 hfz102_8
                    try clear hfz29_0 hfz29_1 hfz29_2 hfz29_3 hfz29_4 hfz29_5 hfz29_6
                    try clear hfz31_0 hfz31_1
                    try clear hfz65_0 hfz65_1 hfz65_2 hfz65_3 hfz65_4 hfz65_5
                    try clear hx338_0 hx338_1
                    try clear hx339_0 hx339_1
                    try clear hx358_0 hx358_1
                    try clear hx376_0 hx376_1 hx376_2 hx376_3
                    try clear p2
                    try clear p3
                    try clear p33
                    try clear p338
                    try clear p339
                    try clear p35
                    try clear p358
                    try clear p37
                    try clear p376
                    try clear q3
                    try clear q33
                    try clear q338
                    try clear q339
                    try clear q35
                    try clear q358
                    try clear q37
                    try clear q376
                    obtain ⟨kq, x166_96, rfl, HA, HJ96, HO_16, HO_318007, HO_318008, BK317, BK318, BK319, BK329, BK348, HB⟩ := hcut
                    cases kq with
                    | zero => exact absurd HA.out (by simp [isobathlaw03_GliderKnown.j4])
                    | succ kj96 =>
                     have H := HA.out
                     clear HA
                     simp only [isobathlaw03_GliderKnown.j4] at H
                     by_cases c110 : x166_96 = true
                     ·subst c110
                      have H1 : (some false) = some r := by rw [if_pos rfl] at H; exact H
                      clear H
                      have H := H1
                      clear H1
                      have hh_ := Option.some.inj H
                      rw [hr_.out] at hh_
                      cases hh_
                     ·replace c110 := Bool.eq_false_iff.mpr c110
                      subst c110
                      have H1 : (isobathlaw03_GliderKnown.l0 kj96 t380 0) = some r := by rw [if_neg (show ¬ (false = true) by decide)] at H; exact H
                      clear H
                      have H := H1
                      clear H1
                      have H' := Aside0.mk H
                      clear H
                      go_wp2
                      go_loopg [17] kj96 (fun kq v17 w' => ∃ (x17_6 : Int), v17 = .int .i64 x17_6 ∧ Aside0 (isobathlaw03_GliderKnown.l0 kq t380 x17_6 = some r) ∧ Aside0 (kq ≤ kj96) ∧ Aside0 (Kd.R (Kd.int .i64) 75 w' w.heap.size (fun _ => True) v381 t380) ∧ Aside0 (Kd.R Kd.bool 4 w' w.heap.size (fun _ => True) (.slice Ao11 t304.length co11) t304) ∧ Aside0 (Kd.R k40 40 w' w.heap.size (fun _ => True) (.slice Ao12 t307.length co12) t307) ∧ Aside0 (w'.heap[gb317]? = some (.cells #[.int .i64 t297, .int .i64 t298, .int .i64 t299, .int .i64 t300, .int .i64 t301, .int .i64 t302, .int .i64 t303, (.slice Ao11 t304.length co11), (.slice Ao12 t307.length co12)] 25 (0, 0))) ∧ Aside0 (w'.heap[gb318]? = some (.cells #[.int .i64 t310, .int .i64 t311, .int .i64 t312, .int .i64 t313, .int .i64 t314, .int .i64 t315, .int .i64 t316] 29 (0, 0))) ∧ Aside0 (w'.heap[gb319]? = some (.cells #[.int .i64 300, .int .i64 310] 27 (0, 0))) ∧ Aside0 (w'.heap[gb329]? = some (.cells #[.int .i64 t324, .int .i64 t325, .int .i64 t326, .int .i64 t327] 31 (0, 0))) ∧ Aside0 (w'.heap[gb348]? = some (.cells #[.int .i64 2100, .int .i64 2600, .int .i64 1900, .int .i64 2100, .int .i64 0, .int .i64 2000] 81 (0, 0))) ∧ Aside0 (Below w.heap.size w w'))
                      case atStart => exact ⟨(0), zq2, H', ⟨Nat.le_refl _⟩, ⟨zq70⟩, ⟨zq64⟩, ⟨zq65⟩, ⟨zbfr⟩, ⟨zbfr⟩, ⟨zbfr⟩, ⟨zbfr⟩, ⟨zbfr⟩, ⟨zbzr⟩⟩
                      case round =>
                       as_aux_lemma =>
                        clear H'
                        try clear c1
                        try clear p2
                        try clear c3
                        try clear p3
                        try clear q3
                        try clear hx3
                        try clear qi3
                        try clear c4
                        try clear c5
                        try clear c6
                        try clear c7
                        try clear c8
                        try clear c9
                        try clear c10
                        try clear c11
                        try clear c30
                        try clear p33
                        try clear q33
                        try clear hx33
                        try clear p35
                        try clear q35
                        try clear hx35
                        try clear p37
                        try clear q37
                        try clear hx37
                        try clear qi37
                        try clear c40
                        try clear c47
                        try clear c47b1
                        try clear c50
                        try clear c55
                        try clear c55b0
                        try clear c55b1
                        try clear c56
                        try clear c57
                        try clear c61
                        try clear c62
                        try clear c63
                        try clear c64
                        try clear c70
                        try clear c70b0
                        try clear c70b1
                        try clear c71
                        try clear c71b0
                        try clear c71b1
                        try clear c72
                        try clear c72b0
                        try clear c72b1
                        try clear c73
                        try clear c73b0
                        try clear c73b1
                        try clear c76
                        try clear c89
                        try clear c89b0
                        try clear c89b1
                        try clear c90
                        try clear c90b0
                        try clear c90b1
                        try clear c91
                        try clear c91b0
                        try clear c91b1
                        try clear c92
                        try clear c92b0
                        try clear c92b1
                        try clear c95
                        try clear c98
                        try clear c99
                        try clear c100
                        try clear c101
                        try clear c108
                        try clear c108b0
                        try clear c108b1
                        try clear c110
                        try clear hcz102_0 hcz102_1 hcz102_2 hcz102_3 hcz102_4 hcz102_5 hcz102_6 hcz102_7 hcz102_8
                        try clear hcz29_0 hcz29_1 hcz29_2 hcz29_3 hcz29_4 hcz29_5 hcz29_6
                        try clear hcz31_0 hcz31_1
                        try clear hcz65_0 hcz65_1 hcz65_2 hcz65_3 hcz65_4 hcz65_5
                        try clear hfz102_0 hfz102_1 hfz102_2 hfz102_3 hfz102_4 hfz102_5 hfz102_6 hfz102_7 hfz102_8
                        try clear hfz29_0 hfz29_1 hfz29_2 hfz29_3 hfz29_4 hfz29_5 hfz29_6
                        try clear hfz31_0 hfz31_1
                        try clear hfz65_0 hfz65_1 hfz65_2 hfz65_3 hfz65_4 hfz65_5
                        try clear hx338_0 hx338_1
                        try clear hx339_0 hx339_1
                        try clear hx358_0 hx358_1
                        try clear hx376_0 hx376_1 hx376_2 hx376_3
                        try clear p2
                        try clear p3
                        try clear p33
                        try clear p338
                        try clear p339
                        try clear p35
                        try clear p358
                        try clear p37
                        try clear p376
                        try clear q3
                        try clear q33
                        try clear q338
                        try clear q339
                        try clear q35
                        try clear q358
                        try clear q37
                        try clear q376
                        obtain ⟨x17_6, rfl, HA, HK6, HO_16, HO_318007, HO_318008, BK317, BK318, BK319, BK329, BK348, HB⟩ := hrel
                        cases gk with
                        | zero => exact absurd HA.out (by simp [isobathlaw03_GliderKnown.l0])
                        | succ k6 =>
                         have H := HA.out
                         clear HA
                         simp only [isobathlaw03_GliderKnown.l0] at H
                         by_cases c111 : x17_6 < 16
                         ·rw [if_pos c111] at H
                          have c111b0 : decide (x17_6 < 16) = true := decide_eq_true c111
                          clear c111
                          by_cases c112 : 0 ≤ x17_6
                          ·rw [if_pos c112] at H
                           have c112b0 : decide (0 ≤ x17_6) = true := decide_eq_true c112
                           clear c112
                           by_cases c113 : x17_6 < (t380.length : Int)
                           ·rw [if_pos c113] at H
                            have c113b0 : decide (x17_6 < (t380.length : Int)) = true := decide_eq_true c113
                            clear c113
                            by_cases c114 : x17_6 = 6
                            ·rw [if_pos c114] at H
                             have c114b0 : (x17_6 == 6) = true := beq_iff_eq.mpr c114
                             have c114b1 : (x17_6 != 6) = false := bne_eq_false_iff_eq.mpr c114
                             clear c114
                             by_cases c115 : (((rd t380 x17_6) == 2) != true) = true
                             ·rw [if_pos c115] at H
                              have c115b0 : (((rd t380 x17_6) == 2) != true) = true := c115
                              (try (have c115b1 : decide (((rd t380 x17_6) == 2) = true) = false := by simpa using c115))
                              (try (have c115b2 : (((rd t380 x17_6) == 2) == true) = false := by simpa using c115))
                              (try (have c115b3 : ¬ (((rd t380 x17_6) == 2) = true) := by simpa using c115))
                              clear c115
                              have hh_ := Option.some.inj H
                              rw [hr_.out] at hh_
                              cases hh_
                             ·rw [if_neg c115] at H
                              have c115b0 : (((rd t380 x17_6) == 2) != true) = false := by simpa using c115
                              (try (have c115b1 : decide (((rd t380 x17_6) == 2) = true) = true := by simpa using c115))
                              (try (have c115b2 : (((rd t380 x17_6) == 2) == true) = true := by simpa using c115))
                              clear c115
                              by_cases c117 : (rd t380 x17_6) = 1
                              ·rw [if_pos c117] at H
                               have c117b0 : ((rd t380 x17_6) == 1) = true := beq_iff_eq.mpr c117
                               have c117b1 : ((rd t380 x17_6) != 1) = false := bne_eq_false_iff_eq.mpr c117
                               clear c117
                               have hh_ := Option.some.inj H
                               rw [hr_.out] at hh_
                               cases hh_
                              ·rw [if_neg c117] at H
                               have c117b0 : ((rd t380 x17_6) == 1) = false := beq_eq_false_iff_ne.mpr c117
                               have c117b1 : ((rd t380 x17_6) != 1) = true := bne_iff_ne.mpr c117
                               have H' := Aside0.mk H
                               clear H
                               obtain ⟨Ao119, co119, eo119⟩ := Kd.R_slice HO_16.out
                               subst eo119
                               have p384 : 0 ≤ (x17_6 : Int) := of_decide_eq_true zq3
                               have q384 : x17_6 < (t380.length : Int) := of_decide_eq_true zq3
                               obtain ⟨ad384, e384, hx384_0⟩ := Kd.at_int (Kd.R_reads' HO_16.out).2.2 x17_6 p384 q384
                               cases e384
                               replace p384 := eq_true p384
                               replace q384 := eq_true q384
                               have p385 : 0 ≤ (x17_6 : Int) := of_decide_eq_true zq3
                               have q385 : x17_6 < (t380.length : Int) := of_decide_eq_true zq3
                               obtain ⟨ad385, e385, hx385_0⟩ := Kd.at_int (Kd.R_reads' HO_16.out).2.2 x17_6 p385 q385
                               obtain rfl : ad384 = ad385 := (by injection e385)
                               replace p385 := eq_true p385
                               replace q385 := eq_true q385
                               go_wp2
                               go_roundg k6
                               case measure => have := HJ4.out; have := HJ48.out; have := HJ58.out; have := HJ80.out; have := HJ96.out; have := HK6.out; omega
                               case rel => exact ⟨(wrap64 (x17_6 + 1)), zq2, H', ⟨zq71⟩, ⟨zq70⟩, ⟨zq64⟩, ⟨zq65⟩, ⟨zbfr⟩, ⟨zbfr⟩, ⟨zbfr⟩, ⟨zbfr⟩, ⟨zbfr⟩, ⟨zbzr⟩⟩
                            ·rw [if_neg c114] at H
                             have c114b0 : (x17_6 == 6) = false := beq_eq_false_iff_ne.mpr c114
                             have c114b1 : (x17_6 != 6) = true := bne_iff_ne.mpr c114
                             by_cases c120 : (((rd t380 x17_6) == 2) != (x17_6 == 10)) = true
                             ·rw [if_pos c120] at H
                              have c120b0 : (((rd t380 x17_6) == 2) != (x17_6 == 10)) = true := c120
                              (try (have c120b1 : decide (((rd t380 x17_6) == 2) = (x17_6 == 10)) = false := by simpa using c120))
                              (try (have c120b2 : (((rd t380 x17_6) == 2) == (x17_6 == 10)) = false := by simpa using c120))
                              (try (have c120b3 : ¬ (((rd t380 x17_6) == 2) = (x17_6 == 10)) := by simpa using c120))
                              clear c120
                              have hh_ := Option.some.inj H
                              rw [hr_.out] at hh_
                              cases hh_
                             ·rw [if_neg c120] at H
                              have c120b0 : (((rd t380 x17_6) == 2) != (x17_6 == 10)) = false := by simpa using c120
                              (try (have c120b1 : decide (((rd t380 x17_6) == 2) = (x17_6 == 10)) = true := by simpa using c120))
                              (try (have c120b2 : (((rd t380 x17_6) == 2) == (x17_6 == 10)) = true := by simpa using c120))
                              clear c120
                              by_cases c122 : (rd t380 x17_6) = 1
                              ·rw [if_pos c122] at H
                               have c122b0 : ((rd t380 x17_6) == 1) = true := beq_iff_eq.mpr c122
                               have c122b1 : ((rd t380 x17_6) != 1) = false := bne_eq_false_iff_eq.mpr c122
                               clear c122
                               have hh_ := Option.some.inj H
                               rw [hr_.out] at hh_
                               cases hh_
                              ·rw [if_neg c122] at H
                               have c122b0 : ((rd t380 x17_6) == 1) = false := beq_eq_false_iff_ne.mpr c122
                               have c122b1 : ((rd t380 x17_6) != 1) = true := bne_iff_ne.mpr c122
                               have H' := Aside0.mk H
                               clear H
                               obtain ⟨Ao124, co124, eo124⟩ := Kd.R_slice HO_16.out
                               subst eo124
                               have p384 : 0 ≤ (x17_6 : Int) := of_decide_eq_true zq3
                               have q384 : x17_6 < (t380.length : Int) := of_decide_eq_true zq3
                               obtain ⟨ad384, e384, hx384_0⟩ := Kd.at_int (Kd.R_reads' HO_16.out).2.2 x17_6 p384 q384
                               cases e384
                               replace p384 := eq_true p384
                               replace q384 := eq_true q384
                               have p386 : 0 ≤ (x17_6 : Int) := of_decide_eq_true zq3
                               have q386 : x17_6 < (t380.length : Int) := of_decide_eq_true zq3
                               obtain ⟨ad386, e386, hx386_0⟩ := Kd.at_int (Kd.R_reads' HO_16.out).2.2 x17_6 p386 q386
                               obtain rfl : ad384 = ad386 := (by injection e386)
                               replace p386 := eq_true p386
                               replace q386 := eq_true q386
                               go_wp2
                               go_roundg k6
                               case measure => have := HJ4.out; have := HJ48.out; have := HJ58.out; have := HJ80.out; have := HJ96.out; have := HK6.out; omega
                               case rel => exact ⟨(wrap64 (x17_6 + 1)), zq2, H', ⟨zq71⟩, ⟨zq70⟩, ⟨zq64⟩, ⟨zq65⟩, ⟨zbfr⟩, ⟨zbfr⟩, ⟨zbfr⟩, ⟨zbfr⟩, ⟨zbfr⟩, ⟨zbzr⟩⟩
                           ·rw [if_neg c113] at H
                            exact absurd H (by simp)
                          ·rw [if_neg c112] at H
                           exact absurd H (by simp)
                         ·rw [if_neg c111] at H
                          have c111b0 : decide (x17_6 < 16) = false := decide_eq_false c111
                          clear c111
                          replace H := Option.bind_eq_some_iff.mp H
                          obtain ⟨t387, A1250, H⟩ := H
                          replace H : (some t387) = some r := H
                          have A125 := Aside0.mk A1250
                          clear A1250
                          obtain rfl := Option.some.inj H
                          go_wp2_with (first | ((with_reducible refine gate_callee (f := 19) rfl ?_); refine goesL_ (some 190) rfl rfl Try.func19 zq1 rfl #[] rfl zq6 ?_; (with_reducible refine (isobathlaw03_Works.calls k6  t387 _ A125.out).mono ?_); rintro e w126 ⟨rfl, hb⟩; refine ⟨_, rfl, ?_⟩; replace HO_16 := zrbr HO_16 hb; replace HO_318007 := zrbr HO_318007 hb; replace HO_318008 := zrbr HO_318008 hb; replace BK317 := zbbr BK317 hb; replace BK318 := zbbr BK318 hb; replace BK319 := zbbr BK319 hb; replace BK329 := zbbr BK329 hb; replace BK348 := zbbr BK348 hb; replace HB := zbsr HB hb; (try clear hb); (try clear hb2); (try clear hk); (try clear hi)))
                          go_ret
                          exact ⟨zq5, zbzr⟩
     ·rw [if_neg c47] at H
      exact absurd H (by simp)

/-- THE ONE PURE STATEMENT of isobathlaw03_GliderKnown: yours. -/
def isobathlaw03_GliderKnown.Pure : Prop := ∃ k, isobathlaw03_GliderKnown.f k  = some true
theorem isobathlaw03_GliderKnown.walk (P : isobathlaw03_GliderKnown.Pure)  (w : World)  :
  Calls Try.prog 16 #[] w fun e w' => e = .returned (.bool true) ∧ Below w.heap.size w w' := by
 obtain ⟨k, h⟩ := P  
 refine (isobathlaw03_GliderKnown.calls k  true w h).mono ?_
 rintro e w' ⟨rfl, hd⟩
 exact ⟨rfl, hd⟩

end Go.Proofs.Ytmhaiihjfgfaoaa.Pr
end
