/- Part 5 of the proof of GliderKnown: what the functions compute. No condition. -/
import Derived.RangeFuncCalls
import Derived.RangeFuncNested
import Derived.OrdersIn
import Derived.RangeFuncBound
import Derived.RangeFuncLeaves
import Derived.Shelf.Abstract
import Derived.Shelf.RegionOpen
import Derived.WalkKit
import Derived.OwnWalkIn
import Derived.TacticsInMore
import Derived.LoopNIn
import Derived.LoopIn
import Derived.Lib.Hide
import Derived.Deep.QuietTactic
import Derived.BigQuiet
import Derived.StillTailTactics
import Derived.Test.YtmhaiihjfgfaoaaGkGliderKnown3
set_option linter.unusedVariables false
set_option linter.unusedSimpArgs false
section
namespace Go.Proofs.Ytmhaiihjfgfaoaa.Pr
open Go.RowKit Go.Proofs.YtmhaiihjfgfaoaaW.PrintWords Go.Proofs.YtmhaiihjfgfaoaaW.PrintLast Go.Proofs.YtmhaiihjfgfaoaaW.PrintMore
attribute [local go_sem] max2_int min2_int max_two min_two max_four
set_option linter.unusedVariables false
set_option linter.unusedSimpArgs false

/-! ### isobathlaw03_Example: function 61 -/
def isobathlaw03_Example.l0 : Nat → Int → Int → Int → Int → Int → Int → Int → Int → List Bool → List (S40) → Option (Int × Int × Int × Int × Int × Int × Int × List Bool × (List (S40)) × Int × Int × Int × Int × Int × Int × Int)
 | 0, _, _, _, _, _, _, _, _, _, _ => none
 | k + 1, x3, x255000, x255001, x255002, x255003, x255004, x255005, x255006, x255007, x255008 => if x3 < 16 then (if x255008.length < 4398046511104 then (isobathlaw03_Example.l0 k (wrap64 (x3 + 1)) x255000 x255001 x255002 x255003 x255004 x255005 x255006 x255007 (x255008 ++ [(⟨(⟨(-100), 100⟩ : S27), (⟨0, 0⟩ : S27)⟩ : S40)])) else (none)) else (some (x255000, x255001, x255002, x255003, x255004, x255005, x255006, x255007, x255008, 300, 1000, 50, 60, 5, 6, 100))
def isobathlaw03_Example.f (k : Nat)  : Option (Int × Int × Int × Int × Int × Int × Int × List Bool × (List (S40)) × Int × Int × Int × Int × Int × Int × Int) := if 16 ≤ 281474976710656 then (isobathlaw03_Example.l0 k 0 4 4 1000 10000 1 1 200 (List.replicate 16 false) ([] : List (S40))) else (none)
theorem isobathlaw03_Example.mono_l : ∀ k, (∀ y0 y1 y2 y3 y4 y5 y6 y7 y8 y9, LeO (isobathlaw03_Example.l0 k y0 y1 y2 y3 y4 y5 y6 y7 y8 y9) (isobathlaw03_Example.l0 (k + 1) y0 y1 y2 y3 y4 y5 y6 y7 y8 y9))
 | 0 => fun _ _ _ _ _ _ _ _ _ _ r h => by simp [isobathlaw03_Example.l0] at h
 | k + 1 => by
  have ih0 := isobathlaw03_Example.mono_l k
  ·intro y0 y1 y2 y3 y4 y5 y6 y7 y8 y9
   unfold isobathlaw03_Example.l0
   repeat' first
   | (with_reducible exact ih0 _ _ _ _ _ _ _ _ _ _)
   | (with_reducible exact LeO.refl _)
   | (with_reducible exact LeO.none _)
   | (with_reducible refine LeO.ite ?_ ?_)
   | (with_reducible refine LeO.bind ?_ (fun _ => ?_))
   | exact ih0 _ _ _ _ _ _ _ _ _ _
   | exact LeO.none _
   | refine LeO.ite ?_ ?_
   | refine LeO.bind ?_ (fun _ => ?_)
theorem isobathlaw03_Example.mono : ∀ k, LeO (isobathlaw03_Example.f k ) (isobathlaw03_Example.f (k + 1) ) := by
 intro  k
 have ih0 := isobathlaw03_Example.mono_l k
 unfold isobathlaw03_Example.f
 repeat' first
   | (with_reducible exact ih0 _ _ _ _ _ _ _ _ _ _)
   | (with_reducible exact LeO.refl _)
   | (with_reducible exact LeO.none _)
   | (with_reducible refine LeO.ite ?_ ?_)
   | (with_reducible refine LeO.bind ?_ (fun _ => ?_))
   | exact ih0 _ _ _ _ _ _ _ _ _ _
   | exact LeO.none _
   | refine LeO.ite ?_ ?_
   | refine LeO.bind ?_ (fun _ => ?_)
set_option maxHeartbeats 8000000 in
set_option maxRecDepth 100000 in
theorem isobathlaw03_Example.calls (k : Nat)  (r1 : Int) (r2 : Int) (r3 : Int) (r4 : Int) (r5 : Int) (r6 : Int) (r7 : Int) (r8 : List Bool) (r9 : List (S40)) (r10 : Int) (r11 : Int) (r12 : Int) (r13 : Int) (r14 : Int) (r15 : Int) (r16 : Int) (w : World) (h : isobathlaw03_Example.f k  = some (r1, r2, r3, r4, r5, r6, r7, r8, r9, r10, r11, r12, r13, r14, r15, r16)) :
  Calls Try.prog 61 #[] w fun e w' => ∃ v7_ v8_ : Value, e = .returned (.tuple #[.agg #[.int .i64 r1, .int .i64 r2, .int .i64 r3, .int .i64 r4, .int .i64 r5, .int .i64 r6, .int .i64 r7, v7_, v8_], .agg #[.int .i64 r10, .int .i64 r11, .int .i64 r12, .int .i64 r13, .int .i64 r14, .int .i64 r15, .int .i64 r16]]) ∧ Kd.R Kd.bool 4 w' w.heap.size (fun _ => True) v7_ r8 ∧ Kd.R k40 40 w' w.heap.size (fun _ => True) v8_ r9 ∧ Below w.heap.size w w' := by
 have hu25 := Try.underlying25
 have hu29 := Try.underlying29
 have hu27 := Try.underlying27
 have hu40 := Try.underlying40
 have HB := Aside0.mk (Below.refl w.heap.size w)
 have H : (if 16 ≤ 281474976710656 then (isobathlaw03_Example.l0 k 0 4 4 1000 10000 1 1 200 (List.replicate 16 false) ([] : List (S40))) else (none)) = some (r1, r2, r3, r4, r5, r6, r7, r8, r9, r10, r11, r12, r13, r14, r15, r16) := h
 clear h
 by_cases c1 : 16 ≤ 281474976710656
 ·rw [if_pos c1] at H
  have c1b0 := eq_true c1
  have c1b1 : decide (16 ≤ 281474976710656) = true := decide_eq_true c1
  clear c1
  obtain ⟨y251, hy251⟩ : ∃ y_ : List Bool, y_ = (List.replicate 16 false) := ⟨_, rfl⟩
  replace H : (isobathlaw03_Example.l0 k 0 4 4 1000 10000 1 1 200 y251 ([] : List (S40))) = some (r1, r2, r3, r4, r5, r6, r7, r8, r9, r10, r11, r12, r13, r14, r15, r16) := by first | (rw [hy251]; with_reducible exact H) | (have H2_ := (Option.bind_some _ _).symm.trans H; rw [hy251]; with_reducible exact H2_) | (have H2_ := (Option.bind_some _ _).symm.trans H; with_reducible exact H2_) | with_reducible exact H | (rw [hy251]; exact H) | exact H
  have Ny251 := Aside0.mk hy251
  clear hy251
  have H' := Aside0.mk H
  clear H
  go_enter Try.func61, Try.ntmps61
  go_wp2_with (first | ((with_reducible refine gate_dst (N := 0) rfl ?_); refine box_event (by rfl) (N := 0) (by rfl) (cs := #[.int .i64 0, .int .i64 0, .int .i64 0, .int .i64 0, .int .i64 0, .int .i64 0, .int .i64 0, .slice none 0 0, .slice none 0 0]) (t := 25) zq4 ?_; intro gb249 hg w2 hbox hb; have BK249 := Aside0.mk (hbox); have GW249 := zgs HB hg; have GE249 := zgs HB hg; replace HB := zbs HB hb; clear hb hbox hg) | ((with_reducible refine gate_dst (N := 1) rfl ?_); refine box_event (by rfl) (N := 1) (by rfl) (cs := #[.int .i64 0, .int .i64 0, .int .i64 0, .int .i64 0, .int .i64 0, .int .i64 0, .int .i64 0]) (t := 29) zq4 ?_; intro gb250 hg w3 hbox hb; have BK250 := Aside0.mk (hbox); have GW250 := zgs HB hg; have GE250 := zgs HB hg; have NB249_250 := znp BK249 hg; have NB250_249 := znq BK249 hg; replace BK249 := zbb BK249 hb; replace HB := zbs HB hb; clear hb hbox hg) | ((with_reducible refine gate_dst (N := 4) rfl ?_); refine Kd.R_make Kd.bool _ 4 rfl (N := 4) rfl 22 _ _ rfl 16 rfl rfl Try.underlying22 (.bool false) 1 info4 rfl (by decide) (by omega) false (ok := fun _ => True) (okp := fun _ => True) rfl (fun _ hk => hk) trivial (by omega) (by omega) (Below.refl _ _) (Nat.le_refl _) ?_; intro v252 w4 ho5 hb hg_ hnew_; clear hg_ hnew_; (first | rw [← Ny251.out] at ho5 | (simp only [Int.reduceToNat] at ho5; rw [← Ny251.out] at ho5)); have HO253 := Aside0.mk (Kd.R_lower ho5 (below_size zbz)); replace BK249 := zbb BK249 hb; replace BK250 := zbb BK250 hb; replace HB := zbs HB hb; clear hb ho5; obtain ⟨Ao6, co6, eo6⟩ := Kd.R_slice HO253.out; subst eo6) | ((with_reducible refine gate_dst (N := 2) rfl ?_); refine box_event (by rfl) (N := 2) (by rfl) (cs := #[.int .i64 0, .int .i64 0, .int .i64 0, .int .i64 0, .int .i64 0, .int .i64 0, .int .i64 0, .slice none 0 0, .slice none 0 0]) (t := 25) zq4 ?_; intro gb254 hg w7 hbox hb; have BK254 := Aside0.mk (hbox); have GW254 := zgs HB hg; have GE254 := zgs HB hg; have NB249_254 := znp BK249 hg; have NB254_249 := znq BK249 hg; have NB250_254 := znp BK250 hg; have NB254_250 := znq BK250 hg; replace HO253 := zrb HO253 hb; replace BK249 := zbb BK249 hb; replace BK250 := zbb BK250 hb; replace HB := zbs HB hb; clear hb hbox hg; have hnb8 := NB254_249.out; have hnc8 := NB249_254.out; have hnb9 := NB254_250.out; have hnc9 := NB250_254.out; obtain ⟨hcz10_0, hcz10_1, hcz10_2, hcz10_3, hcz10_4, hcz10_5, hcz10_6, hcz10_7, hcz10_8, hfz10_0, hfz10_1, hfz10_2, hfz10_3, hfz10_4, hfz10_5, hfz10_6, hfz10_7, hfz10_8⟩ := zce9 BK254.out))
  go_loopg [3] k (fun kq v3 w' => ∃ (x3_1 : Int) (x255008_1 : List (S40)) (u255008 : Value), v3 = .int .i64 x3_1 ∧ Aside0 (isobathlaw03_Example.l0 kq x3_1 4 4 1000 10000 1 1 200 y251 x255008_1 = some (r1, r2, r3, r4, r5, r6, r7, r8, r9, r10, r11, r12, r13, r14, r15, r16)) ∧ Aside0 (kq ≤ k) ∧ Aside0 (Kd.R Kd.bool 4 w' w.heap.size (fun _ => True) (.slice Ao6 y251.length co6) y251) ∧ Aside0 (Kd.R k40 40 w' w.heap.size (fun _ => True) u255008 x255008_1) ∧ Aside0 (w'.heap[gb249]? = some (.cells #[.int .i64 0, .int .i64 0, .int .i64 0, .int .i64 0, .int .i64 0, .int .i64 0, .int .i64 0, (.slice none 0 0), (.slice none 0 0)] 25 (0, 0))) ∧ Aside0 (w'.heap[gb250]? = some (.cells #[.int .i64 0, .int .i64 0, .int .i64 0, .int .i64 0, .int .i64 0, .int .i64 0, .int .i64 0] 29 (0, 0))) ∧ Aside0 (w'.heap[gb254]? = some (.cells #[.int .i64 4, .int .i64 4, .int .i64 1000, .int .i64 10000, .int .i64 1, .int .i64 1, .int .i64 200, (.slice Ao6 y251.length co6), u255008] 25 (0, 0))) ∧ Aside0 (Below w.heap.size w w'))
  case atStart => exact ⟨(0), (([] : List (S40))), (.slice none 0 0), zq2, H', ⟨Nat.le_refl _⟩, ⟨by (with_reducible repeat (first | apply Kd.R_alloc | apply Kd.R_drewN | apply Kd.R_drew)); exact Kd.R_mono (Kd.R_far (p := ⟨gb254, 8, none⟩) (Kd.R_far (p := ⟨gb254, 7, none⟩) (Kd.R_far (p := ⟨gb254, 6, none⟩) (Kd.R_far (p := ⟨gb254, 5, none⟩) (Kd.R_far (p := ⟨gb254, 4, none⟩) (Kd.R_far (p := ⟨gb254, 3, none⟩) (Kd.R_far (p := ⟨gb254, 2, none⟩) (Kd.R_far (p := ⟨gb254, 1, none⟩) (Kd.R_far (p := ⟨gb254, 0, none⟩) (Kd.R_types HO253.out BK254.out (by decide)) (fun _ hk => hk.2) (.int .i64 4)) (fun _ hk => hk.2) (.int .i64 4)) (fun _ hk => hk.2) (.int .i64 1000)) (fun _ hk => hk.2) (.int .i64 10000)) (fun _ hk => hk.2) (.int .i64 1)) (fun _ hk => hk.2) (.int .i64 1)) (fun _ hk => hk.2) (.int .i64 200)) (fun _ hk => hk.2) (.slice Ao6 y251.length co6)) (fun _ hk => hk.2) (.slice none 0 0)) (fun _ hk => trivial)⟩, ⟨zq8⟩, ⟨zbf⟩, ⟨zbf⟩, ⟨by (with_reducible repeat (first | refine blk_drewN ?_ _ | refine blk_drew ?_ | refine blk_alloc ?_ _)); refine blk_put (cs := #[.int .i64 4, .int .i64 4, .int .i64 1000, .int .i64 10000, .int .i64 1, .int .i64 1, .int .i64 200, .slice Ao6 y251.length co6, .slice none 0 0]) ?_ 8 _ rfl; (with_reducible repeat (first | refine blk_drewN ?_ _ | refine blk_drew ?_ | refine blk_alloc ?_ _)); refine blk_put (cs := #[.int .i64 4, .int .i64 4, .int .i64 1000, .int .i64 10000, .int .i64 1, .int .i64 1, .int .i64 200, .slice none 0 0, .slice none 0 0]) ?_ 7 _ rfl; (with_reducible repeat (first | refine blk_drewN ?_ _ | refine blk_drew ?_ | refine blk_alloc ?_ _)); refine blk_put (cs := #[.int .i64 4, .int .i64 4, .int .i64 1000, .int .i64 10000, .int .i64 1, .int .i64 1, .int .i64 0, .slice none 0 0, .slice none 0 0]) ?_ 6 _ rfl; (with_reducible repeat (first | refine blk_drewN ?_ _ | refine blk_drew ?_ | refine blk_alloc ?_ _)); refine blk_put (cs := #[.int .i64 4, .int .i64 4, .int .i64 1000, .int .i64 10000, .int .i64 1, .int .i64 0, .int .i64 0, .slice none 0 0, .slice none 0 0]) ?_ 5 _ rfl; (with_reducible repeat (first | refine blk_drewN ?_ _ | refine blk_drew ?_ | refine blk_alloc ?_ _)); refine blk_put (cs := #[.int .i64 4, .int .i64 4, .int .i64 1000, .int .i64 10000, .int .i64 0, .int .i64 0, .int .i64 0, .slice none 0 0, .slice none 0 0]) ?_ 4 _ rfl; (with_reducible repeat (first | refine blk_drewN ?_ _ | refine blk_drew ?_ | refine blk_alloc ?_ _)); refine blk_put (cs := #[.int .i64 4, .int .i64 4, .int .i64 1000, .int .i64 0, .int .i64 0, .int .i64 0, .int .i64 0, .slice none 0 0, .slice none 0 0]) ?_ 3 _ rfl; (with_reducible repeat (first | refine blk_drewN ?_ _ | refine blk_drew ?_ | refine blk_alloc ?_ _)); refine blk_put (cs := #[.int .i64 4, .int .i64 4, .int .i64 0, .int .i64 0, .int .i64 0, .int .i64 0, .int .i64 0, .slice none 0 0, .slice none 0 0]) ?_ 2 _ rfl; (with_reducible repeat (first | refine blk_drewN ?_ _ | refine blk_drew ?_ | refine blk_alloc ?_ _)); refine blk_put (cs := #[.int .i64 4, .int .i64 0, .int .i64 0, .int .i64 0, .int .i64 0, .int .i64 0, .int .i64 0, .slice none 0 0, .slice none 0 0]) ?_ 1 _ rfl; (with_reducible repeat (first | refine blk_drewN ?_ _ | refine blk_drew ?_ | refine blk_alloc ?_ _)); refine blk_put (cs := #[.int .i64 0, .int .i64 0, .int .i64 0, .int .i64 0, .int .i64 0, .int .i64 0, .int .i64 0, .slice none 0 0, .slice none 0 0]) ?_ 0 _ rfl; (with_reducible repeat (first | refine blk_drewN ?_ _ | refine blk_drew ?_ | refine blk_alloc ?_ _)); exact BK254.out⟩, ⟨zbz⟩⟩
  case round =>
   clear H'
   try clear c1
   try clear c1b0
   try clear c1b1
   try clear p2
   try clear c6
   try clear c8
   try clear c9
   try clear hcz10_0 hcz10_1 hcz10_2 hcz10_3 hcz10_4 hcz10_5 hcz10_6 hcz10_7 hcz10_8 hfz10_0 hfz10_1 hfz10_2 hfz10_3 hfz10_4 hfz10_5 hfz10_6 hfz10_7 hfz10_8
   obtain ⟨x3_1, x255008_1, u255008, rfl, HA, HK1, HO_255007, HO_255008, BK249, BK250, BK254, HB⟩ := hrel
   cases gk with
   | zero => exact absurd HA.out (by simp [isobathlaw03_Example.l0])
   | succ k1 =>
    have H := HA.out
    clear HA
    simp only [isobathlaw03_Example.l0] at H
    by_cases c11 : x3_1 < 16
    ·rw [if_pos c11] at H
     have c11b0 : decide (x3_1 < 16) = true := decide_eq_true c11
     clear c11
     by_cases c12 : x255008_1.length < 4398046511104
     ·rw [if_pos c12] at H
      have LMc12 := Aside0.mk c12
      clear c12
      obtain ⟨y255, hy255⟩ : ∃ y_ : List (S40), y_ = (x255008_1 ++ [(⟨(⟨(-100), 100⟩ : S27), (⟨0, 0⟩ : S27)⟩ : S40)]) := ⟨_, rfl⟩
      replace H : (isobathlaw03_Example.l0 k1 (wrap64 (x3_1 + 1)) 4 4 1000 10000 1 1 200 y251 y255) = some (r1, r2, r3, r4, r5, r6, r7, r8, r9, r10, r11, r12, r13, r14, r15, r16) := by first | (rw [hy255]; with_reducible exact H) | (have H2_ := (Option.bind_some _ _).symm.trans H; rw [hy255]; with_reducible exact H2_) | (have H2_ := (Option.bind_some _ _).symm.trans H; with_reducible exact H2_) | with_reducible exact H | (rw [hy255]; exact H) | exact H
      have Ny255 := Aside0.mk hy255
      clear hy255
      have H' := Aside0.mk H
      clear H
      have hnb13 := NB254_249.out
      have hnc13 := NB249_254.out
      have hnb14 := NB254_250.out
      have hnc14 := NB250_254.out
      obtain ⟨hcz15_0, hcz15_1, hcz15_2, hcz15_3, hcz15_4, hcz15_5, hcz15_6, hcz15_7, hcz15_8, hfz15_0, hfz15_1, hfz15_2, hfz15_3, hfz15_4, hfz15_5, hfz15_6, hfz15_7, hfz15_8⟩ := zce9 BK254.out
      go_wp2_with (first | ((with_reducible refine gate_builtin (b := .append) (xs := #[.tmp 11, .tmp 14]) rfl ?_); at_builtin; refine Kd.R_append k40 (w0 := w) w.heap.size rfl (.tmp 11) (.tmp 14) 23 40 (.agg #[(.int .i64 0), (.int .i64 0), (.int .i64 0), (.int .i64 0)]) 32 rfl Try.underlying23 info40 rfl (by decide) (by omega) u255008 x255008_1 (⟨(⟨(-100), 100⟩ : S27), (⟨0, 0⟩ : S27)⟩ : S40) [.int .i64 (-100), .int .i64 100, .int .i64 0, .int .i64 0] (fun _ => True) (fun _ => False) rfl rfl ?aP (fun _ hk => hk.elim) ?aF ?aO ?aB ?aS ?aL ?_; (case aP => exact k40_mkM _ _ _ (⟨(⟨(-100), 100⟩ : S27), (⟨0, 0⟩ : S27)⟩ : S40)); (case aB => exact zbz); (case aF => exact (fun _ _ => trivial)); (case aO => exact zq9); (case aS => exact (below_size zbz)); (case aL => have := LMc12.out; omega); intro v256 w16 ho hb hg hat; rw [← Ny255.out] at ho; have n0_ := Aside0.mk (Kd.R_over' (by (with_reducible repeat (first | apply Kd.R_alloc | apply Kd.R_drewN | apply Kd.R_drew)); exact HO_255007.out) (Kd.R_typed zq9) (by decide) hg); have n1_ := Aside0.mk (blk_grown (g := gb249) (o := .cells #[.int .i64 0, .int .i64 0, .int .i64 0, .int .i64 0, .int .i64 0, .int .i64 0, .int .i64 0, .slice none 0 0, .slice none 0 0] 25 (0, 0)) zbf hg (Kd.R_ne HO_255008.out BK249.out (by decide))); have n2_ := Aside0.mk (blk_grown (g := gb250) (o := .cells #[.int .i64 0, .int .i64 0, .int .i64 0, .int .i64 0, .int .i64 0, .int .i64 0, .int .i64 0] 29 (0, 0)) zbf hg (Kd.R_ne HO_255008.out BK250.out (by decide))); have n3_ := Aside0.mk (blk_grown (g := gb254) (o := .cells #[.int .i64 4, .int .i64 4, .int .i64 1000, .int .i64 10000, .int .i64 1, .int .i64 1, .int .i64 200, .slice Ao6 y251.length co6, u255008] 25 (0, 0)) zbf hg (Kd.R_ne HO_255008.out BK254.out (by decide))); have n4_ := Aside0.mk (hb); have n5_ := Aside0.mk (ho); clear HO_255007; clear BK249; clear BK250; clear BK254; clear HB; clear HO_255008; have HO_255007 := n0_; have BK249 := n1_; have BK250 := n2_; have BK254 := n3_; have HB := n4_; have HO257 := n5_; clear n0_ n1_ n2_ n3_ n4_ n5_; clear ho hb hg hat; obtain ⟨Ao17, co17, eo17⟩ := Kd.R_slice HO257.out; subst eo17; obtain ⟨hcz18_0, hcz18_1, hcz18_2, hcz18_3, hcz18_4, hcz18_5, hcz18_6, hcz18_7, hcz18_8, hfz18_0, hfz18_1, hfz18_2, hfz18_3, hfz18_4, hfz18_5, hfz18_6, hfz18_7, hfz18_8⟩ := zce9 BK254.out))
      go_roundg k1
      case measure => have := HK1.out; omega
      case rel => exact ⟨(wrap64 (x3_1 + 1)), (y255), (.slice Ao17 y255.length co17), zq2, H', ⟨by have := HK1.out; omega⟩, ⟨by (with_reducible repeat (first | apply Kd.R_alloc | apply Kd.R_drewN | apply Kd.R_drew)); exact Kd.R_mono (Kd.R_far (p := ⟨gb254, 8, none⟩) (Kd.R_types HO_255007.out BK254.out (by decide)) (fun _ hk => hk.2) (.slice Ao17 y255.length co17)) (fun _ hk => trivial)⟩, ⟨by (with_reducible repeat (first | apply Kd.R_alloc | apply Kd.R_drewN | apply Kd.R_drew)); exact Kd.R_mono (Kd.R_far (p := ⟨gb254, 8, none⟩) (Kd.R_types HO257.out BK254.out (by decide)) (fun _ hk => hk.2) (.slice Ao17 y255.length co17)) (fun _ hk => trivial)⟩, ⟨zbf⟩, ⟨zbf⟩, ⟨by (with_reducible repeat (first | refine blk_drewN ?_ _ | refine blk_drew ?_ | refine blk_alloc ?_ _)); refine blk_put (cs := #[.int .i64 4, .int .i64 4, .int .i64 1000, .int .i64 10000, .int .i64 1, .int .i64 1, .int .i64 200, .slice Ao6 y251.length co6, u255008]) ?_ 8 _ rfl; (with_reducible repeat (first | refine blk_drewN ?_ _ | refine blk_drew ?_ | refine blk_alloc ?_ _)); exact BK254.out⟩, ⟨zbz⟩⟩
     ·rw [if_neg c12] at H
      exact absurd H (by simp)
    ·rw [if_neg c11] at H
     have c11b0 : decide (x3_1 < 16) = false := decide_eq_false c11
     clear c11
     simp only [Option.some.injEq, Prod.mk.injEq] at H
     obtain ⟨rfl, rfl, rfl, rfl, rfl, rfl, rfl, rfl, rfl, rfl, rfl, rfl, rfl, rfl, rfl, rfl⟩ := H
     have hnb19 := NB254_249.out
     have hnc19 := NB249_254.out
     have hnb20 := NB254_250.out
     have hnc20 := NB250_254.out
     obtain ⟨hcz21_0, hcz21_1, hcz21_2, hcz21_3, hcz21_4, hcz21_5, hcz21_6, hcz21_7, hcz21_8, hfz21_0, hfz21_1, hfz21_2, hfz21_3, hfz21_4, hfz21_5, hfz21_6, hfz21_7, hfz21_8⟩ := zce9 BK254.out
     have hnb22 := NB249_250.out
     have hnc22 := NB250_249.out
     obtain ⟨hcz23_0, hcz23_1, hcz23_2, hcz23_3, hcz23_4, hcz23_5, hcz23_6, hcz23_7, hcz23_8, hfz23_0, hfz23_1, hfz23_2, hfz23_3, hfz23_4, hfz23_5, hfz23_6, hfz23_7, hfz23_8⟩ := zce9 BK249.out
     obtain ⟨Ao24, co24, eo24⟩ := Kd.R_slice HO_255008.out
     subst eo24
     obtain ⟨hcz25_0, hcz25_1, hcz25_2, hcz25_3, hcz25_4, hcz25_5, hcz25_6, hfz25_0, hfz25_1, hfz25_2, hfz25_3, hfz25_4, hfz25_5, hfz25_6⟩ := zce7 BK250.out
     go_wp2
     refine bodyPost_ret (results_cc rfl _ _ gb249 gb250 25 29 #[.int .i64 4, .int .i64 4, .int .i64 1000, .int .i64 10000, .int .i64 1, .int .i64 1, .int .i64 200, .slice Ao6 y251.length co6, .slice Ao24 x255008_1.length co24] #[.int .i64 300, .int .i64 1000, .int .i64 50, .int .i64 60, .int .i64 5, .int .i64 6, .int .i64 100] (0, 0) (0, 0) _ _ rfl (by (with_reducible repeat (first | refine blk_drewN ?_ _ | refine blk_drew ?_ | refine blk_alloc ?_ _)); refine blk_far ?_ NB249_250.out _; (with_reducible repeat (first | refine blk_drewN ?_ _ | refine blk_drew ?_ | refine blk_alloc ?_ _)); refine blk_far ?_ NB249_250.out _; (with_reducible repeat (first | refine blk_drewN ?_ _ | refine blk_drew ?_ | refine blk_alloc ?_ _)); refine blk_far ?_ NB249_250.out _; (with_reducible repeat (first | refine blk_drewN ?_ _ | refine blk_drew ?_ | refine blk_alloc ?_ _)); refine blk_far ?_ NB249_250.out _; (with_reducible repeat (first | refine blk_drewN ?_ _ | refine blk_drew ?_ | refine blk_alloc ?_ _)); refine blk_far ?_ NB249_250.out _; (with_reducible repeat (first | refine blk_drewN ?_ _ | refine blk_drew ?_ | refine blk_alloc ?_ _)); refine blk_far ?_ NB249_250.out _; (with_reducible repeat (first | refine blk_drewN ?_ _ | refine blk_drew ?_ | refine blk_alloc ?_ _)); refine blk_far ?_ NB249_250.out _; (with_reducible repeat (first | refine blk_drewN ?_ _ | refine blk_drew ?_ | refine blk_alloc ?_ _)); refine blk_put (cs := #[.int .i64 4, .int .i64 4, .int .i64 1000, .int .i64 10000, .int .i64 1, .int .i64 1, .int .i64 200, .slice Ao6 y251.length co6, .slice none 0 0]) ?_ 8 _ rfl; (with_reducible repeat (first | refine blk_drewN ?_ _ | refine blk_drew ?_ | refine blk_alloc ?_ _)); refine blk_put (cs := #[.int .i64 4, .int .i64 4, .int .i64 1000, .int .i64 10000, .int .i64 1, .int .i64 1, .int .i64 200, .slice none 0 0, .slice none 0 0]) ?_ 7 _ rfl; (with_reducible repeat (first | refine blk_drewN ?_ _ | refine blk_drew ?_ | refine blk_alloc ?_ _)); refine blk_put (cs := #[.int .i64 4, .int .i64 4, .int .i64 1000, .int .i64 10000, .int .i64 1, .int .i64 1, .int .i64 0, .slice none 0 0, .slice none 0 0]) ?_ 6 _ rfl; (with_reducible repeat (first | refine blk_drewN ?_ _ | refine blk_drew ?_ | refine blk_alloc ?_ _)); refine blk_put (cs := #[.int .i64 4, .int .i64 4, .int .i64 1000, .int .i64 10000, .int .i64 1, .int .i64 0, .int .i64 0, .slice none 0 0, .slice none 0 0]) ?_ 5 _ rfl; (with_reducible repeat (first | refine blk_drewN ?_ _ | refine blk_drew ?_ | refine blk_alloc ?_ _)); refine blk_put (cs := #[.int .i64 4, .int .i64 4, .int .i64 1000, .int .i64 10000, .int .i64 0, .int .i64 0, .int .i64 0, .slice none 0 0, .slice none 0 0]) ?_ 4 _ rfl; (with_reducible repeat (first | refine blk_drewN ?_ _ | refine blk_drew ?_ | refine blk_alloc ?_ _)); refine blk_put (cs := #[.int .i64 4, .int .i64 4, .int .i64 1000, .int .i64 0, .int .i64 0, .int .i64 0, .int .i64 0, .slice none 0 0, .slice none 0 0]) ?_ 3 _ rfl; (with_reducible repeat (first | refine blk_drewN ?_ _ | refine blk_drew ?_ | refine blk_alloc ?_ _)); refine blk_put (cs := #[.int .i64 4, .int .i64 4, .int .i64 0, .int .i64 0, .int .i64 0, .int .i64 0, .int .i64 0, .slice none 0 0, .slice none 0 0]) ?_ 2 _ rfl; (with_reducible repeat (first | refine blk_drewN ?_ _ | refine blk_drew ?_ | refine blk_alloc ?_ _)); refine blk_put (cs := #[.int .i64 4, .int .i64 0, .int .i64 0, .int .i64 0, .int .i64 0, .int .i64 0, .int .i64 0, .slice none 0 0, .slice none 0 0]) ?_ 1 _ rfl; (with_reducible repeat (first | refine blk_drewN ?_ _ | refine blk_drew ?_ | refine blk_alloc ?_ _)); refine blk_put (cs := #[.int .i64 0, .int .i64 0, .int .i64 0, .int .i64 0, .int .i64 0, .int .i64 0, .int .i64 0, .slice none 0 0, .slice none 0 0]) ?_ 0 _ rfl; (with_reducible repeat (first | refine blk_drewN ?_ _ | refine blk_drew ?_ | refine blk_alloc ?_ _)); exact BK249.out) Try.underlying25 rfl zq1 rfl (by (with_reducible repeat (first | refine blk_drewN ?_ _ | refine blk_drew ?_ | refine blk_alloc ?_ _)); refine blk_put (cs := #[.int .i64 300, .int .i64 1000, .int .i64 50, .int .i64 60, .int .i64 5, .int .i64 6, .int .i64 0]) ?_ 6 _ rfl; (with_reducible repeat (first | refine blk_drewN ?_ _ | refine blk_drew ?_ | refine blk_alloc ?_ _)); refine blk_put (cs := #[.int .i64 300, .int .i64 1000, .int .i64 50, .int .i64 60, .int .i64 5, .int .i64 0, .int .i64 0]) ?_ 5 _ rfl; (with_reducible repeat (first | refine blk_drewN ?_ _ | refine blk_drew ?_ | refine blk_alloc ?_ _)); refine blk_put (cs := #[.int .i64 300, .int .i64 1000, .int .i64 50, .int .i64 60, .int .i64 0, .int .i64 0, .int .i64 0]) ?_ 4 _ rfl; (with_reducible repeat (first | refine blk_drewN ?_ _ | refine blk_drew ?_ | refine blk_alloc ?_ _)); refine blk_put (cs := #[.int .i64 300, .int .i64 1000, .int .i64 50, .int .i64 0, .int .i64 0, .int .i64 0, .int .i64 0]) ?_ 3 _ rfl; (with_reducible repeat (first | refine blk_drewN ?_ _ | refine blk_drew ?_ | refine blk_alloc ?_ _)); refine blk_put (cs := #[.int .i64 300, .int .i64 1000, .int .i64 0, .int .i64 0, .int .i64 0, .int .i64 0, .int .i64 0]) ?_ 2 _ rfl; (with_reducible repeat (first | refine blk_drewN ?_ _ | refine blk_drew ?_ | refine blk_alloc ?_ _)); refine blk_put (cs := #[.int .i64 300, .int .i64 0, .int .i64 0, .int .i64 0, .int .i64 0, .int .i64 0, .int .i64 0]) ?_ 1 _ rfl; (with_reducible repeat (first | refine blk_drewN ?_ _ | refine blk_drew ?_ | refine blk_alloc ?_ _)); refine blk_put (cs := #[.int .i64 0, .int .i64 0, .int .i64 0, .int .i64 0, .int .i64 0, .int .i64 0, .int .i64 0]) ?_ 0 _ rfl; (with_reducible repeat (first | refine blk_drewN ?_ _ | refine blk_drew ?_ | refine blk_alloc ?_ _)); refine blk_far ?_ NB250_249.out _; (with_reducible repeat (first | refine blk_drewN ?_ _ | refine blk_drew ?_ | refine blk_alloc ?_ _)); refine blk_far ?_ NB250_249.out _; (with_reducible repeat (first | refine blk_drewN ?_ _ | refine blk_drew ?_ | refine blk_alloc ?_ _)); refine blk_far ?_ NB250_249.out _; (with_reducible repeat (first | refine blk_drewN ?_ _ | refine blk_drew ?_ | refine blk_alloc ?_ _)); refine blk_far ?_ NB250_249.out _; (with_reducible repeat (first | refine blk_drewN ?_ _ | refine blk_drew ?_ | refine blk_alloc ?_ _)); refine blk_far ?_ NB250_249.out _; (with_reducible repeat (first | refine blk_drewN ?_ _ | refine blk_drew ?_ | refine blk_alloc ?_ _)); refine blk_far ?_ NB250_249.out _; (with_reducible repeat (first | refine blk_drewN ?_ _ | refine blk_drew ?_ | refine blk_alloc ?_ _)); refine blk_far ?_ NB250_249.out _; (with_reducible repeat (first | refine blk_drewN ?_ _ | refine blk_drew ?_ | refine blk_alloc ?_ _)); refine blk_far ?_ NB250_249.out _; (with_reducible repeat (first | refine blk_drewN ?_ _ | refine blk_drew ?_ | refine blk_alloc ?_ _)); refine blk_far ?_ NB250_249.out _; (with_reducible repeat (first | refine blk_drewN ?_ _ | refine blk_drew ?_ | refine blk_alloc ?_ _)); exact BK250.out) Try.underlying29 rfl zq1) rfl ?_
     exact ⟨_, _, zq5, by (with_reducible repeat (first | apply Kd.R_alloc | apply Kd.R_drewN | apply Kd.R_drew)); exact Kd.R_mono (Kd.R_far (p := ⟨gb250, 6, none⟩) (Kd.R_far (p := ⟨gb250, 5, none⟩) (Kd.R_far (p := ⟨gb250, 4, none⟩) (Kd.R_far (p := ⟨gb250, 3, none⟩) (Kd.R_far (p := ⟨gb250, 2, none⟩) (Kd.R_far (p := ⟨gb250, 1, none⟩) (Kd.R_far (p := ⟨gb250, 0, none⟩) (Kd.R_far (p := ⟨gb249, 8, none⟩) (Kd.R_far (p := ⟨gb249, 7, none⟩) (Kd.R_far (p := ⟨gb249, 6, none⟩) (Kd.R_far (p := ⟨gb249, 5, none⟩) (Kd.R_far (p := ⟨gb249, 4, none⟩) (Kd.R_far (p := ⟨gb249, 3, none⟩) (Kd.R_far (p := ⟨gb249, 2, none⟩) (Kd.R_far (p := ⟨gb249, 1, none⟩) (Kd.R_far (p := ⟨gb249, 0, none⟩) (Kd.R_types (Kd.R_types HO_255007.out BK249.out (by decide)) BK250.out (by decide)) (fun _ hk => hk.1.2) (.int .i64 4)) (fun _ hk => hk.1.2) (.int .i64 4)) (fun _ hk => hk.1.2) (.int .i64 1000)) (fun _ hk => hk.1.2) (.int .i64 10000)) (fun _ hk => hk.1.2) (.int .i64 1)) (fun _ hk => hk.1.2) (.int .i64 1)) (fun _ hk => hk.1.2) (.int .i64 200)) (fun _ hk => hk.1.2) (.slice Ao6 y251.length co6)) (fun _ hk => hk.1.2) (.slice Ao24 x255008_1.length co24)) (fun _ hk => hk.2) (.int .i64 300)) (fun _ hk => hk.2) (.int .i64 1000)) (fun _ hk => hk.2) (.int .i64 50)) (fun _ hk => hk.2) (.int .i64 60)) (fun _ hk => hk.2) (.int .i64 5)) (fun _ hk => hk.2) (.int .i64 6)) (fun _ hk => hk.2) (.int .i64 100)) (fun _ hk => trivial), by (with_reducible repeat (first | apply Kd.R_alloc | apply Kd.R_drewN | apply Kd.R_drew)); exact Kd.R_mono (Kd.R_far (p := ⟨gb250, 6, none⟩) (Kd.R_far (p := ⟨gb250, 5, none⟩) (Kd.R_far (p := ⟨gb250, 4, none⟩) (Kd.R_far (p := ⟨gb250, 3, none⟩) (Kd.R_far (p := ⟨gb250, 2, none⟩) (Kd.R_far (p := ⟨gb250, 1, none⟩) (Kd.R_far (p := ⟨gb250, 0, none⟩) (Kd.R_far (p := ⟨gb249, 8, none⟩) (Kd.R_far (p := ⟨gb249, 7, none⟩) (Kd.R_far (p := ⟨gb249, 6, none⟩) (Kd.R_far (p := ⟨gb249, 5, none⟩) (Kd.R_far (p := ⟨gb249, 4, none⟩) (Kd.R_far (p := ⟨gb249, 3, none⟩) (Kd.R_far (p := ⟨gb249, 2, none⟩) (Kd.R_far (p := ⟨gb249, 1, none⟩) (Kd.R_far (p := ⟨gb249, 0, none⟩) (Kd.R_types (Kd.R_types HO_255008.out BK249.out (by decide)) BK250.out (by decide)) (fun _ hk => hk.1.2) (.int .i64 4)) (fun _ hk => hk.1.2) (.int .i64 4)) (fun _ hk => hk.1.2) (.int .i64 1000)) (fun _ hk => hk.1.2) (.int .i64 10000)) (fun _ hk => hk.1.2) (.int .i64 1)) (fun _ hk => hk.1.2) (.int .i64 1)) (fun _ hk => hk.1.2) (.int .i64 200)) (fun _ hk => hk.1.2) (.slice Ao6 y251.length co6)) (fun _ hk => hk.1.2) (.slice Ao24 x255008_1.length co24)) (fun _ hk => hk.2) (.int .i64 300)) (fun _ hk => hk.2) (.int .i64 1000)) (fun _ hk => hk.2) (.int .i64 50)) (fun _ hk => hk.2) (.int .i64 60)) (fun _ hk => hk.2) (.int .i64 5)) (fun _ hk => hk.2) (.int .i64 6)) (fun _ hk => hk.2) (.int .i64 100)) (fun _ hk => trivial), zbz⟩
 ·rw [if_neg c1] at H
  exact absurd H (by simp)

end Go.Proofs.Ytmhaiihjfgfaoaa.Pr
end
section
namespace Go.Proofs.Ytmhaiihjfgfaoaa.Pr
open Go.RowKit Go.Proofs.YtmhaiihjfgfaoaaW.PrintWords Go.Proofs.YtmhaiihjfgfaoaaW.PrintLast Go.Proofs.YtmhaiihjfgfaoaaW.PrintMore
attribute [local go_sem] max2_int min2_int max_two min_two max_four
set_option linter.unusedVariables false
set_option linter.unusedSimpArgs false

/-! ### isobathlaw03_point: function 62 -/
def isobathlaw03_point.f (a0 : Int) (a1 : Int) : Option (Int × Int × Int × Int) := some (a0, a0, a1, a1)
set_option maxHeartbeats 8000000 in
set_option maxRecDepth 100000 in
theorem isobathlaw03_point.calls (a0 : Int) (a1 : Int) (r1 : Int) (r2 : Int) (r3 : Int) (r4 : Int) (w : World) (h : isobathlaw03_point.f a0 a1 = some (r1, r2, r3, r4)) :
  Calls Try.prog 62 #[.int .i64 a0, .int .i64 a1] w fun e w' => e = .returned (.agg #[.int .i64 r1, .int .i64 r2, .int .i64 r3, .int .i64 r4]) ∧ Below w.heap.size w w' := by
 have hu31 := Try.underlying31
 have hu27 := Try.underlying27
 have HB := Aside0.mk (Below.refl w.heap.size w)
 have H : (some (a0, a0, a1, a1)) = some (r1, r2, r3, r4) := h
 clear h
 simp only [Option.some.injEq, Prod.mk.injEq] at H
 obtain ⟨rfl, rfl, rfl, rfl⟩ := H
 go_enter Try.func62, Try.ntmps62
 go_wp2_with (first | ((with_reducible refine gate_dst (N := 4) rfl ?_); refine box_event (by rfl) (N := 4) (by rfl) (cs := #[.int .i64 0, .int .i64 0, .int .i64 0, .int .i64 0]) (t := 31) zq4 ?_; intro gb258 hg w3 hbox hb; have BK258 := Aside0.mk (hbox); have GW258 := zgs HB hg; have GE258 := zgs HB hg; replace HB := zbs HB hb; clear hb hbox hg; obtain ⟨hcz4_0, hcz4_1, hcz4_2, hcz4_3, hfz4_0, hfz4_1, hfz4_2, hfz4_3⟩ := zce4 BK258.out))
 refine bodyPost_ret (results_cell_row rfl _ _ gb258 31 #[.int .i64 a0, .int .i64 a0, .int .i64 a1, .int .i64 a1] (0, 0) _ rfl (by (with_reducible repeat (first | refine blk_drewN ?_ _ | refine blk_drew ?_ | refine blk_alloc ?_ _)); refine blk_put (cs := #[.int .i64 a0, .int .i64 a0, .int .i64 a1, .int .i64 0]) ?_ 3 _ rfl; (with_reducible repeat (first | refine blk_drewN ?_ _ | refine blk_drew ?_ | refine blk_alloc ?_ _)); refine blk_put (cs := #[.int .i64 a0, .int .i64 a0, .int .i64 0, .int .i64 0]) ?_ 2 _ rfl; (with_reducible repeat (first | refine blk_drewN ?_ _ | refine blk_drew ?_ | refine blk_alloc ?_ _)); refine blk_put (cs := #[.int .i64 a0, .int .i64 0, .int .i64 0, .int .i64 0]) ?_ 1 _ rfl; (with_reducible repeat (first | refine blk_drewN ?_ _ | refine blk_drew ?_ | refine blk_alloc ?_ _)); refine blk_put (cs := #[.int .i64 0, .int .i64 0, .int .i64 0, .int .i64 0]) ?_ 0 _ rfl; (with_reducible repeat (first | refine blk_drewN ?_ _ | refine blk_drew ?_ | refine blk_alloc ?_ _)); exact BK258.out) Try.underlying31 rfl zq1) rfl ?_
 exact ⟨zq5, zbz⟩

end Go.Proofs.Ytmhaiihjfgfaoaa.Pr
end
section
/- A region that draws its order, in a round of a loop over a function: it is walked as anywhere else (no operation of it is a deferred call). -/
namespace Go.Proofs.YtmhaiihjfgfaoaaW.Round
open Go.RowKit Go.Proofs.YtmhaiihjfgfaoaaW.PrintWords Go.Proofs.YtmhaiihjfgfaoaaW.PrintLast
section
variable {P : Program} {n l : Nat}

theorem oper_round {o : Oper} {a : Act} {w : World} {K : Act → World → Prop} {Q : Exit → Act → World → Prop} (hd : ∀ c, o.op ≠ .defer c) (h : o.wp P a w K Q) : o.wpIn (Fence.wide.inRound l) n P a w K Q := by
 refine ⟨fun _ _ => trivial, ?_⟩
 rw [Oper.semAt_eq _ _ _ hd]
 unfold Oper.wp at h
 generalize (execOp a.eval o).run P w = r at h
 cases r with
 | ok x w' =>
  cases x with
  | value v => exact h
  | skip => exact h
  | defer d => exact h
  | enter f args => exact ⟨fun h0 => (by cases h0), CallsIn.inRound l (callsIn_wide.2 h)⟩
  | row row args => exact ⟨fun h0 => (by cases h0), fun c cs _ => by obtain ⟨v, w2, r, s⟩ := h c cs; exact ⟨v, w2, r, stepsIn_wide.2 s⟩⟩
  | _ => exact h.elim
 | halt x w' =>
  cases x with
  | panic v => exact h
  | _ => exact h.elim

/-- No operation is a deferred call. -/
def noDefer (ops : Array Oper) : Bool := ops.all fun o => match o.op with | .defer _ => false | _ => true
theorem noDefer_get {ops : Array Oper} (h : noDefer ops = true) {i : Nat} {o : Oper} (ho : ops[i]? = some o) : ∀ c, o.op ≠ .defer c := by
 intro c e
 unfold noDefer at h
 rw [Array.all_eq_true] at h
 obtain ⟨hi, he⟩ := Array.getElem?_eq_some_iff.1 ho
 have := h i hi
 rw [he, e] at this
 simp at this
theorem wpAny_round {ops : Array Oper} {Q : Exit → Act → World → Prop} {md : Region.Mode} (hn : noDefer ops = true) (hQ : ¬ LetsOut Q) : ∀ (fuel : Nat) (listed : Array Bool) (a : Act) (w : World),
  wpAny P md ops Q fuel listed a w → wpAnyIn (Fence.wide.inRound l) n P md ops Q fuel listed a w
 | 0, _, _, _, h => h
 | fuel + 1, listed, a, w, h => by
  refine ⟨h.1, fun i hi => ?_⟩
  have h1 := h.2 i hi
  unfold wpOp at h1
  unfold wpOpIn
  cases ho : ops[i]? with
  | none =>
   rw [ho] at h1
   exact wpAny_round hn hQ fuel _ _ _ h1
  | some o =>
   rw [ho] at h1
   dsimp only at h1 ⊢
   split at h1
   ·rename_i hw
    rw [if_pos hw]
    rcases h1 with h1 | ⟨_, h1⟩
    ·exact Oper.wpIn_mono (fun a w h => wpAny_round hn hQ fuel _ a w h) (oper_round (noDefer_get hn ho) h1)
    ·exact absurd h1 hQ
   ·rename_i hw
    rw [if_neg hw]
    exact ⟨fun _ _ => trivial, wpAny_round hn hQ fuel _ _ _ h1⟩
theorem letsOut_ownG {α : Type} {B : Nat} {Kp : World → World → Prop} {I : List α → World → Prop} {Ix : Code → List α → World → Prop} {xs : List α} {W : World} : ¬ LetsOut (ownPostG B Kp I Ix xs W) := fun ⟨_, _, h⟩ => h
theorem letsOut_inBlock {id : Nat} {Q : Exit → Act → World → Prop} (h : ¬ LetsOut Q) : ¬ LetsOut (Exit.inBlock id Q) := fun ⟨a, w, h1⟩ => h ⟨a, w, h1⟩
theorem letsOut_then {K : Act → World → Prop} {Q : Exit → Act → World → Prop} (h : ¬ LetsOut Q) : ¬ LetsOut (Exit.then K Q) := fun ⟨a, w, h1⟩ => h ⟨a, w, h1⟩
/-- The head of such a region's walk, in a round. -/
theorem startIn_ {ops : Array Oper} {Q : Exit → Act → World → Prop} {S : World → Prop} {ds : List Nat} {id m : Nat} {a : Act} {w : World} (lit : Array Bool) (hd : noDefer ops = true) (hQ : ¬ LetsOut Q) (hm : P.follows .mixedOrders = true) (hn : ops.size = m) (hl : Array.replicate m false = lit) (hS : S w.drew)
  (h : S w.drew → wpAnyLast P .any ops Q S ds m lit a w.drew) : (Code.region id ops true).wpIn (Fence.wide.inRound l) n P Q a w := by
 subst hn
 subst hl
 exact wpIn_region_any hm (wpAny_round hd hQ _ _ _ _ (wpAny_of_last _ _ _ _ (h hS)))
/-- A post that speaks of the normal way out alone. -/
def onlyN (K : Act → World → Prop) : Exit → Act → World → Prop
 | .normal, a, w => K a w
 | _, _, _ => False
theorem onlyN_normal {Q : Exit → Act → World → Prop} {a : Act} {w : World} (h : Q .normal a w) : onlyN (Q .normal) .normal a w := h
theorem wpIn_only {F : Fence} {c : Code} {Q : Exit → Act → World → Prop} {a : Act} {w : World} (h : c.wpIn F n P (onlyN (Q .normal)) a w) : c.wpIn F n P Q a w := wpIn_mono h (fun e a w h => by cases e <;> first | exact h | exact h.elim)
end
end Go.Proofs.YtmhaiihjfgfaoaaW.Round
end
section
/- A trip in memory, and what its small methods compute. -/
namespace Go.Proofs.Ytmhaiihjfgfaoaa.Gl
open Go.RowKit Go.Shelf Go.Proofs.YtmhaiihjfgfaoaaW.PrintWords Go.Proofs.YtmhaiihjfgfaoaaW.PrintLast Go.Proofs.YtmhaiihjfgfaoaaW.PrintMore Go.Proofs.Ytmhaiihjfgfaoaa.Pr Go.Proofs.YtmhaiihjfgfaoaaW.Round
set_option linter.unusedVariables false
set_option linter.unusedSimpArgs false
attribute [local go_sem] max2_int min2_int max_two min_two max_four
/-- A sea. -/
structure Sea where
 nx : Int
 ny : Int
 cell : Int
 slot : Int
 slots : Int
 layers : Int
 most : Int
 shores : List Bool
 currents : List S40
/-- A vehicle. -/
structure Veh where
 speed : Int
 dive : Int
 use : S27
 drift : S27
 reserve : Int
/-- A block of memory, whole. -/
def Blk (W : World) (b : Nat) (c : Array Value) (t : TypeId) : Prop := W.heap[b]? = some (.cells c t (0, 0))
theorem Blk.below {W W1 : World} {b : Nat} {c : Array Value} {t : TypeId} (h : Blk W b c t) (hb : Below W.heap.size W W1) : Blk W1 b c t := (hb.block b (Array.getElem?_eq_some_iff.1 h).1).trans h
/-- A call returns a value; what was there before is as it was. -/
def RetB (v : Value) (w : World) (e : Ending) (w' : World) : Prop := e = .returned v ∧ Below w.heap.size w w'
/-- A trip in memory. -/
def TripAt (W : World) (b : Nat) (s : Sea) (v : Veh) : Prop := ∃ A7 c7 A8 c8, Blk W b #[.int .i64 s.nx, .int .i64 s.ny, .int .i64 s.cell, .int .i64 s.slot, .int .i64 s.slots, .int .i64 s.layers, .int .i64 s.most, .slice A7 s.shores.length c7, .slice A8 s.currents.length c8, .int .i64 v.speed, .int .i64 v.dive, .int .i64 v.use.f0, .int .i64 v.use.f1, .int .i64 v.drift.f0, .int .i64 v.drift.f1, .int .i64 v.reserve] 110 ∧ s.shores.length ≤ c7 ∧ Kd.C Kd.bool W A7 s.shores.length s.shores ∧ s.currents.length ≤ c8 ∧ Kd.C k40 W A8 s.currents.length s.currents
theorem TripAt.below {W W1 : World} {b : Nat} {s : Sea} {v : Veh} (h : TripAt W b s v) (hb : Below W.heap.size W W1) : TripAt W1 b s v := by
 obtain ⟨A7, c7, A8, c8, h1, h2, h3, h4, h5⟩ := h
 exact ⟨A7, c7, A8, c8, h1.below hb, h2, Kd.C_below h3 hb, h4, Kd.C_below h5 hb⟩
/-- The numbers of a valid sea. -/
structure SeaN (s : Sea) : Prop where
 nx : 1 ≤ s.nx ∧ s.nx ≤ 12
 ny : 1 ≤ s.ny ∧ s.ny ≤ 12
 cell : 100 ≤ s.cell ∧ s.cell ≤ 65536
 slot : 1 ≤ s.slot ∧ s.slot ≤ 1048576
 slots : 1 ≤ s.slots ∧ s.slots ≤ 16
 layers : 1 ≤ s.layers ∧ s.layers ≤ 3
 most : 0 ≤ s.most ∧ s.most ≤ 5000
/-- The numbers of a valid vehicle. -/
structure VehN (v : Veh) : Prop where
 speed : 0 ≤ v.speed ∧ v.speed ≤ 5000
 dive : 1 ≤ v.dive ∧ v.dive ≤ 131072
theorem ret_two {a b c d : Int} (h : a = c) (h2 : b = d) : Ending.returned (.tuple #[.int .i64 a, .int .i64 b]) = Ending.returned (.tuple #[.int .i64 c, .int .i64 d]) := by rw [h, h2]
theorem mul_in {a b m n : Int} (h0 : 0 ≤ a) (h1 : a ≤ m) (h2 : 0 ≤ b) (h3 : b ≤ n) : 0 ≤ a * b ∧ a * b ≤ m * n :=
 ⟨Int.mul_nonneg h0 h2, Int.le_trans (Int.mul_le_mul_of_nonneg_right h1 h2) (Int.mul_le_mul_of_nonneg_left h3 (Int.le_trans h0 h1))⟩
/-- Is a box in the sea? -/
def containsI (s : Sea) (x : S31) : Bool := decide (0 ≤ x.f0.f0) && decide (0 ≤ x.f1.f0) && decide (x.f0.f1 ≤ s.nx * s.cell) && decide (x.f1.f1 ≤ s.ny * s.cell)
/-- Are all seconds in slots? -/
def knownI (s : Sea) (t u : Int) : Bool := decide (0 ≤ t) && decide (u ≤ s.slots * s.slot)
set_option maxRecDepth 100000 in
set_option maxHeartbeats 2000000 in
theorem contains_any (b : Nat) (s : Sea) (v : Veh) (x : S31) (w : World) (hT : TripAt w b s v) (hS : SeaN s) :
  Calls Try.prog 68 #[.pointer (some ⟨b, 0, none⟩), .agg #[.int .i64 x.f0.f0, .int .i64 x.f0.f1, .int .i64 x.f1.f0, .int .i64 x.f1.f1]] w (RetB (.bool (containsI s x)) w) := by
 obtain ⟨A7, c7, A8, c8, hB, _⟩ := hT
 have hx := mul_in (show 0 ≤ s.nx by have := hS.nx; omega) hS.nx.2 (show 0 ≤ s.cell by have := hS.cell; omega) hS.cell.2
 have hy := mul_in (show 0 ≤ s.ny by have := hS.ny; omega) hS.ny.2 (show 0 ≤ s.cell by have := hS.cell; omega) hS.cell.2
 clear hS
 have hC0 : ∀ o_, (w.alloc o_).cell? ⟨b, 0, none⟩ = some (.int .i64 s.nx) := fun o_ => (blk_cell (blk_alloc hB o_) 0).trans rfl
 have hC1 : ∀ o_, (w.alloc o_).cell? ⟨b, 1, none⟩ = some (.int .i64 s.ny) := fun o_ => (blk_cell (blk_alloc hB o_) 1).trans rfl
 have hC2 : ∀ o_, (w.alloc o_).cell? ⟨b, 2, none⟩ = some (.int .i64 s.cell) := fun o_ => (blk_cell (blk_alloc hB o_) 2).trans rfl
 by_cases q0 : 0 ≤ x.f0.f0
 ·have q0_ : decide (0 ≤ x.f0.f0) = true := decide_eq_true q0
  by_cases q1 : 0 ≤ x.f1.f0
  ·have q1_ : decide (0 ≤ x.f1.f0) = true := decide_eq_true q1
   by_cases q2 : x.f0.f1 ≤ s.nx * s.cell
   ·have q2_ : decide (x.f0.f1 ≤ s.nx * s.cell) = true := decide_eq_true q2
    by_cases q3 : x.f1.f1 ≤ s.ny * s.cell
    ·have q3_ : decide (x.f1.f1 ≤ s.ny * s.cell) = true := decide_eq_true q3
     have HR : Hid (containsI s x = true) := Lib.hid (by unfold containsI; simp only [q0_, q1_, q2_, q3_]; rfl)
     go_enter Try.func68, Try.ntmps68
     go_wp2
     go_quiet (fail)
     go_wp2
     go_ret
     exact ⟨zq10, zq11⟩
    ·have q3_ : decide (x.f1.f1 ≤ s.ny * s.cell) = false := decide_eq_false q3
     have HR : Hid (containsI s x = false) := Lib.hid (by unfold containsI; simp only [q0_, q1_, q2_, q3_]; rfl)
     go_enter Try.func68, Try.ntmps68
     go_wp2
     go_quiet (fail)
     go_wp2
     go_ret
     exact ⟨zq10, zq11⟩
   ·have q2_ : decide (x.f0.f1 ≤ s.nx * s.cell) = false := decide_eq_false q2
    have HR : Hid (containsI s x = false) := Lib.hid (by unfold containsI; simp only [q0_, q1_, q2_]; rfl)
    go_enter Try.func68, Try.ntmps68
    go_wp2
    go_quiet (fail)
    go_wp2
    go_ret
    exact ⟨zq10, zq11⟩
  ·have q1_ : decide (0 ≤ x.f1.f0) = false := decide_eq_false q1
   have HR : Hid (containsI s x = false) := Lib.hid (by unfold containsI; simp only [q0_, q1_]; rfl)
   go_enter Try.func68, Try.ntmps68
   go_wp2
   go_quiet (fail)
   go_wp2
   go_ret
   exact ⟨zq10, zq11⟩
 ·have q0_ : decide (0 ≤ x.f0.f0) = false := decide_eq_false q0
  have HR : Hid (containsI s x = false) := Lib.hid (by unfold containsI; simp only [q0_]; rfl)
  go_enter Try.func68, Try.ntmps68
  go_wp2
  go_quiet (fail)
  go_wp2
  go_ret
  exact ⟨zq10, zq11⟩
set_option maxRecDepth 100000 in
set_option maxHeartbeats 2000000 in
theorem known_any (b : Nat) (s : Sea) (v : Veh) (t u : Int) (w : World) (hT : TripAt w b s v) (hS : SeaN s) :
  Calls Try.prog 69 #[.pointer (some ⟨b, 0, none⟩), .int .i64 t, .int .i64 u] w (RetB (.bool (knownI s t u)) w) := by
 obtain ⟨A7, c7, A8, c8, hB, _⟩ := hT
 have hx := mul_in (show 0 ≤ s.slots by have := hS.slots; omega) hS.slots.2 (show 0 ≤ s.slot by have := hS.slot; omega) hS.slot.2
 clear hS
 have hC3 : w.cell? ⟨b, 3, none⟩ = some (.int .i64 s.slot) := (blk_cell hB 3).trans rfl
 have hC4 : w.cell? ⟨b, 4, none⟩ = some (.int .i64 s.slots) := (blk_cell hB 4).trans rfl
 by_cases q0 : 0 ≤ t
 ·have q0_ : decide (0 ≤ t) = true := decide_eq_true q0
  by_cases q1 : u ≤ s.slots * s.slot
  ·have q1_ : decide (u ≤ s.slots * s.slot) = true := decide_eq_true q1
   have HR : Hid (knownI s t u = true) := Lib.hid (by unfold knownI; simp only [q0_, q1_]; rfl)
   go_enter Try.func69, Try.ntmps69
   go_wp2
   go_quiet (fail)
   go_wp2
   go_ret
   exact ⟨zq10, zq11⟩
  ·have q1_ : decide (u ≤ s.slots * s.slot) = false := decide_eq_false q1
   have HR : Hid (knownI s t u = false) := Lib.hid (by unfold knownI; simp only [q0_, q1_]; rfl)
   go_enter Try.func69, Try.ntmps69
   go_wp2
   go_quiet (fail)
   go_wp2
   go_ret
   exact ⟨zq10, zq11⟩
 ·have q0_ : decide (0 ≤ t) = false := decide_eq_false q0
  have HR : Hid (knownI s t u = false) := Lib.hid (by unfold knownI; simp only [q0_]; rfl)
  go_enter Try.func69, Try.ntmps69
  go_wp2
  go_quiet (fail)
  go_wp2
  go_ret
  exact ⟨zq10, zq11⟩

/-- The first cell, along a side, that a span from lo on touches. -/
def firstI (c lo : Int) : Int := if 0 < lo / c ∧ lo % c = 0 then lo / c - 1 else lo / c
def numI (c : Int) (a : S27) (most : Int) : Int × Int := (min (firstI c a.f0) (most - 1), min (a.f1 / c) (most - 1))
theorem div_in {x c : Int} (h0 : 0 ≤ x) (hc : 1 ≤ c) : 0 ≤ x / c ∧ x / c ≤ x :=
 ⟨Int.ediv_nonneg h0 (by omega), Int.ediv_le_self _ h0⟩
theorem mod_in {x c : Int} (hc : 1 ≤ c) : 0 ≤ x % c ∧ x % c ≤ c := by
 have h1 := Int.emod_nonneg x (show c ≠ 0 by omega)
 have h2 := Int.emod_lt_of_pos x (show 0 < c by omega)
 omega
set_option maxRecDepth 100000 in
set_option maxHeartbeats 2000000 in
theorem numbers_any (b : Nat) (s : Sea) (v : Veh) (a : S27) (most : Int) (w : World) (hT : TripAt w b s v) (hS : SeaN s) (h0 : 0 ≤ a.f0) (h1 : a.f0 ≤ 1099511627776) (h2 : 0 ≤ a.f1) (h3 : a.f1 ≤ 1099511627776) (hm0 : 1 ≤ most) (hm1 : most ≤ 12) :
  Calls Try.prog 136 #[.pointer (some ⟨b, 0, none⟩), .agg #[.int .i64 a.f0, .int .i64 a.f1], .int .i64 most] w (RetB (.tuple #[.int .i64 (numI s.cell a most).1, .int .i64 (numI s.cell a most).2]) w) := by
 obtain ⟨A7, c7, A8, c8, hB, _⟩ := hT
 have hc := hS.cell
 have hd := div_in h0 (show 1 ≤ s.cell by omega)
 have hd2 := div_in h2 (show 1 ≤ s.cell by omega)
 have hr := mod_in (x := a.f0) (show 1 ≤ s.cell by omega)
 have hne : s.cell ≠ 0 := by omega
 have hbq : (s.cell == 0) = false := beq_eq_false_iff_ne.2 hne
 clear hS
 have hC2 : ∀ o_, (w.alloc o_).cell? ⟨b, 2, none⟩ = some (.int .i64 s.cell) := fun o_ => (blk_cell (blk_alloc hB o_) 2).trans rfl
 have e1 : Int.tdiv a.f0 s.cell = a.f0 / s.cell := Int.tdiv_eq_ediv_of_nonneg h0
 have e2 : Int.tdiv a.f1 s.cell = a.f1 / s.cell := Int.tdiv_eq_ediv_of_nonneg h2
 have e3 : Int.tmod a.f0 s.cell = a.f0 % s.cell := Int.tmod_eq_emod_of_nonneg h0
 have HR : Hid (numI s.cell a most = (min (firstI s.cell a.f0) (most - 1), min (a.f1 / s.cell) (most - 1))) := Lib.hid rfl
 have HF : Hid (firstI s.cell a.f0 = if 0 < a.f0 / s.cell ∧ a.f0 % s.cell = 0 then a.f0 / s.cell - 1 else a.f0 / s.cell) := Lib.hid rfl
 generalize a.f0 / s.cell = Q at *
 generalize a.f1 / s.cell = R at *
 generalize a.f0 % s.cell = M at *
 by_cases q0 : 0 < Q
 ·have q0_ : decide (0 < Q) = true := decide_eq_true q0
  by_cases q1 : M = 0
  ·have q1_ : (M == 0) = true := beq_iff_eq.2 q1
   have HG := Lib.hid (HF.out.trans (if_pos ⟨q0, q1⟩))
   clear q1 HF
   go_enter Try.func136, Try.ntmps136
   go_wp2
   go_quiet (fail)
   go_wp2
   go_quiet (fail)
   go_wp2
   go_quiet (fail)
   go_wp2
   all_goals (go_ret2; exact ⟨ret_two (by rw [HR.out]; dsimp only; rw [HG.out]; omega) (by rw [HR.out]; dsimp only; omega), zq11⟩)
  ·have q1_ : (M == 0) = false := beq_eq_false_iff_ne.2 q1
   have HG := Lib.hid (HF.out.trans (if_neg (fun h => q1 h.2)))
   clear q1 HF
   go_enter Try.func136, Try.ntmps136
   go_wp2
   go_quiet (fail)
   go_wp2
   go_quiet (fail)
   go_wp2
   go_quiet (fail)
   go_wp2
   all_goals (go_ret2; exact ⟨ret_two (by rw [HR.out]; dsimp only; rw [HG.out]; omega) (by rw [HR.out]; dsimp only; omega), zq11⟩)
 ·have q0_ : decide (0 < Q) = false := decide_eq_false q0
  have HG := Lib.hid (HF.out.trans (if_neg (fun h => q0 h.1)))
  clear HF
  go_enter Try.func136, Try.ntmps136
  go_wp2
  go_quiet (fail)
  go_wp2
  go_quiet (fail)
  go_wp2
  go_quiet (fail)
  go_wp2
  all_goals (go_ret2; exact ⟨ret_two (by rw [HR.out]; dsimp only; rw [HG.out]; omega) (by rw [HR.out]; dsimp only; omega), zq11⟩)
end Go.Proofs.Ytmhaiihjfgfaoaa.Gl
end
