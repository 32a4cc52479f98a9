/- Part 13 of the proof of TopSearched: what the functions compute. No condition. -/
import Derived.Test.YthglkoddmpicdaaTsTopSearched3
import Derived.Test.YthglkoddmpicdaaTsTopSearched4
import Derived.Test.YthglkoddmpicdaaTsTopSearched12
import Derived.Test.YthglkoddmpicdaaTsTopSearched5
import Derived.Test.YthglkoddmpicdaaTsTopSearched7
import Derived.Test.YthglkoddmpicdaaTsTopSearched11
set_option linter.unusedVariables false
set_option linter.unusedSimpArgs false
section
namespace Go.Proofs.Ythglkoddmpicdaa.Pr
open Go.RowKit Go.Proofs.YthglkoddmpicdaaW.PrintWords Go.Proofs.YthglkoddmpicdaaW.PrintLast Go.Proofs.YthglkoddmpicdaaW.PrintMore
attribute [local go_sem] max2_int min2_int max_two min_two max_four
set_option linter.unusedVariables false
set_option linter.unusedSimpArgs false

/-! ### glider_fetched: function 66 -/
def glider_fetched.l0 : Nat → Int → Int → List (S29) → Int → Int → Int → Int → Int → Int → Int → Int → Int → Int → Int → Int → Int → Int → Int → Option (Int)
 | 0, _, _, _, _, _, _, _, _, _, _, _, _, _, _, _, _, _, _ => none
 | k + 1, x1, x9, x12, x13, x14, x295000, x295001, x295002, x295003, x295004, x295005, x295006, x296000, x296001, x296002, x296003, x296004, x296005 => if x14 < x13 then (if 0 ≤ x14 then (if x14 < (x12.length : Int) then ((glider_between.f (wrap64 (x1 + x295001)) x296004 x296005).bind fun t298 => (if t298 = true then ((glider_inside.f ((rd_T29 x12 x14).f0.f0) ((rd_T29 x12 x14).f0.f1) ((rd_T29 x12 x14).f1.f0) ((rd_T29 x12 x14).f1.f1) x296000 x296001 x296002 x296003).bind fun t299 => (glider_fetched.l0 k (wrap64 (x1 + x295001)) (mx x9 t299) x12 x13 (wrap64 (x14 + 1)) x295000 x295001 x295002 x295003 x295004 x295005 x295006 x296000 x296001 x296002 x296003 x296004 x296005)) else (glider_fetched.l0 k (wrap64 (x1 + x295001)) x9 x12 x13 (wrap64 (x14 + 1)) x295000 x295001 x295002 x295003 x295004 x295005 x295006 x296000 x296001 x296002 x296003 x296004 x296005))) else (none)) else (none)) else (some x9)
def glider_fetched.f (k : Nat) (a0_0 : Int) (a0_1 : Int) (a0_2 : Int) (a0_3 : Int) (a0_4 : Int) (a0_5 : Int) (a0_6 : Int) (a1 : Int) (l2 : List (S29)) (a3_0 : Int) (a3_1 : Int) (a3_2 : Int) (a3_3 : Int) (a3_4 : Int) (a3_5 : Int) : Option (Int) := glider_fetched.l0 k a1 0 l2 (l2.length : Int) 0 a0_0 a0_1 a0_2 a0_3 a0_4 a0_5 a0_6 a3_0 a3_1 a3_2 a3_3 a3_4 a3_5
set_option maxHeartbeats 8000000 in
set_option maxRecDepth 100000 in
theorem glider_fetched.calls (k : Nat) (a0_0 : Int) (a0_1 : Int) (a0_2 : Int) (a0_3 : Int) (a0_4 : Int) (a0_5 : Int) (a0_6 : Int) (a1 : Int) (A2 : Option Addr) (c2 : Nat) (l2 : List (S29)) (a3_0 : Int) (a3_1 : Int) (a3_2 : Int) (a3_3 : Int) (a3_4 : Int) (a3_5 : Int) (r : Int) (w : World) (hr2 : Kd.C k29 w A2 l2.length l2) (hc2 : l2.length ≤ c2) (h : glider_fetched.f k a0_0 a0_1 a0_2 a0_3 a0_4 a0_5 a0_6 a1 l2 a3_0 a3_1 a3_2 a3_3 a3_4 a3_5 = some r) :
  Calls Try.prog 66 #[.agg #[.int .i64 a0_0, .int .i64 a0_1, .int .i64 a0_2, .int .i64 a0_3, .int .i64 a0_4, .int .i64 a0_5, .int .i64 a0_6], .int .i64 a1, .slice A2 l2.length c2, .agg #[.int .i64 a3_0, .int .i64 a3_1, .int .i64 a3_2, .int .i64 a3_3, .int .i64 a3_4, .int .i64 a3_5]] w fun e w' => e = .returned (.int .i64 r) ∧ Below w.heap.size w w' := by
 have hu41 := Try.underlying41
 have hu44 := Try.underlying44
 have hu29 := Try.underlying29
 have HR2 := Aside0.mk hr2
 have HC2 := Aside0.mk hc2
 clear hr2 hc2
 have HB := Aside0.mk (Below.refl w.heap.size w)
 have H : (glider_fetched.l0 k a1 0 l2 (l2.length : Int) 0 a0_0 a0_1 a0_2 a0_3 a0_4 a0_5 a0_6 a3_0 a3_1 a3_2 a3_3 a3_4 a3_5) = some r := h
 clear h
 have H' := Aside0.mk H
 clear H
 go_enter Try.func66, Try.ntmps66
 go_wp2_with (first | ((with_reducible refine gate_dst (N := 4) rfl ?_); refine box_event (by rfl) (N := 4) (by rfl) (cs := #[.int .i64 a0_0, .int .i64 a0_1, .int .i64 a0_2, .int .i64 a0_3, .int .i64 a0_4, .int .i64 a0_5, .int .i64 a0_6]) (t := 41) zq1 ?_; intro gb294 hg w5 hbox hb; have BK294 := Aside0.mk (hbox); have GW294 := zgs HB hg; have GE294 := zgs HB hg; replace HB := zbs HB hb; clear hb hbox hg) | ((with_reducible refine gate_dst (N := 7) rfl ?_); refine box_event (by rfl) (N := 7) (by rfl) (cs := #[.int .i64 a3_0, .int .i64 a3_1, .int .i64 a3_2, .int .i64 a3_3, .int .i64 a3_4, .int .i64 a3_5]) (t := 44) zq1 ?_; intro gb295 hg w6 hbox hb; have BK295 := Aside0.mk (hbox); have GW295 := zgs HB hg; have GE295 := zgs HB hg; have NB294_295 := znp BK294 hg; have NB295_294 := znq BK294 hg; replace BK294 := zbb BK294 hb; replace HB := zbs HB hb; clear hb hbox hg))
 go_loopg [1, 9, 14] k (fun kq v1 v9 v14 w' => ∃ (x1_1 : Int) (x9_1 : Int) (x14_1 : Int), v1 = .int .i64 x1_1 ∧ v9 = .int .i64 x9_1 ∧ v14 = .int .i64 x14_1 ∧ Aside0 (glider_fetched.l0 kq x1_1 x9_1 l2 (l2.length : Int) x14_1 a0_0 a0_1 a0_2 a0_3 a0_4 a0_5 a0_6 a3_0 a3_1 a3_2 a3_3 a3_4 a3_5 = some r) ∧ Aside0 (kq ≤ k) ∧ Aside0 (w'.heap[gb294]? = some (.cells #[.int .i64 a0_0, .int .i64 a0_1, .int .i64 a0_2, .int .i64 a0_3, .int .i64 a0_4, .int .i64 a0_5, .int .i64 a0_6] 41 (0, 0))) ∧ Aside0 (w'.heap[gb295]? = some (.cells #[.int .i64 a3_0, .int .i64 a3_1, .int .i64 a3_2, .int .i64 a3_3, .int .i64 a3_4, .int .i64 a3_5] 44 (0, 0))) ∧ Aside0 (Below w.heap.size w w'))
 case atStart => exact ⟨(a1), (0), (0), zq4, zq4, zq4, H', ⟨Nat.le_refl _⟩, ⟨zbf⟩, ⟨zbf⟩, ⟨zbz⟩⟩
 case round =>
  clear H'
  try clear c2
  try clear p2
  try clear c6
  obtain ⟨x1_1, x9_1, x14_1, rfl, rfl, rfl, HA, HK1, BK294, BK295, HB⟩ := hrel
  cases gk with
  | zero => exact absurd HA.out (by simp [glider_fetched.l0])
  | succ k1 =>
   have H := HA.out
   clear HA
   simp only [glider_fetched.l0] at H
   by_cases c7 : x14_1 < (l2.length : Int)
   ·rw [if_pos c7] at H
    have c7b0 : decide (x14_1 < (l2.length : Int)) = true := decide_eq_true c7
    clear c7
    by_cases c8 : 0 ≤ x14_1
    ·rw [if_pos c8] at H
     have c8b0 : decide (0 ≤ x14_1) = true := decide_eq_true c8
     clear c8
     by_cases c9 : x14_1 < (l2.length : Int)
     ·rw [if_pos c9] at H
      have c9b0 : decide (x14_1 < (l2.length : Int)) = true := decide_eq_true c9
      clear c9
      replace H := Option.bind_eq_some_iff.mp H
      obtain ⟨t298, A100, H⟩ := H
      replace H : (if t298 = true then ((glider_inside.f ((rd_T29 l2 x14_1).f0.f0) ((rd_T29 l2 x14_1).f0.f1) ((rd_T29 l2 x14_1).f1.f0) ((rd_T29 l2 x14_1).f1.f1) a3_0 a3_1 a3_2 a3_3).bind fun t299 => (glider_fetched.l0 k1 (wrap64 (x1_1 + a0_1)) (mx x9_1 t299) l2 (l2.length : Int) (wrap64 (x14_1 + 1)) a0_0 a0_1 a0_2 a0_3 a0_4 a0_5 a0_6 a3_0 a3_1 a3_2 a3_3 a3_4 a3_5)) else (glider_fetched.l0 k1 (wrap64 (x1_1 + a0_1)) x9_1 l2 (l2.length : Int) (wrap64 (x14_1 + 1)) a0_0 a0_1 a0_2 a0_3 a0_4 a0_5 a0_6 a3_0 a3_1 a3_2 a3_3 a3_4 a3_5)) = some r := H
      have A10 := Aside0.mk A100
      clear A100
      by_cases c11 : t298 = true
      ·subst c11
       have H1 : ((glider_inside.f ((rd_T29 l2 x14_1).f0.f0) ((rd_T29 l2 x14_1).f0.f1) ((rd_T29 l2 x14_1).f1.f0) ((rd_T29 l2 x14_1).f1.f1) a3_0 a3_1 a3_2 a3_3).bind fun t299 => (glider_fetched.l0 k1 (wrap64 (x1_1 + a0_1)) (mx x9_1 t299) l2 (l2.length : Int) (wrap64 (x14_1 + 1)) a0_0 a0_1 a0_2 a0_3 a0_4 a0_5 a0_6 a3_0 a3_1 a3_2 a3_3 a3_4 a3_5)) = some r := by rw [if_pos rfl] at H; exact H
       clear H
       have H := H1
       clear H1
       replace H := Option.bind_eq_some_iff.mp H
       obtain ⟨t299, A120, H⟩ := H
       replace H : (glider_fetched.l0 k1 (wrap64 (x1_1 + a0_1)) (mx x9_1 t299) l2 (l2.length : Int) (wrap64 (x14_1 + 1)) a0_0 a0_1 a0_2 a0_3 a0_4 a0_5 a0_6 a3_0 a3_1 a3_2 a3_3 a3_4 a3_5) = some r := H
       have A12 := Aside0.mk A120
       clear A120
       obtain ⟨ji13, hji13⟩ : ∃ j_ : Int, (mx x9_1 t299) = j_ := ⟨_, rfl⟩
       replace H : (glider_fetched.l0 k1 (wrap64 (x1_1 + a0_1)) ji13 l2 (l2.length : Int) (wrap64 (x14_1 + 1)) a0_0 a0_1 a0_2 a0_3 a0_4 a0_5 a0_6 a3_0 a3_1 a3_2 a3_3 a3_4 a3_5) = some r := by first | (rw [hji13] at H; exact H) | (simp only [hji13] at H ⊢; exact H)
       (try rw [hji13] at A10)
       (try rw [hji13] at A12)
       have hji13_ : (if x9_1 < t299 then t299 else x9_1) = ji13 := hji13
       have H' := Aside0.mk H
       clear H
       have p296 : 0 ≤ (x14_1 : Int) := of_decide_eq_true zq5
       have q296 : x14_1 < (l2.length : Int) := of_decide_eq_true zq5
       obtain ⟨ad296, e296, hx296_0, hx296_1, hx296_2, hx296_3⟩ := at_T29 HR2.out x14_1 p296 q296
       cases e296
       replace hx296_0 := (HB.out.cell (World.block_lt_of_cell? w _ hx296_0)).trans hx296_0
       replace hx296_1 := (HB.out.cell (World.block_lt_of_cell? w _ hx296_1)).trans hx296_1
       replace hx296_2 := (HB.out.cell (World.block_lt_of_cell? w _ hx296_2)).trans hx296_2
       replace hx296_3 := (HB.out.cell (World.block_lt_of_cell? w _ hx296_3)).trans hx296_3
       replace p296 := eq_true p296
       replace q296 := eq_true q296
       go_wp2_with (first | ((with_reducible refine gate_dst (N := 11) rfl ?_); refine box_event (by rfl) (N := 11) (by rfl) (cs := #[.int .i64 0, .int .i64 0, .int .i64 0, .int .i64 0]) (t := 29) zq1 ?_; intro gb297 hg w14 hbox hb; have BK297 := Aside0.mk (hbox); have GW297 := zgs HB hg; have GE297 := zgs HB hg; have NB294_297 := znp BK294 hg; have NB297_294 := znq BK294 hg; have NB295_297 := znp BK295 hg; have NB297_295 := znq BK295 hg; replace BK294 := zbb BK294 hb; replace BK295 := zbb BK295 hb; replace HB := zbs HB hb; clear hb hbox hg; have hnb15 := NB297_294.out; have hnc15 := NB294_297.out; have hnb16 := NB297_295.out; have hnc16 := NB295_297.out; obtain ⟨hcz17_0, hcz17_1, hcz17_2, hcz17_3, hfz17_0, hfz17_1, hfz17_2, hfz17_3⟩ := zce4 BK297.out; have hnb18 := NB294_295.out; have hnc18 := NB295_294.out; obtain ⟨hcz19_0, hcz19_1, hcz19_2, hcz19_3, hcz19_4, hcz19_5, hcz19_6, hfz19_0, hfz19_1, hfz19_2, hfz19_3, hfz19_4, hfz19_5, hfz19_6⟩ := zce7 BK294.out; obtain ⟨hcz20_0, hcz20_1, hcz20_2, hcz20_3, hcz20_4, hcz20_5, hfz20_0, hfz20_1, hfz20_2, hfz20_3, hfz20_4, hfz20_5⟩ := zce6 BK295.out) | ((with_reducible refine gate_callee (f := 63) rfl ?_); refine goesL_ (some 27) rfl rfl Try.func63 zq3 rfl #[.int .i64 (wrap64 (x1_1 + a0_1)), .int .i64 a3_4, .int .i64 a3_5] rfl zq8 ?_; (with_reducible refine (glider_between.calls (wrap64 (x1_1 + a0_1)) a3_4 a3_5 true _ A10.out).mono ?_); rintro e w' ⟨rfl, ⟨nd, rfl⟩⟩; refine ⟨_, rfl, ?_⟩) | ((with_reducible refine gate_callee (f := 72) rfl ?_); refine goesL_ (some 32) rfl rfl Try.func72 zq3 rfl #[.agg #[.int .i64 ((rd_T29 l2 x14_1).f0.f0), .int .i64 ((rd_T29 l2 x14_1).f0.f1), .int .i64 ((rd_T29 l2 x14_1).f1.f0), .int .i64 ((rd_T29 l2 x14_1).f1.f1)], .agg #[.int .i64 a3_0, .int .i64 a3_1, .int .i64 a3_2, .int .i64 a3_3]] rfl zq8 ?_; (with_reducible refine (glider_inside.calls ((rd_T29 l2 x14_1).f0.f0) ((rd_T29 l2 x14_1).f0.f1) ((rd_T29 l2 x14_1).f1.f0) ((rd_T29 l2 x14_1).f1.f1) a3_0 a3_1 a3_2 a3_3 t299 _ A12.out).mono ?_); rintro e w21 ⟨rfl, hb⟩; refine ⟨_, rfl, ?_⟩; have n0_ := zbb BK294 hb; have n1_ := zbb BK295 hb; have n2_ := Aside0.mk (blk_below (g := gb297) (o := .cells #[.int .i64 ((rd_T29 l2 x14_1).f0.f0), .int .i64 ((rd_T29 l2 x14_1).f0.f1), .int .i64 ((rd_T29 l2 x14_1).f1.f0), .int .i64 ((rd_T29 l2 x14_1).f1.f1)] 29 (0, 0)) (by (with_reducible repeat (first | refine blk_drewN ?_ _ | refine blk_drew ?_ | refine blk_alloc ?_ _)); refine blk_put (cs := #[.int .i64 ((rd_T29 l2 x14_1).f0.f0), .int .i64 ((rd_T29 l2 x14_1).f0.f1), .int .i64 ((rd_T29 l2 x14_1).f1.f0), .int .i64 0]) ?_ 3 _ rfl; (with_reducible repeat (first | refine blk_drewN ?_ _ | refine blk_drew ?_ | refine blk_alloc ?_ _)); refine blk_put (cs := #[.int .i64 ((rd_T29 l2 x14_1).f0.f0), .int .i64 ((rd_T29 l2 x14_1).f0.f1), .int .i64 0, .int .i64 0]) ?_ 2 _ rfl; (with_reducible repeat (first | refine blk_drewN ?_ _ | refine blk_drew ?_ | refine blk_alloc ?_ _)); refine blk_put (cs := #[.int .i64 ((rd_T29 l2 x14_1).f0.f0), .int .i64 0, .int .i64 0, .int .i64 0]) ?_ 1 _ rfl; (with_reducible repeat (first | refine blk_drewN ?_ _ | refine blk_drew ?_ | refine blk_alloc ?_ _)); refine blk_put (cs := #[.int .i64 0, .int .i64 0, .int .i64 0, .int .i64 0]) ?_ 0 _ rfl; (with_reducible repeat (first | refine blk_drewN ?_ _ | refine blk_drew ?_ | refine blk_alloc ?_ _)); exact BK297.out) hb); have n3_ := zbs HB hb; clear BK294; clear BK295; clear BK297; clear HB; have BK294 := n0_; have BK295 := n1_; have BK297 := n2_; have HB := n3_; clear n0_ n1_ n2_ n3_; (try clear hb); (try clear hb2); (try clear hk); (try clear hi)))
       go_roundg k1
       case measure => have := HK1.out; omega
       case rel => exact ⟨(wrap64 (x1_1 + a0_1)), (ji13), (wrap64 (x14_1 + 1)), zq4, (by first | rfl | (simp; done) | (simp only [← hji13] <;> (first | rfl | simp)) | (simp [*]; done)), zq4, H', ⟨zq6⟩, ⟨zbf⟩, ⟨zbf⟩, ⟨zbz⟩⟩
      ·replace c11 := Bool.eq_false_iff.mpr c11
       subst c11
       have H1 : (glider_fetched.l0 k1 (wrap64 (x1_1 + a0_1)) x9_1 l2 (l2.length : Int) (wrap64 (x14_1 + 1)) a0_0 a0_1 a0_2 a0_3 a0_4 a0_5 a0_6 a3_0 a3_1 a3_2 a3_3 a3_4 a3_5) = some r := by rw [if_neg (show ¬ (false = true) by decide)] at H; exact H
       clear H
       have H := H1
       clear H1
       have H' := Aside0.mk H
       clear H
       have p296 : 0 ≤ (x14_1 : Int) := of_decide_eq_true zq5
       have q296 : x14_1 < (l2.length : Int) := of_decide_eq_true zq5
       obtain ⟨ad296, e296, hx296_0, hx296_1, hx296_2, hx296_3⟩ := at_T29 HR2.out x14_1 p296 q296
       cases e296
       replace hx296_0 := (HB.out.cell (World.block_lt_of_cell? w _ hx296_0)).trans hx296_0
       replace hx296_1 := (HB.out.cell (World.block_lt_of_cell? w _ hx296_1)).trans hx296_1
       replace hx296_2 := (HB.out.cell (World.block_lt_of_cell? w _ hx296_2)).trans hx296_2
       replace hx296_3 := (HB.out.cell (World.block_lt_of_cell? w _ hx296_3)).trans hx296_3
       replace p296 := eq_true p296
       replace q296 := eq_true q296
       go_wp2_with (first | ((with_reducible refine gate_dst (N := 11) rfl ?_); refine box_event (by rfl) (N := 11) (by rfl) (cs := #[.int .i64 0, .int .i64 0, .int .i64 0, .int .i64 0]) (t := 29) zq1 ?_; intro gb297 hg w22 hbox hb; have BK297 := Aside0.mk (hbox); have GW297 := zgs HB hg; have GE297 := zgs HB hg; have NB294_297 := znp BK294 hg; have NB297_294 := znq BK294 hg; have NB295_297 := znp BK295 hg; have NB297_295 := znq BK295 hg; replace BK294 := zbb BK294 hb; replace BK295 := zbb BK295 hb; replace HB := zbs HB hb; clear hb hbox hg; have hnb23 := NB297_294.out; have hnc23 := NB294_297.out; have hnb24 := NB297_295.out; have hnc24 := NB295_297.out; obtain ⟨hcz25_0, hcz25_1, hcz25_2, hcz25_3, hfz25_0, hfz25_1, hfz25_2, hfz25_3⟩ := zce4 BK297.out; have hnb26 := NB294_295.out; have hnc26 := NB295_294.out; obtain ⟨hcz27_0, hcz27_1, hcz27_2, hcz27_3, hcz27_4, hcz27_5, hcz27_6, hfz27_0, hfz27_1, hfz27_2, hfz27_3, hfz27_4, hfz27_5, hfz27_6⟩ := zce7 BK294.out; obtain ⟨hcz28_0, hcz28_1, hcz28_2, hcz28_3, hcz28_4, hcz28_5, hfz28_0, hfz28_1, hfz28_2, hfz28_3, hfz28_4, hfz28_5⟩ := zce6 BK295.out) | ((with_reducible refine gate_callee (f := 63) rfl ?_); refine goesL_ (some 27) rfl rfl Try.func63 zq3 rfl #[.int .i64 (wrap64 (x1_1 + a0_1)), .int .i64 a3_4, .int .i64 a3_5] rfl zq8 ?_; (with_reducible refine (glider_between.calls (wrap64 (x1_1 + a0_1)) a3_4 a3_5 false _ A10.out).mono ?_); rintro e w' ⟨rfl, ⟨nd, rfl⟩⟩; refine ⟨_, rfl, ?_⟩))
       go_roundg k1
       case measure => have := HK1.out; omega
       case rel => exact ⟨(wrap64 (x1_1 + a0_1)), (x9_1), (wrap64 (x14_1 + 1)), zq4, zq4, zq4, H', ⟨zq6⟩, ⟨zbf⟩, ⟨zbf⟩, ⟨zbz⟩⟩
     ·rw [if_neg c9] at H
      exact absurd H (by simp)
    ·rw [if_neg c8] at H
     exact absurd H (by simp)
   ·rw [if_neg c7] at H
    have c7b0 : decide (x14_1 < (l2.length : Int)) = false := decide_eq_false c7
    clear c7
    obtain rfl := Option.some.inj H
    go_wp2
    go_ret
    exact ⟨zq2, zbz⟩

end Go.Proofs.Ythglkoddmpicdaa.Pr
end
section
/- The contracts of exported functions, as the printed texts ask for them. -/
namespace Go.Proofs.Ythglkoddmpicdaa.Pr
open Go.RowKit Go.Proofs.YthglkoddmpicdaaW.PrintWords Go.Proofs.YthglkoddmpicdaaW.PrintLast Go.Proofs.YthglkoddmpicdaaW.PrintMore Go.Proofs.Ythglkoddmpicdaa.Gl
set_option linter.unusedVariables false
def glider_checkBoxes.f (l0 : List (S29)) : Option (Int) := some (boxesE l0)
theorem glider_checkBoxes.calls (A0 : Option Addr) (c0 : Nat) (l0 : List (S29)) (r : Int) (w : World) (hr0 : Kd.C k29 w A0 l0.length l0) (hc0 : l0.length ≤ c0) (h : glider_checkBoxes.f l0 = some r) :
  Calls Try.prog 64 #[.slice A0 l0.length c0] w fun e w' => e = .returned (.int .i64 r) ∧ Below w.heap.size w w' := by
 cases h
 exact boxes_any A0 c0 l0 w hr0 hc0
end Go.Proofs.Ythglkoddmpicdaa.Pr
end
section
namespace Go.Proofs.Ythglkoddmpicdaa.Pr
open Go.RowKit Go.Proofs.YthglkoddmpicdaaW.PrintWords Go.Proofs.YthglkoddmpicdaaW.PrintLast Go.Proofs.YthglkoddmpicdaaW.PrintMore
attribute [local go_sem] max2_int min2_int max_two min_two max_four
set_option linter.unusedVariables false
set_option linter.unusedSimpArgs false

/-! ### glider_Fetched: function 17 -/
def glider_Fetched.f (k : Nat) (a0_0 : Int) (a0_1 : Int) (a0_2 : Int) (a0_3 : Int) (a0_4 : Int) (a0_5 : Int) (a0_6 : Int) (a1 : Int) (l2 : List (S29)) (a3_0 : Int) (a3_1 : Int) (a3_2 : Int) (a3_3 : Int) (a3_4 : Int) (a3_5 : Int) : Option (Int × Int) := (glider_CheckVehicle.f k a0_0 a0_1 a0_2 a0_3 a0_4 a0_5 a0_6).bind fun t302 => (if t302 = 0 then ((glider_between.f a1 0 1073741824).bind fun t303 => (if t303 = true then ((glider_checkBoxes.f l2).bind fun t304 => (if t304 = 0 then ((glider_validPickup.f k a3_0 a3_1 a3_2 a3_3 a3_4 a3_5).bind fun t305 => (if t305 = true then ((glider_fetched.f k a0_0 a0_1 a0_2 a0_3 a0_4 a0_5 a0_6 a1 l2 a3_0 a3_1 a3_2 a3_3 a3_4 a3_5).bind fun t306 => (some (t306, 0))) else (some (0, 2)))) else (some (0, t304)))) else (some (0, 3)))) else (some (0, t302)))
set_option maxHeartbeats 8000000 in
set_option maxRecDepth 100000 in
theorem glider_Fetched.calls (k : Nat) (a0_0 : Int) (a0_1 : Int) (a0_2 : Int) (a0_3 : Int) (a0_4 : Int) (a0_5 : Int) (a0_6 : Int) (a1 : Int) (A2 : Option Addr) (c2 : Nat) (l2 : List (S29)) (a3_0 : Int) (a3_1 : Int) (a3_2 : Int) (a3_3 : Int) (a3_4 : Int) (a3_5 : Int) (r1 : Int) (r2 : Int) (w : World) (hr2 : Kd.C k29 w A2 l2.length l2) (hc2 : l2.length ≤ c2) (h : glider_Fetched.f k a0_0 a0_1 a0_2 a0_3 a0_4 a0_5 a0_6 a1 l2 a3_0 a3_1 a3_2 a3_3 a3_4 a3_5 = some (r1, r2)) :
  Calls Try.prog 17 #[.agg #[.int .i64 a0_0, .int .i64 a0_1, .int .i64 a0_2, .int .i64 a0_3, .int .i64 a0_4, .int .i64 a0_5, .int .i64 a0_6], .int .i64 a1, .slice A2 l2.length c2, .agg #[.int .i64 a3_0, .int .i64 a3_1, .int .i64 a3_2, .int .i64 a3_3, .int .i64 a3_4, .int .i64 a3_5]] w fun e w' => e = .returned (.tuple #[.int .i64 r1, .int .i64 r2]) ∧ Below w.heap.size w w' := by
 have hu41 := Try.underlying41
 have hu44 := Try.underlying44
 have HR2 := Aside0.mk hr2
 have HC2 := Aside0.mk hc2
 clear hr2 hc2
 have HB := Aside0.mk (Below.refl w.heap.size w)
 have H : ((glider_CheckVehicle.f k a0_0 a0_1 a0_2 a0_3 a0_4 a0_5 a0_6).bind fun t302 => (if t302 = 0 then ((glider_between.f a1 0 1073741824).bind fun t303 => (if t303 = true then ((glider_checkBoxes.f l2).bind fun t304 => (if t304 = 0 then ((glider_validPickup.f k a3_0 a3_1 a3_2 a3_3 a3_4 a3_5).bind fun t305 => (if t305 = true then ((glider_fetched.f k a0_0 a0_1 a0_2 a0_3 a0_4 a0_5 a0_6 a1 l2 a3_0 a3_1 a3_2 a3_3 a3_4 a3_5).bind fun t306 => (some (t306, 0))) else (some (0, 2)))) else (some (0, t304)))) else (some (0, 3)))) else (some (0, t302)))) = some (r1, r2) := h
 clear h
 replace H := Option.bind_eq_some_iff.mp H
 obtain ⟨t302, A50, H⟩ := H
 replace H : (if t302 = 0 then ((glider_between.f a1 0 1073741824).bind fun t303 => (if t303 = true then ((glider_checkBoxes.f l2).bind fun t304 => (if t304 = 0 then ((glider_validPickup.f k a3_0 a3_1 a3_2 a3_3 a3_4 a3_5).bind fun t305 => (if t305 = true then ((glider_fetched.f k a0_0 a0_1 a0_2 a0_3 a0_4 a0_5 a0_6 a1 l2 a3_0 a3_1 a3_2 a3_3 a3_4 a3_5).bind fun t306 => (some (t306, 0))) else (some (0, 2)))) else (some (0, t304)))) else (some (0, 3)))) else (some (0, t302))) = some (r1, r2) := H
 have A5 := Aside0.mk A50
 clear A50
 by_cases c6 : t302 = 0
 ·rw [if_pos c6] at H
  have c6b0 : (t302 == 0) = true := beq_iff_eq.mpr c6
  have c6b1 : (t302 != 0) = false := bne_eq_false_iff_eq.mpr c6
  clear c6
  replace H := Option.bind_eq_some_iff.mp H
  obtain ⟨t303, A70, H⟩ := H
  replace H : (if t303 = true then ((glider_checkBoxes.f l2).bind fun t304 => (if t304 = 0 then ((glider_validPickup.f k a3_0 a3_1 a3_2 a3_3 a3_4 a3_5).bind fun t305 => (if t305 = true then ((glider_fetched.f k a0_0 a0_1 a0_2 a0_3 a0_4 a0_5 a0_6 a1 l2 a3_0 a3_1 a3_2 a3_3 a3_4 a3_5).bind fun t306 => (some (t306, 0))) else (some (0, 2)))) else (some (0, t304)))) else (some (0, 3))) = some (r1, r2) := H
  have A7 := Aside0.mk A70
  clear A70
  by_cases c8 : t303 = true
  ·subst c8
   have H1 : ((glider_checkBoxes.f l2).bind fun t304 => (if t304 = 0 then ((glider_validPickup.f k a3_0 a3_1 a3_2 a3_3 a3_4 a3_5).bind fun t305 => (if t305 = true then ((glider_fetched.f k a0_0 a0_1 a0_2 a0_3 a0_4 a0_5 a0_6 a1 l2 a3_0 a3_1 a3_2 a3_3 a3_4 a3_5).bind fun t306 => (some (t306, 0))) else (some (0, 2)))) else (some (0, t304)))) = some (r1, r2) := by rw [if_pos rfl] at H; exact H
   clear H
   have H := H1
   clear H1
   replace H := Option.bind_eq_some_iff.mp H
   obtain ⟨t304, A90, H⟩ := H
   replace H : (if t304 = 0 then ((glider_validPickup.f k a3_0 a3_1 a3_2 a3_3 a3_4 a3_5).bind fun t305 => (if t305 = true then ((glider_fetched.f k a0_0 a0_1 a0_2 a0_3 a0_4 a0_5 a0_6 a1 l2 a3_0 a3_1 a3_2 a3_3 a3_4 a3_5).bind fun t306 => (some (t306, 0))) else (some (0, 2)))) else (some (0, t304))) = some (r1, r2) := H
   have A9 := Aside0.mk A90
   clear A90
   by_cases c10 : t304 = 0
   ·rw [if_pos c10] at H
    have c10b0 : (t304 == 0) = true := beq_iff_eq.mpr c10
    have c10b1 : (t304 != 0) = false := bne_eq_false_iff_eq.mpr c10
    clear c10
    replace H := Option.bind_eq_some_iff.mp H
    obtain ⟨t305, A110, H⟩ := H
    replace H : (if t305 = true then ((glider_fetched.f k a0_0 a0_1 a0_2 a0_3 a0_4 a0_5 a0_6 a1 l2 a3_0 a3_1 a3_2 a3_3 a3_4 a3_5).bind fun t306 => (some (t306, 0))) else (some (0, 2))) = some (r1, r2) := H
    have A11 := Aside0.mk A110
    clear A110
    by_cases c12 : t305 = true
    ·subst c12
     have H1 : ((glider_fetched.f k a0_0 a0_1 a0_2 a0_3 a0_4 a0_5 a0_6 a1 l2 a3_0 a3_1 a3_2 a3_3 a3_4 a3_5).bind fun t306 => (some (t306, 0))) = some (r1, r2) := by rw [if_pos rfl] at H; exact H
     clear H
     have H := H1
     clear H1
     replace H := Option.bind_eq_some_iff.mp H
     obtain ⟨t306, A130, H⟩ := H
     replace H : (some (t306, 0)) = some (r1, r2) := H
     have A13 := Aside0.mk A130
     clear A130
     simp only [Option.some.injEq, Prod.mk.injEq] at H
     obtain ⟨rfl, rfl⟩ := H
     go_enter Try.func17, Try.ntmps17
     go_wp2_with (first | ((with_reducible refine gate_dst (N := 4) rfl ?_); refine box_event (by rfl) (N := 4) (by rfl) (cs := #[.int .i64 a0_0, .int .i64 a0_1, .int .i64 a0_2, .int .i64 a0_3, .int .i64 a0_4, .int .i64 a0_5, .int .i64 a0_6]) (t := 41) zq1 ?_; intro gb300 hg w14 hbox hb; have BK300 := Aside0.mk (hbox); have GW300 := zgs HB hg; have GE300 := zgs HB hg; replace HB := zbs HB hb; clear hb hbox hg) | ((with_reducible refine gate_dst (N := 7) rfl ?_); refine box_event (by rfl) (N := 7) (by rfl) (cs := #[.int .i64 a3_0, .int .i64 a3_1, .int .i64 a3_2, .int .i64 a3_3, .int .i64 a3_4, .int .i64 a3_5]) (t := 44) zq1 ?_; intro gb301 hg w15 hbox hb; have BK301 := Aside0.mk (hbox); have GW301 := zgs HB hg; have GE301 := zgs HB hg; have NB300_301 := znp BK300 hg; have NB301_300 := znq BK300 hg; replace BK300 := zbb BK300 hb; replace HB := zbs HB hb; clear hb hbox hg; have hnb16 := NB300_301.out; have hnc16 := NB301_300.out; obtain ⟨hcz17_0, hcz17_1, hcz17_2, hcz17_3, hcz17_4, hcz17_5, hcz17_6, hfz17_0, hfz17_1, hfz17_2, hfz17_3, hfz17_4, hfz17_5, hfz17_6⟩ := zce7 BK300.out) | ((with_reducible refine gate_callee (f := 62) rfl ?_); refine goesL_ (some 13) rfl rfl Try.func62 zq3 rfl #[.agg #[.int .i64 a0_0, .int .i64 a0_1, .int .i64 a0_2, .int .i64 a0_3, .int .i64 a0_4, .int .i64 a0_5, .int .i64 a0_6]] rfl zq8 ?_; (with_reducible refine (glider_CheckVehicle.calls k a0_0 a0_1 a0_2 a0_3 a0_4 a0_5 a0_6 t302 _ A5.out).mono ?_); rintro e w18 ⟨rfl, hb⟩; refine ⟨_, rfl, ?_⟩; replace BK300 := zbb BK300 hb; replace BK301 := zbb BK301 hb; replace HB := zbs HB hb; (try clear hb); (try clear hb2); (try clear hk); (try clear hi)) | ((with_reducible refine gate_callee (f := 63) rfl ?_); refine goesL_ (some 18) rfl rfl Try.func63 zq3 rfl #[.int .i64 a1, .int .i64 0, .int .i64 1073741824] rfl zq8 ?_; (with_reducible refine (glider_between.calls a1 0 1073741824 true _ A7.out).mono ?_); rintro e w' ⟨rfl, ⟨nd, rfl⟩⟩; refine ⟨_, rfl, ?_⟩) | ((with_reducible refine gate_callee (f := 64) rfl ?_); refine goesL_ (some 21) rfl rfl Try.func64 zq3 rfl #[.slice A2 l2.length c2] rfl zq8 ?_; (with_reducible refine (glider_checkBoxes.calls _ _ l2 t304 _ ?side1 ?side2 A9.out).mono ?_); (case side1 => repeat (first | exact (Kd.C_below HR2.out zbz) | (with_reducible refine Kd.C_alloc ?_ _) | (with_reducible refine Kd.C_drewN ?_ _) | (with_reducible refine Kd.C_drew ?_))); (case side2 => exact HC2.out); rintro e w19 ⟨rfl, hb⟩; refine ⟨_, rfl, ?_⟩; replace BK300 := zbb BK300 hb; replace BK301 := zbb BK301 hb; replace HB := zbs HB hb; (try clear hb); (try clear hb2); (try clear hk); (try clear hi); obtain ⟨hcz20_0, hcz20_1, hcz20_2, hcz20_3, hcz20_4, hcz20_5, hfz20_0, hfz20_1, hfz20_2, hfz20_3, hfz20_4, hfz20_5⟩ := zce6 BK301.out) | ((with_reducible refine gate_callee (f := 65) rfl ?_); refine goesL_ (some 26) rfl rfl Try.func65 zq3 rfl #[.agg #[.int .i64 a3_0, .int .i64 a3_1, .int .i64 a3_2, .int .i64 a3_3, .int .i64 a3_4, .int .i64 a3_5]] rfl zq8 ?_; (with_reducible refine (glider_validPickup.calls k a3_0 a3_1 a3_2 a3_3 a3_4 a3_5 true _ A11.out).mono ?_); rintro e w21 ⟨rfl, hb⟩; refine ⟨_, rfl, ?_⟩; replace BK300 := zbb BK300 hb; replace BK301 := zbb BK301 hb; replace HB := zbs HB hb; (try clear hb); (try clear hb2); (try clear hk); (try clear hi); obtain ⟨hcz22_0, hcz22_1, hcz22_2, hcz22_3, hcz22_4, hcz22_5, hcz22_6, hfz22_0, hfz22_1, hfz22_2, hfz22_3, hfz22_4, hfz22_5, hfz22_6⟩ := zce7 BK300.out; obtain ⟨hcz23_0, hcz23_1, hcz23_2, hcz23_3, hcz23_4, hcz23_5, hfz23_0, hfz23_1, hfz23_2, hfz23_3, hfz23_4, hfz23_5⟩ := zce6 BK301.out) | ((with_reducible refine gate_callee (f := 66) rfl ?_); refine goesL_ (some 32) rfl rfl Try.func66 zq3 rfl #[.agg #[.int .i64 a0_0, .int .i64 a0_1, .int .i64 a0_2, .int .i64 a0_3, .int .i64 a0_4, .int .i64 a0_5, .int .i64 a0_6], .int .i64 a1, .slice A2 l2.length c2, .agg #[.int .i64 a3_0, .int .i64 a3_1, .int .i64 a3_2, .int .i64 a3_3, .int .i64 a3_4, .int .i64 a3_5]] rfl zq8 ?_; (with_reducible refine (glider_fetched.calls k a0_0 a0_1 a0_2 a0_3 a0_4 a0_5 a0_6 a1 _ _ l2 a3_0 a3_1 a3_2 a3_3 a3_4 a3_5 t306 _ ?side1 ?side2 A13.out).mono ?_); (case side1 => repeat (first | exact (Kd.C_below HR2.out HB.out) | (with_reducible refine Kd.C_alloc ?_ _) | (with_reducible refine Kd.C_drewN ?_ _) | (with_reducible refine Kd.C_drew ?_))); (case side2 => exact HC2.out); rintro e w24 ⟨rfl, hb⟩; refine ⟨_, rfl, ?_⟩; replace BK300 := zbb BK300 hb; replace BK301 := zbb BK301 hb; replace HB := zbs HB hb; (try clear hb); (try clear hb2); (try clear hk); (try clear hi)))
     go_ret2
     exact ⟨zq2, zbz⟩
    ·replace c12 := Bool.eq_false_iff.mpr c12
     subst c12
     have H1 : (some (0, 2)) = some (r1, r2) := by rw [if_neg (show ¬ (false = true) by decide)] at H; exact H
     clear H
     have H := H1
     clear H1
     simp only [Option.some.injEq, Prod.mk.injEq] at H
     obtain ⟨rfl, rfl⟩ := H
     go_enter Try.func17, Try.ntmps17
     go_wp2_with (first | ((with_reducible refine gate_dst (N := 4) rfl ?_); refine box_event (by rfl) (N := 4) (by rfl) (cs := #[.int .i64 a0_0, .int .i64 a0_1, .int .i64 a0_2, .int .i64 a0_3, .int .i64 a0_4, .int .i64 a0_5, .int .i64 a0_6]) (t := 41) zq1 ?_; intro gb300 hg w25 hbox hb; have BK300 := Aside0.mk (hbox); have GW300 := zgs HB hg; have GE300 := zgs HB hg; replace HB := zbs HB hb; clear hb hbox hg) | ((with_reducible refine gate_dst (N := 7) rfl ?_); refine box_event (by rfl) (N := 7) (by rfl) (cs := #[.int .i64 a3_0, .int .i64 a3_1, .int .i64 a3_2, .int .i64 a3_3, .int .i64 a3_4, .int .i64 a3_5]) (t := 44) zq1 ?_; intro gb301 hg w26 hbox hb; have BK301 := Aside0.mk (hbox); have GW301 := zgs HB hg; have GE301 := zgs HB hg; have NB300_301 := znp BK300 hg; have NB301_300 := znq BK300 hg; replace BK300 := zbb BK300 hb; replace HB := zbs HB hb; clear hb hbox hg; have hnb27 := NB300_301.out; have hnc27 := NB301_300.out; obtain ⟨hcz28_0, hcz28_1, hcz28_2, hcz28_3, hcz28_4, hcz28_5, hcz28_6, hfz28_0, hfz28_1, hfz28_2, hfz28_3, hfz28_4, hfz28_5, hfz28_6⟩ := zce7 BK300.out) | ((with_reducible refine gate_callee (f := 62) rfl ?_); refine goesL_ (some 13) rfl rfl Try.func62 zq3 rfl #[.agg #[.int .i64 a0_0, .int .i64 a0_1, .int .i64 a0_2, .int .i64 a0_3, .int .i64 a0_4, .int .i64 a0_5, .int .i64 a0_6]] rfl zq8 ?_; (with_reducible refine (glider_CheckVehicle.calls k a0_0 a0_1 a0_2 a0_3 a0_4 a0_5 a0_6 t302 _ A5.out).mono ?_); rintro e w29 ⟨rfl, hb⟩; refine ⟨_, rfl, ?_⟩; replace BK300 := zbb BK300 hb; replace BK301 := zbb BK301 hb; replace HB := zbs HB hb; (try clear hb); (try clear hb2); (try clear hk); (try clear hi)) | ((with_reducible refine gate_callee (f := 63) rfl ?_); refine goesL_ (some 18) rfl rfl Try.func63 zq3 rfl #[.int .i64 a1, .int .i64 0, .int .i64 1073741824] rfl zq8 ?_; (with_reducible refine (glider_between.calls a1 0 1073741824 true _ A7.out).mono ?_); rintro e w' ⟨rfl, ⟨nd, rfl⟩⟩; refine ⟨_, rfl, ?_⟩) | ((with_reducible refine gate_callee (f := 64) rfl ?_); refine goesL_ (some 21) rfl rfl Try.func64 zq3 rfl #[.slice A2 l2.length c2] rfl zq8 ?_; (with_reducible refine (glider_checkBoxes.calls _ _ l2 t304 _ ?side1 ?side2 A9.out).mono ?_); (case side1 => repeat (first | exact (Kd.C_below HR2.out zbz) | (with_reducible refine Kd.C_alloc ?_ _) | (with_reducible refine Kd.C_drewN ?_ _) | (with_reducible refine Kd.C_drew ?_))); (case side2 => exact HC2.out); rintro e w30 ⟨rfl, hb⟩; refine ⟨_, rfl, ?_⟩; replace BK300 := zbb BK300 hb; replace BK301 := zbb BK301 hb; replace HB := zbs HB hb; (try clear hb); (try clear hb2); (try clear hk); (try clear hi); obtain ⟨hcz31_0, hcz31_1, hcz31_2, hcz31_3, hcz31_4, hcz31_5, hfz31_0, hfz31_1, hfz31_2, hfz31_3, hfz31_4, hfz31_5⟩ := zce6 BK301.out) | ((with_reducible refine gate_callee (f := 65) rfl ?_); refine goesL_ (some 26) rfl rfl Try.func65 zq3 rfl #[.agg #[.int .i64 a3_0, .int .i64 a3_1, .int .i64 a3_2, .int .i64 a3_3, .int .i64 a3_4, .int .i64 a3_5]] rfl zq8 ?_; (with_reducible refine (glider_validPickup.calls k a3_0 a3_1 a3_2 a3_3 a3_4 a3_5 false _ A11.out).mono ?_); rintro e w32 ⟨rfl, hb⟩; refine ⟨_, rfl, ?_⟩; replace BK300 := zbb BK300 hb; replace BK301 := zbb BK301 hb; replace HB := zbs HB hb; (try clear hb); (try clear hb2); (try clear hk); (try clear hi)))
     go_ret2
     exact ⟨zq2, zbz⟩
   ·rw [if_neg c10] at H
    have c10b0 : (t304 == 0) = false := beq_eq_false_iff_ne.mpr c10
    have c10b1 : (t304 != 0) = true := bne_iff_ne.mpr c10
    simp only [Option.some.injEq, Prod.mk.injEq] at H
    obtain ⟨rfl, rfl⟩ := H
    go_enter Try.func17, Try.ntmps17
    go_wp2_with (first | ((with_reducible refine gate_dst (N := 4) rfl ?_); refine box_event (by rfl) (N := 4) (by rfl) (cs := #[.int .i64 a0_0, .int .i64 a0_1, .int .i64 a0_2, .int .i64 a0_3, .int .i64 a0_4, .int .i64 a0_5, .int .i64 a0_6]) (t := 41) zq1 ?_; intro gb300 hg w33 hbox hb; have BK300 := Aside0.mk (hbox); have GW300 := zgs HB hg; have GE300 := zgs HB hg; replace HB := zbs HB hb; clear hb hbox hg) | ((with_reducible refine gate_dst (N := 7) rfl ?_); refine box_event (by rfl) (N := 7) (by rfl) (cs := #[.int .i64 a3_0, .int .i64 a3_1, .int .i64 a3_2, .int .i64 a3_3, .int .i64 a3_4, .int .i64 a3_5]) (t := 44) zq1 ?_; intro gb301 hg w34 hbox hb; have BK301 := Aside0.mk (hbox); have GW301 := zgs HB hg; have GE301 := zgs HB hg; have NB300_301 := znp BK300 hg; have NB301_300 := znq BK300 hg; replace BK300 := zbb BK300 hb; replace HB := zbs HB hb; clear hb hbox hg; have hnb35 := NB300_301.out; have hnc35 := NB301_300.out; obtain ⟨hcz36_0, hcz36_1, hcz36_2, hcz36_3, hcz36_4, hcz36_5, hcz36_6, hfz36_0, hfz36_1, hfz36_2, hfz36_3, hfz36_4, hfz36_5, hfz36_6⟩ := zce7 BK300.out) | ((with_reducible refine gate_callee (f := 62) rfl ?_); refine goesL_ (some 13) rfl rfl Try.func62 zq3 rfl #[.agg #[.int .i64 a0_0, .int .i64 a0_1, .int .i64 a0_2, .int .i64 a0_3, .int .i64 a0_4, .int .i64 a0_5, .int .i64 a0_6]] rfl zq8 ?_; (with_reducible refine (glider_CheckVehicle.calls k a0_0 a0_1 a0_2 a0_3 a0_4 a0_5 a0_6 t302 _ A5.out).mono ?_); rintro e w37 ⟨rfl, hb⟩; refine ⟨_, rfl, ?_⟩; replace BK300 := zbb BK300 hb; replace BK301 := zbb BK301 hb; replace HB := zbs HB hb; (try clear hb); (try clear hb2); (try clear hk); (try clear hi)) | ((with_reducible refine gate_callee (f := 63) rfl ?_); refine goesL_ (some 18) rfl rfl Try.func63 zq3 rfl #[.int .i64 a1, .int .i64 0, .int .i64 1073741824] rfl zq8 ?_; (with_reducible refine (glider_between.calls a1 0 1073741824 true _ A7.out).mono ?_); rintro e w' ⟨rfl, ⟨nd, rfl⟩⟩; refine ⟨_, rfl, ?_⟩) | ((with_reducible refine gate_callee (f := 64) rfl ?_); refine goesL_ (some 21) rfl rfl Try.func64 zq3 rfl #[.slice A2 l2.length c2] rfl zq8 ?_; (with_reducible refine (glider_checkBoxes.calls _ _ l2 t304 _ ?side1 ?side2 A9.out).mono ?_); (case side1 => repeat (first | exact (Kd.C_below HR2.out zbz) | (with_reducible refine Kd.C_alloc ?_ _) | (with_reducible refine Kd.C_drewN ?_ _) | (with_reducible refine Kd.C_drew ?_))); (case side2 => exact HC2.out); rintro e w38 ⟨rfl, hb⟩; refine ⟨_, rfl, ?_⟩; replace BK300 := zbb BK300 hb; replace BK301 := zbb BK301 hb; replace HB := zbs HB hb; (try clear hb); (try clear hb2); (try clear hk); (try clear hi)))
    go_ret2
    exact ⟨zq2, zbz⟩
  ·replace c8 := Bool.eq_false_iff.mpr c8
   subst c8
   have H1 : (some (0, 3)) = some (r1, r2) := by rw [if_neg (show ¬ (false = true) by decide)] at H; exact H
   clear H
   have H := H1
   clear H1
   simp only [Option.some.injEq, Prod.mk.injEq] at H
   obtain ⟨rfl, rfl⟩ := H
   go_enter Try.func17, Try.ntmps17
   go_wp2_with (first | ((with_reducible refine gate_dst (N := 4) rfl ?_); refine box_event (by rfl) (N := 4) (by rfl) (cs := #[.int .i64 a0_0, .int .i64 a0_1, .int .i64 a0_2, .int .i64 a0_3, .int .i64 a0_4, .int .i64 a0_5, .int .i64 a0_6]) (t := 41) zq1 ?_; intro gb300 hg w39 hbox hb; have BK300 := Aside0.mk (hbox); have GW300 := zgs HB hg; have GE300 := zgs HB hg; replace HB := zbs HB hb; clear hb hbox hg) | ((with_reducible refine gate_dst (N := 7) rfl ?_); refine box_event (by rfl) (N := 7) (by rfl) (cs := #[.int .i64 a3_0, .int .i64 a3_1, .int .i64 a3_2, .int .i64 a3_3, .int .i64 a3_4, .int .i64 a3_5]) (t := 44) zq1 ?_; intro gb301 hg w40 hbox hb; have BK301 := Aside0.mk (hbox); have GW301 := zgs HB hg; have GE301 := zgs HB hg; have NB300_301 := znp BK300 hg; have NB301_300 := znq BK300 hg; replace BK300 := zbb BK300 hb; replace HB := zbs HB hb; clear hb hbox hg; have hnb41 := NB300_301.out; have hnc41 := NB301_300.out; obtain ⟨hcz42_0, hcz42_1, hcz42_2, hcz42_3, hcz42_4, hcz42_5, hcz42_6, hfz42_0, hfz42_1, hfz42_2, hfz42_3, hfz42_4, hfz42_5, hfz42_6⟩ := zce7 BK300.out) | ((with_reducible refine gate_callee (f := 62) rfl ?_); refine goesL_ (some 13) rfl rfl Try.func62 zq3 rfl #[.agg #[.int .i64 a0_0, .int .i64 a0_1, .int .i64 a0_2, .int .i64 a0_3, .int .i64 a0_4, .int .i64 a0_5, .int .i64 a0_6]] rfl zq8 ?_; (with_reducible refine (glider_CheckVehicle.calls k a0_0 a0_1 a0_2 a0_3 a0_4 a0_5 a0_6 t302 _ A5.out).mono ?_); rintro e w43 ⟨rfl, hb⟩; refine ⟨_, rfl, ?_⟩; replace BK300 := zbb BK300 hb; replace BK301 := zbb BK301 hb; replace HB := zbs HB hb; (try clear hb); (try clear hb2); (try clear hk); (try clear hi)) | ((with_reducible refine gate_callee (f := 63) rfl ?_); refine goesL_ (some 18) rfl rfl Try.func63 zq3 rfl #[.int .i64 a1, .int .i64 0, .int .i64 1073741824] rfl zq8 ?_; (with_reducible refine (glider_between.calls a1 0 1073741824 false _ A7.out).mono ?_); rintro e w' ⟨rfl, ⟨nd, rfl⟩⟩; refine ⟨_, rfl, ?_⟩))
   go_ret2
   exact ⟨zq2, zbz⟩
 ·rw [if_neg c6] at H
  have c6b0 : (t302 == 0) = false := beq_eq_false_iff_ne.mpr c6
  have c6b1 : (t302 != 0) = true := bne_iff_ne.mpr c6
  simp only [Option.some.injEq, Prod.mk.injEq] at H
  obtain ⟨rfl, rfl⟩ := H
  go_enter Try.func17, Try.ntmps17
  go_wp2_with (first | ((with_reducible refine gate_dst (N := 4) rfl ?_); refine box_event (by rfl) (N := 4) (by rfl) (cs := #[.int .i64 a0_0, .int .i64 a0_1, .int .i64 a0_2, .int .i64 a0_3, .int .i64 a0_4, .int .i64 a0_5, .int .i64 a0_6]) (t := 41) zq1 ?_; intro gb300 hg w44 hbox hb; have BK300 := Aside0.mk (hbox); have GW300 := zgs HB hg; have GE300 := zgs HB hg; replace HB := zbs HB hb; clear hb hbox hg) | ((with_reducible refine gate_dst (N := 7) rfl ?_); refine box_event (by rfl) (N := 7) (by rfl) (cs := #[.int .i64 a3_0, .int .i64 a3_1, .int .i64 a3_2, .int .i64 a3_3, .int .i64 a3_4, .int .i64 a3_5]) (t := 44) zq1 ?_; intro gb301 hg w45 hbox hb; have BK301 := Aside0.mk (hbox); have GW301 := zgs HB hg; have GE301 := zgs HB hg; have NB300_301 := znp BK300 hg; have NB301_300 := znq BK300 hg; replace BK300 := zbb BK300 hb; replace HB := zbs HB hb; clear hb hbox hg; have hnb46 := NB300_301.out; have hnc46 := NB301_300.out; obtain ⟨hcz47_0, hcz47_1, hcz47_2, hcz47_3, hcz47_4, hcz47_5, hcz47_6, hfz47_0, hfz47_1, hfz47_2, hfz47_3, hfz47_4, hfz47_5, hfz47_6⟩ := zce7 BK300.out) | ((with_reducible refine gate_callee (f := 62) rfl ?_); refine goesL_ (some 13) rfl rfl Try.func62 zq3 rfl #[.agg #[.int .i64 a0_0, .int .i64 a0_1, .int .i64 a0_2, .int .i64 a0_3, .int .i64 a0_4, .int .i64 a0_5, .int .i64 a0_6]] rfl zq8 ?_; (with_reducible refine (glider_CheckVehicle.calls k a0_0 a0_1 a0_2 a0_3 a0_4 a0_5 a0_6 t302 _ A5.out).mono ?_); rintro e w48 ⟨rfl, hb⟩; refine ⟨_, rfl, ?_⟩; replace BK300 := zbb BK300 hb; replace BK301 := zbb BK301 hb; replace HB := zbs HB hb; (try clear hb); (try clear hb2); (try clear hk); (try clear hi)))
  go_ret2
  exact ⟨zq2, zbz⟩

end Go.Proofs.Ythglkoddmpicdaa.Pr
end
section
/- All courses, one after another. -/
namespace Go.Proofs.Ythglkoddmpicdaa.Gl
open Go.RowKit Go.Shelf Go.Proofs.YthglkoddmpicdaaW.PrintWords Go.Proofs.YthglkoddmpicdaaW.PrintLast Go.Proofs.YthglkoddmpicdaaW.PrintMore Go.Proofs.Ythglkoddmpicdaa.Pr Go.Proofs.YthglkoddmpicdaaW.Round
set_option linter.unusedVariables false
set_option linter.unusedSimpArgs false
attribute [local go_sem] max2_int min2_int max_two min_two max_four
attribute [local go_sem] Oper.semAt_some
def rowC (n : Nat) (h : Nat) : List S76 := (List.range n).map fun j : Nat => (⟨(h : Int), (j : Int)⟩ : S76)
def allC (n m : Nat) : List S76 := (List.range m).flatMap fun r : Nat => rowC n r
def uptoC (n q j : Nat) : List S76 := allC n q ++ rowC j q
theorem uptoC_row (n q : Nat) : uptoC n q 0 = allC n q := by unfold uptoC rowC; simp
theorem uptoC_succ (n q j : Nat) : uptoC n q (j + 1) = uptoC n q j ++ [(⟨(q : Int), (j : Int)⟩ : S76)] := by
 unfold uptoC rowC
 rw [List.range_succ, List.map_append, List.map_singleton, List.append_assoc]
theorem allC_succ (n q : Nat) : allC n (q + 1) = uptoC n q n := by
 unfold uptoC allC
 rw [List.range_succ, List.flatMap_append, List.flatMap_singleton]
theorem allC_pre (n : Nat) : ∀ (d q : Nat), allC n q <+: allC n (q + d)
 | 0, q => List.prefix_refl _
 | d + 1, q => by
  refine (allC_pre n d q).trans ?_
  rw [show q + (d + 1) = (q + d) + 1 by omega, allC_succ]
  exact List.prefix_append _ _
theorem uptoC_pre {n m q j : Nat} (hq : q < m) (hj : j ≤ n) : uptoC n q j <+: allC n m := by
 have h1 : uptoC n q j <+: uptoC n q n := by
  unfold uptoC
  refine (List.prefix_append_right_inj _).2 ?_
  unfold rowC
  refine List.IsPrefix.map _ ?_
  rw [show n = j + (n - j) by omega, List.range_add]
  exact List.prefix_append _ _
 rw [← allC_succ] at h1
 have h2 := allC_pre n (m - (q + 1)) (q + 1)
 rw [show q + 1 + (m - (q + 1)) = m by omega] at h2
 exact h1.trans h2
/-- A course of a sea. -/
abbrev CrsN (s : Sea) := { c : S76 // (0 ≤ c.f0 ∧ c.f0 ≤ 8) ∧ 0 ≤ c.f1 ∧ c.f1 < s.layers }
/-- All courses, by headings and then by layers. -/
def crsL (s : Sea) : List S76 := allC s.layers.toNat 9
def AllC (s : Sea) (xs : List (CrsN s)) : Prop := xs.map Subtype.val = crsL s
def PreC (s : Sea) (xs : List (CrsN s)) : Prop := xs.map Subtype.val <+: crsL s
set_option maxHeartbeats 1000000 in
theorem courses_any (b : Nat) (w : World) : Calls Try.prog 153 #[.pointer (some ⟨b, 0, none⟩)] w fun e w' => e = .returned (.func (.func 167) #[] #[.pointer (some ⟨w.heap.size, 0, none⟩)]) ∧ w' = w.alloc (.cells #[.pointer (some ⟨b, 0, none⟩)] 118) := by
 go_enter Try.func153, Try.ntmps153
 go_wp2
 go_ret
 exact ⟨rfl, rfl⟩
/-- What the iterator reads. -/
def EnvC (w0 : World) (bp b : Nat) (W : World) : Prop := Below w0.heap.size w0 W ∧ Blk W bp #[.pointer (some ⟨b, 0, none⟩)] 118
set_option maxRecDepth 100000 in
set_option maxHeartbeats 4000000 in
theorem courses1_in (n : Nat) (hn : 1 ≤ n) (l bp : Nat) (b : Nat) (s : Sea) (v : Veh) (En : World → Prop) (hEn : ∀ W, En W → TripAt W b s v ∧ Blk W bp #[.pointer (some ⟨b, 0, none⟩)] 118) (hS : SeaN s) (Kp : World → World → Prop) (hKp : ∀ A B, Kp A B → En A → En B) (J Jx : List (CrsN s) → World → Prop)
  (hY : ∀ pre c W, J pre W → pre.length < (crsL s).length → YieldAt Fence.wide (n - 1) Try.prog l #[.agg #[.int .i64 c.1.f0, .int .i64 c.1.f1]] W fun e W' =>
   (e = .returned (.bool true) ∧ J (pre ++ [c]) W' ∧ Kp W W') ∨ (e = .returned (.bool false) ∧ Jx (pre ++ [c]) W'))
  (W : World) (hE : En W) (h0 : J [] W) :
  CallsIn Fence.wide n Try.prog 167 #[.func (.yield l) #[] #[], .pointer (some ⟨bp, 0, none⟩)] W fun e W' => (∃ v, e = .returned v) ∧
   ((∃ xs, AllC s xs ∧ J xs W') ∨ (∃ pre, PreC s pre ∧ Jx pre W')) := by
 have hu76 := Try.underlying76
 have hla := hS.layers
 have HAll : Hid (crsL s = allC s.layers.toNat 9) := Lib.hid rfl
 refine callsIn_of_wp Try.func167 rfl trivial ?_ rfl
 simp only [Try.ntmps167, List.size_toArray, List.length_cons, List.length_nil, Nat.reduceAdd, Nat.reduceSub, Array.replicate_succ, Array.replicate_zero, List.push_toArray, List.append_toArray, List.nil_append, List.cons_append]
 gi_wp2
 gi_loopw [5] (fun i wr => ∃ (q : Nat) (pre : List (CrsN s)), q ≤ 9 ∧ i = .int .i64 (q : Int) ∧ Hid (pre.map Subtype.val = uptoC s.layers.toNat q 0) ∧ En wr ∧ J pre wr) (fun i _ => (9 - intOf i).toNat)
 case atStart => exact ⟨0, [], Nat.zero_le _, rfl, Lib.hid (by rw [uptoC_row]; rfl), hE, h0⟩
 case round =>
  clear hE h0
  obtain ⟨q, pre, hq, rfl, HP, hE, hJs⟩ := hrel
  obtain ⟨⟨A7, c7, A8, c8, mT, _⟩, mP⟩ := hEn _ hE
  have cP := (blk_cell mP 0).trans rfl
  have cT := (blk_cell mT 5).trans rfl
  clear mT mP
  by_cases hlt : (q : Int) < 9
  ·gi_wp2
   clear cP cT
   gi_loopw [13] (fun i wr2 => ∃ (j : Nat) (pre2 : List (CrsN s)), j ≤ s.layers.toNat ∧ i = .int .i64 (j : Int) ∧ Hid (pre2.map Subtype.val = uptoC s.layers.toNat q j) ∧ En wr2 ∧ J pre2 wr2) (fun i _ => (s.layers - intOf i).toNat)
   case atStart => exact ⟨0, pre, Nat.zero_le _, rfl, HP, hE, hJs⟩
   case round =>
    clear hE hJs
    obtain ⟨j, pre2, hj, rfl, HQ, hE, hJ2⟩ := hrel
    by_cases hjk : (j : Int) < s.layers
    ·have hlen : pre2.length < (crsL s).length := by
      have h1 := uptoC_pre (n := s.layers.toNat) (m := 9) (show q < 9 by omega) (show j + 1 ≤ s.layers.toNat by omega)
      have h2 := h1.length_le
      rw [uptoC_succ, ← HQ.out, ← HAll.out] at h2
      simp at h2
      omega
     obtain ⟨fn, tmps, assign, body, hy, hR⟩ := hY pre2 ⟨⟨(q : Int), (j : Int)⟩, ⟨by dsimp only; omega, by dsimp only; omega⟩, by dsimp only; omega, hjk⟩ _ hJ2 hlen
     dsimp only at hy
     gi_wp2
     refine hR.mono ?_
     rintro e W3 (⟨rfl, hJ3, hk3⟩ | ⟨rfl, hJx3⟩)
     ·have hE3 := hKp _ _ hk3 hE
      clear hk3 hE
      gi_wp2
      go_roundw
      case rel => exact ⟨j + 1, _, by omega, by simp, Lib.hid (by rw [List.map_append, HQ.out, uptoC_succ]; rfl), hE3, hJ3⟩
      case measure => simp [intOf]; omega
     ·gi_wp2
      refine bodyPost_ret (results_none rfl _ _ _) rfl ?_
      refine ⟨⟨_, rfl⟩, .inr ⟨_, ?_, hJx3⟩⟩
      show List.map Subtype.val _ <+: _
      rw [List.map_append, HQ.out, List.map_singleton, ← uptoC_succ, HAll.out]
      exact uptoC_pre (by omega) (by omega)
    ·obtain rfl : j = s.layers.toNat := by omega
     gi_wp2
     go_roundw
     case rel => exact ⟨q + 1, pre2, by omega, by simp, Lib.hid (by rw [HQ.out, uptoC_row, ← allC_succ]), hE, hJ2⟩
     case measure => simp [intOf]; omega
  ·obtain rfl : q = 9 := by omega
   gi_wp2
   go_end0
   exact ⟨⟨_, rfl⟩, .inl ⟨pre, by unfold AllC; rw [HAll.out, HP.out, uptoC_row], hJs⟩⟩
end Go.Proofs.Ythglkoddmpicdaa.Gl
end
section
/- Dive and At, as the program answers. -/
namespace Go.Proofs.Ythglkoddmpicdaa.Gl
open Go.RowKit Go.Shelf Go.Proofs.YthglkoddmpicdaaW.PrintWords Go.Proofs.YthglkoddmpicdaaW.PrintLast Go.Proofs.YthglkoddmpicdaaW.PrintMore Go.Proofs.Ythglkoddmpicdaa.Pr Go.Proofs.YthglkoddmpicdaaW.Round
set_option linter.unusedVariables false
set_option linter.unusedSimpArgs false
attribute [local go_sem] max2_int min2_int max_two min_two max_four
theorem ite_ne_zero {a b : Int} (h : (if a ≠ 0 then a else b) = 0) : a = 0 ∧ b = 0 := by
 by_cases h0 : a = 0
 ·rw [if_neg (fun h => h h0)] at h
  exact ⟨h0, h⟩
 ·rw [if_pos h0] at h
  exact absurd h h0
theorem place_ok {x : S29} {t : Int} (h : placeE x t = 0) : BoxOK x ∧ 0 ≤ t ∧ t ≤ 1073741824 := by
 unfold placeE at h
 obtain ⟨h1, h2⟩ := ite_ne_zero h
 refine ⟨boxB_ok h1, ?_⟩
 cases hb : btwB t 0 1073741824 with
 | false => rw [hb] at h2; simp at h2
 | true => exact btwB_iff.1 hb
end Go.Proofs.Ythglkoddmpicdaa.Gl
end
