/- Part 19 of the proof of GliderBest: what the functions compute. No condition. -/
import Derived.Maps.AppendAt
import Derived.Lib.SliceRun
import Derived.Lib.Walk
import Derived.WalkMore
import Derived.Test.YtmhaiihjfgfaoaaGbGliderBest3
import Derived.Test.YtmhaiihjfgfaoaaGbGliderBest6
import Derived.Test.YtmhaiihjfgfaoaaGbGliderBest18
import Derived.Test.YtmhaiihjfgfaoaaGbGliderBest17
import Derived.Test.YtmhaiihjfgfaoaaGbGliderBest9
section
namespace Go.Proofs.Ytmhaiihjfgfaoaa.Pr
open Go.RowKit Go.Proofs.YtmhaiihjfgfaoaaW.PrintWords Go.Proofs.YtmhaiihjfgfaoaaW.PrintLast Go.Proofs.YtmhaiihjfgfaoaaW.PrintMore
attribute [local go_sem] max2_int min2_int max_two min_two max_four
set_option linter.unusedVariables false
set_option linter.unusedSimpArgs false

/-! ### glider_fetched: function 94 -/
def glider_fetched.l0 : Nat → Int → Int → List (S31) → Int → Int → Int → Int → Int → Int → Int → Int → Int → Int → Int → Int → Int → Int → Int → Option (Int)
 | 0, _, _, _, _, _, _, _, _, _, _, _, _, _, _, _, _, _, _ => none
 | k + 1, x1, x9, x12, x13, x14, x737000, x737001, x737002, x737003, x737004, x737005, x737006, x738000, x738001, x738002, x738003, x738004, x738005 => if x14 < x13 then (if 0 ≤ x14 then (if x14 < (x12.length : Int) then ((glider_between.f (wrap64 (x1 + x737001)) x738004 x738005).bind fun t740 => (if t740 = true then ((glider_inside.f ((rd_T31 x12 x14).f0.f0) ((rd_T31 x12 x14).f0.f1) ((rd_T31 x12 x14).f1.f0) ((rd_T31 x12 x14).f1.f1) x738000 x738001 x738002 x738003).bind fun t741 => (glider_fetched.l0 k (wrap64 (x1 + x737001)) (mx x9 t741) x12 x13 (wrap64 (x14 + 1)) x737000 x737001 x737002 x737003 x737004 x737005 x737006 x738000 x738001 x738002 x738003 x738004 x738005)) else (glider_fetched.l0 k (wrap64 (x1 + x737001)) x9 x12 x13 (wrap64 (x14 + 1)) x737000 x737001 x737002 x737003 x737004 x737005 x737006 x738000 x738001 x738002 x738003 x738004 x738005))) else (none)) else (none)) else (some x9)
def glider_fetched.f (k : Nat) (a0_0 : Int) (a0_1 : Int) (a0_2 : Int) (a0_3 : Int) (a0_4 : Int) (a0_5 : Int) (a0_6 : Int) (a1 : Int) (l2 : List (S31)) (a3_0 : Int) (a3_1 : Int) (a3_2 : Int) (a3_3 : Int) (a3_4 : Int) (a3_5 : Int) : Option (Int) := glider_fetched.l0 k a1 0 l2 (l2.length : Int) 0 a0_0 a0_1 a0_2 a0_3 a0_4 a0_5 a0_6 a3_0 a3_1 a3_2 a3_3 a3_4 a3_5
set_option maxHeartbeats 8000000 in
set_option maxRecDepth 100000 in
theorem glider_fetched.calls (k : Nat) (a0_0 : Int) (a0_1 : Int) (a0_2 : Int) (a0_3 : Int) (a0_4 : Int) (a0_5 : Int) (a0_6 : Int) (a1 : Int) (A2 : Option Addr) (c2 : Nat) (l2 : List (S31)) (a3_0 : Int) (a3_1 : Int) (a3_2 : Int) (a3_3 : Int) (a3_4 : Int) (a3_5 : Int) (r : Int) (w : World) (hr2 : Kd.C k31 w A2 l2.length l2) (hc2 : l2.length ≤ c2) (h : glider_fetched.f k a0_0 a0_1 a0_2 a0_3 a0_4 a0_5 a0_6 a1 l2 a3_0 a3_1 a3_2 a3_3 a3_4 a3_5 = some r) :
  Calls Try.prog 94 #[.agg #[.int .i64 a0_0, .int .i64 a0_1, .int .i64 a0_2, .int .i64 a0_3, .int .i64 a0_4, .int .i64 a0_5, .int .i64 a0_6], .int .i64 a1, .slice A2 l2.length c2, .agg #[.int .i64 a3_0, .int .i64 a3_1, .int .i64 a3_2, .int .i64 a3_3, .int .i64 a3_4, .int .i64 a3_5]] w fun e w' => e = .returned (.int .i64 r) ∧ Below w.heap.size w w' := by
 have hu29 := Try.underlying29
 have hu81 := Try.underlying81
 have hu31 := Try.underlying31
 have HR2 := Aside0.mk hr2
 have HC2 := Aside0.mk hc2
 clear hr2 hc2
 have HB := Aside0.mk (Below.refl w.heap.size w)
 have H : (glider_fetched.l0 k a1 0 l2 (l2.length : Int) 0 a0_0 a0_1 a0_2 a0_3 a0_4 a0_5 a0_6 a3_0 a3_1 a3_2 a3_3 a3_4 a3_5) = some r := h
 clear h
 have H' := Aside0.mk H
 clear H
 go_enter Try.func94, Try.ntmps94
 go_wp2_with (first | ((with_reducible refine gate_dst (N := 4) rfl ?_); refine box_event (by rfl) (N := 4) (by rfl) (cs := #[.int .i64 a0_0, .int .i64 a0_1, .int .i64 a0_2, .int .i64 a0_3, .int .i64 a0_4, .int .i64 a0_5, .int .i64 a0_6]) (t := 29) zq1 ?_; intro gb736 hg w5 hbox hb; have BK736 := Aside0.mk (hbox); have GW736 := zgs HB hg; have GE736 := zgs HB hg; replace HB := zbs HB hb; clear hb hbox hg) | ((with_reducible refine gate_dst (N := 7) rfl ?_); refine box_event (by rfl) (N := 7) (by rfl) (cs := #[.int .i64 a3_0, .int .i64 a3_1, .int .i64 a3_2, .int .i64 a3_3, .int .i64 a3_4, .int .i64 a3_5]) (t := 81) zq1 ?_; intro gb737 hg w6 hbox hb; have BK737 := Aside0.mk (hbox); have GW737 := zgs HB hg; have GE737 := zgs HB hg; have NB736_737 := znp BK736 hg; have NB737_736 := znq BK736 hg; replace BK736 := zbb BK736 hb; replace HB := zbs HB hb; clear hb hbox hg))
 go_loopg [1, 9, 14] k (fun kq v1 v9 v14 w' => ∃ (x1_1 : Int) (x9_1 : Int) (x14_1 : Int), v1 = .int .i64 x1_1 ∧ v9 = .int .i64 x9_1 ∧ v14 = .int .i64 x14_1 ∧ Aside0 (glider_fetched.l0 kq x1_1 x9_1 l2 (l2.length : Int) x14_1 a0_0 a0_1 a0_2 a0_3 a0_4 a0_5 a0_6 a3_0 a3_1 a3_2 a3_3 a3_4 a3_5 = some r) ∧ Aside0 (kq ≤ k) ∧ Aside0 (w'.heap[gb736]? = some (.cells #[.int .i64 a0_0, .int .i64 a0_1, .int .i64 a0_2, .int .i64 a0_3, .int .i64 a0_4, .int .i64 a0_5, .int .i64 a0_6] 29 (0, 0))) ∧ Aside0 (w'.heap[gb737]? = some (.cells #[.int .i64 a3_0, .int .i64 a3_1, .int .i64 a3_2, .int .i64 a3_3, .int .i64 a3_4, .int .i64 a3_5] 81 (0, 0))) ∧ Aside0 (Below w.heap.size w w'))
 case atStart => exact ⟨(a1), (0), (0), zq3, zq3, zq3, H', ⟨Nat.le_refl _⟩, ⟨zbf⟩, ⟨zbf⟩, ⟨zbz⟩⟩
 case round =>
  clear H'
  try clear c2
  try clear p2
  obtain ⟨x1_1, x9_1, x14_1, rfl, rfl, rfl, HA, HK1, BK736, BK737, HB⟩ := hrel
  cases gk with
  | zero => exact absurd HA.out (by simp [glider_fetched.l0])
  | succ k1 =>
   have H := HA.out
   clear HA
   simp only [glider_fetched.l0] at H
   by_cases c7 : x14_1 < (l2.length : Int)
   ·rw [if_pos c7] at H
    have c7b0 : decide (x14_1 < (l2.length : Int)) = true := decide_eq_true c7
    clear c7
    by_cases c8 : 0 ≤ x14_1
    ·rw [if_pos c8] at H
     have c8b0 : decide (0 ≤ x14_1) = true := decide_eq_true c8
     clear c8
     by_cases c9 : x14_1 < (l2.length : Int)
     ·rw [if_pos c9] at H
      have c9b0 : decide (x14_1 < (l2.length : Int)) = true := decide_eq_true c9
      clear c9
      replace H := Option.bind_eq_some_iff.mp H
      obtain ⟨t740, A100, H⟩ := H
      replace H : (if t740 = true then ((glider_inside.f ((rd_T31 l2 x14_1).f0.f0) ((rd_T31 l2 x14_1).f0.f1) ((rd_T31 l2 x14_1).f1.f0) ((rd_T31 l2 x14_1).f1.f1) a3_0 a3_1 a3_2 a3_3).bind fun t741 => (glider_fetched.l0 k1 (wrap64 (x1_1 + a0_1)) (mx x9_1 t741) l2 (l2.length : Int) (wrap64 (x14_1 + 1)) a0_0 a0_1 a0_2 a0_3 a0_4 a0_5 a0_6 a3_0 a3_1 a3_2 a3_3 a3_4 a3_5)) else (glider_fetched.l0 k1 (wrap64 (x1_1 + a0_1)) x9_1 l2 (l2.length : Int) (wrap64 (x14_1 + 1)) a0_0 a0_1 a0_2 a0_3 a0_4 a0_5 a0_6 a3_0 a3_1 a3_2 a3_3 a3_4 a3_5)) = some r := H
      have A10 := Aside0.mk A100
      clear A100
      by_cases c11 : t740 = true
      ·subst c11
       have H1 : ((glider_inside.f ((rd_T31 l2 x14_1).f0.f0) ((rd_T31 l2 x14_1).f0.f1) ((rd_T31 l2 x14_1).f1.f0) ((rd_T31 l2 x14_1).f1.f1) a3_0 a3_1 a3_2 a3_3).bind fun t741 => (glider_fetched.l0 k1 (wrap64 (x1_1 + a0_1)) (mx x9_1 t741) l2 (l2.length : Int) (wrap64 (x14_1 + 1)) a0_0 a0_1 a0_2 a0_3 a0_4 a0_5 a0_6 a3_0 a3_1 a3_2 a3_3 a3_4 a3_5)) = some r := by rw [if_pos rfl] at H; exact H
       clear H
       have H := H1
       clear H1
       replace H := Option.bind_eq_some_iff.mp H
       obtain ⟨t741, A120, H⟩ := H
       replace H : (glider_fetched.l0 k1 (wrap64 (x1_1 + a0_1)) (mx x9_1 t741) l2 (l2.length : Int) (wrap64 (x14_1 + 1)) a0_0 a0_1 a0_2 a0_3 a0_4 a0_5 a0_6 a3_0 a3_1 a3_2 a3_3 a3_4 a3_5) = some r := H
       have A12 := Aside0.mk A120
       clear A120
       obtain ⟨ji13, hji13⟩ : ∃ j_ : Int, (mx x9_1 t741) = j_ := ⟨_, rfl⟩
       replace H : (glider_fetched.l0 k1 (wrap64 (x1_1 + a0_1)) ji13 l2 (l2.length : Int) (wrap64 (x14_1 + 1)) a0_0 a0_1 a0_2 a0_3 a0_4 a0_5 a0_6 a3_0 a3_1 a3_2 a3_3 a3_4 a3_5) = some r := by first | (rw [hji13] at H; exact H) | (simp only [hji13] at H ⊢; exact H)
       (try rw [hji13] at A10)
       (try rw [hji13] at A12)
       have hji13_ : (if x9_1 < t741 then t741 else x9_1) = ji13 := hji13
       have H' := Aside0.mk H
       clear H
       have p738 : 0 ≤ (x14_1 : Int) := of_decide_eq_true zq8
       have q738 : x14_1 < (l2.length : Int) := of_decide_eq_true zq8
       obtain ⟨ad738, e738, hx738_0, hx738_1, hx738_2, hx738_3⟩ := at_T31 HR2.out x14_1 p738 q738
       cases e738
       replace hx738_0 := (HB.out.cell (World.block_lt_of_cell? w _ hx738_0)).trans hx738_0
       replace hx738_1 := (HB.out.cell (World.block_lt_of_cell? w _ hx738_1)).trans hx738_1
       replace hx738_2 := (HB.out.cell (World.block_lt_of_cell? w _ hx738_2)).trans hx738_2
       replace hx738_3 := (HB.out.cell (World.block_lt_of_cell? w _ hx738_3)).trans hx738_3
       replace p738 := eq_true p738
       replace q738 := eq_true q738
       go_wp2_with (first | ((with_reducible refine gate_dst (N := 11) rfl ?_); refine box_event (by rfl) (N := 11) (by rfl) (cs := #[.int .i64 0, .int .i64 0, .int .i64 0, .int .i64 0]) (t := 31) zq1 ?_; intro gb739 hg w14 hbox hb; have BK739 := Aside0.mk (hbox); have GW739 := zgs HB hg; have GE739 := zgs HB hg; have NB736_739 := znp BK736 hg; have NB739_736 := znq BK736 hg; have NB737_739 := znp BK737 hg; have NB739_737 := znq BK737 hg; replace BK736 := zbb BK736 hb; replace BK737 := zbb BK737 hb; replace HB := zbs HB hb; clear hb hbox hg; have hnb15 := NB739_736.out; have hnc15 := NB736_739.out; have hnb16 := NB739_737.out; have hnc16 := NB737_739.out; obtain ⟨hcz17_0, hcz17_1, hcz17_2, hcz17_3, hfz17_0, hfz17_1, hfz17_2, hfz17_3⟩ := zce4 BK739.out; have hnb18 := NB736_737.out; have hnc18 := NB737_736.out; obtain ⟨hcz19_0, hcz19_1, hcz19_2, hcz19_3, hcz19_4, hcz19_5, hcz19_6, hfz19_0, hfz19_1, hfz19_2, hfz19_3, hfz19_4, hfz19_5, hfz19_6⟩ := zce7 BK736.out; obtain ⟨hcz20_0, hcz20_1, hcz20_2, hcz20_3, hcz20_4, hcz20_5, hfz20_0, hfz20_1, hfz20_2, hfz20_3, hfz20_4, hfz20_5⟩ := zce6 BK737.out) | ((with_reducible refine gate_callee (f := 74) rfl ?_); refine goesL_ (some 27) rfl rfl Try.func74 zq5 rfl #[.int .i64 (wrap64 (x1_1 + a0_1)), .int .i64 a3_4, .int .i64 a3_5] rfl zq6 ?_; (with_reducible refine (glider_between.calls (wrap64 (x1_1 + a0_1)) a3_4 a3_5 true _ A10.out).mono ?_); rintro e w' ⟨rfl, ⟨nd, rfl⟩⟩; refine ⟨_, rfl, ?_⟩) | ((with_reducible refine gate_callee (f := 89) rfl ?_); refine goesL_ (some 32) rfl rfl Try.func89 zq5 rfl #[.agg #[.int .i64 ((rd_T31 l2 x14_1).f0.f0), .int .i64 ((rd_T31 l2 x14_1).f0.f1), .int .i64 ((rd_T31 l2 x14_1).f1.f0), .int .i64 ((rd_T31 l2 x14_1).f1.f1)], .agg #[.int .i64 a3_0, .int .i64 a3_1, .int .i64 a3_2, .int .i64 a3_3]] rfl zq6 ?_; (with_reducible refine (glider_inside.calls ((rd_T31 l2 x14_1).f0.f0) ((rd_T31 l2 x14_1).f0.f1) ((rd_T31 l2 x14_1).f1.f0) ((rd_T31 l2 x14_1).f1.f1) a3_0 a3_1 a3_2 a3_3 t741 _ A12.out).mono ?_); rintro e w21 ⟨rfl, hb⟩; refine ⟨_, rfl, ?_⟩; have n0_ := zbb BK736 hb; have n1_ := zbb BK737 hb; have n2_ := Aside0.mk (blk_below (g := gb739) (o := .cells #[.int .i64 ((rd_T31 l2 x14_1).f0.f0), .int .i64 ((rd_T31 l2 x14_1).f0.f1), .int .i64 ((rd_T31 l2 x14_1).f1.f0), .int .i64 ((rd_T31 l2 x14_1).f1.f1)] 31 (0, 0)) (by (with_reducible repeat (first | refine blk_drewN ?_ _ | refine blk_drew ?_ | refine blk_alloc ?_ _)); refine blk_put (cs := #[.int .i64 ((rd_T31 l2 x14_1).f0.f0), .int .i64 ((rd_T31 l2 x14_1).f0.f1), .int .i64 ((rd_T31 l2 x14_1).f1.f0), .int .i64 0]) ?_ 3 _ rfl; (with_reducible repeat (first | refine blk_drewN ?_ _ | refine blk_drew ?_ | refine blk_alloc ?_ _)); refine blk_put (cs := #[.int .i64 ((rd_T31 l2 x14_1).f0.f0), .int .i64 ((rd_T31 l2 x14_1).f0.f1), .int .i64 0, .int .i64 0]) ?_ 2 _ rfl; (with_reducible repeat (first | refine blk_drewN ?_ _ | refine blk_drew ?_ | refine blk_alloc ?_ _)); refine blk_put (cs := #[.int .i64 ((rd_T31 l2 x14_1).f0.f0), .int .i64 0, .int .i64 0, .int .i64 0]) ?_ 1 _ rfl; (with_reducible repeat (first | refine blk_drewN ?_ _ | refine blk_drew ?_ | refine blk_alloc ?_ _)); refine blk_put (cs := #[.int .i64 0, .int .i64 0, .int .i64 0, .int .i64 0]) ?_ 0 _ rfl; (with_reducible repeat (first | refine blk_drewN ?_ _ | refine blk_drew ?_ | refine blk_alloc ?_ _)); exact BK739.out) hb); have n3_ := zbs HB hb; clear BK736; clear BK737; clear BK739; clear HB; have BK736 := n0_; have BK737 := n1_; have BK739 := n2_; have HB := n3_; clear n0_ n1_ n2_ n3_; (try clear hb); (try clear hb2); (try clear hk); (try clear hi)))
       go_roundg k1
       case measure => have := HK1.out; omega
       case rel => exact ⟨(wrap64 (x1_1 + a0_1)), (ji13), (wrap64 (x14_1 + 1)), zq3, (by first | rfl | (simp; done) | (simp only [← hji13] <;> (first | rfl | simp)) | (simp [*]; done)), zq3, H', ⟨zq11⟩, ⟨zbf⟩, ⟨zbf⟩, ⟨zbz⟩⟩
      ·replace c11 := Bool.eq_false_iff.mpr c11
       subst c11
       have H1 : (glider_fetched.l0 k1 (wrap64 (x1_1 + a0_1)) x9_1 l2 (l2.length : Int) (wrap64 (x14_1 + 1)) a0_0 a0_1 a0_2 a0_3 a0_4 a0_5 a0_6 a3_0 a3_1 a3_2 a3_3 a3_4 a3_5) = some r := by rw [if_neg (show ¬ (false = true) by decide)] at H; exact H
       clear H
       have H := H1
       clear H1
       have H' := Aside0.mk H
       clear H
       have p738 : 0 ≤ (x14_1 : Int) := of_decide_eq_true zq8
       have q738 : x14_1 < (l2.length : Int) := of_decide_eq_true zq8
       obtain ⟨ad738, e738, hx738_0, hx738_1, hx738_2, hx738_3⟩ := at_T31 HR2.out x14_1 p738 q738
       cases e738
       replace hx738_0 := (HB.out.cell (World.block_lt_of_cell? w _ hx738_0)).trans hx738_0
       replace hx738_1 := (HB.out.cell (World.block_lt_of_cell? w _ hx738_1)).trans hx738_1
       replace hx738_2 := (HB.out.cell (World.block_lt_of_cell? w _ hx738_2)).trans hx738_2
       replace hx738_3 := (HB.out.cell (World.block_lt_of_cell? w _ hx738_3)).trans hx738_3
       replace p738 := eq_true p738
       replace q738 := eq_true q738
       go_wp2_with (first | ((with_reducible refine gate_dst (N := 11) rfl ?_); refine box_event (by rfl) (N := 11) (by rfl) (cs := #[.int .i64 0, .int .i64 0, .int .i64 0, .int .i64 0]) (t := 31) zq1 ?_; intro gb739 hg w22 hbox hb; have BK739 := Aside0.mk (hbox); have GW739 := zgs HB hg; have GE739 := zgs HB hg; have NB736_739 := znp BK736 hg; have NB739_736 := znq BK736 hg; have NB737_739 := znp BK737 hg; have NB739_737 := znq BK737 hg; replace BK736 := zbb BK736 hb; replace BK737 := zbb BK737 hb; replace HB := zbs HB hb; clear hb hbox hg; have hnb23 := NB739_736.out; have hnc23 := NB736_739.out; have hnb24 := NB739_737.out; have hnc24 := NB737_739.out; obtain ⟨hcz25_0, hcz25_1, hcz25_2, hcz25_3, hfz25_0, hfz25_1, hfz25_2, hfz25_3⟩ := zce4 BK739.out; have hnb26 := NB736_737.out; have hnc26 := NB737_736.out; obtain ⟨hcz27_0, hcz27_1, hcz27_2, hcz27_3, hcz27_4, hcz27_5, hcz27_6, hfz27_0, hfz27_1, hfz27_2, hfz27_3, hfz27_4, hfz27_5, hfz27_6⟩ := zce7 BK736.out; obtain ⟨hcz28_0, hcz28_1, hcz28_2, hcz28_3, hcz28_4, hcz28_5, hfz28_0, hfz28_1, hfz28_2, hfz28_3, hfz28_4, hfz28_5⟩ := zce6 BK737.out) | ((with_reducible refine gate_callee (f := 74) rfl ?_); refine goesL_ (some 27) rfl rfl Try.func74 zq5 rfl #[.int .i64 (wrap64 (x1_1 + a0_1)), .int .i64 a3_4, .int .i64 a3_5] rfl zq6 ?_; (with_reducible refine (glider_between.calls (wrap64 (x1_1 + a0_1)) a3_4 a3_5 false _ A10.out).mono ?_); rintro e w' ⟨rfl, ⟨nd, rfl⟩⟩; refine ⟨_, rfl, ?_⟩))
       go_roundg k1
       case measure => have := HK1.out; omega
       case rel => exact ⟨(wrap64 (x1_1 + a0_1)), (x9_1), (wrap64 (x14_1 + 1)), zq3, zq3, zq3, H', ⟨zq11⟩, ⟨zbf⟩, ⟨zbf⟩, ⟨zbz⟩⟩
     ·rw [if_neg c9] at H
      exact absurd H (by simp)
    ·rw [if_neg c8] at H
     exact absurd H (by simp)
   ·rw [if_neg c7] at H
    have c7b0 : decide (x14_1 < (l2.length : Int)) = false := decide_eq_false c7
    clear c7
    obtain rfl := Option.some.inj H
    go_wp2
    go_ret
    exact ⟨zq2, zbz⟩

end Go.Proofs.Ytmhaiihjfgfaoaa.Pr
end
section
/- Is a run fetched, and is a pickup valid: what the program computes. -/
namespace Go.Proofs.Ytmhaiihjfgfaoaa.Gl
open Go.RowKit Go.Proofs.YtmhaiihjfgfaoaaW.PrintWords Go.Proofs.YtmhaiihjfgfaoaaW.PrintLast Go.Proofs.YtmhaiihjfgfaoaaW.PrintMore Go.Proofs.Ytmhaiihjfgfaoaa.Pr
set_option linter.unusedVariables false
/-- Is a run fetched? -/
def fetI (dive : Int) (p : S81) : List S31 → Int → Int → Int
 | [], _, acc => acc
 | x :: l, t, acc => fetI dive p l (t + dive) (if p.f1 ≤ t + dive ∧ t + dive ≤ p.f2 then max acc (insI x p.f0) else acc)
theorem w64_in {x : Int} (h : -9223372036854775808 ≤ x ∧ x < 9223372036854775808) : wrap64 x = x := by unfold wrap64; omega
theorem fet_loop (v : Veh) (hv : vehB v = true) (p : S81) (l : List S31) (hl : l.length ≤ 64) : ∀ (m i K : Nat) (t acc : Int), i + m = l.length → m + 1 ≤ K → (0 ≤ t ∧ t ≤ 1073741824 + (i : Int) * 131072) →
  glider_fetched.l0 K t acc l (l.length : Int) (i : Int) v.speed v.dive v.use.f0 v.use.f1 v.drift.f0 v.drift.f1 v.reserve p.f0.f0.f0 p.f0.f0.f1 p.f0.f1.f0 p.f0.f1.f1 p.f1 p.f2 = some (fetI v.dive p (l.drop i) t acc)
 | 0, i, K + 1, t, acc, h, hk, h0 => by
  rw [glider_fetched.l0, if_neg (by omega), List.drop_eq_nil_of_le (by omega)]; rfl
 | m + 1, i, K + 1, t, acc, h, hk, h0 => by
  have hi : i < l.length := by omega
  have e : rd_T31 l (i : Int) = l[i] := by
   unfold rd_T31
   simp [hi]
  have hd : 1 ≤ v.dive ∧ v.dive ≤ 131072 := by
   unfold vehB at hv
   simp only [Bool.and_eq_true, btwB_iff] at hv
   omega
  rw [List.drop_eq_getElem_cons hi]
  unfold fetI
  rw [glider_fetched.l0, if_pos (by omega), if_pos (by omega), if_pos (by omega), e, w64_in (x := t + v.dive) (by omega), w64_in (x := (i : Int) + 1) (by omega), btw_some, Option.bind_some]
  have hin : glider_inside.f l[i].f0.f0 l[i].f0.f1 l[i].f1.f0 l[i].f1.f1 p.f0.f0.f0 p.f0.f0.f1 p.f0.f1.f0 p.f0.f1.f1 = some (insI l[i] p.f0) := rfl
  rw [hin, Option.bind_some]
  have ih := fun acc2 => fet_loop v hv p l hl m (i + 1) K (t + v.dive) acc2 (by omega) (by omega) ⟨by omega, by omega⟩
  by_cases hb : p.f1 ≤ t + v.dive ∧ t + v.dive ≤ p.f2
  ·rw [if_pos (btwB_iff.2 hb), if_pos hb, mx_max']
   exact ih _
  ·rw [if_neg (fun hq => hb (btwB_iff.1 hq)), if_neg hb]
   exact ih _
theorem fet_some (v : Veh) (hv : vehB v = true) (p : S81) (l : List S31) (hl : l.length ≤ 64) (t : Int) (ht : 0 ≤ t ∧ t ≤ 1073741824) (K : Nat) (hk : l.length + 1 ≤ K) :
  glider_fetched.f K v.speed v.dive v.use.f0 v.use.f1 v.drift.f0 v.drift.f1 v.reserve t l p.f0.f0.f0 p.f0.f0.f1 p.f0.f1.f0 p.f0.f1.f1 p.f1 p.f2 = some (fetI v.dive p l t 0) := by
 have := fet_loop v hv p l hl l.length 0 K t 0 (Nat.zero_add _) hk ⟨ht.1, by omega⟩
 rw [List.drop_zero] at this
 exact this
/-- Is a pickup valid? -/
def pickB (p : S81) : Bool := boxB p.f0 && decide (0 ≤ p.f1) && decide (p.f1 ≤ p.f2) && decide (p.f2 ≤ 1073741824)
theorem pick_some (p : S81) : glider_validPickup.f 4 p.f0.f0.f0 p.f0.f0.f1 p.f0.f1.f0 p.f0.f1.f1 p.f1 p.f2 = some (pickB p) := by
 unfold glider_validPickup.f pickB
 rw [box_some p.f0, Option.bind_some]
 unfold boxE
 cases boxB p.f0 with
 | false => rfl
 | true =>
  rw [if_pos rfl, if_pos rfl]
  by_cases h1 : p.f1 ≥ 0
  ·rw [if_pos h1, decide_eq_true (show 0 ≤ p.f1 from h1)]
   by_cases h2 : p.f1 ≤ p.f2
   ·rw [if_pos h2, decide_eq_true h2]; rfl
   ·rw [if_neg h2, decide_eq_false h2]; rfl
  ·rw [if_neg h1, decide_eq_false (show ¬(0 ≤ p.f1) from h1)]; rfl
end Go.Proofs.Ytmhaiihjfgfaoaa.Gl
end
section
/- Is a plan good: what the program answers. -/
namespace Go.Proofs.Ytmhaiihjfgfaoaa.Gl
open Go.RowKit Go.Shelf Go.Proofs.YtmhaiihjfgfaoaaW.PrintWords Go.Proofs.YtmhaiihjfgfaoaaW.PrintLast Go.Proofs.YtmhaiihjfgfaoaaW.PrintMore Go.Proofs.Ytmhaiihjfgfaoaa.Pr Go.Proofs.YtmhaiihjfgfaoaaW.Round
set_option linter.unusedVariables false
set_option linter.unusedSimpArgs false
attribute [local go_sem] max2_int min2_int max_two min_two max_four
theorem ran_le (s : Sea) (v : Veh) : ∀ (l : List S33) (x : S31) (t n : Int) (out : List S31), (ranI s v l x t n out).1.length ≤ out.length + l.length
 | [], x, t, n, out => by unfold ranI; simp
 | c :: l, x, t, n, out => by
  unfold ranI
  split
  ·simp
  ·refine Nat.le_trans (ran_le s v l _ _ _ _) ?_
   simp only [List.length_append, List.length_cons, List.length_nil]
   omega
theorem tripE_veh {s : Sea} {v : Veh} (h : tripE s v = 0) : vehB v = true := by
 unfold tripE at h
 obtain ⟨_, h2⟩ := ite_ne_zero h
 unfold vehE at h2
 cases hb : vehB v with
 | true => rfl
 | false => rw [hb] at h2; cases h2
/-- What CheckPlan returns. -/
def PlanE (s : Sea) (v : Veh) (x : S31) (t : Int) (e : S27) (l : List S33) (p : S81) : Int :=
 if beginE s v x t ≠ 0 then beginE s v x t else if bndB e.f0 e.f1 0 1073741824 = false then 2 else if crsE l s.layers ≠ 0 then crsE l s.layers else if pickB p = false then 2
 else if (ranI s v l x t 0 []).2.2 ≠ 0 then (ranI s v l x t 0 []).2.2 else if (enI v l e 0 []).2.2 ≠ 0 then (enI v l e 0 []).2.2 else if fetI v.dive p (ranI s v l x t 0 []).1 t 0 ≠ 2 then 20 else 0
set_option maxRecDepth 100000 in
set_option maxHeartbeats 8000000 in
theorem CheckPlan_any (s : Sea) (v : Veh) (x : S31) (t : Int) (ev : S27) (A : Option Addr) (c : Nat) (l : List S33) (p : S81) (A7 A8 : Option Addr) (c7 c8 : Nat) (w : World) (h7 : s.shores.length ≤ c7) (hC7 : Kd.C Kd.bool w A7 s.shores.length s.shores) (h8 : s.currents.length ≤ c8) (hC8 : Kd.C k40 w A8 s.currents.length s.currents) (hC : Kd.C k33 w A l.length l) (hc : l.length ≤ c) :
  Calls Try.prog 48 #[.agg #[.int .i64 s.nx, .int .i64 s.ny, .int .i64 s.cell, .int .i64 s.slot, .int .i64 s.slots, .int .i64 s.layers, .int .i64 s.most, .slice A7 s.shores.length c7, .slice A8 s.currents.length c8], .agg #[.int .i64 v.speed, .int .i64 v.dive, .int .i64 v.use.f0, .int .i64 v.use.f1, .int .i64 v.drift.f0, .int .i64 v.drift.f1, .int .i64 v.reserve], .agg #[.int .i64 x.f0.f0, .int .i64 x.f0.f1, .int .i64 x.f1.f0, .int .i64 x.f1.f1], .int .i64 t, .agg #[.int .i64 ev.f0, .int .i64 ev.f1], .slice A l.length c, .agg #[.int .i64 p.f0.f0.f0, .int .i64 p.f0.f0.f1, .int .i64 p.f0.f1.f0, .int .i64 p.f0.f1.f1, .int .i64 p.f1, .int .i64 p.f2]] w (RetB (.int .i64 (PlanE s v x t ev l p)) w) := by
 have hu25 := Try.underlying25
 have hu29 := Try.underlying29
 have hu31 := Try.underlying31
 have hu33 := Try.underlying33
 have hu27 := Try.underlying27
 have hu81 := Try.underlying81
 have HX : Hid (PlanE s v x t ev l p = if beginE s v x t ≠ 0 then beginE s v x t else if bndB ev.f0 ev.f1 0 1073741824 = false then 2 else if crsE l s.layers ≠ 0 then crsE l s.layers else if pickB p = false then 2
  else if (ranI s v l x t 0 []).2.2 ≠ 0 then (ranI s v l x t 0 []).2.2 else if (enI v l ev 0 []).2.2 ≠ 0 then (enI v l ev 0 []).2.2 else if fetI v.dive p (ranI s v l x t 0 []).1 t 0 ≠ 2 then 20 else 0) := Lib.hid rfl
 generalize PlanE s v x t ev l p = RR at *
 go_enter Try.func48, Try.ntmps48
 go_wp2_with fail
 have m7 : Blk (((((w.alloc (.cells #[.int .i64 s.nx, .int .i64 s.ny, .int .i64 s.cell, .int .i64 s.slot, .int .i64 s.slots, .int .i64 s.layers, .int .i64 s.most, .slice A7 s.shores.length c7, .slice A8 s.currents.length c8] 25)).alloc (.cells #[.int .i64 v.speed, .int .i64 v.dive, .int .i64 v.use.f0, .int .i64 v.use.f1, .int .i64 v.drift.f0, .int .i64 v.drift.f1, .int .i64 v.reserve] 29)).alloc (.cells #[.int .i64 x.f0.f0, .int .i64 x.f0.f1, .int .i64 x.f1.f0, .int .i64 x.f1.f1] 31)).alloc (.cells #[.int .i64 ev.f0, .int .i64 ev.f1] 27)).alloc (.cells #[.int .i64 p.f0.f0.f0, .int .i64 p.f0.f0.f1, .int .i64 p.f0.f1.f0, .int .i64 p.f0.f1.f1, .int .i64 p.f1, .int .i64 p.f2] 81)) (w.heap.size) #[.int .i64 s.nx, .int .i64 s.ny, .int .i64 s.cell, .int .i64 s.slot, .int .i64 s.slots, .int .i64 s.layers, .int .i64 s.most, .slice A7 s.shores.length c7, .slice A8 s.currents.length c8] 25 := (blk_alloc (blk_alloc (blk_alloc (blk_alloc zq16 _) _) _) _)
 have m8 : Blk (((((w.alloc (.cells #[.int .i64 s.nx, .int .i64 s.ny, .int .i64 s.cell, .int .i64 s.slot, .int .i64 s.slots, .int .i64 s.layers, .int .i64 s.most, .slice A7 s.shores.length c7, .slice A8 s.currents.length c8] 25)).alloc (.cells #[.int .i64 v.speed, .int .i64 v.dive, .int .i64 v.use.f0, .int .i64 v.use.f1, .int .i64 v.drift.f0, .int .i64 v.drift.f1, .int .i64 v.reserve] 29)).alloc (.cells #[.int .i64 x.f0.f0, .int .i64 x.f0.f1, .int .i64 x.f1.f0, .int .i64 x.f1.f1] 31)).alloc (.cells #[.int .i64 ev.f0, .int .i64 ev.f1] 27)).alloc (.cells #[.int .i64 p.f0.f0.f0, .int .i64 p.f0.f0.f1, .int .i64 p.f0.f1.f0, .int .i64 p.f0.f1.f1, .int .i64 p.f1, .int .i64 p.f2] 81)) (w.heap.size + 1) #[.int .i64 v.speed, .int .i64 v.dive, .int .i64 v.use.f0, .int .i64 v.use.f1, .int .i64 v.drift.f0, .int .i64 v.drift.f1, .int .i64 v.reserve] 29 := (blk_alloc (blk_alloc (blk_alloc zq37 _) _) _)
 have m9 : Blk (((((w.alloc (.cells #[.int .i64 s.nx, .int .i64 s.ny, .int .i64 s.cell, .int .i64 s.slot, .int .i64 s.slots, .int .i64 s.layers, .int .i64 s.most, .slice A7 s.shores.length c7, .slice A8 s.currents.length c8] 25)).alloc (.cells #[.int .i64 v.speed, .int .i64 v.dive, .int .i64 v.use.f0, .int .i64 v.use.f1, .int .i64 v.drift.f0, .int .i64 v.drift.f1, .int .i64 v.reserve] 29)).alloc (.cells #[.int .i64 x.f0.f0, .int .i64 x.f0.f1, .int .i64 x.f1.f0, .int .i64 x.f1.f1] 31)).alloc (.cells #[.int .i64 ev.f0, .int .i64 ev.f1] 27)).alloc (.cells #[.int .i64 p.f0.f0.f0, .int .i64 p.f0.f0.f1, .int .i64 p.f0.f1.f0, .int .i64 p.f0.f1.f1, .int .i64 p.f1, .int .i64 p.f2] 81)) (w.heap.size + 1 + 1) #[.int .i64 x.f0.f0, .int .i64 x.f0.f1, .int .i64 x.f1.f0, .int .i64 x.f1.f1] 31 := (blk_alloc (blk_alloc zq38 _) _)
 have m11 : Blk (((((w.alloc (.cells #[.int .i64 s.nx, .int .i64 s.ny, .int .i64 s.cell, .int .i64 s.slot, .int .i64 s.slots, .int .i64 s.layers, .int .i64 s.most, .slice A7 s.shores.length c7, .slice A8 s.currents.length c8] 25)).alloc (.cells #[.int .i64 v.speed, .int .i64 v.dive, .int .i64 v.use.f0, .int .i64 v.use.f1, .int .i64 v.drift.f0, .int .i64 v.drift.f1, .int .i64 v.reserve] 29)).alloc (.cells #[.int .i64 x.f0.f0, .int .i64 x.f0.f1, .int .i64 x.f1.f0, .int .i64 x.f1.f1] 31)).alloc (.cells #[.int .i64 ev.f0, .int .i64 ev.f1] 27)).alloc (.cells #[.int .i64 p.f0.f0.f0, .int .i64 p.f0.f0.f1, .int .i64 p.f0.f1.f0, .int .i64 p.f0.f1.f1, .int .i64 p.f1, .int .i64 p.f2] 81)) (w.heap.size + 1 + 1 + 1) #[.int .i64 ev.f0, .int .i64 ev.f1] 27 := (blk_alloc zq47 _)
 have m13 : Blk (((((w.alloc (.cells #[.int .i64 s.nx, .int .i64 s.ny, .int .i64 s.cell, .int .i64 s.slot, .int .i64 s.slots, .int .i64 s.layers, .int .i64 s.most, .slice A7 s.shores.length c7, .slice A8 s.currents.length c8] 25)).alloc (.cells #[.int .i64 v.speed, .int .i64 v.dive, .int .i64 v.use.f0, .int .i64 v.use.f1, .int .i64 v.drift.f0, .int .i64 v.drift.f1, .int .i64 v.reserve] 29)).alloc (.cells #[.int .i64 x.f0.f0, .int .i64 x.f0.f1, .int .i64 x.f1.f0, .int .i64 x.f1.f1] 31)).alloc (.cells #[.int .i64 ev.f0, .int .i64 ev.f1] 27)).alloc (.cells #[.int .i64 p.f0.f0.f0, .int .i64 p.f0.f0.f1, .int .i64 p.f0.f1.f0, .int .i64 p.f0.f1.f1, .int .i64 p.f1, .int .i64 p.f2] 81)) (w.heap.size + 1 + 1 + 1 + 1) #[.int .i64 p.f0.f0.f0, .int .i64 p.f0.f0.f1, .int .i64 p.f0.f1.f0, .int .i64 p.f0.f1.f1, .int .i64 p.f1, .int .i64 p.f2] 81 := zq48
 have mB : Below w.heap.size w (((((w.alloc (.cells #[.int .i64 s.nx, .int .i64 s.ny, .int .i64 s.cell, .int .i64 s.slot, .int .i64 s.slots, .int .i64 s.layers, .int .i64 s.most, .slice A7 s.shores.length c7, .slice A8 s.currents.length c8] 25)).alloc (.cells #[.int .i64 v.speed, .int .i64 v.dive, .int .i64 v.use.f0, .int .i64 v.use.f1, .int .i64 v.drift.f0, .int .i64 v.drift.f1, .int .i64 v.reserve] 29)).alloc (.cells #[.int .i64 x.f0.f0, .int .i64 x.f0.f1, .int .i64 x.f1.f0, .int .i64 x.f1.f1] 31)).alloc (.cells #[.int .i64 ev.f0, .int .i64 ev.f1] 27)).alloc (.cells #[.int .i64 p.f0.f0.f0, .int .i64 p.f0.f0.f1, .int .i64 p.f0.f1.f0, .int .i64 p.f0.f1.f1, .int .i64 p.f1, .int .i64 p.f2] 81)) := (below_alloc (below_alloc (below_alloc (below_alloc (below_alloc (Below.refl w.heap.size w) _) _) _) _) _)
 have hsz_ : w.heap.size ≤ w.heap.size := Nat.le_refl _
 generalize hW_ : (((((w.alloc (.cells #[.int .i64 s.nx, .int .i64 s.ny, .int .i64 s.cell, .int .i64 s.slot, .int .i64 s.slots, .int .i64 s.layers, .int .i64 s.most, .slice A7 s.shores.length c7, .slice A8 s.currents.length c8] 25)).alloc (.cells #[.int .i64 v.speed, .int .i64 v.dive, .int .i64 v.use.f0, .int .i64 v.use.f1, .int .i64 v.drift.f0, .int .i64 v.drift.f1, .int .i64 v.reserve] 29)).alloc (.cells #[.int .i64 x.f0.f0, .int .i64 x.f0.f1, .int .i64 x.f1.f0, .int .i64 x.f1.f1] 31)).alloc (.cells #[.int .i64 ev.f0, .int .i64 ev.f1] 27)).alloc (.cells #[.int .i64 p.f0.f0.f0, .int .i64 p.f0.f0.f1, .int .i64 p.f0.f1.f0, .int .i64 p.f0.f1.f1, .int .i64 p.f1, .int .i64 p.f2] 81)) = W1 at m7 m8 m9 m11 m13 mB ⊢
 clear hW_
 generalize hg7 : w.heap.size = g7 at m7 m8 m9 m11 m13 ⊢
 have hG7 : w.heap.size ≤ g7 := by omega
 generalize hg8 : g7 + 1 = g8 at m8 m9 m11 m13 ⊢
 have hn_7_8 : g7 ≠ g8 := by omega
 have hn_8_7 : g8 ≠ g7 := hn_7_8.symm
 have hG8 : w.heap.size ≤ g8 := by omega
 generalize hg9 : g8 + 1 = g9 at m9 m11 m13 ⊢
 have hn_7_9 : g7 ≠ g9 := by omega
 have hn_8_9 : g8 ≠ g9 := by omega
 have hn_9_7 : g9 ≠ g7 := hn_7_9.symm
 have hn_9_8 : g9 ≠ g8 := hn_8_9.symm
 have hG9 : w.heap.size ≤ g9 := by omega
 generalize hg11 : g9 + 1 = g11 at m11 m13 ⊢
 have hn_7_11 : g7 ≠ g11 := by omega
 have hn_8_11 : g8 ≠ g11 := by omega
 have hn_9_11 : g9 ≠ g11 := by omega
 have hn_11_7 : g11 ≠ g7 := hn_7_11.symm
 have hn_11_8 : g11 ≠ g8 := hn_8_11.symm
 have hn_11_9 : g11 ≠ g9 := hn_9_11.symm
 have hG11 : w.heap.size ≤ g11 := by omega
 generalize hg13 : g11 + 1 = g13 at m13 ⊢
 have hn_7_13 : g7 ≠ g13 := by omega
 have hn_8_13 : g8 ≠ g13 := by omega
 have hn_9_13 : g9 ≠ g13 := by omega
 have hn_11_13 : g11 ≠ g13 := by omega
 have hn_13_7 : g13 ≠ g7 := hn_7_13.symm
 have hn_13_8 : g13 ≠ g8 := hn_8_13.symm
 have hn_13_9 : g13 ≠ g9 := hn_9_13.symm
 have hn_13_11 : g13 ≠ g11 := hn_11_13.symm
 have hG13 : w.heap.size ≤ g13 := by omega
 clear hsz_
 try clear hg13
 try clear hg11
 try clear hg9
 try clear hg8
 try clear hg7
 have hs_W1 : w.heap.size ≤ W1.heap.size := mB.size
 have hbg : beginE s v x t = if tripE s v ≠ 0 then tripE s v else placeE x t := rfl
 have HBG := Lib.hid hbg
 clear hbg
 obtain ⟨c7_0, c7_1, c7_2, c7_3, c7_4, c7_5, c7_6, c7_7, c7_8⟩ := zcs9 m7
 obtain ⟨c8_0, c8_1, c8_2, c8_3, c8_4, c8_5, c8_6⟩ := zcs7 m8
 obtain ⟨c9_0, c9_1, c9_2, c9_3⟩ := zcs4 m9
 go_wp2_with fail
 clear c7_0 c7_1 c7_2 c7_3 c7_4 c7_5 c7_6 c7_7 c7_8 c8_0 c8_1 c8_2 c8_3 c8_4 c8_5 c8_6 c9_0 c9_1 c9_2 c9_3
 have hcon := begin_any s v x t A7 A8 c7 c8 W1 h7 (Kd.C_below hC7 mB) h8 (Kd.C_below hC8 mB)
 (with_reducible refine hcon.mono ?_)
 clear hcon
 rintro e W2 ⟨ptr, rfl, hb, hpt⟩
 replace m7 := blk_below m7 hb
 replace m8 := blk_below m8 hb
 replace m9 := blk_below m9 hb
 replace m11 := blk_below m11 hb
 replace m13 := blk_below m13 hb
 replace mB := below_step mB hb
 clear hb
 have hs_W2 : w.heap.size ≤ W2.heap.size := mB.size
 generalize hE_ : beginE s v x t = E0 at *
 have HE0 := Lib.hid hE_
 clear hE_
 by_cases h0 : E0 = 0
 case neg =>
  have HZ := Lib.hid (HX.out.trans (if_pos h0))
  have hd1 : (E0 == 0) = false := beq_eq_false_iff_ne.2 h0
  have hd2 : (E0 != 0) = true := by rw [bne, hd1]; rfl
  clear h0 hpt HX
  go_wp2
  go_ret
  exact ⟨zq17, mB⟩
 case pos =>
  have HX2 := Lib.hid (HX.out.trans (if_neg (fun h => h h0)))
  clear HX
  have hb0 := HBG.out.symm.trans h0
  obtain ⟨ht0, hp0⟩ := ite_ne_zero hb0
  obtain ⟨hbx, htt0, htt1⟩ := place_ok hp0
  obtain ⟨hSV, hVN⟩ := tripE_ok ht0
  have HVB := Lib.hid (tripE_veh ht0)
  rcases hpt with ⟨_, g, rfl, hg, hT⟩ | ⟨hbad, _⟩
  case inr => exact absurd ht0 hbad
  case inl =>
   subst h0
   clear hb0 ht0 hp0 HBG
   have HTT := Lib.hid (And.intro htt0 htt1)
   clear htt0 htt1
   obtain ⟨c11_0, c11_1⟩ := zcs2 m11
   go_wp2_with fail
   clear c11_0 c11_1
   have hcon := bnd_any ev.f0 ev.f1 0 1073741824 W2
   (with_reducible refine hcon.mono ?_)
   clear hcon
   rintro e W3 ⟨rfl, hb⟩
   replace hT := hT.below hb
   replace m7 := blk_below m7 hb
   replace m8 := blk_below m8 hb
   replace m9 := blk_below m9 hb
   replace m11 := blk_below m11 hb
   replace m13 := blk_below m13 hb
   replace mB := below_step mB hb
   clear hb
   cases hbn : bndB ev.f0 ev.f1 0 1073741824 with
   | false =>
    have HZ := Lib.hid (HX2.out.trans (if_pos hbn))
    clear hbn HX2
    go_wp2
    go_ret
    exact ⟨zq17, mB⟩
   | true =>
    have HX3 := Lib.hid (HX2.out.trans (if_neg (by rw [hbn]; decide)))
    have HBN := Lib.hid hbn
    clear HX2 hbn
    obtain ⟨c7_0, c7_1, c7_2, c7_3, c7_4, c7_5, c7_6, c7_7, c7_8⟩ := zcs9 m7
    go_wp2_with fail
    clear c7_0 c7_1 c7_2 c7_3 c7_4 c7_5 c7_6 c7_7 c7_8
    have hcon := crs_any A c l s.layers W3 (Kd.C_below hC mB) hc
    (with_reducible refine hcon.mono ?_)
    clear hcon
    rintro e W4 ⟨rfl, hb⟩
    replace hT := hT.below hb
    replace m7 := blk_below m7 hb
    replace m8 := blk_below m8 hb
    replace m9 := blk_below m9 hb
    replace m11 := blk_below m11 hb
    replace m13 := blk_below m13 hb
    replace mB := below_step mB hb
    clear hb
    have hc1 := fun h => crsE_ok (l := l) (layers := s.layers) h
    generalize crsE l s.layers = E1 at *
    by_cases h1 : E1 = 0
    case neg =>
     have HZ := Lib.hid (HX3.out.trans (if_pos h1))
     have hd1 : (E1 == 0) = false := beq_eq_false_iff_ne.2 h1
     have hd2 : (E1 != 0) = true := by rw [bne, hd1]; rfl
     clear h1 hc1 HX3
     go_wp2
     go_ret
     exact ⟨zq17, mB⟩
    case pos =>
     obtain ⟨hl64, hall⟩ := hc1 h1
     have HX4 := Lib.hid (HX3.out.trans (if_neg (fun h => h h1)))
     clear HX3 hc1
     subst h1
     have HLA := Lib.hid (And.intro hl64 hall)
     clear hl64 hall
     obtain ⟨c13_0, c13_1, c13_2, c13_3, c13_4, c13_5⟩ := zcs6 m13
     go_wp2_with fail
     clear c13_0 c13_1 c13_2 c13_3 c13_4 c13_5
     have hcon := glider_validPickup.calls 4 p.f0.f0.f0 p.f0.f0.f1 p.f0.f1.f0 p.f0.f1.f1 p.f1 p.f2 _ W4 (pick_some p)
     (with_reducible refine hcon.mono ?_)
     clear hcon
     rintro e W5 ⟨rfl, hb⟩
     replace hT := hT.below hb
     replace m7 := blk_below m7 hb
     replace m8 := blk_below m8 hb
     replace m9 := blk_below m9 hb
     replace m11 := blk_below m11 hb
     replace m13 := blk_below m13 hb
     replace mB := below_step mB hb
     clear hb
     cases hpk : pickB p with
     | false =>
      have HZ := Lib.hid (HX4.out.trans (if_pos hpk))
      clear hpk HX4
      go_wp2
      go_ret
      exact ⟨zq17, mB⟩
     | true =>
      have HX5 := Lib.hid (HX4.out.trans (if_neg (by rw [hpk]; decide)))
      clear HX4 hpk
      obtain ⟨c9_0, c9_1, c9_2, c9_3⟩ := zcs4 m9
      go_wp2_with fail
      clear c9_0 c9_1 c9_2 c9_3
      have hcon := run_any g s v x t A c l W5 hT hSV hVN hbx HTT.out.1 HTT.out.2 (Kd.C_below hC mB) hc HLA.out.1 HLA.out.2
      (with_reducible refine hcon.mono ?_)
      clear hcon
      rintro e W6 ⟨v0_, rfl, HR, hb⟩
      have hs5 : w.heap.size ≤ W5.heap.size := mB.size
      replace hT := hT.below hb
      replace m7 := blk_below m7 hb
      replace m8 := blk_below m8 hb
      replace m9 := blk_below m9 hb
      replace m11 := blk_below m11 hb
      replace m13 := blk_below m13 hb
      replace mB := below_step mB hb
      clear hb
      replace HR := Kd.R_lower HR hs5
      clear hs5
      have hrl : Hid ((ranI s v l x t 0 []).1.length ≤ 64) := Lib.hid (Nat.le_trans (ran_le s v l x t 0 []) (by have := HLA.out.1; simp only [List.length_nil]; omega))
      generalize ranI s v l x t 0 [] = R at *
      obtain ⟨R1, R2, R3⟩ := R
      dsimp only at HR hrl HX5 ⊢
      obtain ⟨Ao, co, rfl⟩ := Kd.R_slice HR
      by_cases h2 : R3 = 0
      case neg =>
       have HZ := Lib.hid (HX5.out.trans (if_pos h2))
       have hd1 : (R3 == 0) = false := beq_eq_false_iff_ne.2 h2
       have hd2 : (R3 != 0) = true := by rw [bne, hd1]; rfl
       clear h2 HX5
       go_wp2
       go_ret
       exact ⟨zq17, mB⟩
      case pos =>
       have HX6 := Lib.hid (HX5.out.trans (if_neg (fun h => h h2)))
       clear HX5
       subst h2
       obtain ⟨c8_0, c8_1, c8_2, c8_3, c8_4, c8_5, c8_6⟩ := zcs7 m8
       obtain ⟨c11_0, c11_1⟩ := zcs2 m11
       go_wp2_with fail
       clear c8_0 c8_1 c8_2 c8_3 c8_4 c8_5 c8_6 c11_0 c11_1
       have hcon := energy_any v ev A c l W6 HVB.out HBN.out (Kd.C_below hC mB) hc HLA.out.1
       (with_reducible refine hcon.mono ?_)
       clear hcon
       rintro e W7 ⟨v1_, rfl, HE, hb⟩
       clear HE
       replace HR := Kd.R_below HR hb
       replace m7 := blk_below m7 hb
       replace m8 := blk_below m8 hb
       replace m9 := blk_below m9 hb
       replace m11 := blk_below m11 hb
       replace m13 := blk_below m13 hb
       replace mB := below_step mB hb
       clear hb
       generalize enI v l ev 0 [] = Q at *
       obtain ⟨Q1, Q2, Q3⟩ := Q
       dsimp only at HX6 ⊢
       by_cases h3 : Q3 = 0
       case neg =>
        have HZ := Lib.hid (HX6.out.trans (if_pos h3))
        have hd1 : (Q3 == 0) = false := beq_eq_false_iff_ne.2 h3
        have hd2 : (Q3 != 0) = true := by rw [bne, hd1]; rfl
        clear h3 HX6
        go_wp2
        go_ret
        exact ⟨zq17, mB⟩
       case pos =>
        have HX7 := Lib.hid (HX6.out.trans (if_neg (fun h => h h3)))
        clear HX6
        subst h3
        obtain ⟨c8_0, c8_1, c8_2, c8_3, c8_4, c8_5, c8_6⟩ := zcs7 m8
        obtain ⟨c13_0, c13_1, c13_2, c13_3, c13_4, c13_5⟩ := zcs6 m13
        go_wp2_with fail
        clear c8_0 c8_1 c8_2 c8_3 c8_4 c8_5 c8_6 c13_0 c13_1 c13_2 c13_3 c13_4 c13_5
        have hcon := glider_fetched.calls 65 v.speed v.dive v.use.f0 v.use.f1 v.drift.f0 v.drift.f1 v.reserve t Ao co R1 p.f0.f0.f0 p.f0.f0.f1 p.f0.f1.f0 p.f0.f1.f1 p.f1 p.f2 _ W7 (Kd.R_reads' HR).2.2 (Kd.R_reads' HR).2.1 (fet_some v HVB.out p R1 hrl.out t HTT.out 65 (by have := hrl.out; omega))
        (with_reducible refine hcon.mono ?_)
        clear hcon
        rintro e W8 ⟨rfl, hb⟩
        replace m7 := blk_below m7 hb
        replace m8 := blk_below m8 hb
        replace m9 := blk_below m9 hb
        replace m11 := blk_below m11 hb
        replace m13 := blk_below m13 hb
        replace mB := below_step mB hb
        clear hb
        generalize fetI v.dive p R1 t 0 = F at *
        by_cases h4 : F = 2
        case neg =>
         have HZ := Lib.hid (HX7.out.trans (if_pos h4))
         have hd1 : (F == 2) = false := beq_eq_false_iff_ne.2 h4
         have hd2 : (F != 2) = true := by rw [bne, hd1]; rfl
         clear h4 HX7
         go_wp2
         go_ret
         exact ⟨zq17, mB⟩
        case pos =>
         have HZ := Lib.hid (HX7.out.trans (if_neg (fun h => h h4)))
         subst h4
         clear HX7
         go_wp2
         go_ret
         exact ⟨zq17, mB⟩
end Go.Proofs.Ytmhaiihjfgfaoaa.Gl
end
section
/- The contracts of exported functions, as the printed texts ask for them. -/
namespace Go.Proofs.Ytmhaiihjfgfaoaa.Pr
open Go.RowKit Go.Proofs.YtmhaiihjfgfaoaaW.PrintWords Go.Proofs.YtmhaiihjfgfaoaaW.PrintLast Go.Proofs.YtmhaiihjfgfaoaaW.PrintMore Go.Proofs.Ytmhaiihjfgfaoaa.Gl
set_option linter.unusedVariables false
def glider_CheckPlan.f (a0_0 : Int) (a0_1 : Int) (a0_2 : Int) (a0_3 : Int) (a0_4 : Int) (a0_5 : Int) (a0_6 : Int) (l0_7 : List Bool) (l0_8 : List (S40)) (a1_0 : Int) (a1_1 : Int) (a1_2 : Int) (a1_3 : Int) (a1_4 : Int) (a1_5 : Int) (a1_6 : Int) (a2_0 : Int) (a2_1 : Int) (a2_2 : Int) (a2_3 : Int) (a3 : Int) (a4_0 : Int) (a4_1 : Int) (l5 : List (S33)) (a6_0 : Int) (a6_1 : Int) (a6_2 : Int) (a6_3 : Int) (a6_4 : Int) (a6_5 : Int) : Option (Int) := some (PlanE ⟨a0_0, a0_1, a0_2, a0_3, a0_4, a0_5, a0_6, l0_7, l0_8⟩ ⟨a1_0, a1_1, ⟨a1_2, a1_3⟩, ⟨a1_4, a1_5⟩, a1_6⟩ ⟨⟨a2_0, a2_1⟩, ⟨a2_2, a2_3⟩⟩ a3 ⟨a4_0, a4_1⟩ l5 ⟨⟨⟨a6_0, a6_1⟩, ⟨a6_2, a6_3⟩⟩, a6_4, a6_5⟩)
theorem glider_CheckPlan.calls (a0_0 : Int) (a0_1 : Int) (a0_2 : Int) (a0_3 : Int) (a0_4 : Int) (a0_5 : Int) (a0_6 : Int) (A0_7 : Option Addr) (c0_7 : Nat) (l0_7 : List Bool) (A0_8 : Option Addr) (c0_8 : Nat) (l0_8 : List (S40)) (a1_0 : Int) (a1_1 : Int) (a1_2 : Int) (a1_3 : Int) (a1_4 : Int) (a1_5 : Int) (a1_6 : Int) (a2_0 : Int) (a2_1 : Int) (a2_2 : Int) (a2_3 : Int) (a3 : Int) (a4_0 : Int) (a4_1 : Int) (A5 : Option Addr) (c5 : Nat) (l5 : List (S33)) (a6_0 : Int) (a6_1 : Int) (a6_2 : Int) (a6_3 : Int) (a6_4 : Int) (a6_5 : Int) (r : Int) (w : World) (hr0_7 : Kd.C Kd.bool w A0_7 l0_7.length l0_7) (hc0_7 : l0_7.length ≤ c0_7) (hr0_8 : Kd.C k40 w A0_8 l0_8.length l0_8) (hc0_8 : l0_8.length ≤ c0_8) (hr5 : Kd.C k33 w A5 l5.length l5) (hc5 : l5.length ≤ c5) (h : glider_CheckPlan.f a0_0 a0_1 a0_2 a0_3 a0_4 a0_5 a0_6 l0_7 l0_8 a1_0 a1_1 a1_2 a1_3 a1_4 a1_5 a1_6 a2_0 a2_1 a2_2 a2_3 a3 a4_0 a4_1 l5 a6_0 a6_1 a6_2 a6_3 a6_4 a6_5 = some r) :
  Calls Try.prog 48 #[.agg #[.int .i64 a0_0, .int .i64 a0_1, .int .i64 a0_2, .int .i64 a0_3, .int .i64 a0_4, .int .i64 a0_5, .int .i64 a0_6, .slice A0_7 l0_7.length c0_7, .slice A0_8 l0_8.length c0_8], .agg #[.int .i64 a1_0, .int .i64 a1_1, .int .i64 a1_2, .int .i64 a1_3, .int .i64 a1_4, .int .i64 a1_5, .int .i64 a1_6], .agg #[.int .i64 a2_0, .int .i64 a2_1, .int .i64 a2_2, .int .i64 a2_3], .int .i64 a3, .agg #[.int .i64 a4_0, .int .i64 a4_1], .slice A5 l5.length c5, .agg #[.int .i64 a6_0, .int .i64 a6_1, .int .i64 a6_2, .int .i64 a6_3, .int .i64 a6_4, .int .i64 a6_5]] w fun e w' => e = .returned (.int .i64 r) ∧ Below w.heap.size w w' := by
 cases h
 exact CheckPlan_any ⟨a0_0, a0_1, a0_2, a0_3, a0_4, a0_5, a0_6, l0_7, l0_8⟩ ⟨a1_0, a1_1, ⟨a1_2, a1_3⟩, ⟨a1_4, a1_5⟩, a1_6⟩ ⟨⟨a2_0, a2_1⟩, ⟨a2_2, a2_3⟩⟩ a3 ⟨a4_0, a4_1⟩ A5 c5 l5 ⟨⟨⟨a6_0, a6_1⟩, ⟨a6_2, a6_3⟩⟩, a6_4, a6_5⟩ A0_7 A0_8 c0_7 c0_8 w hc0_7 hr0_7 hc0_8 hr0_8 hr5 hc5
end Go.Proofs.Ytmhaiihjfgfaoaa.Pr
end
section
/- Rows of courses of the call's own. -/
namespace Go.Proofs.Ytmhaiihjfgfaoaa.Gl
open Go.RowKit Go.Shelf Go.Proofs.YtmhaiihjfgfaoaaW.PrintWords Go.Proofs.YtmhaiihjfgfaoaaW.PrintLast Go.Proofs.YtmhaiihjfgfaoaaW.PrintMore Go.Proofs.Ytmhaiihjfgfaoaa.Pr Go.Proofs.YtmhaiihjfgfaoaaW.Round
set_option linter.unusedVariables false
set_option linter.unusedSimpArgs false
attribute [local go_sem] max2_int min2_int max_two min_two max_four
/-- The cells of courses. -/
def cosC (l : List S33) : List Value := l.flatMap fun c => [.int .i64 c.f0, .int .i64 c.f1]
theorem cosC_len (l : List S33) : (cosC l).length = l.length * 2 := by
 induction l with
 | nil => rfl
 | cons c l ih => unfold cosC at *; rw [List.flatMap_cons, List.length_append, ih]; simp; omega
theorem cosC_snoc (l : List S33) (c : S33) : cosC (l ++ [c]) = cosC l ++ [.int .i64 c.f0, .int .i64 c.f1] := by unfold cosC; simp
theorem cosC_one (l : List S33) : ∀ u ∈ cosC l, u.oneCell' = true := by
 intro u hu
 obtain ⟨c, _, hc⟩ := List.mem_flatMap.1 hu
 simp only [List.mem_cons, List.not_mem_nil, or_false] at hc
 rcases hc with rfl | rfl <;> rfl
theorem cosC_reps (w : World) (base : Nat) (ok : Nat → Prop) (l : List S33) : Reps (k33.M w base ok) 2 l (cosC l) := by
 suffices h : ∀ (a b : List S33), Reps (k33.M w base ok) 2 a (cosC a) → Reps (k33.M w base ok) 2 (a ++ b) (cosC (a ++ b)) by
  have := h [] l (Reps.none _ _)
  rwa [List.nil_append] at this
 intro a b
 induction b generalizing a with
 | nil => intro h; rwa [List.append_nil]
 | cons c b ih =>
  intro h
  have h2 := ih (a ++ [c]) (by rw [cosC_snoc]; exact h.snoc (k33_mkM _ _ _ c) rfl)
  rwa [List.append_assoc, List.singleton_append] at h2
/-- A row of courses that the call owns. -/
def CoAt (W : World) (base : Nat) (v : Value) (l : List S33) : Prop := W.ownsRow base 33 2 v l.length (cosC l)
theorem CoAt.toR {W : World} {base : Nat} {v : Value} {l : List S33} (h : CoAt W base v l) : Kd.R k33 33 W base (fun _ => True) v l := ⟨fun _ _ => trivial, cosC l, h, cosC_reps _ _ _ _⟩
theorem CoAt.nil (W : World) (base : Nat) : CoAt W base (.slice none 0 0) [] := World.ownsRow_nil _ _ _ _
theorem CoAt.move {W W1 : World} {base : Nat} {v : Value} {l : List S33} (h : CoAt W base v l) (hm : ∀ k, v.ownBlock = some k → W1.heap[k]? = W.heap[k]?) : CoAt W1 base v l := own_move h hm
theorem CoAt.lt {W : World} {base : Nat} {v : Value} {l : List S33} (h : CoAt W base v l) (k : Nat) (hk : v.ownBlock = some k) : base ≤ k ∧ k < W.heap.size := World.ownsRow.lt h k hk
theorem CoAt.below {W W1 : World} {base : Nat} {v : Value} {l : List S33} (h : CoAt W base v l) (hb : Below W.heap.size W W1) : CoAt W1 base v l := h.move (fun k hk => hb.block k (h.lt k hk).2)
theorem CoAt.ne {W : World} {base : Nat} {v : Value} {l : List S33} (h : CoAt W base v l) {g : Nat} {cs : Array Value} {t : TypeId} (hg : Blk W g cs t) (ht : t ≠ 33) : some g ≠ v.ownBlock := own_ne h hg (fun e => ht e.symm)
theorem CoAt.lower {W : World} {base base' : Nat} {v : Value} {l : List S33} (h : CoAt W base v l) (hb : base' ≤ base) : CoAt W base' v l := own_weaken h hb
theorem CoAt.slice {W : World} {base : Nat} {v : Value} {l : List S33} (h : CoAt W base v l) : ∃ A c, v = .slice A l.length c := by
 rcases h.2 with ⟨rfl, h0⟩ | ⟨g, cap, cur, rfl, _⟩
 ·exact ⟨none, 0, by rw [h0]⟩
 ·exact ⟨_, _, rfl⟩
theorem CoAt.back {W : World} {base g cap n : Nat} {xs ys : List Value} {e : TypeId} (h : W.ownsRow base e 2 (.slice (some ⟨g, 0, none⟩) (n + 1) cap) (n + 1) (xs ++ ys)) (hx : xs.length = n * 2) : W.ownsRow base e 2 (.slice (some ⟨g, 0, none⟩) n cap) n xs := by
 rcases h.2 with ⟨h1, _⟩ | ⟨g', cap', cur, hv, hb, hg, hn, hm, hs, ht⟩
 ·cases h1
 ·injection hv with h1 h2 h3
  injection h1 with h1
  injection h1 with h1
  subst h1
  subst h3
  refine ⟨hx, .inr ⟨g, cap, cur, rfl, hb, hg, by omega, hm, hs, ?_⟩⟩
  have h4 := congrArg (List.take (n * 2)) ht
  rw [List.take_take, show min (n * 2) ((n + 1) * 2) = n * 2 by omega, ← hx, List.take_left] at h4
  rw [← hx]
  exact h4
section
variable {P : Program} {b : Frame} {a : Act} {k : List Item} {cs : List Frame} {w : World} {Q : Exit → Act → World → Prop} {F : Fence} {n : Nat}
theorem stepR_scope {c : Code} : step P (lone (b.atR a (.code (.scope c) :: k)) cs w) = .next (lone (b.atR a (.code c :: .inScope c :: k)) cs w) :=
 step_lone_go (by simp [stepG, stepG.exec, Frame.atR])
theorem stepR_inScope {c : Code} : step P (lone (b.atR a (.inScope c :: k)) cs w) = .next (lone (b.atR a k) cs w) :=
 step_lone_go (by simp [stepG, stepG.exec, Frame.atR])
/-- A scope through which the run goes without a goto, inside a fence. -/
theorem wpIn_scope {c : Code} (h : c.wpIn F n P (Exit.noGoto Q) a w) : (Code.scope c).wpIn F n P Q a w := by
 intro b k cs hro hb hr
 have h0 : (lone (b.atR a (.code (.scope c) :: k)) cs w).fenced P F := fenced_calm hb hr rfl
 obtain ⟨e, a₁, w₁, hq, harr⟩ := h b (.inScope c :: k) cs hro hb hr
 cases e with
 | normal => exact ⟨.normal, a₁, w₁, hq, .head h0 stepR_scope (StepsIn.trans harr (.one (fenced_calm hb hr rfl) stepR_inScope))⟩
 | exit id =>
  have hx : exitTo id (.inScope c :: k) = exitTo id k := by simp [exitTo]
  exact ⟨.exit id, a₁, w₁, hq, fun k' hk => .head h0 stepR_scope (harr.1 k' (by rw [hx]; exact hk)),
   fun hr' hk => let ⟨k₁, h1, h2⟩ := harr.2 hr' (by rw [hx]; exact hk); ⟨k₁, h1, .head h0 stepR_scope h2⟩⟩
 | goto l => exact hq.elim
 | ret => exact ⟨_, a₁, w₁, hq, .of_steps (.one h0 stepR_scope) harr⟩
 | panic ch => exact ⟨_, a₁, w₁, hq, .of_steps (.one h0 stepR_scope) harr⟩
 | outgrown => exact ⟨_, a₁, w₁, hq, .of_steps (.one h0 stepR_scope) harr⟩
end
section
variable {P : Program}
/-- append of one course: what the longer row leaves of the shorter one. -/
theorem run_append_back (w : World) (base : Nat) (t ty e : TypeId) (i : TypeInfo) (z : Value) (bytes : Nat) (ht : P.underlying t = some (.slice e)) (hi : P.info? e = some i) (hz : i.zero = some z)
  (hsize : i.size = 2) (hby : i.bytes = bytes) (hzs : z.cells.size = 2)
  (v : Value) (n : Nat) (xs : List Value) (hown : w.ownsRow base e 2 v n xs)
  (a : Addr) (c : Nat) (news : List Value) (hl : news.length = 2) (hnews : ∀ j u, news[j]? = some u → w.cell? (a.add j) = some u) (h1 : ∀ u ∈ news, u.oneCell' = true)
  (h63 : n + 1 ≤ maxLen) (hbytes : (n + 1) * bytes ≤ 140737488355328) (hbase : base ≤ w.heap.size) :
  ∃ v' w', (Builtin.append_ #[t, t] ty #[v, .slice (some a) 1 c]).run P w = .ok v' w' ∧ w'.ownsRow base e 2 v' (n + 1) (xs ++ news) ∧ w.grownBy w' v.ownBlock ∧ w'.ownsRow base e 2 v n xs ∧
   ((v'.ownBlock = v.ownBlock ∧ ∀ W' : World, W'.ownsRow base e 2 v' (n + 1) (xs ++ news) → W'.ownsRow base e 2 v n xs) ∨ v'.ownBlock = some w.heap.size) := by
 obtain ⟨v', w', hr, h2, h3, _, hat⟩ := run_append_own_at (P := P) w base t ty e i z 2 bytes ht hi hz hsize hby hzs (by decide) v n xs hown a 1 c news (by rw [hl]) hnews h1 h63 hbytes hbase
 refine ⟨v', w', hr, h2, h3, ?_⟩
 rcases hown.2 with ⟨rfl, rfl⟩ | ⟨g, cap, cur, rfl, hbg, hg, hnc, hcm, hcs, htake⟩
 ·rcases hat with hat | hat
  ·exfalso
   rcases h2.2 with ⟨_, h⟩ | ⟨g, cap, cur, rfl, _⟩
   ·omega
   ·cases hat
  ·exact ⟨World.ownsRow_nil _ _ _ _ |> fun h => by
    have hx : xs = [] := List.eq_nil_of_length_eq_zero (by simpa using hown.1)
    rw [hx]; exact h, .inr hat⟩
 ·by_cases hroom : n + 1 ≤ cap
  ·have hfit : n * i.size + news.length ≤ cur.size := by rw [hl, hsize, hcs]; omega
   have hr2 := run_append_room (P := P) w t ty e i ht hi g n cap cur hg a 1 c news (by rw [hl, hsize]) hnews h1 hroom hfit
   rw [hr] at hr2
   injection hr2 with hr2 _
   subst hr2
   exact ⟨CoAt.back h2 hown.1, .inl ⟨rfl, fun W' h => CoAt.back h hown.1⟩⟩
  ·have holds : ∀ j u, xs[j]? = some u → w.cell? ((⟨g, 0, none⟩ : Addr).add j) = some u := hown.cells (g := g) rfl
   have hlim : n + 1 ≤ 9223372036854775807 := by simp only [maxLen] at h63; omega
   have hr2 := run_append_grow (P := P) w t ty e i z ht hi hz ⟨g, 0, none⟩ n cap xs (by rw [hsize]; exact hown.1) holds a 1 c news (by rw [hl, hsize]) hnews (by omega) (by omega) (growslice_fits (by omega) (by rw [hby]; exact hbytes))
   rw [hr] at hr2
   injection hr2 with hr2 hr3
   subst hr2
   subst hr3
   exact ⟨World.ownsRow.alloc (World.ownsRow.drew hown) _, .inr rfl⟩
variable {ops : Array Oper} {o : Oper} {a : Act} {Q : Exit → Act → World → Prop} {K : Act → World → Prop}
theorem step_append_back {w0 W : World} (base : Nat) (hw : Region.wanted o (yielded ops a.tmps) = true) (s x : Operand) (t e : TypeId) (z : Value) (bytes : Nat)
  (ho : o.op = .call { callee := .builtin .append, args := #[s, x], argTypes := #[t, t] })
  (ht : P.underlying t = some (.slice e)) (hinfo : (P.info? e).map (fun i => (i.zero, i.size, i.bytes)) = some (some z, 2, bytes)) (hz : z.cells.size = 2) (hb0 : 0 < bytes)
  (v : Value) (n : Nat) (xs ys : List Value) (hs : a.eval s = v) (hx : a.eval x = .slice (some ⟨W.heap.size, 0, none⟩) 1 1) (hys : ys.length = 2) (h1 : ∀ u ∈ ys, u.oneCell' = true)
  (HO : W.ownsRow base e 2 v n xs) (HB : Below base w0 W) (hbase : base ≤ W.heap.size) (hl : (n + 1) * bytes ≤ 140737488355328)
  (h : ∀ v1 w1, w1.ownsRow base e 2 v1 (n + 1) (xs ++ ys) → Below base w0 w1 → W.grownBy w1 v.ownBlock → w1.ownsRow base e 2 v n xs → ((v1.ownBlock = v.ownBlock ∧ ∀ W' : World, W'.ownsRow base e 2 v1 (n + 1) (xs ++ ys) → W'.ownsRow base e 2 v n xs) ∨ ∃ b, v1.ownBlock = some b ∧ W.heap.size ≤ b) → K (a.put o.dst v1) w1) :
  if Region.wanted o (yielded ops a.tmps) = true then Oper.wp P o a (W.alloc (.cells ys.toArray e)) K Q else K (a.put o.dst undef) (W.alloc (.cells ys.toArray e)) := by
 obtain ⟨i0, hi, hzz⟩ := Option.map_eq_some_iff.1 hinfo
 simp only [Prod.mk.injEq] at hzz
 obtain ⟨hz0, hz1, hz2⟩ := hzz
 have hlen : n + 1 ≤ 140737488355328 := Nat.le_trans (Nat.le_mul_of_pos_right _ hb0) hl
 rw [if_pos hw]
 obtain ⟨v1, w1, hr, hown, hg, hst, hat⟩ := run_append_back (P := P) (W.alloc (.cells ys.toArray e)) base t o.type e i0 z bytes ht hi hz0 hz1 hz2 hz v n xs (HO.alloc _) ⟨W.heap.size, 0, none⟩ 1 ys hys
  (by simpa using World.news_of_block (cs := ys.toArray) (t := e) (fr := (0, 0)) (heap_alloc_new W (.cells ys.toArray e))) h1 (by simp only [maxLen]; omega) hl (by simp; omega)
 unfold Oper.wp execOp
 simp only [ho, resolve, invoke, builtin, Sem.run_bind, Sem.run_pure, Result.andThen_ok, List.map_toArray, List.map_cons, List.map_nil, hs, hx, hr]
 refine h v1 w1 hown ((HB.alloc hbase _).grown hg (by simp; omega) (own_base HO)) (World.grownBy.trans (World.grownBy_alloc W _ _) hg) hst ?_
 rcases hat with hat | hat
 ·exact .inl hat
 ·exact .inr ⟨_, hat, by simp⟩
/-- A call of a function value that has captured something. -/
theorem goesV_ {oi : Oper} {N : Option Tmp} {w : World} {f : FuncId} {fn : Func} {x : Operand} {os : Array Operand} {ts : Array TypeId} (hf : P.funcs[f]? = some fn) (hname : (fn.name == "runtime.NumGoroutine") = false) (hb : fn.body.isSome = true) (args lb : Array Value)
  (hw : Region.wanted oi (yielded ops a.tmps) = true) (hN : oi.dst = N) (hop : oi.op = .call { callee := .value x, args := os, argTypes := ts }) (hx : a.eval x = .func (.func f) #[] lb) (hargs : os.map a.eval = args)
  (h : Calls P f (args ++ lb) w fun e w' => ∃ v, e = .returned v ∧ K (a.put N v) w') : if Region.wanted oi (yielded ops a.tmps) = true then Oper.wp P oi a w K Q else K (a.put N undef) w := by
 refine call_ f (args ++ lb) hw hN ?_ h
 have he := enters_ hf hname hb (args ++ lb) w
 unfold execOp
 simp [hop, hx, resolve, Deferred.ofValue, invoke, hargs, he]
end
set_option maxRecDepth 100000 in
set_option maxHeartbeats 4000000 in
/-- slices.Clone of courses that a call owns. -/
theorem clone_any (b n c : Nat) (news : List Value) (w : World) (hn : news.length = n * 2) (hsm : n ≤ 64) (hc : ∀ j u, news[j]? = some u → w.cell? ⟨b, 0 + j, none⟩ = some u) (h1 : ∀ u ∈ news, u.oneCell' = true) :
  Calls Try.prog 108 #[.slice (some ⟨b, 0, none⟩) n c] w fun e w' => ∃ v', e = .returned v' ∧ w'.ownsRow w.heap.size 33 2 v' n news ∧ Below w.heap.size w w' := by
 obtain ⟨i0, hi, hzz⟩ := Option.map_eq_some_iff.1 info33
 simp only [Prod.mk.injEq] at hzz
 obtain ⟨hz0, hz1, hz2⟩ := hzz
 have q22 : ∀ (w : World) (a : Option Addr) (n c n' c' : Nat), (binOp .eql 49 (.slice a n c) (.slice none n' c')).run Try.prog w = .ok (.bool a.isNone) w := fun w a n c n' c' => Lib.run_eql_slice_nil w _ _ a n c n' c' Try.underlying49
 have A : Aside (∀ j u, news[j]? = some u → w.cell? ⟨b, 0 + j, none⟩ = some u) := hc
 clear hc
 go_enter Try.func108, Try.ntmps108
 go_wp2_with (at_builtin; refine wpList_append_own _ rfl _ _ 49 rfl w.heap.size 33 i0 (.agg #[.int .i64 0, .int .i64 0]) 2 16 Try.underlying49 hi hz0 hz1 hz2 rfl (by decide) _ _ _ rfl (World.ownsRow_made w #[] 0 (Nat.le_refl _) (Nat.zero_le _) (by simp)) ⟨b, 0, none⟩ n c news rfl ?qc1 ?qc2 ?qc3 ?qc4 ?qc5 ?qc6 ?_)
 case qc1 => exact hn
 case qc2 =>
  intro j u hj
  rw [Addr.add_lit]
  exact Lib.cell?_alloc_some _ (A.out j u hj)
 case qc3 => exact h1
 case qc4 => rw [Nat.zero_add]; simp only [maxLen]; omega
 case qc5 => rw [Nat.zero_add]; omega
 case qc6 => simp
 intro v' w1 hown hgrow hnil
 go_wp2
 go_ret
 refine ⟨v', rfl, by simpa using hown, ?_⟩
 exact ((Below.refl _ w).alloc (Nat.le_refl _) _).grown hgrow (by simp) (by intro k hk; simp [Value.ownBlock] at hk; omega)
theorem cloneCo_any (v : Value) (l : List S33) (base : Nat) (w : World) (h : CoAt w base v l) (h0 : 0 < l.length) (hsm : l.length ≤ 64) :
  Calls Try.prog 108 #[v] w fun e w' => ∃ v', e = .returned v' ∧ CoAt w' w.heap.size v' l ∧ Below w.heap.size w w' := by
 obtain ⟨g, cap, rfl, _⟩ := World.ownsRow.form h h0
 refine clone_any g l.length cap (cosC l) w (cosC_len l) hsm (fun j u hu => ?_) (cosC_one l)
 have := World.ownsRow.cells h (g := g) rfl j u hu
 rwa [Addr.add_lit] at this
end Go.Proofs.Ytmhaiihjfgfaoaa.Gl
end
