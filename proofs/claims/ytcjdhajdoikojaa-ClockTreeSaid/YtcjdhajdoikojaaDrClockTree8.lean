/- Part 8 of the proof of ClockTree: what the functions compute. No condition. -/
import Derived.SizedLaws
import Derived.ChangeSlices
import Derived.Deep.Slices
import Derived.ChangeArms
import Derived.DataReads
import Derived.WideShapes
import Derived.Test.YtcjdhajdoikojaaDrClockTree1
import Derived.Test.YtcjdhajdoikojaaDrClockTree6
import Derived.Test.YtcjdhajdoikojaaDrClockTree7
import Derived.Test.YtcjdhajdoikojaaDrClockTree2
section
-- PRINTED by print.py (a twelfth state) out of the translation. Not trusted: Lean checks it.
namespace Go.Proofs.Ytcjdhajdoikojaa.Pr
open Go.RowKit Go.Proofs.YtcjdhajdoikojaaW.PrintWords Go.Proofs.YtcjdhajdoikojaaW.PrintLast Go.Proofs.YtcjdhajdoikojaaW.PrintMore
attribute [local go_sem] max2_int min2_int max_two min_two
set_option linter.unusedVariables false
set_option linter.unusedSimpArgs false

theorem eqA35 (d : Nat) (w : World) (x0 y0 : Int) (x1 y1 : Int) :
    (Op.equalIn (d + 2) 35 (.agg #[.int .i64 x0, .int .i64 x1]) (.agg #[.int .i64 y0, .int .i64 y1])).run Try.prog w = .ok (x0 == y0 && (x1 == y1)) w := by
  refine eqA_of Try.underlying35 (by kernel_rfl) ?_
  refine eqf_cons (by rfl) (by go_simp; rfl) (by go_simp; rfl) (by go_simp) ?_
  exact eqf_last (by rfl) (by go_simp; rfl) (by go_simp; rfl) (by go_simp)
end Go.Proofs.Ytcjdhajdoikojaa.Pr
end
section
-- PRINTED by print.py (a twelfth state) out of the translation. Not trusted: Lean checks it.
namespace Go.Proofs.Ytcjdhajdoikojaa.Pr
open Go.RowKit Go.Proofs.YtcjdhajdoikojaaW.PrintWords Go.Proofs.YtcjdhajdoikojaaW.PrintLast Go.Proofs.YtcjdhajdoikojaaW.PrintMore
attribute [local go_sem] max2_int min2_int max_two min_two
set_option linter.unusedVariables false
set_option linter.unusedSimpArgs false

/-! ### isobathlaw05_Example: function 52 -/
def isobathlaw05_Example.f  : Option (Int × Int × (List (S46))) := some ((-1), 1000, (([(⟨1000, 2010, 2020, 1030, (⟨5, 15⟩ : S35), (⟨5, 15⟩ : S35)⟩ : S46), (⟨2000000, 2001020, 2001030, 2000060, (⟨5, 40⟩ : S35), (⟨5, 40⟩ : S35)⟩ : S46)] : List (S46))))
set_option maxHeartbeats 8000000 in
set_option maxRecDepth 100000 in
theorem isobathlaw05_Example.calls  (r1 : Int) (r2 : Int) (r3 : List (S46)) (w : World) (h : isobathlaw05_Example.f  = some (r1, r2, r3)) :
    Calls Try.prog 52 #[] w fun e w' => ∃ v2_ : Value, e = .returned (.agg #[.int .i64 r1, .int .i64 r2, v2_]) ∧ Kd.R k46 46 w' w.heap.size (fun _ => True) v2_ r3 ∧ Below w.heap.size w w' := by
  have hu30 := Try.underlying30
  have hu35 := Try.underlying35
  have hu46 := Try.underlying46
  have HB := Aside0.mk (Below.refl w.heap.size w)
  have H : (some ((-1), 1000, (([(⟨1000, 2010, 2020, 1030, (⟨5, 15⟩ : S35), (⟨5, 15⟩ : S35)⟩ : S46), (⟨2000000, 2001020, 2001030, 2000060, (⟨5, 40⟩ : S35), (⟨5, 40⟩ : S35)⟩ : S46)] : List (S46))))) = some (r1, r2, r3) := h
  clear h
  obtain ⟨y197, hy197⟩ : ∃ y_ : List (S46), y_ = (([(⟨1000, 2010, 2020, 1030, (⟨5, 15⟩ : S35), (⟨5, 15⟩ : S35)⟩ : S46), (⟨2000000, 2001020, 2001030, 2000060, (⟨5, 40⟩ : S35), (⟨5, 40⟩ : S35)⟩ : S46)] : List (S46))) := ⟨_, rfl⟩
  replace H : (some ((-1), 1000, y197)) = some (r1, r2, r3) := by first | (rw [hy197]; with_reducible exact H) | (have H2_ := (Option.bind_some _ _).symm.trans H; rw [hy197]; with_reducible exact H2_) | (have H2_ := (Option.bind_some _ _).symm.trans H; with_reducible exact H2_) | with_reducible exact H | (rw [hy197]; exact H) | exact H
  have Ny197 := Aside0.mk hy197
  clear hy197
  simp only [Option.some.injEq, Prod.mk.injEq] at H
  obtain ⟨rfl, rfl, rfl⟩ := H
  go_enter Try.func52, Try.ntmps52
  go_wp2_with (first | ((with_reducible refine gate_dst (N := 0) rfl ?_); refine box_event ?hg (N := 0) ?hd (cs := #[.int .i64 0, .int .i64 0, .slice none 0 0]) (t := 30) ?hr ?_; (case hd => rfl); (case hg => rfl); (case hr => first | (go_simp; done) | (go_simp; rfl)); intro gb196 hg w1 hbox hb; have n0_ := Aside0.mk (below_step (by repeat (first | (with_reducible first | exact HB.out | apply below_alloc | apply pw_below_drewN | apply below_drew1) | exact HB.out)) hb); have n1_ := Aside0.mk (hbox); have n2_ := Aside0.mk ((by rw [hg]; exact (below_size (by repeat (first | (with_reducible first | exact HB.out | apply below_alloc | apply pw_below_drewN | apply below_drew1) | exact HB.out))) : w.heap.size ≤ gb196)); have n3_ := Aside0.mk ((by rw [hg]; exact (below_size (by repeat (first | (with_reducible first | exact HB.out | apply below_alloc | apply pw_below_drewN | apply below_drew1) | exact HB.out))) : w.heap.size ≤ gb196)); clear HB; have HB := n0_; have BK196 := n1_; have GW196 := n2_; have GE196 := n3_; clear n0_ n1_ n2_ n3_; clear hb hbox hg) | ((with_reducible refine gate_dst (N := 7) rfl ?_); refine Kd.R_lit k46 _ 46 ?hg (N := 7) ?hd (xs := ([(⟨1000, 2010, 2020, 1030, (⟨5, 15⟩ : S35), (⟨5, 15⟩ : S35)⟩ : S46), (⟨2000000, 2001020, 2001030, 2000060, (⟨5, 40⟩ : S35), (⟨5, 40⟩ : S35)⟩ : S46)] : List (S46))) (inner := [.int .i64 1000, .int .i64 2010, .int .i64 2020, .int .i64 1030, .int .i64 5, .int .i64 15, .int .i64 5, .int .i64 15, .int .i64 2000000, .int .i64 2001020, .int .i64 2001030, .int .i64 2000060, .int .i64 5, .int .i64 40, .int .i64 5, .int .i64 40]) (ok := fun _ => True) (okp := fun _ => True) ?hr ?hp (fun _ hk => hk) trivial (Below.refl _ _) (Nat.le_refl _) (by simp) ?_; (case hd => rfl); (case hg => rfl); (case hr => first | (go_simp; done) | (go_simp; rfl)); (case hp => exact (Reps.c8 (show Kd.M k46 _ _ _ (⟨1000, 2010, 2020, 1030, (⟨5, 15⟩ : S35), (⟨5, 15⟩ : S35)⟩ : S46) [.int .i64 1000, .int .i64 2010, .int .i64 2020, .int .i64 1030, .int .i64 5, .int .i64 15, .int .i64 5, .int .i64 15] from (k46_mkM _ _ _ (⟨1000, 2010, 2020, 1030, (⟨5, 15⟩ : S35), (⟨5, 15⟩ : S35)⟩ : S46) )) (Reps.c8 (show Kd.M k46 _ _ _ (⟨2000000, 2001020, 2001030, 2000060, (⟨5, 40⟩ : S35), (⟨5, 40⟩ : S35)⟩ : S46) [.int .i64 2000000, .int .i64 2001020, .int .i64 2001030, .int .i64 2000060, .int .i64 5, .int .i64 40, .int .i64 5, .int .i64 40] from (k46_mkM _ _ _ (⟨2000000, 2001020, 2001030, 2000060, (⟨5, 40⟩ : S35), (⟨5, 40⟩ : S35)⟩ : S46) )) (Reps.none _ _)))); intro v198 w2 ho3 hb hg_ hnew_; clear hg_ hnew_; (first | rw [← Ny197.out] at ho3 | (simp only [Int.reduceToNat] at ho3; rw [← Ny197.out] at ho3)); have n0_ := Aside0.mk (Kd.R_lower ho3 (below_size (by repeat (first | (with_reducible first | exact HB.out | apply below_alloc | apply pw_below_drewN | apply below_drew1 | refine below_set ?_ GE196.out) | exact HB.out)))); have n1_ := Aside0.mk (blk_below (g := gb196) (o := .cells #[.int .i64 0, .int .i64 0, .slice none 0 0] 30 (0, 0)) (by (with_reducible repeat (first | refine blk_drewN ?_ _ | refine blk_drew ?_ | refine blk_alloc ?_ _)); exact BK196.out) hb); have n2_ := Aside0.mk (below_step (by repeat (first | (with_reducible first | exact HB.out | apply below_alloc | apply pw_below_drewN | apply below_drew1 | refine below_set ?_ GE196.out) | exact HB.out)) hb); clear BK196; clear HB; have HO199 := n0_; have BK196 := n1_; have HB := n2_; clear n0_ n1_ n2_; clear hb ho3; obtain ⟨Ao4, co4, eo4⟩ := Kd.R_slice HO199.out; subst eo4; have hcz5_0 : w2.cell? ⟨gb196, 0, none⟩ = some (.int .i64 0) := (blk_cell BK196.out 0).trans rfl; have hcz5_1 : w2.cell? ⟨gb196, 1, none⟩ = some (.int .i64 0) := (blk_cell BK196.out 1).trans rfl; have hcz5_2 : w2.cell? ⟨gb196, 2, none⟩ = some (.slice none 0 0) := (blk_cell BK196.out 2).trans rfl; have hfz5_0 := blk_frozen BK196.out 0; have hfz5_1 := blk_frozen BK196.out 1; have hfz5_2 := blk_frozen BK196.out 2))
  refine bodyPost_ret (results_cell_row rfl _ _ gb196 30 #[.int .i64 (-1), .int .i64 1000, .slice Ao4 y197.length co4] (0, 0) _ rfl (by (with_reducible repeat (first | refine blk_drewN ?_ _ | refine blk_drew ?_ | refine blk_alloc ?_ _)); refine blk_put (cs := #[.int .i64 (-1), .int .i64 1000, .slice none 0 0]) ?_ 2 _ rfl; (with_reducible repeat (first | refine blk_drewN ?_ _ | refine blk_drew ?_ | refine blk_alloc ?_ _)); refine blk_put (cs := #[.int .i64 (-1), .int .i64 0, .slice none 0 0]) ?_ 1 _ rfl; (with_reducible repeat (first | refine blk_drewN ?_ _ | refine blk_drew ?_ | refine blk_alloc ?_ _)); refine blk_put (cs := #[.int .i64 0, .int .i64 0, .slice none 0 0]) ?_ 0 _ rfl; (with_reducible repeat (first | refine blk_drewN ?_ _ | refine blk_drew ?_ | refine blk_alloc ?_ _)); exact BK196.out) Try.underlying30 rfl (by kernel_rfl)) rfl ?_
  exact ⟨_, by first | rfl | (simp [errW_none, errW_some] <;> rfl) | (simp [*, errW_none, errW_some] <;> rfl), by (with_reducible repeat (first | apply Kd.R_alloc | apply Kd.R_drewN | apply Kd.R_drew)); exact Kd.R_mono (Kd.R_far (p := ⟨gb196, 2, none⟩) (Kd.R_far (p := ⟨gb196, 1, none⟩) (Kd.R_far (p := ⟨gb196, 0, none⟩) (Kd.R_types HO199.out BK196.out (by decide)) (fun _ hk => hk.2) (.int .i64 (-1))) (fun _ hk => hk.2) (.int .i64 1000)) (fun _ hk => hk.2) (.slice Ao4 y197.length co4)) (fun _ hk => trivial), by repeat (first | (with_reducible first | exact HB.out | apply below_alloc | apply pw_below_drewN | apply below_drew1 | refine below_set ?_ GE196.out) | exact HB.out)⟩

end Go.Proofs.Ytcjdhajdoikojaa.Pr
end
section
-- PRINTED by print.py (a twelfth state) out of the translation. Not trusted: Lean checks it.
namespace Go.Proofs.Ytcjdhajdoikojaa.Pr
open Go.RowKit Go.Proofs.YtcjdhajdoikojaaW.PrintWords Go.Proofs.YtcjdhajdoikojaaW.PrintLast Go.Proofs.YtcjdhajdoikojaaW.PrintMore
attribute [local go_sem] max2_int min2_int max_two min_two
set_option linter.unusedVariables false
set_option linter.unusedSimpArgs false

attribute [local go_sem high] eqA35
/-! ### isobathlaw05_Works: function 16 -/
def isobathlaw05_Works.f  : Option (Bool) := (isobathlaw05_Example.f).bind fun bt200 => ((clock_At.f bt200.1 bt200.2.1 bt200.2.2 2000060).bind fun bt205 => ((isobathlaw05_Example.f).bind fun bt209 => ((clock_Time.f (([(⟨bt209.1, bt209.2.1, bt209.2.2⟩ : S30)] : List (S30))) 0 1030).bind fun bt217 => ((isobathlaw05_Example.f).bind fun bt221 => ((clock_Due.f bt221.1 bt221.2.1 bt221.2.2 14).bind fun bt226 => (if (wrap64 ((wrap64 (bt205.2.2 + bt217.2.2)) + bt226.2)) = 0 then (if (bt205.1 == 993 && (bt205.2.1 == 1007)) = true then (if (bt217.1 == 2025 && (bt217.2.1 == 2035)) = true then (some (bt226.1 == 2001031)) else (some false)) else (some false)) else (some false)))))))
set_option maxRecDepth 100000 in
theorem isobathlaw05_Works.true_ : isobathlaw05_Works.f = some true := by kernel_rfl
set_option maxHeartbeats 8000000 in
set_option maxRecDepth 100000 in
theorem isobathlaw05_Works.calls  (r : Bool) (w : World) (h : isobathlaw05_Works.f  = some r) :
    Calls Try.prog 16 #[] w fun e w' => e = .returned (.bool r) ∧ Below w.heap.size w w' := by
  have hr_ : Aside0 (r = true) := ⟨Option.some.inj (h.symm.trans isobathlaw05_Works.true_)⟩
  have hu35 := Try.underlying35
  have hu41 := Try.underlying41
  have HB := Aside0.mk (Below.refl w.heap.size w)
  have H : ((isobathlaw05_Example.f).bind fun bt200 => ((clock_At.f bt200.1 bt200.2.1 bt200.2.2 2000060).bind fun bt205 => ((isobathlaw05_Example.f).bind fun bt209 => ((clock_Time.f (([(⟨bt209.1, bt209.2.1, bt209.2.2⟩ : S30)] : List (S30))) 0 1030).bind fun bt217 => ((isobathlaw05_Example.f).bind fun bt221 => ((clock_Due.f bt221.1 bt221.2.1 bt221.2.2 14).bind fun bt226 => (if (wrap64 ((wrap64 (bt205.2.2 + bt217.2.2)) + bt226.2)) = 0 then (if (bt205.1 == 993 && (bt205.2.1 == 1007)) = true then (if (bt217.1 == 2025 && (bt217.2.1 == 2035)) = true then (some (bt226.1 == 2001031)) else (some false)) else (some false)) else (some false)))))))) = some r := h
  clear h
  replace H := Option.bind_eq_some_iff.mp H
  obtain ⟨⟨t200, t201, t202⟩, A10, H⟩ := H
  replace H : ((clock_At.f t200 t201 t202 2000060).bind fun bt205 => ((isobathlaw05_Example.f).bind fun bt209 => ((clock_Time.f (([(⟨bt209.1, bt209.2.1, bt209.2.2⟩ : S30)] : List (S30))) 0 1030).bind fun bt217 => ((isobathlaw05_Example.f).bind fun bt221 => ((clock_Due.f bt221.1 bt221.2.1 bt221.2.2 14).bind fun bt226 => (if (wrap64 ((wrap64 (bt205.2.2 + bt217.2.2)) + bt226.2)) = 0 then (if (bt205.1 == 993 && (bt205.2.1 == 1007)) = true then (if (bt217.1 == 2025 && (bt217.2.1 == 2035)) = true then (some (bt226.1 == 2001031)) else (some false)) else (some false)) else (some false))))))) = some r := H
  have A1 := Aside0.mk A10
  clear A10
  replace H := Option.bind_eq_some_iff.mp H
  obtain ⟨⟨t205, t206, t207⟩, A20, H⟩ := H
  replace H : ((isobathlaw05_Example.f).bind fun bt209 => ((clock_Time.f (([(⟨bt209.1, bt209.2.1, bt209.2.2⟩ : S30)] : List (S30))) 0 1030).bind fun bt217 => ((isobathlaw05_Example.f).bind fun bt221 => ((clock_Due.f bt221.1 bt221.2.1 bt221.2.2 14).bind fun bt226 => (if (wrap64 ((wrap64 (t207 + bt217.2.2)) + bt226.2)) = 0 then (if (t205 == 993 && (t206 == 1007)) = true then (if (bt217.1 == 2025 && (bt217.2.1 == 2035)) = true then (some (bt226.1 == 2001031)) else (some false)) else (some false)) else (some false)))))) = some r := H
  have A2 := Aside0.mk A20
  clear A20
  replace H := Option.bind_eq_some_iff.mp H
  obtain ⟨⟨t209, t210, t211⟩, A30, H⟩ := H
  replace H : ((clock_Time.f (([(⟨t209, t210, t211⟩ : S30)] : List (S30))) 0 1030).bind fun bt217 => ((isobathlaw05_Example.f).bind fun bt221 => ((clock_Due.f bt221.1 bt221.2.1 bt221.2.2 14).bind fun bt226 => (if (wrap64 ((wrap64 (t207 + bt217.2.2)) + bt226.2)) = 0 then (if (t205 == 993 && (t206 == 1007)) = true then (if (bt217.1 == 2025 && (bt217.2.1 == 2035)) = true then (some (bt226.1 == 2001031)) else (some false)) else (some false)) else (some false))))) = some r := H
  have A3 := Aside0.mk A30
  clear A30
  obtain ⟨y214, hy214⟩ : ∃ y_ : List (S30), y_ = (([(⟨t209, t210, t211⟩ : S30)] : List (S30))) := ⟨_, rfl⟩
  replace H : ((clock_Time.f y214 0 1030).bind fun bt217 => ((isobathlaw05_Example.f).bind fun bt221 => ((clock_Due.f bt221.1 bt221.2.1 bt221.2.2 14).bind fun bt226 => (if (wrap64 ((wrap64 (t207 + bt217.2.2)) + bt226.2)) = 0 then (if (t205 == 993 && (t206 == 1007)) = true then (if (bt217.1 == 2025 && (bt217.2.1 == 2035)) = true then (some (bt226.1 == 2001031)) else (some false)) else (some false)) else (some false))))) = some r := by first | (rw [hy214]; with_reducible exact H) | (have H2_ := (Option.bind_some _ _).symm.trans H; rw [hy214]; with_reducible exact H2_) | (have H2_ := (Option.bind_some _ _).symm.trans H; with_reducible exact H2_) | with_reducible exact H | (rw [hy214]; exact H) | exact H
  have Ny214 := Aside0.mk hy214
  clear hy214
  replace H := Option.bind_eq_some_iff.mp H
  obtain ⟨⟨t217, t218, t219⟩, A40, H⟩ := H
  replace H : ((isobathlaw05_Example.f).bind fun bt221 => ((clock_Due.f bt221.1 bt221.2.1 bt221.2.2 14).bind fun bt226 => (if (wrap64 ((wrap64 (t207 + t219)) + bt226.2)) = 0 then (if (t205 == 993 && (t206 == 1007)) = true then (if (t217 == 2025 && (t218 == 2035)) = true then (some (bt226.1 == 2001031)) else (some false)) else (some false)) else (some false)))) = some r := H
  have A4 := Aside0.mk A40
  clear A40
  replace H := Option.bind_eq_some_iff.mp H
  obtain ⟨⟨t221, t222, t223⟩, A50, H⟩ := H
  replace H : ((clock_Due.f t221 t222 t223 14).bind fun bt226 => (if (wrap64 ((wrap64 (t207 + t219)) + bt226.2)) = 0 then (if (t205 == 993 && (t206 == 1007)) = true then (if (t217 == 2025 && (t218 == 2035)) = true then (some (bt226.1 == 2001031)) else (some false)) else (some false)) else (some false))) = some r := H
  have A5 := Aside0.mk A50
  clear A50
  replace H := Option.bind_eq_some_iff.mp H
  obtain ⟨⟨t226, t227⟩, A60, H⟩ := H
  replace H : (if (wrap64 ((wrap64 (t207 + t219)) + t227)) = 0 then (if (t205 == 993 && (t206 == 1007)) = true then (if (t217 == 2025 && (t218 == 2035)) = true then (some (t226 == 2001031)) else (some false)) else (some false)) else (some false)) = some r := H
  have A6 := Aside0.mk A60
  clear A60
  by_cases c7 : (wrap64 ((wrap64 (t207 + t219)) + t227)) = 0
  · rw [if_pos c7] at H
    have c7b0 : ((wrap64 ((wrap64 (t207 + t219)) + t227)) == 0) = true := beq_iff_eq.mpr c7
    have c7b1 : ((wrap64 ((wrap64 (t207 + t219)) + t227)) != 0) = false := bne_eq_false_iff_eq.mpr c7
    clear c7
    by_cases c8 : (t205 == 993 && (t206 == 1007)) = true
    · rw [if_pos c8] at H
      have c8b0 : (t205 == 993 && (t206 == 1007)) = true := c8
      (try (have c8b1 : decide (t205 = 993 && (t206 == 1007)) = true := by simpa using c8))
      (try (have c8b2 : (t205 == 993 && (t206 == 1007)) = true := by simpa using c8))
      clear c8
      by_cases c9 : (t217 == 2025 && (t218 == 2035)) = true
      · rw [if_pos c9] at H
        have c9b0 : (t217 == 2025 && (t218 == 2035)) = true := c9
        (try (have c9b1 : decide (t217 = 2025 && (t218 == 2035)) = true := by simpa using c9))
        (try (have c9b2 : (t217 == 2025 && (t218 == 2035)) = true := by simpa using c9))
        clear c9
        obtain rfl := Option.some.inj H
        go_enter Try.func16, Try.ntmps16
        go_wp2_with (first | ((with_reducible refine gate_callee (f := 52) rfl ?_); refine goesL_ (some 8) rfl rfl Try.func52 (by kernel_rfl) rfl #[] rfl (by (try simp only [List.map_toArray, List.map_cons, List.map_nil]); first | done | rfl | (simp only [List.length_drop, List.length_take]; rfl)) ?_; (with_reducible refine (isobathlaw05_Example.calls  t200 t201 t202 _ A1.out).mono ?_); rintro e w10 ⟨v203, rfl, ho0, hb⟩; refine ⟨_, rfl, ?_⟩; have n0_ := Aside0.mk (Kd.R_lower ho0 (below_size (by repeat (first | (with_reducible first | exact HB.out | apply below_alloc | apply pw_below_drewN | apply below_drew1) | exact HB.out)))); have n1_ := Aside0.mk (below_step (by repeat (first | (with_reducible first | exact HB.out | apply below_alloc | apply pw_below_drewN | apply below_drew1) | exact HB.out)) hb); clear HB; have HO204 := n0_; have HB := n1_; clear n0_ n1_; (try clear hb); (try clear hb2); (try clear hk); (try clear hi); (try clear ho0); obtain ⟨Ao11, co11, eo11⟩ := Kd.R_slice HO204.out; subst eo11) | ((with_reducible refine gate_callee (f := 22) rfl ?_); refine goesL_ (some 9) rfl rfl Try.func22 (by kernel_rfl) rfl #[.agg #[.int .i64 t200, .int .i64 t201, .slice Ao11 t202.length co11], .int .i64 2000060] rfl (by (try simp only [List.map_toArray, List.map_cons, List.map_nil]); first | done | rfl | (simp only [List.length_drop, List.length_take]; rfl)) ?_; (with_reducible refine (clock_At.calls t200 t201 _ _ t202 2000060 t205 t206 t207 _ ?side1 ?side2 A2.out).mono ?_); (case side1 => repeat (first | exact (Kd.R_reads' HO204.out).2.2 | (with_reducible refine Kd.C_alloc ?_ _) | (with_reducible refine Kd.C_drewN ?_ _) | (with_reducible refine Kd.C_drew ?_))); (case side2 => exact (Kd.R_reads' HO204.out).2.1); rintro e w12 ⟨rfl, hb⟩; refine ⟨_, rfl, ?_⟩; have n0_ := Aside0.mk (Kd.R_below (by (with_reducible repeat (first | apply Kd.R_alloc | apply Kd.R_drewN | apply Kd.R_drew)); exact HO204.out) hb); have n1_ := Aside0.mk (below_step (by repeat (first | (with_reducible first | exact HB.out | apply below_alloc | apply pw_below_drewN | apply below_drew1) | exact HB.out)) hb); clear HO204; clear HB; have HO204 := n0_; have HB := n1_; clear n0_ n1_; (try clear hb); (try clear hb2); (try clear hk); (try clear hi)) | ((with_reducible refine gate_dst (N := 1) rfl ?_); refine box_event ?hg (N := 1) ?hd (cs := #[.int .i64 0, .int .i64 0]) (t := 35) ?hr ?_; (case hd => rfl); (case hg => rfl); (case hr => first | (go_simp; done) | (go_simp; rfl)); intro gb208 hg w13 hbox hb; have n0_ := Aside0.mk (Kd.R_below (by (with_reducible repeat (first | apply Kd.R_alloc | apply Kd.R_drewN | apply Kd.R_drew)); exact HO204.out) hb); have n1_ := Aside0.mk (below_step (by repeat (first | (with_reducible first | exact HB.out | apply below_alloc | apply pw_below_drewN | apply below_drew1) | exact HB.out)) hb); have n2_ := Aside0.mk (hbox); have n3_ := Aside0.mk ((by rw [hg]; exact (below_size (by repeat (first | (with_reducible first | exact HB.out | apply below_alloc | apply pw_below_drewN | apply below_drew1) | exact HB.out))) : w.heap.size ≤ gb208)); have n4_ := Aside0.mk ((by rw [hg]; exact (below_size (by repeat (first | (with_reducible first | exact HB.out | apply below_alloc | apply pw_below_drewN | apply below_drew1) | exact HB.out))) : w.heap.size ≤ gb208)); clear HO204; clear HB; have HO204 := n0_; have HB := n1_; have BK208 := n2_; have GW208 := n3_; have GE208 := n4_; clear n0_ n1_ n2_ n3_ n4_; clear hb hbox hg; have hcz14_0 : w13.cell? ⟨gb208, 0, none⟩ = some (.int .i64 0) := (blk_cell BK208.out 0).trans rfl; have hcz14_1 : w13.cell? ⟨gb208, 1, none⟩ = some (.int .i64 0) := (blk_cell BK208.out 1).trans rfl; have hfz14_0 := blk_frozen BK208.out 0; have hfz14_1 := blk_frozen BK208.out 1) | ((with_reducible refine gate_callee (f := 52) rfl ?_); refine goesL_ (some 13) rfl rfl Try.func52 (by kernel_rfl) rfl #[] rfl (by (try simp only [List.map_toArray, List.map_cons, List.map_nil]); first | done | rfl | (simp only [List.length_drop, List.length_take]; rfl)) ?_; (with_reducible refine (isobathlaw05_Example.calls  t209 t210 t211 _ A3.out).mono ?_); rintro e w15 ⟨v212, rfl, ho0, hb⟩; refine ⟨_, rfl, ?_⟩; have n0_ := Aside0.mk (Kd.R_elder' (by (with_reducible repeat (first | apply Kd.R_alloc | apply Kd.R_drewN | apply Kd.R_drew)); exact (Kd.R_mono (Kd.R_far (p := ⟨gb208, 1, none⟩) (Kd.R_far (p := ⟨gb208, 0, none⟩) (Kd.R_types HO204.out BK208.out (by decide)) (fun _ hk => hk.2) (.int .i64 t205)) (fun _ hk => hk.2) (.int .i64 t206)) (fun _ h_ => h_.1))) (Kd.R_base ho0) hb); have n1_ := Aside0.mk (Kd.R_lower (Kd.R_new' ho0 (Kd.R_lt (by (with_reducible repeat (first | apply Kd.R_alloc | apply Kd.R_drewN | apply Kd.R_drew)); exact (Kd.R_mono (Kd.R_far (p := ⟨gb208, 1, none⟩) (Kd.R_far (p := ⟨gb208, 0, none⟩) (Kd.R_types HO204.out BK208.out (by decide)) (fun _ hk => hk.2) (.int .i64 t205)) (fun _ hk => hk.2) (.int .i64 t206)) (fun _ h_ => h_.1))))) (below_size (by repeat (first | (with_reducible first | exact HB.out | apply below_alloc | apply pw_below_drewN | apply below_drew1 | refine below_set ?_ GE208.out) | exact HB.out)))); have n2_ := Aside0.mk (blk_below (g := gb208) (o := .cells #[.int .i64 t205, .int .i64 t206] 35 (0, 0)) (by (with_reducible repeat (first | refine blk_drewN ?_ _ | refine blk_drew ?_ | refine blk_alloc ?_ _)); refine blk_put (cs := #[.int .i64 t205, .int .i64 0]) ?_ 1 _ rfl; (with_reducible repeat (first | refine blk_drewN ?_ _ | refine blk_drew ?_ | refine blk_alloc ?_ _)); refine blk_put (cs := #[.int .i64 0, .int .i64 0]) ?_ 0 _ rfl; (with_reducible repeat (first | refine blk_drewN ?_ _ | refine blk_drew ?_ | refine blk_alloc ?_ _)); exact BK208.out) hb); have n3_ := Aside0.mk (below_step (by repeat (first | (with_reducible first | exact HB.out | apply below_alloc | apply pw_below_drewN | apply below_drew1 | refine below_set ?_ GE208.out) | exact HB.out)) hb); clear HO204; clear BK208; clear HB; have HO204 := n0_; have HO213 := n1_; have BK208 := n2_; have HB := n3_; clear n0_ n1_ n2_ n3_; (try clear hb); (try clear hb2); (try clear hk); (try clear hi); (try clear ho0); obtain ⟨Ao16, co16, eo16⟩ := Kd.R_slice HO213.out; subst eo16) | ((with_reducible refine gate_dst (N := 14) rfl ?_); refine Kd.N_lit k30 _ 30 ?hg (N' := 14) ?hd (xs := ([(⟨t209, t210, t211⟩ : S30)] : List (S30))) (inner := [.int .i64 t209, .int .i64 t210, .slice Ao16 t211.length co16]) (ok := (fun k_ => some k_ ≠ (.slice Ao11 t202.length co11 : Value).ownBlock ∧ k_ ≠ gb208)) (okp := (fun k_ => some k_ ≠ (.slice Ao11 t202.length co11 : Value).ownBlock ∧ k_ ≠ gb208)) ?hr ?hp (fun _ hk => hk) ((show ∀ k_, w15.heap.size ≤ k_ → (fun k_ => some k_ ≠ (.slice Ao11 t202.length co11 : Value).ownBlock ∧ k_ ≠ gb208) k_ from fun k_ hk => ⟨Kd.fresh' (Kd.R_lt (by (with_reducible repeat (first | apply Kd.R_alloc | apply Kd.R_drewN | apply Kd.R_drew)); exact HO204.out)) k_ hk, Kd.freshB (g := gb208) (o := .cells #[.int .i64 t205, .int .i64 t206] 35 (0, 0)) (by (with_reducible repeat (first | refine blk_drewN ?_ _ | refine blk_drew ?_ | refine blk_alloc ?_ _)); exact BK208.out) k_ hk⟩) _ (Nat.le_refl _)) (Below.refl _ _) (Nat.le_refl _) (by simp) ?_; (case hd => rfl); (case hg => rfl); (case hr => first | (go_simp; done) | (go_simp; rfl)); (case hp => exact (Reps.c3 (show Kd.FK k30 _ _ (⟨t209, t210, t211⟩ : S30) [.int .i64 t209, .int .i64 t210, .slice Ao16 t211.length co16] from (k30_mkF _ _ (⟨t209, t210, t211⟩ : S30) (Kd.R_reads' (Kd.R_mono (ok' := (fun k_ => some k_ ≠ (.slice Ao11 t202.length co11 : Value).ownBlock ∧ k_ ≠ gb208)) (Kd.R_types (HO213.out) BK208.out (by decide)) (fun k_ hk => ⟨hk.1.2, hk.2⟩))).2.1 (Kd.R_F (Kd.R_mono (ok' := (fun k_ => some k_ ≠ (.slice Ao11 t202.length co11 : Value).ownBlock ∧ k_ ≠ gb208)) (Kd.R_types (HO213.out) BK208.out (by decide)) (fun k_ hk => ⟨hk.1.2, hk.2⟩))))) (Reps.none _ _))); intro v215 w17 ho18 hb hg_ hnew_; clear hg_ hnew_; (first | rw [← Ny214.out] at ho18 | (simp only [Int.reduceToNat] at ho18; rw [← Ny214.out] at ho18)); have n0_ := Aside0.mk (Kd.R_below (by (with_reducible repeat (first | apply Kd.R_alloc | apply Kd.R_drewN | apply Kd.R_drew)); exact HO204.out) hb); have n1_ := Aside0.mk (Kd.N_lower ho18 (below_size (by repeat (first | (with_reducible first | exact HB.out | apply below_alloc | apply pw_below_drewN | apply below_drew1 | refine below_set ?_ GE208.out) | exact HB.out)))); have n2_ := Aside0.mk (blk_below (g := gb208) (o := .cells #[.int .i64 t205, .int .i64 t206] 35 (0, 0)) (by (with_reducible repeat (first | refine blk_drewN ?_ _ | refine blk_drew ?_ | refine blk_alloc ?_ _)); exact BK208.out) hb); have n3_ := Aside0.mk (below_step (by repeat (first | (with_reducible first | exact HB.out | apply below_alloc | apply pw_below_drewN | apply below_drew1 | refine below_set ?_ GE208.out) | exact HB.out)) hb); clear HO204; clear BK208; clear HB; clear HO213; have HO204 := n0_; have HO216 := n1_; have BK208 := n2_; have HB := n3_; clear n0_ n1_ n2_ n3_; clear hb ho18; obtain ⟨Ao19, co19, eo19⟩ := Kd.N_slice HO216.out; subst eo19) | ((with_reducible refine gate_callee (f := 17) rfl ?_); refine goesL_ (some 16) rfl rfl Try.func17 (by kernel_rfl) rfl #[.slice Ao19 y214.length co19, .agg #[.int .i64 0, .int .i64 1030]] rfl (by (try simp only [List.map_toArray, List.map_cons, List.map_nil]); first | done | rfl | (simp only [List.length_drop, List.length_take]; rfl)) ?_; (with_reducible refine (clock_Time.calls _ _ y214 0 1030 t217 t218 t219 _ ?side1 ?side2 A4.out).mono ?_); (case side1 => repeat (first | exact (Kd.N_reads' HO216.out).2.2 | (with_reducible refine Kd.C_alloc ?_ _) | (with_reducible refine Kd.C_drewN ?_ _) | (with_reducible refine Kd.C_drew ?_))); (case side2 => exact (Kd.N_reads' HO216.out).2.1); rintro e w20 ⟨rfl, hb⟩; refine ⟨_, rfl, ?_⟩; have n0_ := Aside0.mk (Kd.R_below (by (with_reducible repeat (first | apply Kd.R_alloc | apply Kd.R_drewN | apply Kd.R_drew)); exact HO204.out) hb); have n1_ := Aside0.mk (Kd.N_below (by (with_reducible repeat (first | apply Kd.N_alloc | apply Kd.N_drewN | apply Kd.N_drew)); exact HO216.out) hb); have n2_ := Aside0.mk (blk_below (g := gb208) (o := .cells #[.int .i64 t205, .int .i64 t206] 35 (0, 0)) (by (with_reducible repeat (first | refine blk_drewN ?_ _ | refine blk_drew ?_ | refine blk_alloc ?_ _)); exact BK208.out) hb); have n3_ := Aside0.mk (below_step (by repeat (first | (with_reducible first | exact HB.out | apply below_alloc | apply pw_below_drewN | apply below_drew1 | refine below_set ?_ GE208.out) | exact HB.out)) hb); clear HO204; clear HO216; clear BK208; clear HB; have HO204 := n0_; have HO216 := n1_; have BK208 := n2_; have HB := n3_; clear n0_ n1_ n2_ n3_; (try clear hb); (try clear hb2); (try clear hk); (try clear hi)) | ((with_reducible refine gate_dst (N := 3) rfl ?_); refine box_event ?hg (N := 3) ?hd (cs := #[.int .i64 0, .int .i64 0]) (t := 35) ?hr ?_; (case hd => rfl); (case hg => rfl); (case hr => first | (go_simp; done) | (go_simp; rfl)); intro gb220 hg w21 hbox hb; have n0_ := Aside0.mk (Kd.R_below (by (with_reducible repeat (first | apply Kd.R_alloc | apply Kd.R_drewN | apply Kd.R_drew)); exact HO204.out) hb); have n1_ := Aside0.mk (Kd.N_below (Kd.N_elderB (by (with_reducible repeat (first | apply Kd.N_alloc | apply Kd.N_drewN | apply Kd.N_drew)); exact HO216.out) gb220 (Nat.le_of_eq hg.symm)) hb); have n2_ := Aside0.mk (blk_below (g := gb208) (o := .cells #[.int .i64 t205, .int .i64 t206] 35 (0, 0)) (by (with_reducible repeat (first | refine blk_drewN ?_ _ | refine blk_drew ?_ | refine blk_alloc ?_ _)); exact BK208.out) hb); have n3_ := Aside0.mk (below_step (by repeat (first | (with_reducible first | exact HB.out | apply below_alloc | apply pw_below_drewN | apply below_drew1 | refine below_set ?_ GE208.out) | exact HB.out)) hb); have n4_ := Aside0.mk (hbox); have n5_ := Aside0.mk ((by rw [hg]; exact (below_size (by repeat (first | (with_reducible first | exact HB.out | apply below_alloc | apply pw_below_drewN | apply below_drew1 | refine below_set ?_ GE208.out) | exact HB.out))) : w.heap.size ≤ gb220)); have n6_ := Aside0.mk ((by rw [hg]; exact (below_size (by repeat (first | (with_reducible first | exact HB.out | apply below_alloc | apply pw_below_drewN | apply below_drew1 | refine below_set ?_ GE208.out) | exact HB.out))) : w.heap.size ≤ gb220)); have n7_ := Aside0.mk ((by rw [hg]; exact Nat.ne_of_lt (blk_lt (g := gb208) (o := .cells #[.int .i64 t205, .int .i64 t206] 35 (0, 0)) (by (with_reducible repeat (first | refine blk_drewN ?_ _ | refine blk_drew ?_ | refine blk_alloc ?_ _)); exact BK208.out)) : gb208 ≠ gb220)); have n8_ := Aside0.mk ((by rw [hg]; exact Nat.ne_of_gt (blk_lt (g := gb208) (o := .cells #[.int .i64 t205, .int .i64 t206] 35 (0, 0)) (by (with_reducible repeat (first | refine blk_drewN ?_ _ | refine blk_drew ?_ | refine blk_alloc ?_ _)); exact BK208.out)) : gb220 ≠ gb208)); clear HO204; clear HO216; clear BK208; clear HB; have HO204 := n0_; have HO216 := n1_; have BK208 := n2_; have HB := n3_; have BK220 := n4_; have GW220 := n5_; have GE220 := n6_; have NB208_220 := n7_; have NB220_208 := n8_; clear n0_ n1_ n2_ n3_ n4_ n5_ n6_ n7_ n8_; clear hb hbox hg; have hnb22 := NB220_208.out; have hnc22 := NB208_220.out; have hcz23_0 : w21.cell? ⟨gb220, 0, none⟩ = some (.int .i64 0) := (blk_cell BK220.out 0).trans rfl; have hcz23_1 : w21.cell? ⟨gb220, 1, none⟩ = some (.int .i64 0) := (blk_cell BK220.out 1).trans rfl; have hfz23_0 := blk_frozen BK220.out 0; have hfz23_1 := blk_frozen BK220.out 1) | ((with_reducible refine gate_callee (f := 52) rfl ?_); refine goesL_ (some 20) rfl rfl Try.func52 (by kernel_rfl) rfl #[] rfl (by (try simp only [List.map_toArray, List.map_cons, List.map_nil]); first | done | rfl | (simp only [List.length_drop, List.length_take]; rfl)) ?_; (with_reducible refine (isobathlaw05_Example.calls  t221 t222 t223 _ A5.out).mono ?_); rintro e w24 ⟨v224, rfl, ho0, hb⟩; refine ⟨_, rfl, ?_⟩; have n0_ := Aside0.mk (Kd.R_elder' (by (with_reducible repeat (first | apply Kd.R_alloc | apply Kd.R_drewN | apply Kd.R_drew)); exact (Kd.R_mono (Kd.R_far (p := ⟨gb220, 1, none⟩) (Kd.R_far (p := ⟨gb220, 0, none⟩) (Kd.R_types HO204.out BK220.out (by decide)) (fun _ hk => hk.2) (.int .i64 t217)) (fun _ hk => hk.2) (.int .i64 t218)) (fun _ h_ => h_.1))) (Kd.R_base ho0) hb); have n1_ := Aside0.mk (Kd.N_elder' (by (with_reducible repeat (first | apply Kd.N_alloc | apply Kd.N_drewN | apply Kd.N_drew)); exact (Kd.N_mono (Kd.N_far (p := ⟨gb220, 1, none⟩) (Kd.N_far (p := ⟨gb220, 0, none⟩) (Kd.N_mono HO216.out (fun k_ hk => (⟨hk, hk.2⟩ : _ ∧ k_ ≠ gb220))) (fun _ hk => hk.2) (.int .i64 t217)) (fun _ hk => hk.2) (.int .i64 t218)) (fun _ h_ => h_.1))) (Kd.R_base ho0) hb); have n2_ := Aside0.mk (Kd.R_lower (Kd.R_new' ho0 (Kd.R_lt (by (with_reducible repeat (first | apply Kd.R_alloc | apply Kd.R_drewN | apply Kd.R_drew)); exact (Kd.R_mono (Kd.R_far (p := ⟨gb220, 1, none⟩) (Kd.R_far (p := ⟨gb220, 0, none⟩) (Kd.R_types HO204.out BK220.out (by decide)) (fun _ hk => hk.2) (.int .i64 t217)) (fun _ hk => hk.2) (.int .i64 t218)) (fun _ h_ => h_.1))))) (below_size (by repeat (first | (with_reducible first | exact HB.out | apply below_alloc | apply pw_below_drewN | apply below_drew1 | refine below_set ?_ GE208.out | refine below_set ?_ GE220.out) | exact HB.out)))); have n3_ := Aside0.mk (blk_below (g := gb208) (o := .cells #[.int .i64 t205, .int .i64 t206] 35 (0, 0)) (by (with_reducible repeat (first | refine blk_drewN ?_ _ | refine blk_drew ?_ | refine blk_alloc ?_ _)); refine blk_far ?_ NB208_220.out _; (with_reducible repeat (first | refine blk_drewN ?_ _ | refine blk_drew ?_ | refine blk_alloc ?_ _)); refine blk_far ?_ NB208_220.out _; (with_reducible repeat (first | refine blk_drewN ?_ _ | refine blk_drew ?_ | refine blk_alloc ?_ _)); exact BK208.out) hb); have n4_ := Aside0.mk (blk_below (g := gb220) (o := .cells #[.int .i64 t217, .int .i64 t218] 35 (0, 0)) (by (with_reducible repeat (first | refine blk_drewN ?_ _ | refine blk_drew ?_ | refine blk_alloc ?_ _)); refine blk_put (cs := #[.int .i64 t217, .int .i64 0]) ?_ 1 _ rfl; (with_reducible repeat (first | refine blk_drewN ?_ _ | refine blk_drew ?_ | refine blk_alloc ?_ _)); refine blk_put (cs := #[.int .i64 0, .int .i64 0]) ?_ 0 _ rfl; (with_reducible repeat (first | refine blk_drewN ?_ _ | refine blk_drew ?_ | refine blk_alloc ?_ _)); exact BK220.out) hb); have n5_ := Aside0.mk (below_step (by repeat (first | (with_reducible first | exact HB.out | apply below_alloc | apply pw_below_drewN | apply below_drew1 | refine below_set ?_ GE208.out | refine below_set ?_ GE220.out) | exact HB.out)) hb); clear HO204; clear HO216; clear BK208; clear BK220; clear HB; have HO204 := n0_; have HO216 := n1_; have HO225 := n2_; have BK208 := n3_; have BK220 := n4_; have HB := n5_; clear n0_ n1_ n2_ n3_ n4_ n5_; (try clear hb); (try clear hb2); (try clear hk); (try clear hi); (try clear ho0); obtain ⟨Ao25, co25, eo25⟩ := Kd.R_slice HO225.out; subst eo25) | ((with_reducible refine gate_callee (f := 25) rfl ?_); refine goesL_ (some 21) rfl rfl Try.func25 (by kernel_rfl) rfl #[.agg #[.int .i64 t221, .int .i64 t222, .slice Ao25 t223.length co25], .int .i64 14] rfl (by (try simp only [List.map_toArray, List.map_cons, List.map_nil]); first | done | rfl | (simp only [List.length_drop, List.length_take]; rfl)) ?_; (with_reducible refine (clock_Due.calls t221 t222 _ _ t223 14 t226 t227 _ ?side1 ?side2 A6.out).mono ?_); (case side1 => repeat (first | exact (Kd.R_reads' HO225.out).2.2 | (with_reducible refine Kd.C_alloc ?_ _) | (with_reducible refine Kd.C_drewN ?_ _) | (with_reducible refine Kd.C_drew ?_))); (case side2 => exact (Kd.R_reads' HO225.out).2.1); rintro e w26 ⟨rfl, hb⟩; refine ⟨_, rfl, ?_⟩; have n0_ := Aside0.mk (Kd.R_below (by (with_reducible repeat (first | apply Kd.R_alloc | apply Kd.R_drewN | apply Kd.R_drew)); exact HO204.out) hb); have n1_ := Aside0.mk (Kd.N_below (by (with_reducible repeat (first | apply Kd.N_alloc | apply Kd.N_drewN | apply Kd.N_drew)); exact HO216.out) hb); have n2_ := Aside0.mk (Kd.R_below (by (with_reducible repeat (first | apply Kd.R_alloc | apply Kd.R_drewN | apply Kd.R_drew)); exact HO225.out) hb); have n3_ := Aside0.mk (blk_below (g := gb208) (o := .cells #[.int .i64 t205, .int .i64 t206] 35 (0, 0)) (by (with_reducible repeat (first | refine blk_drewN ?_ _ | refine blk_drew ?_ | refine blk_alloc ?_ _)); exact BK208.out) hb); have n4_ := Aside0.mk (blk_below (g := gb220) (o := .cells #[.int .i64 t217, .int .i64 t218] 35 (0, 0)) (by (with_reducible repeat (first | refine blk_drewN ?_ _ | refine blk_drew ?_ | refine blk_alloc ?_ _)); exact BK220.out) hb); have n5_ := Aside0.mk (below_step (by repeat (first | (with_reducible first | exact HB.out | apply below_alloc | apply pw_below_drewN | apply below_drew1 | refine below_set ?_ GE208.out | refine below_set ?_ GE220.out) | exact HB.out)) hb); clear HO204; clear HO216; clear HO225; clear BK208; clear BK220; clear HB; have HO204 := n0_; have HO216 := n1_; have HO225 := n2_; have BK208 := n3_; have BK220 := n4_; have HB := n5_; clear n0_ n1_ n2_ n3_ n4_ n5_; (try clear hb); (try clear hb2); (try clear hk); (try clear hi); have hcz27_0 : w26.cell? ⟨gb208, 0, none⟩ = some (.int .i64 t205) := (blk_cell BK208.out 0).trans rfl; have hcz27_1 : w26.cell? ⟨gb208, 1, none⟩ = some (.int .i64 t206) := (blk_cell BK208.out 1).trans rfl; have hfz27_0 := blk_frozen BK208.out 0; have hfz27_1 := blk_frozen BK208.out 1; have hcz28_0 : w26.cell? ⟨gb220, 0, none⟩ = some (.int .i64 t217) := (blk_cell BK220.out 0).trans rfl; have hcz28_1 : w26.cell? ⟨gb220, 1, none⟩ = some (.int .i64 t218) := (blk_cell BK220.out 1).trans rfl; have hfz28_0 := blk_frozen BK220.out 0; have hfz28_1 := blk_frozen BK220.out 1))
        go_ret
        exact ⟨by first | rfl | (simp [errW_none, errW_some] <;> rfl) | (simp [*, errW_none, errW_some] <;> rfl), by repeat (first | (with_reducible first | exact HB.out | apply below_alloc | apply pw_below_drewN | apply below_drew1 | refine below_set ?_ GE208.out | refine below_set ?_ GE220.out) | exact HB.out)⟩
      · rw [if_neg c9] at H
        have c9b0 : (t217 == 2025 && (t218 == 2035)) = false := by simpa using c9
        (try (have c9b1 : decide (t217 = 2025 && (t218 == 2035)) = false := by simpa using c9))
        (try (have c9b2 : (t217 == 2025 && (t218 == 2035)) = false := by simpa using c9))
        (try (have c9b3 : ¬ (t217 = 2025 && (t218 == 2035)) := by simpa using c9))
        clear c9
        have hh_ := Option.some.inj H
        rw [hr_.out] at hh_
        cases hh_
    · rw [if_neg c8] at H
      have c8b0 : (t205 == 993 && (t206 == 1007)) = false := by simpa using c8
      (try (have c8b1 : decide (t205 = 993 && (t206 == 1007)) = false := by simpa using c8))
      (try (have c8b2 : (t205 == 993 && (t206 == 1007)) = false := by simpa using c8))
      (try (have c8b3 : ¬ (t205 = 993 && (t206 == 1007)) := by simpa using c8))
      clear c8
      have hh_ := Option.some.inj H
      rw [hr_.out] at hh_
      cases hh_
  · rw [if_neg c7] at H
    have c7b0 : ((wrap64 ((wrap64 (t207 + t219)) + t227)) == 0) = false := beq_eq_false_iff_ne.mpr c7
    have c7b1 : ((wrap64 ((wrap64 (t207 + t219)) + t227)) != 0) = true := bne_iff_ne.mpr c7
    have hh_ := Option.some.inj H
    rw [hr_.out] at hh_
    cases hh_

end Go.Proofs.Ytcjdhajdoikojaa.Pr
end
section
-- PRINTED by print.py (a twelfth state) out of the translation. Not trusted: Lean checks it.
namespace Go.Proofs.Ytcjdhajdoikojaa.Pr
open Go.RowKit Go.Proofs.YtcjdhajdoikojaaW.PrintWords Go.Proofs.YtcjdhajdoikojaaW.PrintLast Go.Proofs.YtcjdhajdoikojaaW.PrintMore
attribute [local go_sem] max2_int min2_int max_two min_two
set_option linter.unusedVariables false
set_option linter.unusedSimpArgs false

/-! ### isobathlaw05_ClockTree: function 3 -/
def isobathlaw05_ClockTree.j0 : Nat → Int → Int → Int → Bool → Int → List Int → Int → List Int → Int → Int → List (S46) → Int → Int → List (S46) → Option (Bool)
  | 0, _, _, _, _, _, _, _, _, _, _, _, _, _, _ => none
  | k + 1, x5, x13, x14, x54, x229000, x229001, x230000, x230001, x238000, x238001, x238002, x245000, x245001, x245002 => if x54 = true then ((isobathlaw05_Works.f).bind fun t245 => (some t245)) else ((clock_Time.f (([(⟨x238000, x238001, x238002⟩ : S30), (⟨x245000, x245001, x245002⟩ : S30)] : List (S30))) 1 (Int.tmod (wrap64 (x5)) 15000000)).bind fun bt249 => (if bt249.2.2 = 0 then ((isobathlaw05_Truth_offset.f k x230000 x230001 x14 (Int.tmod (wrap64 (x5)) 15000000)).bind fun t253 => ((isobathlaw05_down.f (wrap64 ((wrap64 ((Int.tmod (wrap64 (x5)) 15000000) * 1000000000)) + t253))).bind fun t254 => ((isobathlaw05_up.f (wrap64 ((wrap64 ((Int.tmod (wrap64 (x5)) 15000000) * 1000000000)) + t253))).bind fun t255 => ((isobathlaw05_Truth_offset.f k x229000 x229001 x13 t254).bind fun t256 => ((isobathlaw05_Truth_offset.f k x229000 x229001 x13 t255).bind fun t257 => (if (wrap64 (bt249.1 * 1000000000)) ≤ (wrap64 ((wrap64 (t254 * 1000000000)) + t256)) then (if (wrap64 ((wrap64 (t255 * 1000000000)) + t257)) ≤ (wrap64 (bt249.2.1 * 1000000000)) then ((isobathlaw05_Works.f).bind fun t258 => (some t258)) else (some false)) else (some false))))))) else (some false)))
def isobathlaw05_ClockTree.f (k : Nat) (a0_0 : Int) (l0_1 : List Int) (a1_0 : Int) (l1_1 : List Int) (a2_0 : Int) (a2_1 : Int) (l3 : List (S93)) (l4 : List (S93)) (a5 : Int) : Option (Bool) := (isobathlaw05_made.f k a0_0 l0_1 (-1) (Int.tmod (wrap64 (a2_0)) 1000001) l3).bind fun bt231 => ((isobathlaw05_made.f k a1_0 l1_1 0 (Int.tmod (wrap64 (a2_1)) 1000001) l4).bind fun bt238 => (if bt231.2.2.2 = true then (isobathlaw05_ClockTree.j0 k a5 (Int.tmod (wrap64 (a2_0)) 1000001) (Int.tmod (wrap64 (a2_1)) 1000001) (!bt238.2.2.2) a0_0 l0_1 a1_0 l1_1 bt231.1 bt231.2.1 bt231.2.2.1 bt238.1 bt238.2.1 bt238.2.2.1) else (isobathlaw05_ClockTree.j0 k a5 (Int.tmod (wrap64 (a2_0)) 1000001) (Int.tmod (wrap64 (a2_1)) 1000001) true a0_0 l0_1 a1_0 l1_1 bt231.1 bt231.2.1 bt231.2.2.1 bt238.1 bt238.2.1 bt238.2.2.1)))
def isobathlaw05_ClockTree.T1 : Bool × List (List Nat × List Nat) := (true, [([], []), ([0], [0]), ([1], [1]), ([2], [2]), ([], []), ([4], [4]), ([5], [5]), ([6], [6]), ([3, 0, 1, 2, 3], [3]), ([7, 8, 0, 1, 2, 3, 4, 5, 6, 7, 8], [7])])
def isobathlaw05_ClockTree.B1 : List Nat := [0, 1, 3, 7, 0, 16, 48, 112, 15, 511]
theorem isobathlaw05_ClockTree.tab1 : rtab .any (opsOf Try.f3 1) = isobathlaw05_ClockTree.T1 := by kernel_rfl
theorem isobathlaw05_ClockTree.bits1 : waitsOk isobathlaw05_ClockTree.T1.2 isobathlaw05_ClockTree.B1 = true := by kernel_rfl
def isobathlaw05_ClockTree.T12 : Bool × List (List Nat × List Nat) := (true, [([], []), ([0], [0]), ([], []), ([], []), ([], []), ([2, 3, 4], [2, 3, 4]), ([1, 5], [1, 5]), ([], []), ([7], [7]), ([], []), ([], []), ([], []), ([9, 10, 11, 5], [9, 10, 11]), ([8, 12], [8, 12]), ([6, 12, 0, 1, 2, 3, 4, 5, 6], [6]), ([13, 14, 0, 1, 2, 3, 4, 5, 6, 7, 8, 9, 10, 11, 12, 13, 14], [13])])
def isobathlaw05_ClockTree.B12 : List Nat := [0, 1, 0, 0, 0, 28, 63, 0, 128, 0, 0, 0, 3644, 8124, 7807, 32767]
theorem isobathlaw05_ClockTree.tab12 : rtab .any (opsOf Try.f3 12) = isobathlaw05_ClockTree.T12 := by kernel_rfl
theorem isobathlaw05_ClockTree.bits12 : waitsOk isobathlaw05_ClockTree.T12.2 isobathlaw05_ClockTree.B12 = true := by kernel_rfl
set_option maxHeartbeats 8000000 in
set_option maxRecDepth 100000 in
theorem isobathlaw05_ClockTree.calls (k : Nat) (a0_0 : Int) (A0_1 : Option Addr) (c0_1 : Nat) (l0_1 : List Int) (a1_0 : Int) (A1_1 : Option Addr) (c1_1 : Nat) (l1_1 : List Int) (a2_0 : Int) (a2_1 : Int) (A3 : Option Addr) (c3 : Nat) (l3 : List (S93)) (A4 : Option Addr) (c4 : Nat) (l4 : List (S93)) (a5 : Int) (r : Bool) (w : World) (hr0_1 : Kd.C (Kd.int .i8) w A0_1 l0_1.length l0_1) (hc0_1 : l0_1.length ≤ c0_1) (hr1_1 : Kd.C (Kd.int .i8) w A1_1 l1_1.length l1_1) (hc1_1 : l1_1.length ≤ c1_1) (hr3 : Kd.C k93 w A3 l3.length l3) (hc3 : l3.length ≤ c3) (hr4 : Kd.C k93 w A4 l4.length l4) (hc4 : l4.length ≤ c4) (h : isobathlaw05_ClockTree.f k a0_0 l0_1 a1_0 l1_1 a2_0 a2_1 l3 l4 a5 = some r) (hr_ : Aside0 (r = true)) :
    Calls Try.prog 3 #[.agg #[.int .i32 a0_0, .slice A0_1 l0_1.length c0_1], .agg #[.int .i32 a1_0, .slice A1_1 l1_1.length c1_1], .agg #[.int .u32 a2_0, .int .u32 a2_1], .slice A3 l3.length c3, .slice A4 l4.length c4, .int .u32 a5] w fun e w' => e = .returned (.bool r) ∧ Below w.heap.size w w' := by
  have hu24 := Try.underlying24
  have hu26 := Try.underlying26
  have hu30 := Try.underlying30
  have hu41 := Try.underlying41
  have hu35 := Try.underlying35
  have HR0_1 := Aside0.mk hr0_1
  have HC0_1 := Aside0.mk hc0_1
  clear hr0_1 hc0_1
  have HR1_1 := Aside0.mk hr1_1
  have HC1_1 := Aside0.mk hc1_1
  clear hr1_1 hc1_1
  have HR3 := Aside0.mk hr3
  have HC3 := Aside0.mk hc3
  clear hr3 hc3
  have HR4 := Aside0.mk hr4
  have HC4 := Aside0.mk hc4
  clear hr4 hc4
  have HB := Aside0.mk (Below.refl w.heap.size w)
  have H : ((isobathlaw05_made.f k a0_0 l0_1 (-1) (Int.tmod (wrap64 (a2_0)) 1000001) l3).bind fun bt231 => ((isobathlaw05_made.f k a1_0 l1_1 0 (Int.tmod (wrap64 (a2_1)) 1000001) l4).bind fun bt238 => (if bt231.2.2.2 = true then (isobathlaw05_ClockTree.j0 k a5 (Int.tmod (wrap64 (a2_0)) 1000001) (Int.tmod (wrap64 (a2_1)) 1000001) (!bt238.2.2.2) a0_0 l0_1 a1_0 l1_1 bt231.1 bt231.2.1 bt231.2.2.1 bt238.1 bt238.2.1 bt238.2.2.1) else (isobathlaw05_ClockTree.j0 k a5 (Int.tmod (wrap64 (a2_0)) 1000001) (Int.tmod (wrap64 (a2_1)) 1000001) true a0_0 l0_1 a1_0 l1_1 bt231.1 bt231.2.1 bt231.2.2.1 bt238.1 bt238.2.1 bt238.2.2.1)))) = some r := h
  clear h
  replace H := Option.bind_eq_some_iff.mp H
  obtain ⟨⟨t231, t232, t233, t236⟩, A70, H⟩ := H
  replace H : ((isobathlaw05_made.f k a1_0 l1_1 0 (Int.tmod (wrap64 (a2_1)) 1000001) l4).bind fun bt238 => (if t236 = true then (isobathlaw05_ClockTree.j0 k a5 (Int.tmod (wrap64 (a2_0)) 1000001) (Int.tmod (wrap64 (a2_1)) 1000001) (!bt238.2.2.2) a0_0 l0_1 a1_0 l1_1 t231 t232 t233 bt238.1 bt238.2.1 bt238.2.2.1) else (isobathlaw05_ClockTree.j0 k a5 (Int.tmod (wrap64 (a2_0)) 1000001) (Int.tmod (wrap64 (a2_1)) 1000001) true a0_0 l0_1 a1_0 l1_1 t231 t232 t233 bt238.1 bt238.2.1 bt238.2.2.1))) = some r := H
  have A7 := Aside0.mk A70
  clear A70
  replace H := Option.bind_eq_some_iff.mp H
  obtain ⟨⟨t238, t239, t240, t243⟩, A80, H⟩ := H
  replace H : (if t236 = true then (isobathlaw05_ClockTree.j0 k a5 (Int.tmod (wrap64 (a2_0)) 1000001) (Int.tmod (wrap64 (a2_1)) 1000001) (!t243) a0_0 l0_1 a1_0 l1_1 t231 t232 t233 t238 t239 t240) else (isobathlaw05_ClockTree.j0 k a5 (Int.tmod (wrap64 (a2_0)) 1000001) (Int.tmod (wrap64 (a2_1)) 1000001) true a0_0 l0_1 a1_0 l1_1 t231 t232 t233 t238 t239 t240)) = some r := H
  have A8 := Aside0.mk A80
  clear A80
  have HC9 := Aside0.mk H
  clear H
  go_enter Try.func3, Try.ntmps3
  try go_wp2_with (first | ((with_reducible refine gate_dst (N := 6) rfl ?_); refine box_event ?hg (N := 6) ?hd (cs := #[.int .i32 a0_0, .slice A0_1 l0_1.length c0_1]) (t := 24) ?hr ?_; (case hd => rfl); (case hg => rfl); (case hr => first | (go_simp; done) | (go_simp; rfl)); intro gb228 hg w10 hbox hb; have n0_ := Aside0.mk (below_step (by repeat (first | (with_reducible first | exact HB.out | apply below_alloc | apply pw_below_drewN | apply below_drew1) | exact HB.out)) hb); have n1_ := Aside0.mk (hbox); have n2_ := Aside0.mk ((by rw [hg]; exact (below_size (by repeat (first | (with_reducible first | exact HB.out | apply below_alloc | apply pw_below_drewN | apply below_drew1) | exact HB.out))) : w.heap.size ≤ gb228)); have n3_ := Aside0.mk ((by rw [hg]; exact (below_size (by repeat (first | (with_reducible first | exact HB.out | apply below_alloc | apply pw_below_drewN | apply below_drew1) | exact HB.out))) : w.heap.size ≤ gb228)); clear HB; have HB := n0_; have BK228 := n1_; have GW228 := n2_; have GE228 := n3_; clear n0_ n1_ n2_ n3_; clear hb hbox hg) | ((with_reducible refine gate_dst (N := 7) rfl ?_); refine box_event ?hg (N := 7) ?hd (cs := #[.int .i32 a1_0, .slice A1_1 l1_1.length c1_1]) (t := 24) ?hr ?_; (case hd => rfl); (case hg => rfl); (case hr => first | (go_simp; done) | (go_simp; rfl)); intro gb229 hg w11 hbox hb; have n0_ := Aside0.mk (blk_below (g := gb228) (o := .cells #[.int .i32 a0_0, .slice A0_1 l0_1.length c0_1] 24 (0, 0)) (by (with_reducible repeat (first | refine blk_drewN ?_ _ | refine blk_drew ?_ | refine blk_alloc ?_ _)); exact BK228.out) hb); have n1_ := Aside0.mk (below_step (by repeat (first | (with_reducible first | exact HB.out | apply below_alloc | apply pw_below_drewN | apply below_drew1 | refine below_set ?_ GE228.out) | exact HB.out)) hb); have n2_ := Aside0.mk (hbox); have n3_ := Aside0.mk ((by rw [hg]; exact (below_size (by repeat (first | (with_reducible first | exact HB.out | apply below_alloc | apply pw_below_drewN | apply below_drew1 | refine below_set ?_ GE228.out) | exact HB.out))) : w.heap.size ≤ gb229)); have n4_ := Aside0.mk ((by rw [hg]; exact (below_size (by repeat (first | (with_reducible first | exact HB.out | apply below_alloc | apply pw_below_drewN | apply below_drew1 | refine below_set ?_ GE228.out) | exact HB.out))) : w.heap.size ≤ gb229)); have n5_ := Aside0.mk ((by rw [hg]; exact Nat.ne_of_lt (blk_lt (g := gb228) (o := .cells #[.int .i32 a0_0, .slice A0_1 l0_1.length c0_1] 24 (0, 0)) (by (with_reducible repeat (first | refine blk_drewN ?_ _ | refine blk_drew ?_ | refine blk_alloc ?_ _)); exact BK228.out)) : gb228 ≠ gb229)); have n6_ := Aside0.mk ((by rw [hg]; exact Nat.ne_of_gt (blk_lt (g := gb228) (o := .cells #[.int .i32 a0_0, .slice A0_1 l0_1.length c0_1] 24 (0, 0)) (by (with_reducible repeat (first | refine blk_drewN ?_ _ | refine blk_drew ?_ | refine blk_alloc ?_ _)); exact BK228.out)) : gb229 ≠ gb228)); clear BK228; clear HB; have BK228 := n0_; have HB := n1_; have BK229 := n2_; have GW229 := n3_; have GE229 := n4_; have NB228_229 := n5_; have NB229_228 := n6_; clear n0_ n1_ n2_ n3_ n4_ n5_ n6_; clear hb hbox hg) | ((with_reducible refine gate_dst (N := 8) rfl ?_); refine box_event ?hg (N := 8) ?hd (cs := #[.int .u32 a2_0, .int .u32 a2_1]) (t := 26) ?hr ?_; (case hd => rfl); (case hg => rfl); (case hr => first | (go_simp; done) | (go_simp; rfl)); intro gb230 hg w12 hbox hb; have n0_ := Aside0.mk (blk_below (g := gb228) (o := .cells #[.int .i32 a0_0, .slice A0_1 l0_1.length c0_1] 24 (0, 0)) (by (with_reducible repeat (first | refine blk_drewN ?_ _ | refine blk_drew ?_ | refine blk_alloc ?_ _)); exact BK228.out) hb); have n1_ := Aside0.mk (blk_below (g := gb229) (o := .cells #[.int .i32 a1_0, .slice A1_1 l1_1.length c1_1] 24 (0, 0)) (by (with_reducible repeat (first | refine blk_drewN ?_ _ | refine blk_drew ?_ | refine blk_alloc ?_ _)); exact BK229.out) hb); have n2_ := Aside0.mk (below_step (by repeat (first | (with_reducible first | exact HB.out | apply below_alloc | apply pw_below_drewN | apply below_drew1 | refine below_set ?_ GE228.out | refine below_set ?_ GE229.out) | exact HB.out)) hb); have n3_ := Aside0.mk (hbox); have n4_ := Aside0.mk ((by rw [hg]; exact (below_size (by repeat (first | (with_reducible first | exact HB.out | apply below_alloc | apply pw_below_drewN | apply below_drew1 | refine below_set ?_ GE228.out | refine below_set ?_ GE229.out) | exact HB.out))) : w.heap.size ≤ gb230)); have n5_ := Aside0.mk ((by rw [hg]; exact (below_size (by repeat (first | (with_reducible first | exact HB.out | apply below_alloc | apply pw_below_drewN | apply below_drew1 | refine below_set ?_ GE228.out | refine below_set ?_ GE229.out) | exact HB.out))) : w.heap.size ≤ gb230)); have n6_ := Aside0.mk ((by rw [hg]; exact Nat.ne_of_lt (blk_lt (g := gb228) (o := .cells #[.int .i32 a0_0, .slice A0_1 l0_1.length c0_1] 24 (0, 0)) (by (with_reducible repeat (first | refine blk_drewN ?_ _ | refine blk_drew ?_ | refine blk_alloc ?_ _)); exact BK228.out)) : gb228 ≠ gb230)); have n7_ := Aside0.mk ((by rw [hg]; exact Nat.ne_of_gt (blk_lt (g := gb228) (o := .cells #[.int .i32 a0_0, .slice A0_1 l0_1.length c0_1] 24 (0, 0)) (by (with_reducible repeat (first | refine blk_drewN ?_ _ | refine blk_drew ?_ | refine blk_alloc ?_ _)); exact BK228.out)) : gb230 ≠ gb228)); have n8_ := Aside0.mk ((by rw [hg]; exact Nat.ne_of_lt (blk_lt (g := gb229) (o := .cells #[.int .i32 a1_0, .slice A1_1 l1_1.length c1_1] 24 (0, 0)) (by (with_reducible repeat (first | refine blk_drewN ?_ _ | refine blk_drew ?_ | refine blk_alloc ?_ _)); exact BK229.out)) : gb229 ≠ gb230)); have n9_ := Aside0.mk ((by rw [hg]; exact Nat.ne_of_gt (blk_lt (g := gb229) (o := .cells #[.int .i32 a1_0, .slice A1_1 l1_1.length c1_1] 24 (0, 0)) (by (with_reducible repeat (first | refine blk_drewN ?_ _ | refine blk_drew ?_ | refine blk_alloc ?_ _)); exact BK229.out)) : gb230 ≠ gb229)); clear BK228; clear BK229; clear HB; have BK228 := n0_; have BK229 := n1_; have HB := n2_; have BK230 := n3_; have GW230 := n4_; have GE230 := n5_; have NB228_230 := n6_; have NB230_228 := n7_; have NB229_230 := n8_; have NB230_229 := n9_; clear n0_ n1_ n2_ n3_ n4_ n5_ n6_ n7_ n8_ n9_; clear hb hbox hg))
  have n0_ := Aside0.mk (blk_drew BK228.out)
  have n1_ := Aside0.mk (blk_drew BK229.out)
  have n2_ := Aside0.mk (blk_drew BK230.out)
  have n3_ := Aside0.mk (below_drew1 HB.out)
  clear BK228
  clear BK229
  clear BK230
  clear HB
  have BK228 := n0_
  have BK229 := n1_
  have BK230 := n2_
  have HB := n3_
  clear n0_ n1_ n2_ n3_
  refine start_ (n := 10) (S := fun w' => w'.cell? ⟨gb230, 0, none⟩ = some (.int .u32 a2_0) ∧ w'.cell? ⟨gb230, 1, none⟩ = some (.int .u32 a2_1)) (ds := []) #[false, false, false, false, false, false, false, false, false, false] (by kernel_rfl) rfl rfl ⟨(blk_cell BK230.out 0).trans rfl, (blk_cell BK230.out 1).trans rfl⟩ (fun hHeld => ?_); refine with_tabW isobathlaw05_ClockTree.tab1 isobathlaw05_ClockTree.bits1 (fun HT_ HW_ => ?_)
  generalize w12.drew = w13 at BK228 BK229 BK230 HB hHeld ⊢
  refine pure_ (i := 0) (N := some 27) (v := ?_) (a' := ?_) #[true, false, false, false, false, false, false, false, false, false] rfl rfl (any_of HT_.out (by kernel_rfl)) (fun _ _ _ h => h) (Or.inl ⟨by rfl, ?_⟩) ?_ ?_
  rotate_left
  · intro w'
    go_simp
    with_reducible rfl
  rotate_left
  · simp only [Act.put, List.setIfInBounds_toArray, List.set_cons_zero, List.set_cons_succ, i64_w, i32_w]
    rfl
  refine pure_ (i := 4) (N := some 31) (v := ?_) (a' := ?_) #[true, false, false, false, true, false, false, false, false, false] rfl rfl (any_of HT_.out (by kernel_rfl)) (fun _ _ _ h => h) (Or.inl ⟨by rfl, ?_⟩) ?_ ?_
  rotate_left
  · intro w'
    go_simp
    with_reducible rfl
  rotate_left
  · simp only [Act.put, List.setIfInBounds_toArray, List.set_cons_zero, List.set_cons_succ, i64_w, i32_w]
    rfl
  refine take_ (i := 1) (N := some 28) (v := ?_) (a' := ?_) #[true, true, false, false, true, false, false, false, false, false] rfl rfl (take_ofW HT_.out HW_.out (by kernel_rfl)) (fun _ _ _ h => h) (Or.inl ⟨by rfl, ?_⟩) hHeld ?_ ?_
  rotate_left
  · rintro w' ⟨s0, s1⟩
    go_simp
    with_reducible rfl
  rotate_left
  · simp only [Act.put, List.setIfInBounds_toArray, List.set_cons_zero, List.set_cons_succ, i64_w, i32_w]
    rfl
  refine pure_ (i := 2) (N := some 29) (v := ?_) (a' := ?_) #[true, true, true, false, true, false, false, false, false, false] rfl rfl (any_of HT_.out (by kernel_rfl)) (fun _ _ _ h => h) (Or.inl ⟨by rfl, ?_⟩) ?_ ?_
  rotate_left
  · intro w'
    go_simp
    with_reducible rfl
  rotate_left
  · simp only [Act.put, List.setIfInBounds_toArray, List.set_cons_zero, List.set_cons_succ, i64_w, i32_w]
    rfl
  refine pure_ (i := 3) (N := some 30) (v := ?_) (a' := ?_) #[true, true, true, true, true, false, false, false, false, false] rfl rfl (any_of HT_.out (by kernel_rfl)) (fun _ _ _ h => h) (Or.inl ⟨by rfl, ?_⟩) ?_ ?_
  rotate_left
  · intro w'
    go_simp
    with_reducible rfl
  rotate_left
  · simp only [Act.put, List.setIfInBounds_toArray, List.set_cons_zero, List.set_cons_succ, i64_w, i32_w]
    rfl
  refine pure_ (i := 8) (N := some 13) (v := ?_) (a' := ?_) #[true, true, true, true, true, false, false, false, true, false] rfl rfl (any_of HT_.out (by kernel_rfl)) (fun _ _ _ h => h) (Or.inl ⟨by rfl, ?_⟩) ?_ ?_
  rotate_left
  · intro w'
    go_simp
    with_reducible rfl
  rotate_left
  · simp only [Act.put, List.setIfInBounds_toArray, List.set_cons_zero, List.set_cons_succ, i64_w, i32_w]
    rfl
  refine take_ (i := 5) (N := some 32) (v := ?_) (a' := ?_) #[true, true, true, true, true, true, false, false, true, false] rfl rfl (take_ofW HT_.out HW_.out (by kernel_rfl)) (fun _ _ _ h => h) (Or.inl ⟨by rfl, ?_⟩) hHeld ?_ ?_
  rotate_left
  · rintro w' ⟨s0, s1⟩
    go_simp
    with_reducible rfl
  rotate_left
  · simp only [Act.put, List.setIfInBounds_toArray, List.set_cons_zero, List.set_cons_succ, i64_w, i32_w]
    rfl
  refine pure_ (i := 6) (N := some 33) (v := ?_) (a' := ?_) #[true, true, true, true, true, true, true, false, true, false] rfl rfl (any_of HT_.out (by kernel_rfl)) (fun _ _ _ h => h) (Or.inl ⟨by rfl, ?_⟩) ?_ ?_
  rotate_left
  · intro w'
    go_simp
    with_reducible rfl
  rotate_left
  · simp only [Act.put, List.setIfInBounds_toArray, List.set_cons_zero, List.set_cons_succ, i64_w, i32_w]
    rfl
  refine pure_ (i := 7) (N := some 34) (v := ?_) (a' := ?_) #[true, true, true, true, true, true, true, true, true, false] rfl rfl (any_of HT_.out (by kernel_rfl)) (fun _ _ _ h => h) (Or.inl ⟨by rfl, ?_⟩) ?_ ?_
  rotate_left
  · intro w'
    go_simp
    with_reducible rfl
  rotate_left
  · simp only [Act.put, List.setIfInBounds_toArray, List.set_cons_zero, List.set_cons_succ, i64_w, i32_w]
    rfl
  refine pure_ (i := 9) (N := some 14) (v := ?_) (a' := ?_) #[true, true, true, true, true, true, true, true, true, true] rfl rfl (any_of HT_.out (by kernel_rfl)) (fun _ _ _ h => h) (Or.inl ⟨by rfl, ?_⟩) ?_ ?_
  rotate_left
  · intro w'
    go_simp
    with_reducible rfl
  rotate_left
  · simp only [Act.put, List.setIfInBounds_toArray, List.set_cons_zero, List.set_cons_succ, i64_w, i32_w]
    rfl
  refine done_ (done_of HT_.out (by kernel_rfl)) ?_
  have hnb14 := NB228_229.out
  have hnc14 := NB229_228.out
  have hnb15 := NB228_230.out
  have hnc15 := NB230_228.out
  have hcz16_0 : w13.cell? ⟨gb228, 0, none⟩ = some (.int .i32 a0_0) := (blk_cell BK228.out 0).trans rfl
  have hcz16_1 : w13.cell? ⟨gb228, 1, none⟩ = some (.slice A0_1 l0_1.length c0_1) := (blk_cell BK228.out 1).trans rfl
  have hfz16_0 := blk_frozen BK228.out 0
  have hfz16_1 := blk_frozen BK228.out 1
  go_upto_region 4 with (first | ((with_reducible refine gate_callee (f := 15) rfl ?_); refine goesL_ (some 39) rfl rfl Try.func15 (by kernel_rfl) rfl #[.agg #[.int .i32 a0_0, .slice A0_1 l0_1.length c0_1], .int .i64 (-1), .int .i64 (Int.tmod (wrap64 (a2_0)) 1000001), .slice A3 l3.length c3] rfl (by (try simp only [List.map_toArray, List.map_cons, List.map_nil]); first | done | rfl | (simp only [List.length_drop, List.length_take]; rfl)) ?_; (with_reducible refine (isobathlaw05_made.calls k a0_0 _ _ l0_1 (-1) (Int.tmod (wrap64 (a2_0)) 1000001) _ _ l3 t231 t232 t233 t236 _ ?side1 ?side2 ?side3 ?side4 A7.out).mono ?_); (case side1 => repeat (first | exact (Kd.C_below HR0_1.out HB.out) | (with_reducible refine Kd.C_alloc ?_ _) | (with_reducible refine Kd.C_drewN ?_ _) | (with_reducible refine Kd.C_drew ?_))); (case side2 => exact HC0_1.out); (case side3 => repeat (first | exact (Kd.C_below HR3.out HB.out) | (with_reducible refine Kd.C_alloc ?_ _) | (with_reducible refine Kd.C_drewN ?_ _) | (with_reducible refine Kd.C_drew ?_))); (case side4 => exact HC3.out); rintro e w17 ⟨v234, rfl, ho0, hb⟩; refine ⟨_, rfl, ?_⟩; have n0_ := Aside0.mk (Kd.R_lower ho0 (below_size (by repeat (first | (with_reducible first | exact HB.out | apply below_alloc | apply pw_below_drewN | apply below_drew1 | refine below_set ?_ GE228.out | refine below_set ?_ GE229.out | refine below_set ?_ GE230.out) | exact HB.out)))); have n1_ := Aside0.mk (blk_below (g := gb228) (o := .cells #[.int .i32 a0_0, .slice A0_1 l0_1.length c0_1] 24 (0, 0)) (by (with_reducible repeat (first | refine blk_drewN ?_ _ | refine blk_drew ?_ | refine blk_alloc ?_ _)); exact BK228.out) hb); have n2_ := Aside0.mk (blk_below (g := gb229) (o := .cells #[.int .i32 a1_0, .slice A1_1 l1_1.length c1_1] 24 (0, 0)) (by (with_reducible repeat (first | refine blk_drewN ?_ _ | refine blk_drew ?_ | refine blk_alloc ?_ _)); exact BK229.out) hb); have n3_ := Aside0.mk (blk_below (g := gb230) (o := .cells #[.int .u32 a2_0, .int .u32 a2_1] 26 (0, 0)) (by (with_reducible repeat (first | refine blk_drewN ?_ _ | refine blk_drew ?_ | refine blk_alloc ?_ _)); exact BK230.out) hb); have n4_ := Aside0.mk (below_step (by repeat (first | (with_reducible first | exact HB.out | apply below_alloc | apply pw_below_drewN | apply below_drew1 | refine below_set ?_ GE228.out | refine below_set ?_ GE229.out | refine below_set ?_ GE230.out) | exact HB.out)) hb); clear BK228; clear BK229; clear BK230; clear HB; have HO235 := n0_; have BK228 := n1_; have BK229 := n2_; have BK230 := n3_; have HB := n4_; clear n0_ n1_ n2_ n3_ n4_; (try clear hb); (try clear hb2); (try clear hk); (try clear hi); (try clear ho0)) | ((with_reducible refine gate_dst (N := 15) rfl ?_); refine box_event ?hg (N := 15) ?hd (cs := #[.int .i64 0, .int .i64 0, .slice none 0 0]) (t := 30) ?hr ?_; (case hd => rfl); (case hg => rfl); (case hr => first | (go_simp; done) | (go_simp; rfl)); intro gb237 hg w18 hbox hb; have n0_ := Aside0.mk (Kd.R_below (by (with_reducible repeat (first | apply Kd.R_alloc | apply Kd.R_drewN | apply Kd.R_drew)); exact HO235.out) hb); have n1_ := Aside0.mk (blk_below (g := gb228) (o := .cells #[.int .i32 a0_0, .slice A0_1 l0_1.length c0_1] 24 (0, 0)) (by (with_reducible repeat (first | refine blk_drewN ?_ _ | refine blk_drew ?_ | refine blk_alloc ?_ _)); exact BK228.out) hb); have n2_ := Aside0.mk (blk_below (g := gb229) (o := .cells #[.int .i32 a1_0, .slice A1_1 l1_1.length c1_1] 24 (0, 0)) (by (with_reducible repeat (first | refine blk_drewN ?_ _ | refine blk_drew ?_ | refine blk_alloc ?_ _)); exact BK229.out) hb); have n3_ := Aside0.mk (blk_below (g := gb230) (o := .cells #[.int .u32 a2_0, .int .u32 a2_1] 26 (0, 0)) (by (with_reducible repeat (first | refine blk_drewN ?_ _ | refine blk_drew ?_ | refine blk_alloc ?_ _)); exact BK230.out) hb); have n4_ := Aside0.mk (below_step (by repeat (first | (with_reducible first | exact HB.out | apply below_alloc | apply pw_below_drewN | apply below_drew1 | refine below_set ?_ GE228.out | refine below_set ?_ GE229.out | refine below_set ?_ GE230.out) | exact HB.out)) hb); have n5_ := Aside0.mk (hbox); have n6_ := Aside0.mk ((by rw [hg]; exact (below_size (by repeat (first | (with_reducible first | exact HB.out | apply below_alloc | apply pw_below_drewN | apply below_drew1 | refine below_set ?_ GE228.out | refine below_set ?_ GE229.out | refine below_set ?_ GE230.out) | exact HB.out))) : w.heap.size ≤ gb237)); have n7_ := Aside0.mk ((by rw [hg]; exact (below_size (by repeat (first | (with_reducible first | exact HB.out | apply below_alloc | apply pw_below_drewN | apply below_drew1 | refine below_set ?_ GE228.out | refine below_set ?_ GE229.out | refine below_set ?_ GE230.out) | exact HB.out))) : w.heap.size ≤ gb237)); have n8_ := Aside0.mk ((by rw [hg]; exact Nat.ne_of_lt (blk_lt (g := gb228) (o := .cells #[.int .i32 a0_0, .slice A0_1 l0_1.length c0_1] 24 (0, 0)) (by (with_reducible repeat (first | refine blk_drewN ?_ _ | refine blk_drew ?_ | refine blk_alloc ?_ _)); exact BK228.out)) : gb228 ≠ gb237)); have n9_ := Aside0.mk ((by rw [hg]; exact Nat.ne_of_gt (blk_lt (g := gb228) (o := .cells #[.int .i32 a0_0, .slice A0_1 l0_1.length c0_1] 24 (0, 0)) (by (with_reducible repeat (first | refine blk_drewN ?_ _ | refine blk_drew ?_ | refine blk_alloc ?_ _)); exact BK228.out)) : gb237 ≠ gb228)); have n10_ := Aside0.mk ((by rw [hg]; exact Nat.ne_of_lt (blk_lt (g := gb229) (o := .cells #[.int .i32 a1_0, .slice A1_1 l1_1.length c1_1] 24 (0, 0)) (by (with_reducible repeat (first | refine blk_drewN ?_ _ | refine blk_drew ?_ | refine blk_alloc ?_ _)); exact BK229.out)) : gb229 ≠ gb237)); have n11_ := Aside0.mk ((by rw [hg]; exact Nat.ne_of_gt (blk_lt (g := gb229) (o := .cells #[.int .i32 a1_0, .slice A1_1 l1_1.length c1_1] 24 (0, 0)) (by (with_reducible repeat (first | refine blk_drewN ?_ _ | refine blk_drew ?_ | refine blk_alloc ?_ _)); exact BK229.out)) : gb237 ≠ gb229)); have n12_ := Aside0.mk ((by rw [hg]; exact Nat.ne_of_lt (blk_lt (g := gb230) (o := .cells #[.int .u32 a2_0, .int .u32 a2_1] 26 (0, 0)) (by (with_reducible repeat (first | refine blk_drewN ?_ _ | refine blk_drew ?_ | refine blk_alloc ?_ _)); exact BK230.out)) : gb230 ≠ gb237)); have n13_ := Aside0.mk ((by rw [hg]; exact Nat.ne_of_gt (blk_lt (g := gb230) (o := .cells #[.int .u32 a2_0, .int .u32 a2_1] 26 (0, 0)) (by (with_reducible repeat (first | refine blk_drewN ?_ _ | refine blk_drew ?_ | refine blk_alloc ?_ _)); exact BK230.out)) : gb237 ≠ gb230)); clear HO235; clear BK228; clear BK229; clear BK230; clear HB; have HO235 := n0_; have BK228 := n1_; have BK229 := n2_; have BK230 := n3_; have HB := n4_; have BK237 := n5_; have GW237 := n6_; have GE237 := n7_; have NB228_237 := n8_; have NB237_228 := n9_; have NB229_237 := n10_; have NB237_229 := n11_; have NB230_237 := n12_; have NB237_230 := n13_; clear n0_ n1_ n2_ n3_ n4_ n5_ n6_ n7_ n8_ n9_ n10_ n11_ n12_ n13_; clear hb hbox hg; have hnb19 := NB237_228.out; have hnc19 := NB228_237.out; have hnb20 := NB237_229.out; have hnc20 := NB229_237.out; have hnb21 := NB237_230.out; have hnc21 := NB230_237.out; have hcz22_0 : w18.cell? ⟨gb237, 0, none⟩ = some (.int .i64 0) := (blk_cell BK237.out 0).trans rfl; have hcz22_1 : w18.cell? ⟨gb237, 1, none⟩ = some (.int .i64 0) := (blk_cell BK237.out 1).trans rfl; have hcz22_2 : w18.cell? ⟨gb237, 2, none⟩ = some (.slice none 0 0) := (blk_cell BK237.out 2).trans rfl; have hfz22_0 := blk_frozen BK237.out 0; have hfz22_1 := blk_frozen BK237.out 1; have hfz22_2 := blk_frozen BK237.out 2; obtain ⟨Ao23, co23, eo23⟩ := Kd.R_slice HO235.out; subst eo23; have hnb24 := NB229_230.out; have hnc24 := NB230_229.out; have hcz25_0 : w18.cell? ⟨gb229, 0, none⟩ = some (.int .i32 a1_0) := (blk_cell BK229.out 0).trans rfl; have hcz25_1 : w18.cell? ⟨gb229, 1, none⟩ = some (.slice A1_1 l1_1.length c1_1) := (blk_cell BK229.out 1).trans rfl; have hfz25_0 := blk_frozen BK229.out 0; have hfz25_1 := blk_frozen BK229.out 1) | ((with_reducible refine gate_callee (f := 15) rfl ?_); refine goesL_ (some 46) rfl rfl Try.func15 (by kernel_rfl) rfl #[.agg #[.int .i32 a1_0, .slice A1_1 l1_1.length c1_1], .int .i64 0, .int .i64 (Int.tmod (wrap64 (a2_1)) 1000001), .slice A4 l4.length c4] rfl (by (try simp only [List.map_toArray, List.map_cons, List.map_nil]); first | done | rfl | (simp only [List.length_drop, List.length_take]; rfl)) ?_; (with_reducible refine (isobathlaw05_made.calls k a1_0 _ _ l1_1 0 (Int.tmod (wrap64 (a2_1)) 1000001) _ _ l4 t238 t239 t240 t243 _ ?side1 ?side2 ?side3 ?side4 A8.out).mono ?_); (case side1 => exact Kd.C_below HR1_1.out (by repeat (first | (with_reducible first | exact HB.out | apply below_alloc | apply pw_below_drewN | apply below_drew1 | refine below_set ?_ GE228.out | refine below_set ?_ GE229.out | refine below_set ?_ GE230.out | refine below_set ?_ GE237.out) | exact HB.out))); (case side2 => exact HC1_1.out); (case side3 => exact Kd.C_below HR4.out (by repeat (first | (with_reducible first | exact HB.out | apply below_alloc | apply pw_below_drewN | apply below_drew1 | refine below_set ?_ GE228.out | refine below_set ?_ GE229.out | refine below_set ?_ GE230.out | refine below_set ?_ GE237.out) | exact HB.out))); (case side4 => exact HC4.out); rintro e w26 ⟨v241, rfl, ho0, hb⟩; refine ⟨_, rfl, ?_⟩; have n0_ := Aside0.mk (Kd.R_elder' (by (with_reducible repeat (first | apply Kd.R_alloc | apply Kd.R_drewN | apply Kd.R_drew)); exact (Kd.R_mono (Kd.R_far (p := ⟨gb237, 2, none⟩) (Kd.R_far (p := ⟨gb237, 1, none⟩) (Kd.R_far (p := ⟨gb237, 0, none⟩) (Kd.R_types HO235.out BK237.out (by decide)) (fun _ hk => hk.2) (.int .i64 t231)) (fun _ hk => hk.2) (.int .i64 t232)) (fun _ hk => hk.2) (.slice Ao23 t233.length co23)) (fun _ h_ => h_.1))) (Kd.R_base ho0) hb); have n1_ := Aside0.mk (Kd.R_lower (Kd.R_new' ho0 (Kd.R_lt (by (with_reducible repeat (first | apply Kd.R_alloc | apply Kd.R_drewN | apply Kd.R_drew)); exact (Kd.R_mono (Kd.R_far (p := ⟨gb237, 2, none⟩) (Kd.R_far (p := ⟨gb237, 1, none⟩) (Kd.R_far (p := ⟨gb237, 0, none⟩) (Kd.R_types HO235.out BK237.out (by decide)) (fun _ hk => hk.2) (.int .i64 t231)) (fun _ hk => hk.2) (.int .i64 t232)) (fun _ hk => hk.2) (.slice Ao23 t233.length co23)) (fun _ h_ => h_.1))))) (below_size (by repeat (first | (with_reducible first | exact HB.out | apply below_alloc | apply pw_below_drewN | apply below_drew1 | refine below_set ?_ GE228.out | refine below_set ?_ GE229.out | refine below_set ?_ GE230.out | refine below_set ?_ GE237.out) | exact HB.out)))); have n2_ := Aside0.mk (blk_below (g := gb228) (o := .cells #[.int .i32 a0_0, .slice A0_1 l0_1.length c0_1] 24 (0, 0)) (by (with_reducible repeat (first | refine blk_drewN ?_ _ | refine blk_drew ?_ | refine blk_alloc ?_ _)); refine blk_far ?_ NB228_237.out _; (with_reducible repeat (first | refine blk_drewN ?_ _ | refine blk_drew ?_ | refine blk_alloc ?_ _)); refine blk_far ?_ NB228_237.out _; (with_reducible repeat (first | refine blk_drewN ?_ _ | refine blk_drew ?_ | refine blk_alloc ?_ _)); refine blk_far ?_ NB228_237.out _; (with_reducible repeat (first | refine blk_drewN ?_ _ | refine blk_drew ?_ | refine blk_alloc ?_ _)); exact BK228.out) hb); have n3_ := Aside0.mk (blk_below (g := gb229) (o := .cells #[.int .i32 a1_0, .slice A1_1 l1_1.length c1_1] 24 (0, 0)) (by (with_reducible repeat (first | refine blk_drewN ?_ _ | refine blk_drew ?_ | refine blk_alloc ?_ _)); refine blk_far ?_ NB229_237.out _; (with_reducible repeat (first | refine blk_drewN ?_ _ | refine blk_drew ?_ | refine blk_alloc ?_ _)); refine blk_far ?_ NB229_237.out _; (with_reducible repeat (first | refine blk_drewN ?_ _ | refine blk_drew ?_ | refine blk_alloc ?_ _)); refine blk_far ?_ NB229_237.out _; (with_reducible repeat (first | refine blk_drewN ?_ _ | refine blk_drew ?_ | refine blk_alloc ?_ _)); exact BK229.out) hb); have n4_ := Aside0.mk (blk_below (g := gb230) (o := .cells #[.int .u32 a2_0, .int .u32 a2_1] 26 (0, 0)) (by (with_reducible repeat (first | refine blk_drewN ?_ _ | refine blk_drew ?_ | refine blk_alloc ?_ _)); refine blk_far ?_ NB230_237.out _; (with_reducible repeat (first | refine blk_drewN ?_ _ | refine blk_drew ?_ | refine blk_alloc ?_ _)); refine blk_far ?_ NB230_237.out _; (with_reducible repeat (first | refine blk_drewN ?_ _ | refine blk_drew ?_ | refine blk_alloc ?_ _)); refine blk_far ?_ NB230_237.out _; (with_reducible repeat (first | refine blk_drewN ?_ _ | refine blk_drew ?_ | refine blk_alloc ?_ _)); exact BK230.out) hb); have n5_ := Aside0.mk (blk_below (g := gb237) (o := .cells #[.int .i64 t231, .int .i64 t232, .slice Ao23 t233.length co23] 30 (0, 0)) (by (with_reducible repeat (first | refine blk_drewN ?_ _ | refine blk_drew ?_ | refine blk_alloc ?_ _)); refine blk_put (cs := #[.int .i64 t231, .int .i64 t232, .slice none 0 0]) ?_ 2 _ rfl; (with_reducible repeat (first | refine blk_drewN ?_ _ | refine blk_drew ?_ | refine blk_alloc ?_ _)); refine blk_put (cs := #[.int .i64 t231, .int .i64 0, .slice none 0 0]) ?_ 1 _ rfl; (with_reducible repeat (first | refine blk_drewN ?_ _ | refine blk_drew ?_ | refine blk_alloc ?_ _)); refine blk_put (cs := #[.int .i64 0, .int .i64 0, .slice none 0 0]) ?_ 0 _ rfl; (with_reducible repeat (first | refine blk_drewN ?_ _ | refine blk_drew ?_ | refine blk_alloc ?_ _)); exact BK237.out) hb); have n6_ := Aside0.mk (below_step (by repeat (first | (with_reducible first | exact HB.out | apply below_alloc | apply pw_below_drewN | apply below_drew1 | refine below_set ?_ GE228.out | refine below_set ?_ GE229.out | refine below_set ?_ GE230.out | refine below_set ?_ GE237.out) | exact HB.out)) hb); clear HO235; clear BK228; clear BK229; clear BK230; clear BK237; clear HB; have HO235 := n0_; have HO242 := n1_; have BK228 := n2_; have BK229 := n3_; have BK230 := n4_; have BK237 := n5_; have HB := n6_; clear n0_ n1_ n2_ n3_ n4_ n5_ n6_; (try clear hb); (try clear hb2); (try clear hk); (try clear hi); (try clear ho0)) | ((with_reducible refine gate_dst (N := 17) rfl ?_); refine box_event ?hg (N := 17) ?hd (cs := #[.int .i64 0, .int .i64 0, .slice none 0 0]) (t := 30) ?hr ?_; (case hd => rfl); (case hg => rfl); (case hr => first | (go_simp; done) | (go_simp; rfl)); intro gb244 hg w27 hbox hb; have n0_ := Aside0.mk (Kd.R_below (by (with_reducible repeat (first | apply Kd.R_alloc | apply Kd.R_drewN | apply Kd.R_drew)); exact HO235.out) hb); have n1_ := Aside0.mk (Kd.R_below (by (with_reducible repeat (first | apply Kd.R_alloc | apply Kd.R_drewN | apply Kd.R_drew)); exact HO242.out) hb); have n2_ := Aside0.mk (blk_below (g := gb228) (o := .cells #[.int .i32 a0_0, .slice A0_1 l0_1.length c0_1] 24 (0, 0)) (by (with_reducible repeat (first | refine blk_drewN ?_ _ | refine blk_drew ?_ | refine blk_alloc ?_ _)); exact BK228.out) hb); have n3_ := Aside0.mk (blk_below (g := gb229) (o := .cells #[.int .i32 a1_0, .slice A1_1 l1_1.length c1_1] 24 (0, 0)) (by (with_reducible repeat (first | refine blk_drewN ?_ _ | refine blk_drew ?_ | refine blk_alloc ?_ _)); exact BK229.out) hb); have n4_ := Aside0.mk (blk_below (g := gb230) (o := .cells #[.int .u32 a2_0, .int .u32 a2_1] 26 (0, 0)) (by (with_reducible repeat (first | refine blk_drewN ?_ _ | refine blk_drew ?_ | refine blk_alloc ?_ _)); exact BK230.out) hb); have n5_ := Aside0.mk (blk_below (g := gb237) (o := .cells #[.int .i64 t231, .int .i64 t232, .slice Ao23 t233.length co23] 30 (0, 0)) (by (with_reducible repeat (first | refine blk_drewN ?_ _ | refine blk_drew ?_ | refine blk_alloc ?_ _)); exact BK237.out) hb); have n6_ := Aside0.mk (below_step (by repeat (first | (with_reducible first | exact HB.out | apply below_alloc | apply pw_below_drewN | apply below_drew1 | refine below_set ?_ GE228.out | refine below_set ?_ GE229.out | refine below_set ?_ GE230.out | refine below_set ?_ GE237.out) | exact HB.out)) hb); have n7_ := Aside0.mk (hbox); have n8_ := Aside0.mk ((by rw [hg]; exact (below_size (by repeat (first | (with_reducible first | exact HB.out | apply below_alloc | apply pw_below_drewN | apply below_drew1 | refine below_set ?_ GE228.out | refine below_set ?_ GE229.out | refine below_set ?_ GE230.out | refine below_set ?_ GE237.out) | exact HB.out))) : w.heap.size ≤ gb244)); have n9_ := Aside0.mk ((by rw [hg]; exact (below_size (by repeat (first | (with_reducible first | exact HB.out | apply below_alloc | apply pw_below_drewN | apply below_drew1 | refine below_set ?_ GE228.out | refine below_set ?_ GE229.out | refine below_set ?_ GE230.out | refine below_set ?_ GE237.out) | exact HB.out))) : w.heap.size ≤ gb244)); have n10_ := Aside0.mk ((by rw [hg]; exact Nat.ne_of_lt (blk_lt (g := gb228) (o := .cells #[.int .i32 a0_0, .slice A0_1 l0_1.length c0_1] 24 (0, 0)) (by (with_reducible repeat (first | refine blk_drewN ?_ _ | refine blk_drew ?_ | refine blk_alloc ?_ _)); exact BK228.out)) : gb228 ≠ gb244)); have n11_ := Aside0.mk ((by rw [hg]; exact Nat.ne_of_gt (blk_lt (g := gb228) (o := .cells #[.int .i32 a0_0, .slice A0_1 l0_1.length c0_1] 24 (0, 0)) (by (with_reducible repeat (first | refine blk_drewN ?_ _ | refine blk_drew ?_ | refine blk_alloc ?_ _)); exact BK228.out)) : gb244 ≠ gb228)); have n12_ := Aside0.mk ((by rw [hg]; exact Nat.ne_of_lt (blk_lt (g := gb229) (o := .cells #[.int .i32 a1_0, .slice A1_1 l1_1.length c1_1] 24 (0, 0)) (by (with_reducible repeat (first | refine blk_drewN ?_ _ | refine blk_drew ?_ | refine blk_alloc ?_ _)); exact BK229.out)) : gb229 ≠ gb244)); have n13_ := Aside0.mk ((by rw [hg]; exact Nat.ne_of_gt (blk_lt (g := gb229) (o := .cells #[.int .i32 a1_0, .slice A1_1 l1_1.length c1_1] 24 (0, 0)) (by (with_reducible repeat (first | refine blk_drewN ?_ _ | refine blk_drew ?_ | refine blk_alloc ?_ _)); exact BK229.out)) : gb244 ≠ gb229)); have n14_ := Aside0.mk ((by rw [hg]; exact Nat.ne_of_lt (blk_lt (g := gb230) (o := .cells #[.int .u32 a2_0, .int .u32 a2_1] 26 (0, 0)) (by (with_reducible repeat (first | refine blk_drewN ?_ _ | refine blk_drew ?_ | refine blk_alloc ?_ _)); exact BK230.out)) : gb230 ≠ gb244)); have n15_ := Aside0.mk ((by rw [hg]; exact Nat.ne_of_gt (blk_lt (g := gb230) (o := .cells #[.int .u32 a2_0, .int .u32 a2_1] 26 (0, 0)) (by (with_reducible repeat (first | refine blk_drewN ?_ _ | refine blk_drew ?_ | refine blk_alloc ?_ _)); exact BK230.out)) : gb244 ≠ gb230)); have n16_ := Aside0.mk ((by rw [hg]; exact Nat.ne_of_lt (blk_lt (g := gb237) (o := .cells #[.int .i64 t231, .int .i64 t232, .slice Ao23 t233.length co23] 30 (0, 0)) (by (with_reducible repeat (first | refine blk_drewN ?_ _ | refine blk_drew ?_ | refine blk_alloc ?_ _)); exact BK237.out)) : gb237 ≠ gb244)); have n17_ := Aside0.mk ((by rw [hg]; exact Nat.ne_of_gt (blk_lt (g := gb237) (o := .cells #[.int .i64 t231, .int .i64 t232, .slice Ao23 t233.length co23] 30 (0, 0)) (by (with_reducible repeat (first | refine blk_drewN ?_ _ | refine blk_drew ?_ | refine blk_alloc ?_ _)); exact BK237.out)) : gb244 ≠ gb237)); clear HO235; clear HO242; clear BK228; clear BK229; clear BK230; clear BK237; clear HB; have HO235 := n0_; have HO242 := n1_; have BK228 := n2_; have BK229 := n3_; have BK230 := n4_; have BK237 := n5_; have HB := n6_; have BK244 := n7_; have GW244 := n8_; have GE244 := n9_; have NB228_244 := n10_; have NB244_228 := n11_; have NB229_244 := n12_; have NB244_229 := n13_; have NB230_244 := n14_; have NB244_230 := n15_; have NB237_244 := n16_; have NB244_237 := n17_; clear n0_ n1_ n2_ n3_ n4_ n5_ n6_ n7_ n8_ n9_ n10_ n11_ n12_ n13_ n14_ n15_ n16_ n17_; clear hb hbox hg; have hnb28 := NB244_228.out; have hnc28 := NB228_244.out; have hnb29 := NB244_229.out; have hnc29 := NB229_244.out; have hnb30 := NB244_230.out; have hnc30 := NB230_244.out; have hnb31 := NB244_237.out; have hnc31 := NB237_244.out; have hcz32_0 : w27.cell? ⟨gb244, 0, none⟩ = some (.int .i64 0) := (blk_cell BK244.out 0).trans rfl; have hcz32_1 : w27.cell? ⟨gb244, 1, none⟩ = some (.int .i64 0) := (blk_cell BK244.out 1).trans rfl; have hcz32_2 : w27.cell? ⟨gb244, 2, none⟩ = some (.slice none 0 0) := (blk_cell BK244.out 2).trans rfl; have hfz32_0 := blk_frozen BK244.out 0; have hfz32_1 := blk_frozen BK244.out 1; have hfz32_2 := blk_frozen BK244.out 2; obtain ⟨Ao33, co33, eo33⟩ := Kd.R_slice HO242.out; subst eo33))
  (try simp only [Act.put, List.setIfInBounds_toArray, List.set_cons_zero, List.set_cons_succ])
  go_cut [54] (fun v54 wc => ∃ (kq : Nat) (x54_8 : Bool), v54 = .bool x54_8 ∧ Aside0 (isobathlaw05_ClockTree.j0 kq a5 (Int.tmod (wrap64 (a2_0)) 1000001) (Int.tmod (wrap64 (a2_1)) 1000001) x54_8 a0_0 l0_1 a1_0 l1_1 t231 t232 t233 t238 t239 t240 = some r) ∧ Aside0 (kq ≤ k) ∧ Aside0 (Kd.R k46 46 wc w.heap.size (fun k_ => some k_ ≠ ((.slice Ao33 t240.length co33) : Value).ownBlock) (.slice Ao23 t233.length co23) t233) ∧ Aside0 (Kd.R k46 46 wc w.heap.size (fun k_ => some k_ ≠ ((.slice Ao23 t233.length co23) : Value).ownBlock) (.slice Ao33 t240.length co33) t240) ∧ Aside0 (wc.heap[gb228]? = some (.cells #[.int .i32 a0_0, (.slice A0_1 l0_1.length c0_1)] 24 (0, 0))) ∧ Aside0 (wc.heap[gb229]? = some (.cells #[.int .i32 a1_0, (.slice A1_1 l1_1.length c1_1)] 24 (0, 0))) ∧ Aside0 (wc.heap[gb230]? = some (.cells #[.int .u32 a2_0, .int .u32 a2_1] 26 (0, 0))) ∧ Aside0 (wc.heap[gb237]? = some (.cells #[.int .i64 t231, .int .i64 t232, (.slice Ao23 t233.length co23)] 30 (0, 0))) ∧ Aside0 (wc.heap[gb244]? = some (.cells #[.int .i64 t238, .int .i64 t239, (.slice Ao33 t240.length co33)] 30 (0, 0))) ∧ Aside0 (Below w.heap.size w wc))
  case first =>
    have H := HC9.out
    clear HC9
    by_cases c34 : t236 = true
    · subst c34
      have H1 : (isobathlaw05_ClockTree.j0 k a5 (Int.tmod (wrap64 (a2_0)) 1000001) (Int.tmod (wrap64 (a2_1)) 1000001) (!t243) a0_0 l0_1 a1_0 l1_1 t231 t232 t233 t238 t239 t240) = some r := by rw [if_pos rfl] at H; exact H
      clear H
      have H := H1
      clear H1
      have H' := Aside0.mk H
      clear H
      go_wp2
      go_meet
      case rel => exact ⟨_, (!t243), (by first | rfl | (simp; done) | (simp [*]; done)), H', ⟨by first | omega | exact Nat.le_refl _⟩, ⟨by (with_reducible repeat (first | apply Kd.R_alloc | apply Kd.R_drewN | apply Kd.R_drew)); exact Kd.R_mono (Kd.R_far (p := ⟨gb244, 2, none⟩) (Kd.R_far (p := ⟨gb244, 1, none⟩) (Kd.R_far (p := ⟨gb244, 0, none⟩) (Kd.R_types HO235.out BK244.out (by decide)) (fun _ hk => hk.2) (.int .i64 t238)) (fun _ hk => hk.2) (.int .i64 t239)) (fun _ hk => hk.2) (.slice Ao33 t240.length co33)) (fun _ hk => hk.1.2)⟩, ⟨by (with_reducible repeat (first | apply Kd.R_alloc | apply Kd.R_drewN | apply Kd.R_drew)); exact Kd.R_mono (Kd.R_far (p := ⟨gb244, 2, none⟩) (Kd.R_far (p := ⟨gb244, 1, none⟩) (Kd.R_far (p := ⟨gb244, 0, none⟩) (Kd.R_types HO242.out BK244.out (by decide)) (fun _ hk => hk.2) (.int .i64 t238)) (fun _ hk => hk.2) (.int .i64 t239)) (fun _ hk => hk.2) (.slice Ao33 t240.length co33)) (fun _ hk => hk.1.2)⟩, ⟨by (with_reducible repeat (first | refine blk_drewN ?_ _ | refine blk_drew ?_ | refine blk_alloc ?_ _)); refine blk_far ?_ NB228_244.out _; (with_reducible repeat (first | refine blk_drewN ?_ _ | refine blk_drew ?_ | refine blk_alloc ?_ _)); refine blk_far ?_ NB228_244.out _; (with_reducible repeat (first | refine blk_drewN ?_ _ | refine blk_drew ?_ | refine blk_alloc ?_ _)); refine blk_far ?_ NB228_244.out _; (with_reducible repeat (first | refine blk_drewN ?_ _ | refine blk_drew ?_ | refine blk_alloc ?_ _)); exact BK228.out⟩, ⟨by (with_reducible repeat (first | refine blk_drewN ?_ _ | refine blk_drew ?_ | refine blk_alloc ?_ _)); refine blk_far ?_ NB229_244.out _; (with_reducible repeat (first | refine blk_drewN ?_ _ | refine blk_drew ?_ | refine blk_alloc ?_ _)); refine blk_far ?_ NB229_244.out _; (with_reducible repeat (first | refine blk_drewN ?_ _ | refine blk_drew ?_ | refine blk_alloc ?_ _)); refine blk_far ?_ NB229_244.out _; (with_reducible repeat (first | refine blk_drewN ?_ _ | refine blk_drew ?_ | refine blk_alloc ?_ _)); exact BK229.out⟩, ⟨by (with_reducible repeat (first | refine blk_drewN ?_ _ | refine blk_drew ?_ | refine blk_alloc ?_ _)); refine blk_far ?_ NB230_244.out _; (with_reducible repeat (first | refine blk_drewN ?_ _ | refine blk_drew ?_ | refine blk_alloc ?_ _)); refine blk_far ?_ NB230_244.out _; (with_reducible repeat (first | refine blk_drewN ?_ _ | refine blk_drew ?_ | refine blk_alloc ?_ _)); refine blk_far ?_ NB230_244.out _; (with_reducible repeat (first | refine blk_drewN ?_ _ | refine blk_drew ?_ | refine blk_alloc ?_ _)); exact BK230.out⟩, ⟨by (with_reducible repeat (first | refine blk_drewN ?_ _ | refine blk_drew ?_ | refine blk_alloc ?_ _)); refine blk_far ?_ NB237_244.out _; (with_reducible repeat (first | refine blk_drewN ?_ _ | refine blk_drew ?_ | refine blk_alloc ?_ _)); refine blk_far ?_ NB237_244.out _; (with_reducible repeat (first | refine blk_drewN ?_ _ | refine blk_drew ?_ | refine blk_alloc ?_ _)); refine blk_far ?_ NB237_244.out _; (with_reducible repeat (first | refine blk_drewN ?_ _ | refine blk_drew ?_ | refine blk_alloc ?_ _)); exact BK237.out⟩, ⟨by (with_reducible repeat (first | refine blk_drewN ?_ _ | refine blk_drew ?_ | refine blk_alloc ?_ _)); refine blk_put (cs := #[.int .i64 t238, .int .i64 t239, .slice none 0 0]) ?_ 2 _ rfl; (with_reducible repeat (first | refine blk_drewN ?_ _ | refine blk_drew ?_ | refine blk_alloc ?_ _)); refine blk_put (cs := #[.int .i64 t238, .int .i64 0, .slice none 0 0]) ?_ 1 _ rfl; (with_reducible repeat (first | refine blk_drewN ?_ _ | refine blk_drew ?_ | refine blk_alloc ?_ _)); refine blk_put (cs := #[.int .i64 0, .int .i64 0, .slice none 0 0]) ?_ 0 _ rfl; (with_reducible repeat (first | refine blk_drewN ?_ _ | refine blk_drew ?_ | refine blk_alloc ?_ _)); exact BK244.out⟩, ⟨by repeat (first | (with_reducible first | exact HB.out | apply below_alloc | apply pw_below_drewN | apply below_drew1 | refine below_set ?_ GE228.out | refine below_set ?_ GE229.out | refine below_set ?_ GE230.out | refine below_set ?_ GE237.out | refine below_set ?_ GE244.out) | exact HB.out)⟩⟩
    · replace c34 := Bool.eq_false_iff.mpr c34
      subst c34
      have H1 : (isobathlaw05_ClockTree.j0 k a5 (Int.tmod (wrap64 (a2_0)) 1000001) (Int.tmod (wrap64 (a2_1)) 1000001) true a0_0 l0_1 a1_0 l1_1 t231 t232 t233 t238 t239 t240) = some r := by rw [if_neg (show ¬ (false = true) by decide)] at H; exact H
      clear H
      have H := H1
      clear H1
      have H' := Aside0.mk H
      clear H
      go_wp2
      go_meet
      case rel => exact ⟨_, (true), (by first | rfl | (simp; done) | (simp [*]; done)), H', ⟨by first | omega | exact Nat.le_refl _⟩, ⟨by (with_reducible repeat (first | apply Kd.R_alloc | apply Kd.R_drewN | apply Kd.R_drew)); exact Kd.R_mono (Kd.R_far (p := ⟨gb244, 2, none⟩) (Kd.R_far (p := ⟨gb244, 1, none⟩) (Kd.R_far (p := ⟨gb244, 0, none⟩) (Kd.R_types HO235.out BK244.out (by decide)) (fun _ hk => hk.2) (.int .i64 t238)) (fun _ hk => hk.2) (.int .i64 t239)) (fun _ hk => hk.2) (.slice Ao33 t240.length co33)) (fun _ hk => hk.1.2)⟩, ⟨by (with_reducible repeat (first | apply Kd.R_alloc | apply Kd.R_drewN | apply Kd.R_drew)); exact Kd.R_mono (Kd.R_far (p := ⟨gb244, 2, none⟩) (Kd.R_far (p := ⟨gb244, 1, none⟩) (Kd.R_far (p := ⟨gb244, 0, none⟩) (Kd.R_types HO242.out BK244.out (by decide)) (fun _ hk => hk.2) (.int .i64 t238)) (fun _ hk => hk.2) (.int .i64 t239)) (fun _ hk => hk.2) (.slice Ao33 t240.length co33)) (fun _ hk => hk.1.2)⟩, ⟨by (with_reducible repeat (first | refine blk_drewN ?_ _ | refine blk_drew ?_ | refine blk_alloc ?_ _)); refine blk_far ?_ NB228_244.out _; (with_reducible repeat (first | refine blk_drewN ?_ _ | refine blk_drew ?_ | refine blk_alloc ?_ _)); refine blk_far ?_ NB228_244.out _; (with_reducible repeat (first | refine blk_drewN ?_ _ | refine blk_drew ?_ | refine blk_alloc ?_ _)); refine blk_far ?_ NB228_244.out _; (with_reducible repeat (first | refine blk_drewN ?_ _ | refine blk_drew ?_ | refine blk_alloc ?_ _)); exact BK228.out⟩, ⟨by (with_reducible repeat (first | refine blk_drewN ?_ _ | refine blk_drew ?_ | refine blk_alloc ?_ _)); refine blk_far ?_ NB229_244.out _; (with_reducible repeat (first | refine blk_drewN ?_ _ | refine blk_drew ?_ | refine blk_alloc ?_ _)); refine blk_far ?_ NB229_244.out _; (with_reducible repeat (first | refine blk_drewN ?_ _ | refine blk_drew ?_ | refine blk_alloc ?_ _)); refine blk_far ?_ NB229_244.out _; (with_reducible repeat (first | refine blk_drewN ?_ _ | refine blk_drew ?_ | refine blk_alloc ?_ _)); exact BK229.out⟩, ⟨by (with_reducible repeat (first | refine blk_drewN ?_ _ | refine blk_drew ?_ | refine blk_alloc ?_ _)); refine blk_far ?_ NB230_244.out _; (with_reducible repeat (first | refine blk_drewN ?_ _ | refine blk_drew ?_ | refine blk_alloc ?_ _)); refine blk_far ?_ NB230_244.out _; (with_reducible repeat (first | refine blk_drewN ?_ _ | refine blk_drew ?_ | refine blk_alloc ?_ _)); refine blk_far ?_ NB230_244.out _; (with_reducible repeat (first | refine blk_drewN ?_ _ | refine blk_drew ?_ | refine blk_alloc ?_ _)); exact BK230.out⟩, ⟨by (with_reducible repeat (first | refine blk_drewN ?_ _ | refine blk_drew ?_ | refine blk_alloc ?_ _)); refine blk_far ?_ NB237_244.out _; (with_reducible repeat (first | refine blk_drewN ?_ _ | refine blk_drew ?_ | refine blk_alloc ?_ _)); refine blk_far ?_ NB237_244.out _; (with_reducible repeat (first | refine blk_drewN ?_ _ | refine blk_drew ?_ | refine blk_alloc ?_ _)); refine blk_far ?_ NB237_244.out _; (with_reducible repeat (first | refine blk_drewN ?_ _ | refine blk_drew ?_ | refine blk_alloc ?_ _)); exact BK237.out⟩, ⟨by (with_reducible repeat (first | refine blk_drewN ?_ _ | refine blk_drew ?_ | refine blk_alloc ?_ _)); refine blk_put (cs := #[.int .i64 t238, .int .i64 t239, .slice none 0 0]) ?_ 2 _ rfl; (with_reducible repeat (first | refine blk_drewN ?_ _ | refine blk_drew ?_ | refine blk_alloc ?_ _)); refine blk_put (cs := #[.int .i64 t238, .int .i64 0, .slice none 0 0]) ?_ 1 _ rfl; (with_reducible repeat (first | refine blk_drewN ?_ _ | refine blk_drew ?_ | refine blk_alloc ?_ _)); refine blk_put (cs := #[.int .i64 0, .int .i64 0, .slice none 0 0]) ?_ 0 _ rfl; (with_reducible repeat (first | refine blk_drewN ?_ _ | refine blk_drew ?_ | refine blk_alloc ?_ _)); exact BK244.out⟩, ⟨by repeat (first | (with_reducible first | exact HB.out | apply below_alloc | apply pw_below_drewN | apply below_drew1 | refine below_set ?_ GE228.out | refine below_set ?_ GE229.out | refine below_set ?_ GE230.out | refine below_set ?_ GE237.out | refine below_set ?_ GE244.out) | exact HB.out)⟩⟩
  case rest =>
    clear HC9
    try clear c1
    try clear c2
    try clear p2
    try clear c3
    try clear c4
    try clear p6
    try clear c14
    try clear c15
    try clear c19
    try clear c20
    try clear c21
    try clear c24
    try clear c28
    try clear c29
    try clear c30
    try clear c31
    try clear c34
    try clear hcz16_0
    try clear hcz16_1
    try clear hcz22_0
    try clear hcz22_1
    try clear hcz22_2
    try clear hcz25_0
    try clear hcz25_1
    try clear hcz32_0
    try clear hcz32_1
    try clear hcz32_2
    try clear hfz16_0
    try clear hfz16_1
    try clear hfz22_0
    try clear hfz22_1
    try clear hfz22_2
    try clear hfz25_0
    try clear hfz25_1
    try clear hfz32_0
    try clear hfz32_1
    try clear hfz32_2
    obtain ⟨kq, x54_8, rfl, HA, HJ8, HO_238002, HO_245002, BK228, BK229, BK230, BK237, BK244, HB⟩ := hcut
    cases kq with
    | zero => exact absurd HA.out (by simp [isobathlaw05_ClockTree.j0])
    | succ kj8 =>
      have H := HA.out
      clear HA
      simp only [isobathlaw05_ClockTree.j0] at H
      by_cases c35 : x54_8 = true
      · subst c35
        have H1 : ((isobathlaw05_Works.f).bind fun t245 => (some t245)) = some r := by rw [if_pos rfl] at H; exact H
        clear H
        have H := H1
        clear H1
        replace H := Option.bind_eq_some_iff.mp H
        obtain ⟨t245, A360, H⟩ := H
        replace H : (some t245) = some r := H
        have A36 := Aside0.mk A360
        clear A360
        obtain rfl := Option.some.inj H
        go_wp2_with (first | ((with_reducible refine gate_callee (f := 16) rfl ?_); refine goesL_ (some 55) rfl rfl Try.func16 (by kernel_rfl) rfl #[] rfl (by (try simp only [List.map_toArray, List.map_cons, List.map_nil]); first | done | rfl | (simp only [List.length_drop, List.length_take]; rfl)) ?_; (with_reducible refine (isobathlaw05_Works.calls  t245 _ A36.out).mono ?_); rintro e w37 ⟨rfl, hb⟩; refine ⟨_, rfl, ?_⟩; have n0_ := Aside0.mk (Kd.R_below (by (with_reducible repeat (first | apply Kd.R_alloc | apply Kd.R_drewN | apply Kd.R_drew)); exact HO_238002.out) hb); have n1_ := Aside0.mk (Kd.R_below (by (with_reducible repeat (first | apply Kd.R_alloc | apply Kd.R_drewN | apply Kd.R_drew)); exact HO_245002.out) hb); have n2_ := Aside0.mk (blk_below (g := gb228) (o := .cells #[.int .i32 a0_0, .slice A0_1 l0_1.length c0_1] 24 (0, 0)) (by (with_reducible repeat (first | refine blk_drewN ?_ _ | refine blk_drew ?_ | refine blk_alloc ?_ _)); exact BK228.out) hb); have n3_ := Aside0.mk (blk_below (g := gb229) (o := .cells #[.int .i32 a1_0, .slice A1_1 l1_1.length c1_1] 24 (0, 0)) (by (with_reducible repeat (first | refine blk_drewN ?_ _ | refine blk_drew ?_ | refine blk_alloc ?_ _)); exact BK229.out) hb); have n4_ := Aside0.mk (blk_below (g := gb230) (o := .cells #[.int .u32 a2_0, .int .u32 a2_1] 26 (0, 0)) (by (with_reducible repeat (first | refine blk_drewN ?_ _ | refine blk_drew ?_ | refine blk_alloc ?_ _)); exact BK230.out) hb); have n5_ := Aside0.mk (blk_below (g := gb237) (o := .cells #[.int .i64 t231, .int .i64 t232, .slice Ao23 t233.length co23] 30 (0, 0)) (by (with_reducible repeat (first | refine blk_drewN ?_ _ | refine blk_drew ?_ | refine blk_alloc ?_ _)); exact BK237.out) hb); have n6_ := Aside0.mk (blk_below (g := gb244) (o := .cells #[.int .i64 t238, .int .i64 t239, .slice Ao33 t240.length co33] 30 (0, 0)) (by (with_reducible repeat (first | refine blk_drewN ?_ _ | refine blk_drew ?_ | refine blk_alloc ?_ _)); exact BK244.out) hb); have n7_ := Aside0.mk (below_step (by repeat (first | (with_reducible first | exact HB.out | apply below_alloc | apply pw_below_drewN | apply below_drew1 | refine below_set ?_ GE228.out | refine below_set ?_ GE229.out | refine below_set ?_ GE230.out | refine below_set ?_ GE237.out | refine below_set ?_ GE244.out) | exact HB.out)) hb); clear HO_238002; clear HO_245002; clear BK228; clear BK229; clear BK230; clear BK237; clear BK244; clear HB; have HO_238002 := n0_; have HO_245002 := n1_; have BK228 := n2_; have BK229 := n3_; have BK230 := n4_; have BK237 := n5_; have BK244 := n6_; have HB := n7_; clear n0_ n1_ n2_ n3_ n4_ n5_ n6_ n7_; (try clear hb); (try clear hb2); (try clear hk); (try clear hi)))
        go_ret
        exact ⟨by first | rfl | (simp [errW_none, errW_some] <;> rfl) | (simp [*, errW_none, errW_some] <;> rfl), by repeat (first | (with_reducible first | exact HB.out | apply below_alloc | apply pw_below_drewN | apply below_drew1 | refine below_set ?_ GE228.out | refine below_set ?_ GE229.out | refine below_set ?_ GE230.out | refine below_set ?_ GE237.out | refine below_set ?_ GE244.out) | exact HB.out)⟩
      · replace c35 := Bool.eq_false_iff.mpr c35
        subst c35
        have H1 : ((clock_Time.f (([(⟨t231, t232, t233⟩ : S30), (⟨t238, t239, t240⟩ : S30)] : List (S30))) 1 (Int.tmod (wrap64 (a5)) 15000000)).bind fun bt249 => (if bt249.2.2 = 0 then ((isobathlaw05_Truth_offset.f kj8 a1_0 l1_1 (Int.tmod (wrap64 (a2_1)) 1000001) (Int.tmod (wrap64 (a5)) 15000000)).bind fun t253 => ((isobathlaw05_down.f (wrap64 ((wrap64 ((Int.tmod (wrap64 (a5)) 15000000) * 1000000000)) + t253))).bind fun t254 => ((isobathlaw05_up.f (wrap64 ((wrap64 ((Int.tmod (wrap64 (a5)) 15000000) * 1000000000)) + t253))).bind fun t255 => ((isobathlaw05_Truth_offset.f kj8 a0_0 l0_1 (Int.tmod (wrap64 (a2_0)) 1000001) t254).bind fun t256 => ((isobathlaw05_Truth_offset.f kj8 a0_0 l0_1 (Int.tmod (wrap64 (a2_0)) 1000001) t255).bind fun t257 => (if (wrap64 (bt249.1 * 1000000000)) ≤ (wrap64 ((wrap64 (t254 * 1000000000)) + t256)) then (if (wrap64 ((wrap64 (t255 * 1000000000)) + t257)) ≤ (wrap64 (bt249.2.1 * 1000000000)) then ((isobathlaw05_Works.f).bind fun t258 => (some t258)) else (some false)) else (some false))))))) else (some false))) = some r := by rw [if_neg (show ¬ (false = true) by decide)] at H; exact H
        clear H
        have H := H1
        clear H1
        obtain ⟨y246, hy246⟩ : ∃ y_ : List (S30), y_ = (([(⟨t231, t232, t233⟩ : S30), (⟨t238, t239, t240⟩ : S30)] : List (S30))) := ⟨_, rfl⟩
        replace H : ((clock_Time.f y246 1 (Int.tmod (wrap64 (a5)) 15000000)).bind fun bt249 => (if bt249.2.2 = 0 then ((isobathlaw05_Truth_offset.f kj8 a1_0 l1_1 (Int.tmod (wrap64 (a2_1)) 1000001) (Int.tmod (wrap64 (a5)) 15000000)).bind fun t253 => ((isobathlaw05_down.f (wrap64 ((wrap64 ((Int.tmod (wrap64 (a5)) 15000000) * 1000000000)) + t253))).bind fun t254 => ((isobathlaw05_up.f (wrap64 ((wrap64 ((Int.tmod (wrap64 (a5)) 15000000) * 1000000000)) + t253))).bind fun t255 => ((isobathlaw05_Truth_offset.f kj8 a0_0 l0_1 (Int.tmod (wrap64 (a2_0)) 1000001) t254).bind fun t256 => ((isobathlaw05_Truth_offset.f kj8 a0_0 l0_1 (Int.tmod (wrap64 (a2_0)) 1000001) t255).bind fun t257 => (if (wrap64 (bt249.1 * 1000000000)) ≤ (wrap64 ((wrap64 (t254 * 1000000000)) + t256)) then (if (wrap64 ((wrap64 (t255 * 1000000000)) + t257)) ≤ (wrap64 (bt249.2.1 * 1000000000)) then ((isobathlaw05_Works.f).bind fun t258 => (some t258)) else (some false)) else (some false))))))) else (some false))) = some r := by first | (rw [hy246]; with_reducible exact H) | (have H2_ := (Option.bind_some _ _).symm.trans H; rw [hy246]; with_reducible exact H2_) | (have H2_ := (Option.bind_some _ _).symm.trans H; with_reducible exact H2_) | with_reducible exact H | (rw [hy246]; exact H) | exact H
        have Ny246 := Aside0.mk hy246
        clear hy246
        replace H := Option.bind_eq_some_iff.mp H
        obtain ⟨⟨t249, t250, t251⟩, A380, H⟩ := H
        replace H : (if t251 = 0 then ((isobathlaw05_Truth_offset.f kj8 a1_0 l1_1 (Int.tmod (wrap64 (a2_1)) 1000001) (Int.tmod (wrap64 (a5)) 15000000)).bind fun t253 => ((isobathlaw05_down.f (wrap64 ((wrap64 ((Int.tmod (wrap64 (a5)) 15000000) * 1000000000)) + t253))).bind fun t254 => ((isobathlaw05_up.f (wrap64 ((wrap64 ((Int.tmod (wrap64 (a5)) 15000000) * 1000000000)) + t253))).bind fun t255 => ((isobathlaw05_Truth_offset.f kj8 a0_0 l0_1 (Int.tmod (wrap64 (a2_0)) 1000001) t254).bind fun t256 => ((isobathlaw05_Truth_offset.f kj8 a0_0 l0_1 (Int.tmod (wrap64 (a2_0)) 1000001) t255).bind fun t257 => (if (wrap64 (t249 * 1000000000)) ≤ (wrap64 ((wrap64 (t254 * 1000000000)) + t256)) then (if (wrap64 ((wrap64 (t255 * 1000000000)) + t257)) ≤ (wrap64 (t250 * 1000000000)) then ((isobathlaw05_Works.f).bind fun t258 => (some t258)) else (some false)) else (some false))))))) else (some false)) = some r := H
        have A38 := Aside0.mk A380
        clear A380
        by_cases c39 : t251 = 0
        · rw [if_pos c39] at H
          have c39b0 : (t251 == 0) = true := beq_iff_eq.mpr c39
          have c39b1 : (t251 != 0) = false := bne_eq_false_iff_eq.mpr c39
          clear c39
          replace H := Option.bind_eq_some_iff.mp H
          obtain ⟨t253, A400, H⟩ := H
          replace H : ((isobathlaw05_down.f (wrap64 ((wrap64 ((Int.tmod (wrap64 (a5)) 15000000) * 1000000000)) + t253))).bind fun t254 => ((isobathlaw05_up.f (wrap64 ((wrap64 ((Int.tmod (wrap64 (a5)) 15000000) * 1000000000)) + t253))).bind fun t255 => ((isobathlaw05_Truth_offset.f kj8 a0_0 l0_1 (Int.tmod (wrap64 (a2_0)) 1000001) t254).bind fun t256 => ((isobathlaw05_Truth_offset.f kj8 a0_0 l0_1 (Int.tmod (wrap64 (a2_0)) 1000001) t255).bind fun t257 => (if (wrap64 (t249 * 1000000000)) ≤ (wrap64 ((wrap64 (t254 * 1000000000)) + t256)) then (if (wrap64 ((wrap64 (t255 * 1000000000)) + t257)) ≤ (wrap64 (t250 * 1000000000)) then ((isobathlaw05_Works.f).bind fun t258 => (some t258)) else (some false)) else (some false)))))) = some r := H
          have A40 := Aside0.mk A400
          clear A400
          replace H := Option.bind_eq_some_iff.mp H
          obtain ⟨t254, A410, H⟩ := H
          replace H : ((isobathlaw05_up.f (wrap64 ((wrap64 ((Int.tmod (wrap64 (a5)) 15000000) * 1000000000)) + t253))).bind fun t255 => ((isobathlaw05_Truth_offset.f kj8 a0_0 l0_1 (Int.tmod (wrap64 (a2_0)) 1000001) t254).bind fun t256 => ((isobathlaw05_Truth_offset.f kj8 a0_0 l0_1 (Int.tmod (wrap64 (a2_0)) 1000001) t255).bind fun t257 => (if (wrap64 (t249 * 1000000000)) ≤ (wrap64 ((wrap64 (t254 * 1000000000)) + t256)) then (if (wrap64 ((wrap64 (t255 * 1000000000)) + t257)) ≤ (wrap64 (t250 * 1000000000)) then ((isobathlaw05_Works.f).bind fun t258 => (some t258)) else (some false)) else (some false))))) = some r := H
          have A41 := Aside0.mk A410
          clear A410
          replace H := Option.bind_eq_some_iff.mp H
          obtain ⟨t255, A420, H⟩ := H
          replace H : ((isobathlaw05_Truth_offset.f kj8 a0_0 l0_1 (Int.tmod (wrap64 (a2_0)) 1000001) t254).bind fun t256 => ((isobathlaw05_Truth_offset.f kj8 a0_0 l0_1 (Int.tmod (wrap64 (a2_0)) 1000001) t255).bind fun t257 => (if (wrap64 (t249 * 1000000000)) ≤ (wrap64 ((wrap64 (t254 * 1000000000)) + t256)) then (if (wrap64 ((wrap64 (t255 * 1000000000)) + t257)) ≤ (wrap64 (t250 * 1000000000)) then ((isobathlaw05_Works.f).bind fun t258 => (some t258)) else (some false)) else (some false)))) = some r := H
          have A42 := Aside0.mk A420
          clear A420
          replace H := Option.bind_eq_some_iff.mp H
          obtain ⟨t256, A430, H⟩ := H
          replace H : ((isobathlaw05_Truth_offset.f kj8 a0_0 l0_1 (Int.tmod (wrap64 (a2_0)) 1000001) t255).bind fun t257 => (if (wrap64 (t249 * 1000000000)) ≤ (wrap64 ((wrap64 (t254 * 1000000000)) + t256)) then (if (wrap64 ((wrap64 (t255 * 1000000000)) + t257)) ≤ (wrap64 (t250 * 1000000000)) then ((isobathlaw05_Works.f).bind fun t258 => (some t258)) else (some false)) else (some false))) = some r := H
          have A43 := Aside0.mk A430
          clear A430
          replace H := Option.bind_eq_some_iff.mp H
          obtain ⟨t257, A440, H⟩ := H
          replace H : (if (wrap64 (t249 * 1000000000)) ≤ (wrap64 ((wrap64 (t254 * 1000000000)) + t256)) then (if (wrap64 ((wrap64 (t255 * 1000000000)) + t257)) ≤ (wrap64 (t250 * 1000000000)) then ((isobathlaw05_Works.f).bind fun t258 => (some t258)) else (some false)) else (some false)) = some r := H
          have A44 := Aside0.mk A440
          clear A440
          by_cases c45 : (wrap64 (t249 * 1000000000)) ≤ (wrap64 ((wrap64 (t254 * 1000000000)) + t256))
          · rw [if_pos c45] at H
            have c45b0 : decide ((wrap64 (t249 * 1000000000)) ≤ (wrap64 ((wrap64 (t254 * 1000000000)) + t256))) = true := decide_eq_true c45
            clear c45
            by_cases c46 : (wrap64 ((wrap64 (t255 * 1000000000)) + t257)) ≤ (wrap64 (t250 * 1000000000))
            · rw [if_pos c46] at H
              have c46b0 : decide ((wrap64 ((wrap64 (t255 * 1000000000)) + t257)) ≤ (wrap64 (t250 * 1000000000))) = true := decide_eq_true c46
              clear c46
              replace H := Option.bind_eq_some_iff.mp H
              obtain ⟨t258, A470, H⟩ := H
              replace H : (some t258) = some r := H
              have A47 := Aside0.mk A470
              clear A470
              obtain rfl := Option.some.inj H
              have hnb48 := NB237_228.out
              have hnc48 := NB228_237.out
              have hnb49 := NB237_229.out
              have hnc49 := NB229_237.out
              have hnb50 := NB237_230.out
              have hnc50 := NB230_237.out
              have hnb51 := NB237_244.out
              have hnc51 := NB244_237.out
              have hcz52_0 : wc.cell? ⟨gb237, 0, none⟩ = some (.int .i64 t231) := (blk_cell BK237.out 0).trans rfl
              have hcz52_1 : wc.cell? ⟨gb237, 1, none⟩ = some (.int .i64 t232) := (blk_cell BK237.out 1).trans rfl
              have hcz52_2 : wc.cell? ⟨gb237, 2, none⟩ = some (.slice Ao23 t233.length co23) := (blk_cell BK237.out 2).trans rfl
              have hfz52_0 := blk_frozen BK237.out 0
              have hfz52_1 := blk_frozen BK237.out 1
              have hfz52_2 := blk_frozen BK237.out 2
              have hnb53 := NB244_228.out
              have hnc53 := NB228_244.out
              have hnb54 := NB244_229.out
              have hnc54 := NB229_244.out
              have hnb55 := NB244_230.out
              have hnc55 := NB230_244.out
              have hcz56_0 : wc.cell? ⟨gb244, 0, none⟩ = some (.int .i64 t238) := (blk_cell BK244.out 0).trans rfl
              have hcz56_1 : wc.cell? ⟨gb244, 1, none⟩ = some (.int .i64 t239) := (blk_cell BK244.out 1).trans rfl
              have hcz56_2 : wc.cell? ⟨gb244, 2, none⟩ = some (.slice Ao33 t240.length co33) := (blk_cell BK244.out 2).trans rfl
              have hfz56_0 := blk_frozen BK244.out 0
              have hfz56_1 := blk_frozen BK244.out 1
              have hfz56_2 := blk_frozen BK244.out 2
              try go_wp2_with (first | ((with_reducible refine gate_dst (N := 62) rfl ?_); refine Kd.N_lit k30 _ 30 ?hg (N' := 62) ?hd (xs := ([(⟨t231, t232, t233⟩ : S30), (⟨t238, t239, t240⟩ : S30)] : List (S30))) (inner := [.int .i64 t231, .int .i64 t232, .slice Ao23 t233.length co23, .int .i64 t238, .int .i64 t239, .slice Ao33 t240.length co33]) (ok := (fun k_ => k_ ≠ gb228 ∧ k_ ≠ gb229 ∧ k_ ≠ gb230 ∧ k_ ≠ gb237 ∧ k_ ≠ gb244)) (okp := (fun k_ => k_ ≠ gb228 ∧ k_ ≠ gb229 ∧ k_ ≠ gb230 ∧ k_ ≠ gb237 ∧ k_ ≠ gb244)) ?hr ?hp (fun _ hk => hk) ((show ∀ k_, wc.heap.size ≤ k_ → (fun k_ => k_ ≠ gb228 ∧ k_ ≠ gb229 ∧ k_ ≠ gb230 ∧ k_ ≠ gb237 ∧ k_ ≠ gb244) k_ from fun k_ hk => ⟨Kd.freshB (g := gb228) (o := .cells #[.int .i32 a0_0, .slice A0_1 l0_1.length c0_1] 24 (0, 0)) (by (with_reducible repeat (first | refine blk_drewN ?_ _ | refine blk_drew ?_ | refine blk_alloc ?_ _)); exact BK228.out) k_ hk, Kd.freshB (g := gb229) (o := .cells #[.int .i32 a1_0, .slice A1_1 l1_1.length c1_1] 24 (0, 0)) (by (with_reducible repeat (first | refine blk_drewN ?_ _ | refine blk_drew ?_ | refine blk_alloc ?_ _)); exact BK229.out) k_ hk, Kd.freshB (g := gb230) (o := .cells #[.int .u32 a2_0, .int .u32 a2_1] 26 (0, 0)) (by (with_reducible repeat (first | refine blk_drewN ?_ _ | refine blk_drew ?_ | refine blk_alloc ?_ _)); exact BK230.out) k_ hk, Kd.freshB (g := gb237) (o := .cells #[.int .i64 t231, .int .i64 t232, .slice Ao23 t233.length co23] 30 (0, 0)) (by (with_reducible repeat (first | refine blk_drewN ?_ _ | refine blk_drew ?_ | refine blk_alloc ?_ _)); exact BK237.out) k_ hk, Kd.freshB (g := gb244) (o := .cells #[.int .i64 t238, .int .i64 t239, .slice Ao33 t240.length co33] 30 (0, 0)) (by (with_reducible repeat (first | refine blk_drewN ?_ _ | refine blk_drew ?_ | refine blk_alloc ?_ _)); exact BK244.out) k_ hk⟩) _ (Nat.le_refl _)) (Below.refl _ _) (Nat.le_refl _) (by simp) ?_; (case hd => rfl); (case hg => rfl); (case hr => first | (go_simp; done) | (go_simp; rfl)); (case hp => exact (Reps.c3 (show Kd.FK k30 _ _ (⟨t231, t232, t233⟩ : S30) [.int .i64 t231, .int .i64 t232, .slice Ao23 t233.length co23] from (k30_mkF _ _ (⟨t231, t232, t233⟩ : S30) (Kd.R_reads' (Kd.R_mono (ok' := (fun k_ => k_ ≠ gb228 ∧ k_ ≠ gb229 ∧ k_ ≠ gb230 ∧ k_ ≠ gb237 ∧ k_ ≠ gb244)) (Kd.R_types (Kd.R_types (Kd.R_types (Kd.R_types (Kd.R_types (HO_238002.out) BK228.out (by decide)) BK229.out (by decide)) BK230.out (by decide)) BK237.out (by decide)) BK244.out (by decide)) (fun k_ hk => ⟨hk.1.1.1.1.2, ⟨hk.1.1.1.2, ⟨hk.1.1.2, ⟨hk.1.2, hk.2⟩⟩⟩⟩))).2.1 (Kd.R_F (Kd.R_mono (ok' := (fun k_ => k_ ≠ gb228 ∧ k_ ≠ gb229 ∧ k_ ≠ gb230 ∧ k_ ≠ gb237 ∧ k_ ≠ gb244)) (Kd.R_types (Kd.R_types (Kd.R_types (Kd.R_types (Kd.R_types (HO_238002.out) BK228.out (by decide)) BK229.out (by decide)) BK230.out (by decide)) BK237.out (by decide)) BK244.out (by decide)) (fun k_ hk => ⟨hk.1.1.1.1.2, ⟨hk.1.1.1.2, ⟨hk.1.1.2, ⟨hk.1.2, hk.2⟩⟩⟩⟩))))) (Reps.c3 (show Kd.FK k30 _ _ (⟨t238, t239, t240⟩ : S30) [.int .i64 t238, .int .i64 t239, .slice Ao33 t240.length co33] from (k30_mkF _ _ (⟨t238, t239, t240⟩ : S30) (Kd.R_reads' (Kd.R_mono (ok' := (fun k_ => k_ ≠ gb228 ∧ k_ ≠ gb229 ∧ k_ ≠ gb230 ∧ k_ ≠ gb237 ∧ k_ ≠ gb244)) (Kd.R_types (Kd.R_types (Kd.R_types (Kd.R_types (Kd.R_types (HO_245002.out) BK228.out (by decide)) BK229.out (by decide)) BK230.out (by decide)) BK237.out (by decide)) BK244.out (by decide)) (fun k_ hk => ⟨hk.1.1.1.1.2, ⟨hk.1.1.1.2, ⟨hk.1.1.2, ⟨hk.1.2, hk.2⟩⟩⟩⟩))).2.1 (Kd.R_F (Kd.R_mono (ok' := (fun k_ => k_ ≠ gb228 ∧ k_ ≠ gb229 ∧ k_ ≠ gb230 ∧ k_ ≠ gb237 ∧ k_ ≠ gb244)) (Kd.R_types (Kd.R_types (Kd.R_types (Kd.R_types (Kd.R_types (HO_245002.out) BK228.out (by decide)) BK229.out (by decide)) BK230.out (by decide)) BK237.out (by decide)) BK244.out (by decide)) (fun k_ hk => ⟨hk.1.1.1.1.2, ⟨hk.1.1.1.2, ⟨hk.1.1.2, ⟨hk.1.2, hk.2⟩⟩⟩⟩))))) (Reps.none _ _)))); intro v247 w57 ho58 hb hg_ hnew_; clear hg_ hnew_; (first | rw [← Ny246.out] at ho58 | (simp only [Int.reduceToNat] at ho58; rw [← Ny246.out] at ho58)); have n0_ := Aside0.mk (Kd.N_lower ho58 (below_size (by repeat (first | (with_reducible first | exact HB.out | apply below_alloc | apply pw_below_drewN | apply below_drew1 | refine below_set ?_ GE228.out | refine below_set ?_ GE229.out | refine below_set ?_ GE230.out | refine below_set ?_ GE237.out | refine below_set ?_ GE244.out) | exact HB.out)))); have n1_ := Aside0.mk (blk_below (g := gb228) (o := .cells #[.int .i32 a0_0, .slice A0_1 l0_1.length c0_1] 24 (0, 0)) (by (with_reducible repeat (first | refine blk_drewN ?_ _ | refine blk_drew ?_ | refine blk_alloc ?_ _)); exact BK228.out) hb); have n2_ := Aside0.mk (blk_below (g := gb229) (o := .cells #[.int .i32 a1_0, .slice A1_1 l1_1.length c1_1] 24 (0, 0)) (by (with_reducible repeat (first | refine blk_drewN ?_ _ | refine blk_drew ?_ | refine blk_alloc ?_ _)); exact BK229.out) hb); have n3_ := Aside0.mk (blk_below (g := gb230) (o := .cells #[.int .u32 a2_0, .int .u32 a2_1] 26 (0, 0)) (by (with_reducible repeat (first | refine blk_drewN ?_ _ | refine blk_drew ?_ | refine blk_alloc ?_ _)); exact BK230.out) hb); have n4_ := Aside0.mk (blk_below (g := gb237) (o := .cells #[.int .i64 t231, .int .i64 t232, .slice Ao23 t233.length co23] 30 (0, 0)) (by (with_reducible repeat (first | refine blk_drewN ?_ _ | refine blk_drew ?_ | refine blk_alloc ?_ _)); exact BK237.out) hb); have n5_ := Aside0.mk (blk_below (g := gb244) (o := .cells #[.int .i64 t238, .int .i64 t239, .slice Ao33 t240.length co33] 30 (0, 0)) (by (with_reducible repeat (first | refine blk_drewN ?_ _ | refine blk_drew ?_ | refine blk_alloc ?_ _)); exact BK244.out) hb); have n6_ := Aside0.mk (below_step (by repeat (first | (with_reducible first | exact HB.out | apply below_alloc | apply pw_below_drewN | apply below_drew1 | refine below_set ?_ GE228.out | refine below_set ?_ GE229.out | refine below_set ?_ GE230.out | refine below_set ?_ GE237.out | refine below_set ?_ GE244.out) | exact HB.out)) hb); clear BK228; clear BK229; clear BK230; clear BK237; clear BK244; clear HB; clear HO_238002; clear HO_245002; have HO248 := n0_; have BK228 := n1_; have BK229 := n2_; have BK230 := n3_; have BK237 := n4_; have BK244 := n5_; have HB := n6_; clear n0_ n1_ n2_ n3_ n4_ n5_ n6_; clear hb ho58; obtain ⟨Ao59, co59, eo59⟩ := Kd.N_slice HO248.out; subst eo59) | ((with_reducible refine gate_callee (f := 17) rfl ?_); refine goesL_ (some 65) rfl rfl Try.func17 (by kernel_rfl) rfl #[.slice Ao59 y246.length co59, .agg #[.int .i64 1, .int .i64 (Int.tmod (wrap64 (a5)) 15000000)]] rfl (by (try simp only [List.map_toArray, List.map_cons, List.map_nil]); first | done | rfl | (simp only [List.length_drop, List.length_take]; rfl)) ?_; (with_reducible refine (clock_Time.calls _ _ y246 1 (Int.tmod (wrap64 (a5)) 15000000) t249 t250 t251 _ ?side1 ?side2 A38.out).mono ?_); (case side1 => repeat (first | exact (Kd.N_reads' HO248.out).2.2 | (with_reducible refine Kd.C_alloc ?_ _) | (with_reducible refine Kd.C_drewN ?_ _) | (with_reducible refine Kd.C_drew ?_))); (case side2 => exact (Kd.N_reads' HO248.out).2.1); rintro e w60 ⟨rfl, hb⟩; refine ⟨_, rfl, ?_⟩; have n0_ := Aside0.mk (Kd.N_below (by (with_reducible repeat (first | apply Kd.N_alloc | apply Kd.N_drewN | apply Kd.N_drew)); exact HO248.out) hb); have n1_ := Aside0.mk (blk_below (g := gb228) (o := .cells #[.int .i32 a0_0, .slice A0_1 l0_1.length c0_1] 24 (0, 0)) (by (with_reducible repeat (first | refine blk_drewN ?_ _ | refine blk_drew ?_ | refine blk_alloc ?_ _)); exact BK228.out) hb); have n2_ := Aside0.mk (blk_below (g := gb229) (o := .cells #[.int .i32 a1_0, .slice A1_1 l1_1.length c1_1] 24 (0, 0)) (by (with_reducible repeat (first | refine blk_drewN ?_ _ | refine blk_drew ?_ | refine blk_alloc ?_ _)); exact BK229.out) hb); have n3_ := Aside0.mk (blk_below (g := gb230) (o := .cells #[.int .u32 a2_0, .int .u32 a2_1] 26 (0, 0)) (by (with_reducible repeat (first | refine blk_drewN ?_ _ | refine blk_drew ?_ | refine blk_alloc ?_ _)); exact BK230.out) hb); have n4_ := Aside0.mk (blk_below (g := gb237) (o := .cells #[.int .i64 t231, .int .i64 t232, .slice Ao23 t233.length co23] 30 (0, 0)) (by (with_reducible repeat (first | refine blk_drewN ?_ _ | refine blk_drew ?_ | refine blk_alloc ?_ _)); exact BK237.out) hb); have n5_ := Aside0.mk (blk_below (g := gb244) (o := .cells #[.int .i64 t238, .int .i64 t239, .slice Ao33 t240.length co33] 30 (0, 0)) (by (with_reducible repeat (first | refine blk_drewN ?_ _ | refine blk_drew ?_ | refine blk_alloc ?_ _)); exact BK244.out) hb); have n6_ := Aside0.mk (below_step (by repeat (first | (with_reducible first | exact HB.out | apply below_alloc | apply pw_below_drewN | apply below_drew1 | refine below_set ?_ GE228.out | refine below_set ?_ GE229.out | refine below_set ?_ GE230.out | refine below_set ?_ GE237.out | refine below_set ?_ GE244.out) | exact HB.out)) hb); clear HO248; clear BK228; clear BK229; clear BK230; clear BK237; clear BK244; clear HB; have HO248 := n0_; have BK228 := n1_; have BK229 := n2_; have BK230 := n3_; have BK237 := n4_; have BK244 := n5_; have HB := n6_; clear n0_ n1_ n2_ n3_ n4_ n5_ n6_; (try clear hb); (try clear hb2); (try clear hk); (try clear hi)) | ((with_reducible refine gate_dst (N := 20) rfl ?_); refine box_event ?hg (N := 20) ?hd (cs := #[.int .i64 0, .int .i64 0]) (t := 35) ?hr ?_; (case hd => rfl); (case hg => rfl); (case hr => first | (go_simp; done) | (go_simp; rfl)); intro gb252 hg w61 hbox hb; have n0_ := Aside0.mk (Kd.N_below (Kd.N_elderB (by (with_reducible repeat (first | apply Kd.N_alloc | apply Kd.N_drewN | apply Kd.N_drew)); exact HO248.out) gb252 (Nat.le_of_eq hg.symm)) hb); have n1_ := Aside0.mk (blk_below (g := gb228) (o := .cells #[.int .i32 a0_0, .slice A0_1 l0_1.length c0_1] 24 (0, 0)) (by (with_reducible repeat (first | refine blk_drewN ?_ _ | refine blk_drew ?_ | refine blk_alloc ?_ _)); exact BK228.out) hb); have n2_ := Aside0.mk (blk_below (g := gb229) (o := .cells #[.int .i32 a1_0, .slice A1_1 l1_1.length c1_1] 24 (0, 0)) (by (with_reducible repeat (first | refine blk_drewN ?_ _ | refine blk_drew ?_ | refine blk_alloc ?_ _)); exact BK229.out) hb); have n3_ := Aside0.mk (blk_below (g := gb230) (o := .cells #[.int .u32 a2_0, .int .u32 a2_1] 26 (0, 0)) (by (with_reducible repeat (first | refine blk_drewN ?_ _ | refine blk_drew ?_ | refine blk_alloc ?_ _)); exact BK230.out) hb); have n4_ := Aside0.mk (blk_below (g := gb237) (o := .cells #[.int .i64 t231, .int .i64 t232, .slice Ao23 t233.length co23] 30 (0, 0)) (by (with_reducible repeat (first | refine blk_drewN ?_ _ | refine blk_drew ?_ | refine blk_alloc ?_ _)); exact BK237.out) hb); have n5_ := Aside0.mk (blk_below (g := gb244) (o := .cells #[.int .i64 t238, .int .i64 t239, .slice Ao33 t240.length co33] 30 (0, 0)) (by (with_reducible repeat (first | refine blk_drewN ?_ _ | refine blk_drew ?_ | refine blk_alloc ?_ _)); exact BK244.out) hb); have n6_ := Aside0.mk (below_step (by repeat (first | (with_reducible first | exact HB.out | apply below_alloc | apply pw_below_drewN | apply below_drew1 | refine below_set ?_ GE228.out | refine below_set ?_ GE229.out | refine below_set ?_ GE230.out | refine below_set ?_ GE237.out | refine below_set ?_ GE244.out) | exact HB.out)) hb); have n7_ := Aside0.mk (hbox); have n8_ := Aside0.mk ((by rw [hg]; exact (below_size (by repeat (first | (with_reducible first | exact HB.out | apply below_alloc | apply pw_below_drewN | apply below_drew1 | refine below_set ?_ GE228.out | refine below_set ?_ GE229.out | refine below_set ?_ GE230.out | refine below_set ?_ GE237.out | refine below_set ?_ GE244.out) | exact HB.out))) : w.heap.size ≤ gb252)); have n9_ := Aside0.mk ((by rw [hg]; exact (below_size (by repeat (first | (with_reducible first | exact HB.out | apply below_alloc | apply pw_below_drewN | apply below_drew1 | refine below_set ?_ GE228.out | refine below_set ?_ GE229.out | refine below_set ?_ GE230.out | refine below_set ?_ GE237.out | refine below_set ?_ GE244.out) | exact HB.out))) : w.heap.size ≤ gb252)); have n10_ := Aside0.mk ((by rw [hg]; exact Nat.ne_of_lt (blk_lt (g := gb228) (o := .cells #[.int .i32 a0_0, .slice A0_1 l0_1.length c0_1] 24 (0, 0)) (by (with_reducible repeat (first | refine blk_drewN ?_ _ | refine blk_drew ?_ | refine blk_alloc ?_ _)); exact BK228.out)) : gb228 ≠ gb252)); have n11_ := Aside0.mk ((by rw [hg]; exact Nat.ne_of_gt (blk_lt (g := gb228) (o := .cells #[.int .i32 a0_0, .slice A0_1 l0_1.length c0_1] 24 (0, 0)) (by (with_reducible repeat (first | refine blk_drewN ?_ _ | refine blk_drew ?_ | refine blk_alloc ?_ _)); exact BK228.out)) : gb252 ≠ gb228)); have n12_ := Aside0.mk ((by rw [hg]; exact Nat.ne_of_lt (blk_lt (g := gb229) (o := .cells #[.int .i32 a1_0, .slice A1_1 l1_1.length c1_1] 24 (0, 0)) (by (with_reducible repeat (first | refine blk_drewN ?_ _ | refine blk_drew ?_ | refine blk_alloc ?_ _)); exact BK229.out)) : gb229 ≠ gb252)); have n13_ := Aside0.mk ((by rw [hg]; exact Nat.ne_of_gt (blk_lt (g := gb229) (o := .cells #[.int .i32 a1_0, .slice A1_1 l1_1.length c1_1] 24 (0, 0)) (by (with_reducible repeat (first | refine blk_drewN ?_ _ | refine blk_drew ?_ | refine blk_alloc ?_ _)); exact BK229.out)) : gb252 ≠ gb229)); have n14_ := Aside0.mk ((by rw [hg]; exact Nat.ne_of_lt (blk_lt (g := gb230) (o := .cells #[.int .u32 a2_0, .int .u32 a2_1] 26 (0, 0)) (by (with_reducible repeat (first | refine blk_drewN ?_ _ | refine blk_drew ?_ | refine blk_alloc ?_ _)); exact BK230.out)) : gb230 ≠ gb252)); have n15_ := Aside0.mk ((by rw [hg]; exact Nat.ne_of_gt (blk_lt (g := gb230) (o := .cells #[.int .u32 a2_0, .int .u32 a2_1] 26 (0, 0)) (by (with_reducible repeat (first | refine blk_drewN ?_ _ | refine blk_drew ?_ | refine blk_alloc ?_ _)); exact BK230.out)) : gb252 ≠ gb230)); have n16_ := Aside0.mk ((by rw [hg]; exact Nat.ne_of_lt (blk_lt (g := gb237) (o := .cells #[.int .i64 t231, .int .i64 t232, .slice Ao23 t233.length co23] 30 (0, 0)) (by (with_reducible repeat (first | refine blk_drewN ?_ _ | refine blk_drew ?_ | refine blk_alloc ?_ _)); exact BK237.out)) : gb237 ≠ gb252)); have n17_ := Aside0.mk ((by rw [hg]; exact Nat.ne_of_gt (blk_lt (g := gb237) (o := .cells #[.int .i64 t231, .int .i64 t232, .slice Ao23 t233.length co23] 30 (0, 0)) (by (with_reducible repeat (first | refine blk_drewN ?_ _ | refine blk_drew ?_ | refine blk_alloc ?_ _)); exact BK237.out)) : gb252 ≠ gb237)); have n18_ := Aside0.mk ((by rw [hg]; exact Nat.ne_of_lt (blk_lt (g := gb244) (o := .cells #[.int .i64 t238, .int .i64 t239, .slice Ao33 t240.length co33] 30 (0, 0)) (by (with_reducible repeat (first | refine blk_drewN ?_ _ | refine blk_drew ?_ | refine blk_alloc ?_ _)); exact BK244.out)) : gb244 ≠ gb252)); have n19_ := Aside0.mk ((by rw [hg]; exact Nat.ne_of_gt (blk_lt (g := gb244) (o := .cells #[.int .i64 t238, .int .i64 t239, .slice Ao33 t240.length co33] 30 (0, 0)) (by (with_reducible repeat (first | refine blk_drewN ?_ _ | refine blk_drew ?_ | refine blk_alloc ?_ _)); exact BK244.out)) : gb252 ≠ gb244)); clear HO248; clear BK228; clear BK229; clear BK230; clear BK237; clear BK244; clear HB; have HO248 := n0_; have BK228 := n1_; have BK229 := n2_; have BK230 := n3_; have BK237 := n4_; have BK244 := n5_; have HB := n6_; have BK252 := n7_; have GW252 := n8_; have GE252 := n9_; have NB228_252 := n10_; have NB252_228 := n11_; have NB229_252 := n12_; have NB252_229 := n13_; have NB230_252 := n14_; have NB252_230 := n15_; have NB237_252 := n16_; have NB252_237 := n17_; have NB244_252 := n18_; have NB252_244 := n19_; clear n0_ n1_ n2_ n3_ n4_ n5_ n6_ n7_ n8_ n9_ n10_ n11_ n12_ n13_ n14_ n15_ n16_ n17_ n18_ n19_; clear hb hbox hg; have hnb62 := NB252_228.out; have hnc62 := NB228_252.out; have hnb63 := NB252_229.out; have hnc63 := NB229_252.out; have hnb64 := NB252_230.out; have hnc64 := NB230_252.out; have hnb65 := NB252_237.out; have hnc65 := NB237_252.out; have hnb66 := NB252_244.out; have hnc66 := NB244_252.out; have hcz67_0 : w61.cell? ⟨gb252, 0, none⟩ = some (.int .i64 0) := (blk_cell BK252.out 0).trans rfl; have hcz67_1 : w61.cell? ⟨gb252, 1, none⟩ = some (.int .i64 0) := (blk_cell BK252.out 1).trans rfl; have hfz67_0 := blk_frozen BK252.out 0; have hfz67_1 := blk_frozen BK252.out 1; have hnb68 := NB229_228.out; have hnc68 := NB228_229.out; have hnb69 := NB229_230.out; have hnc69 := NB230_229.out; have hcz70_0 : w61.cell? ⟨gb229, 0, none⟩ = some (.int .i32 a1_0) := (blk_cell BK229.out 0).trans rfl; have hcz70_1 : w61.cell? ⟨gb229, 1, none⟩ = some (.slice A1_1 l1_1.length c1_1) := (blk_cell BK229.out 1).trans rfl; have hfz70_0 := blk_frozen BK229.out 0; have hfz70_1 := blk_frozen BK229.out 1) | ((with_reducible refine gate_callee (f := 18) rfl ?_); refine goesL_ (some 75) rfl rfl Try.func18 (by kernel_rfl) rfl #[.agg #[.int .i32 a1_0, .slice A1_1 l1_1.length c1_1], .int .i64 (Int.tmod (wrap64 (a2_1)) 1000001), .int .i64 (Int.tmod (wrap64 (a5)) 15000000)] rfl (by (try simp only [List.map_toArray, List.map_cons, List.map_nil]); first | done | rfl | (simp only [List.length_drop, List.length_take]; rfl)) ?_; (with_reducible refine (isobathlaw05_Truth_offset.calls kj8 a1_0 _ _ l1_1 (Int.tmod (wrap64 (a2_1)) 1000001) (Int.tmod (wrap64 (a5)) 15000000) t253 _ ?side1 ?side2 A40.out).mono ?_); (case side1 => exact Kd.C_below HR1_1.out (by repeat (first | (with_reducible first | exact HB.out | apply below_alloc | apply pw_below_drewN | apply below_drew1 | refine below_set ?_ GE228.out | refine below_set ?_ GE229.out | refine below_set ?_ GE230.out | refine below_set ?_ GE237.out | refine below_set ?_ GE244.out | refine below_set ?_ GE252.out) | exact HB.out))); (case side2 => exact HC1_1.out); rintro e w71 ⟨rfl, hb⟩; refine ⟨_, rfl, ?_⟩; have n0_ := Aside0.mk (Kd.N_below (by (with_reducible repeat (first | apply Kd.N_alloc | apply Kd.N_drewN | apply Kd.N_drew)); exact (Kd.N_mono (Kd.N_far (p := ⟨gb252, 1, none⟩) (Kd.N_far (p := ⟨gb252, 0, none⟩) (Kd.N_mono HO248.out (fun k_ hk => (⟨hk, hk.2⟩ : _ ∧ k_ ≠ gb252))) (fun _ hk => hk.2) (.int .i64 t249)) (fun _ hk => hk.2) (.int .i64 t250)) (fun _ h_ => h_.1))) hb); have n1_ := Aside0.mk (blk_below (g := gb228) (o := .cells #[.int .i32 a0_0, .slice A0_1 l0_1.length c0_1] 24 (0, 0)) (by (with_reducible repeat (first | refine blk_drewN ?_ _ | refine blk_drew ?_ | refine blk_alloc ?_ _)); refine blk_far ?_ NB228_252.out _; (with_reducible repeat (first | refine blk_drewN ?_ _ | refine blk_drew ?_ | refine blk_alloc ?_ _)); refine blk_far ?_ NB228_252.out _; (with_reducible repeat (first | refine blk_drewN ?_ _ | refine blk_drew ?_ | refine blk_alloc ?_ _)); exact BK228.out) hb); have n2_ := Aside0.mk (blk_below (g := gb229) (o := .cells #[.int .i32 a1_0, .slice A1_1 l1_1.length c1_1] 24 (0, 0)) (by (with_reducible repeat (first | refine blk_drewN ?_ _ | refine blk_drew ?_ | refine blk_alloc ?_ _)); refine blk_far ?_ NB229_252.out _; (with_reducible repeat (first | refine blk_drewN ?_ _ | refine blk_drew ?_ | refine blk_alloc ?_ _)); refine blk_far ?_ NB229_252.out _; (with_reducible repeat (first | refine blk_drewN ?_ _ | refine blk_drew ?_ | refine blk_alloc ?_ _)); exact BK229.out) hb); have n3_ := Aside0.mk (blk_below (g := gb230) (o := .cells #[.int .u32 a2_0, .int .u32 a2_1] 26 (0, 0)) (by (with_reducible repeat (first | refine blk_drewN ?_ _ | refine blk_drew ?_ | refine blk_alloc ?_ _)); refine blk_far ?_ NB230_252.out _; (with_reducible repeat (first | refine blk_drewN ?_ _ | refine blk_drew ?_ | refine blk_alloc ?_ _)); refine blk_far ?_ NB230_252.out _; (with_reducible repeat (first | refine blk_drewN ?_ _ | refine blk_drew ?_ | refine blk_alloc ?_ _)); exact BK230.out) hb); have n4_ := Aside0.mk (blk_below (g := gb237) (o := .cells #[.int .i64 t231, .int .i64 t232, .slice Ao23 t233.length co23] 30 (0, 0)) (by (with_reducible repeat (first | refine blk_drewN ?_ _ | refine blk_drew ?_ | refine blk_alloc ?_ _)); refine blk_far ?_ NB237_252.out _; (with_reducible repeat (first | refine blk_drewN ?_ _ | refine blk_drew ?_ | refine blk_alloc ?_ _)); refine blk_far ?_ NB237_252.out _; (with_reducible repeat (first | refine blk_drewN ?_ _ | refine blk_drew ?_ | refine blk_alloc ?_ _)); exact BK237.out) hb); have n5_ := Aside0.mk (blk_below (g := gb244) (o := .cells #[.int .i64 t238, .int .i64 t239, .slice Ao33 t240.length co33] 30 (0, 0)) (by (with_reducible repeat (first | refine blk_drewN ?_ _ | refine blk_drew ?_ | refine blk_alloc ?_ _)); refine blk_far ?_ NB244_252.out _; (with_reducible repeat (first | refine blk_drewN ?_ _ | refine blk_drew ?_ | refine blk_alloc ?_ _)); refine blk_far ?_ NB244_252.out _; (with_reducible repeat (first | refine blk_drewN ?_ _ | refine blk_drew ?_ | refine blk_alloc ?_ _)); exact BK244.out) hb); have n6_ := Aside0.mk (blk_below (g := gb252) (o := .cells #[.int .i64 t249, .int .i64 t250] 35 (0, 0)) (by (with_reducible repeat (first | refine blk_drewN ?_ _ | refine blk_drew ?_ | refine blk_alloc ?_ _)); refine blk_put (cs := #[.int .i64 t249, .int .i64 0]) ?_ 1 _ rfl; (with_reducible repeat (first | refine blk_drewN ?_ _ | refine blk_drew ?_ | refine blk_alloc ?_ _)); refine blk_put (cs := #[.int .i64 0, .int .i64 0]) ?_ 0 _ rfl; (with_reducible repeat (first | refine blk_drewN ?_ _ | refine blk_drew ?_ | refine blk_alloc ?_ _)); exact BK252.out) hb); have n7_ := Aside0.mk (below_step (by repeat (first | (with_reducible first | exact HB.out | apply below_alloc | apply pw_below_drewN | apply below_drew1 | refine below_set ?_ GE228.out | refine below_set ?_ GE229.out | refine below_set ?_ GE230.out | refine below_set ?_ GE237.out | refine below_set ?_ GE244.out | refine below_set ?_ GE252.out) | exact HB.out)) hb); clear HO248; clear BK228; clear BK229; clear BK230; clear BK237; clear BK244; clear BK252; clear HB; have HO248 := n0_; have BK228 := n1_; have BK229 := n2_; have BK230 := n3_; have BK237 := n4_; have BK244 := n5_; have BK252 := n6_; have HB := n7_; clear n0_ n1_ n2_ n3_ n4_ n5_ n6_ n7_; (try clear hb); (try clear hb2); (try clear hk); (try clear hi)) | ((with_reducible refine gate_callee (f := 19) rfl ?_); refine goesL_ (some 78) rfl rfl Try.func19 (by kernel_rfl) rfl #[.int .i64 (wrap64 ((wrap64 ((Int.tmod (wrap64 (a5)) 15000000) * 1000000000)) + t253))] rfl (by (try simp only [List.map_toArray, List.map_cons, List.map_nil]); first | done | rfl | (simp only [List.length_drop, List.length_take]; rfl)) ?_; (with_reducible refine (isobathlaw05_down.calls (wrap64 ((wrap64 ((Int.tmod (wrap64 (a5)) 15000000) * 1000000000)) + t253)) t254 _ A41.out).mono ?_); rintro e w' ⟨rfl, ⟨nd, rfl⟩⟩; refine ⟨_, rfl, ?_⟩) | ((with_reducible refine gate_callee (f := 20) rfl ?_); refine goesL_ (some 80) rfl rfl Try.func20 (by kernel_rfl) rfl #[.int .i64 (wrap64 ((wrap64 ((Int.tmod (wrap64 (a5)) 15000000) * 1000000000)) + t253))] rfl (by (try simp only [List.map_toArray, List.map_cons, List.map_nil]); first | done | rfl | (simp only [List.length_drop, List.length_take]; rfl)) ?_; (with_reducible refine (isobathlaw05_up.calls (wrap64 ((wrap64 ((Int.tmod (wrap64 (a5)) 15000000) * 1000000000)) + t253)) t255 _ A42.out).mono ?_); rintro e w' ⟨rfl, ⟨nd, rfl⟩⟩; refine ⟨_, rfl, ?_⟩))
              (try (rw [drewN_self w71]; generalize hq_ : World.drewN w71 _ = w71; have n0_ : Aside0 (Kd.N k30 30 w71 w.heap.size (fun k_ => k_ ≠ gb228 ∧ k_ ≠ gb229 ∧ k_ ≠ gb230 ∧ k_ ≠ gb237 ∧ k_ ≠ gb244 ∧ k_ ≠ gb252) (.slice Ao59 y246.length co59) y246) := ⟨by rw [← hq_]; exact (by (with_reducible repeat (first | apply Kd.N_alloc | apply Kd.N_drewN | apply Kd.N_drew)); exact Kd.N_mono HO248.out (fun _ hk => ⟨hk.1.1, ⟨hk.1.2.1, ⟨hk.1.2.2.1, ⟨hk.1.2.2.2.1, ⟨hk.1.2.2.2.2, hk.2⟩⟩⟩⟩⟩))⟩; have n1_ : Aside0 (w71.heap[gb228]? = some (.cells #[.int .i32 a0_0, .slice A0_1 l0_1.length c0_1] 24 (0, 0))) := ⟨by rw [← hq_]; exact (by (with_reducible repeat (first | refine blk_drewN ?_ _ | refine blk_drew ?_ | refine blk_alloc ?_ _)); exact BK228.out)⟩; have n2_ : Aside0 (w71.heap[gb229]? = some (.cells #[.int .i32 a1_0, .slice A1_1 l1_1.length c1_1] 24 (0, 0))) := ⟨by rw [← hq_]; exact (by (with_reducible repeat (first | refine blk_drewN ?_ _ | refine blk_drew ?_ | refine blk_alloc ?_ _)); exact BK229.out)⟩; have n3_ : Aside0 (w71.heap[gb230]? = some (.cells #[.int .u32 a2_0, .int .u32 a2_1] 26 (0, 0))) := ⟨by rw [← hq_]; exact (by (with_reducible repeat (first | refine blk_drewN ?_ _ | refine blk_drew ?_ | refine blk_alloc ?_ _)); exact BK230.out)⟩; have n4_ : Aside0 (w71.heap[gb237]? = some (.cells #[.int .i64 t231, .int .i64 t232, .slice Ao23 t233.length co23] 30 (0, 0))) := ⟨by rw [← hq_]; exact (by (with_reducible repeat (first | refine blk_drewN ?_ _ | refine blk_drew ?_ | refine blk_alloc ?_ _)); exact BK237.out)⟩; have n5_ : Aside0 (w71.heap[gb244]? = some (.cells #[.int .i64 t238, .int .i64 t239, .slice Ao33 t240.length co33] 30 (0, 0))) := ⟨by rw [← hq_]; exact (by (with_reducible repeat (first | refine blk_drewN ?_ _ | refine blk_drew ?_ | refine blk_alloc ?_ _)); exact BK244.out)⟩; have n6_ : Aside0 (w71.heap[gb252]? = some (.cells #[.int .i64 t249, .int .i64 t250] 35 (0, 0))) := ⟨by rw [← hq_]; exact (by (with_reducible repeat (first | refine blk_drewN ?_ _ | refine blk_drew ?_ | refine blk_alloc ?_ _)); exact BK252.out)⟩; have n7_ : Aside0 (Below w.heap.size w w71) := ⟨by rw [← hq_]; exact (by repeat (first | (with_reducible first | exact HB.out | apply below_alloc | apply pw_below_drewN | apply below_drew1 | refine below_set ?_ GE228.out | refine below_set ?_ GE229.out | refine below_set ?_ GE230.out | refine below_set ?_ GE237.out | refine below_set ?_ GE244.out | refine below_set ?_ GE252.out) | exact HB.out))⟩; clear HO248 BK228 BK229 BK230 BK237 BK244 BK252 HB hq_; have HO248 := n0_; have BK228 := n1_; have BK229 := n2_; have BK230 := n3_; have BK237 := n4_; have BK244 := n5_; have BK252 := n6_; have HB := n7_; clear n0_ n1_ n2_ n3_ n4_ n5_ n6_ n7_))
              have n0_ := Aside0.mk (Kd.N_drew HO248.out)
              have n1_ := Aside0.mk (blk_drew BK228.out)
              have n2_ := Aside0.mk (blk_drew BK229.out)
              have n3_ := Aside0.mk (blk_drew BK230.out)
              have n4_ := Aside0.mk (blk_drew BK237.out)
              have n5_ := Aside0.mk (blk_drew BK244.out)
              have n6_ := Aside0.mk (blk_drew BK252.out)
              have n7_ := Aside0.mk (below_drew1 HB.out)
              clear HO248
              clear BK228
              clear BK229
              clear BK230
              clear BK237
              clear BK244
              clear BK252
              clear HB
              have HO248 := n0_
              have BK228 := n1_
              have BK229 := n2_
              have BK230 := n3_
              have BK237 := n4_
              have BK244 := n5_
              have BK252 := n6_
              have HB := n7_
              clear n0_ n1_ n2_ n3_ n4_ n5_ n6_ n7_
              refine start_ (n := 16) (S := fun w' => w'.cell? ⟨gb228, 0, none⟩ = some (.int .i32 a0_0) ∧ w'.cell? ⟨gb228, 1, none⟩ = some (.slice A0_1 l0_1.length c0_1)) (ds := []) #[false, false, false, false, false, false, false, false, false, false, false, false, false, false, false, false] (by kernel_rfl) rfl rfl ⟨(blk_cell BK228.out 0).trans rfl, (blk_cell BK228.out 1).trans rfl⟩ (fun hHeld => ?_); refine with_tabW isobathlaw05_ClockTree.tab12 isobathlaw05_ClockTree.bits12 (fun HT_ HW_ => ?_)
              generalize w71.drew = w72 at HO248 BK228 BK229 BK230 BK237 BK244 BK252 HB hHeld ⊢
              refine pure_ (i := 0) (N := some 81) (v := ?_) (a' := ?_) #[true, false, false, false, false, false, false, false, false, false, false, false, false, false, false, false] rfl rfl (any_of HT_.out (by kernel_rfl)) (fun _ _ _ h => h) (Or.inl ⟨by rfl, ?_⟩) ?_ ?_
              rotate_left
              · intro w'
                go_simp
                with_reducible rfl
              rotate_left
              · simp only [Act.put, List.setIfInBounds_toArray, List.set_cons_zero, List.set_cons_succ, i64_w, i32_w]
                rfl
              refine pure_ (i := 1) (N := some 82) (v := ?_) (a' := ?_) #[true, true, false, false, false, false, false, false, false, false, false, false, false, false, false, false] rfl rfl (any_of HT_.out (by kernel_rfl)) (fun _ _ _ h => h) (Or.inl ⟨by rfl, ?_⟩) ?_ ?_
              rotate_left
              · intro w'
                go_simp
                with_reducible rfl
              rotate_left
              · simp only [Act.put, List.setIfInBounds_toArray, List.set_cons_zero, List.set_cons_succ, i64_w, i32_w]
                rfl
              refine pure_ (i := 3) (N := some 84) (v := ?_) (a' := ?_) #[true, true, false, true, false, false, false, false, false, false, false, false, false, false, false, false] rfl rfl (any_of HT_.out (by kernel_rfl)) (fun _ _ _ h => h) (Or.inl ⟨by rfl, ?_⟩) ?_ ?_
              rotate_left
              · intro w'
                go_simp
                with_reducible rfl
              rotate_left
              · simp only [Act.put, List.setIfInBounds_toArray, List.set_cons_zero, List.set_cons_succ, i64_w, i32_w]
                rfl
              refine pure_ (i := 4) (N := some 85) (v := ?_) (a' := ?_) #[true, true, false, true, true, false, false, false, false, false, false, false, false, false, false, false] rfl rfl (any_of HT_.out (by kernel_rfl)) (fun _ _ _ h => h) (Or.inl ⟨by rfl, ?_⟩) ?_ ?_
              rotate_left
              · intro w'
                go_simp
                with_reducible rfl
              rotate_left
              · simp only [Act.put, List.setIfInBounds_toArray, List.set_cons_zero, List.set_cons_succ, i64_w, i32_w]
                rfl
              refine pure_ (i := 7) (N := some 88) (v := ?_) (a' := ?_) #[true, true, false, true, true, false, false, true, false, false, false, false, false, false, false, false] rfl rfl (any_of HT_.out (by kernel_rfl)) (fun _ _ _ h => h) (Or.inl ⟨by rfl, ?_⟩) ?_ ?_
              rotate_left
              · intro w'
                go_simp
                with_reducible rfl
              rotate_left
              · simp only [Act.put, List.setIfInBounds_toArray, List.set_cons_zero, List.set_cons_succ, i64_w, i32_w]
                rfl
              refine pure_ (i := 8) (N := some 89) (v := ?_) (a' := ?_) #[true, true, false, true, true, false, false, true, true, false, false, false, false, false, false, false] rfl rfl (any_of HT_.out (by kernel_rfl)) (fun _ _ _ h => h) (Or.inl ⟨by rfl, ?_⟩) ?_ ?_
              rotate_left
              · intro w'
                go_simp
                with_reducible rfl
              rotate_left
              · simp only [Act.put, List.setIfInBounds_toArray, List.set_cons_zero, List.set_cons_succ, i64_w, i32_w]
                rfl
              refine pure_ (i := 10) (N := some 91) (v := ?_) (a' := ?_) #[true, true, false, true, true, false, false, true, true, false, true, false, false, false, false, false] rfl rfl (any_of HT_.out (by kernel_rfl)) (fun _ _ _ h => h) (Or.inl ⟨by rfl, ?_⟩) ?_ ?_
              rotate_left
              · intro w'
                go_simp
                with_reducible rfl
              rotate_left
              · simp only [Act.put, List.setIfInBounds_toArray, List.set_cons_zero, List.set_cons_succ, i64_w, i32_w]
                rfl
              refine pure_ (i := 11) (N := some 92) (v := ?_) (a' := ?_) #[true, true, false, true, true, false, false, true, true, false, true, true, false, false, false, false] rfl rfl (any_of HT_.out (by kernel_rfl)) (fun _ _ _ h => h) (Or.inl ⟨by rfl, ?_⟩) ?_ ?_
              rotate_left
              · intro w'
                go_simp
                with_reducible rfl
              rotate_left
              · simp only [Act.put, List.setIfInBounds_toArray, List.set_cons_zero, List.set_cons_succ, i64_w, i32_w]
                rfl
              refine take_ (i := 2) (N := some 83) (v := ?_) (a' := ?_) #[true, true, true, true, true, false, false, true, true, false, true, true, false, false, false, false] rfl rfl (take_ofW HT_.out HW_.out (by kernel_rfl)) (fun _ _ _ h => h) (Or.inl ⟨by rfl, ?_⟩) hHeld ?_ ?_
              rotate_left
              · rintro w' ⟨s0, s1⟩
                go_simp
                with_reducible rfl
              rotate_left
              · simp only [Act.put, List.setIfInBounds_toArray, List.set_cons_zero, List.set_cons_succ, i64_w, i32_w]
                rfl
              refine take_ (i := 9) (N := some 90) (v := ?_) (a' := ?_) #[true, true, true, true, true, false, false, true, true, true, true, true, false, false, false, false] rfl rfl (take_ofW HT_.out HW_.out (by kernel_rfl)) (fun _ _ _ h => h) (Or.inl ⟨by rfl, ?_⟩) hHeld ?_ ?_
              rotate_left
              · rintro w' ⟨s0, s1⟩
                go_simp
                with_reducible rfl
              rotate_left
              · simp only [Act.put, List.setIfInBounds_toArray, List.set_cons_zero, List.set_cons_succ, i64_w, i32_w]
                rfl
              refine one_ (i := 5) (N := some 86) #[true, true, true, true, true, true, false, true, true, true, true, true, false, false, false, false] rfl rfl (one_of HT_.out (by kernel_rfl)) (by decide) (fun K hK => ?_)
              refine goes_ Try.func18 (by kernel_rfl) rfl #[.agg #[.int .i32 a0_0, .slice A0_1 l0_1.length c0_1], .int .i64 (Int.tmod (wrap64 (a2_0)) 1000001), .int .i64 t254] (by rfl) rfl rfl (by (try simp only [List.map_toArray, List.map_cons, List.map_nil]); first | done | rfl | (simp only [List.length_drop, List.length_take]; rfl)) ?_
              with_reducible refine (isobathlaw05_Truth_offset.calls kj8 a0_0 _ _ l0_1 (Int.tmod (wrap64 (a2_0)) 1000001) t254 t256 _ ?side1 ?side2 A43.out).mono ?_
              (case side1 => repeat (first | exact (Kd.C_below HR0_1.out HB.out) | (with_reducible refine Kd.C_alloc ?_ _) | (with_reducible refine Kd.C_drewN ?_ _) | (with_reducible refine Kd.C_drew ?_)))
              (case side2 => exact HC0_1.out)
              rintro e w73 ⟨rfl, hb⟩
              refine ⟨_, rfl, ?_⟩
              have n0_ := Aside0.mk (Kd.N_below (by (with_reducible repeat (first | apply Kd.N_alloc | apply Kd.N_drewN | apply Kd.N_drew)); exact HO248.out) hb)
              have n1_ := Aside0.mk (blk_below (g := gb228) (o := .cells #[.int .i32 a0_0, .slice A0_1 l0_1.length c0_1] 24 (0, 0)) (by (with_reducible repeat (first | refine blk_drewN ?_ _ | refine blk_drew ?_ | refine blk_alloc ?_ _)); exact BK228.out) hb)
              have n2_ := Aside0.mk (blk_below (g := gb229) (o := .cells #[.int .i32 a1_0, .slice A1_1 l1_1.length c1_1] 24 (0, 0)) (by (with_reducible repeat (first | refine blk_drewN ?_ _ | refine blk_drew ?_ | refine blk_alloc ?_ _)); exact BK229.out) hb)
              have n3_ := Aside0.mk (blk_below (g := gb230) (o := .cells #[.int .u32 a2_0, .int .u32 a2_1] 26 (0, 0)) (by (with_reducible repeat (first | refine blk_drewN ?_ _ | refine blk_drew ?_ | refine blk_alloc ?_ _)); exact BK230.out) hb)
              have n4_ := Aside0.mk (blk_below (g := gb237) (o := .cells #[.int .i64 t231, .int .i64 t232, .slice Ao23 t233.length co23] 30 (0, 0)) (by (with_reducible repeat (first | refine blk_drewN ?_ _ | refine blk_drew ?_ | refine blk_alloc ?_ _)); exact BK237.out) hb)
              have n5_ := Aside0.mk (blk_below (g := gb244) (o := .cells #[.int .i64 t238, .int .i64 t239, .slice Ao33 t240.length co33] 30 (0, 0)) (by (with_reducible repeat (first | refine blk_drewN ?_ _ | refine blk_drew ?_ | refine blk_alloc ?_ _)); exact BK244.out) hb)
              have n6_ := Aside0.mk (blk_below (g := gb252) (o := .cells #[.int .i64 t249, .int .i64 t250] 35 (0, 0)) (by (with_reducible repeat (first | refine blk_drewN ?_ _ | refine blk_drew ?_ | refine blk_alloc ?_ _)); exact BK252.out) hb)
              have n7_ := Aside0.mk (below_step (by repeat (first | (with_reducible first | exact HB.out | apply below_alloc | apply pw_below_drewN | apply below_drew1 | refine below_set ?_ GE228.out | refine below_set ?_ GE229.out | refine below_set ?_ GE230.out | refine below_set ?_ GE237.out | refine below_set ?_ GE244.out | refine below_set ?_ GE252.out) | exact HB.out)) hb)
              clear HO248
              clear BK228
              clear BK229
              clear BK230
              clear BK237
              clear BK244
              clear BK252
              clear HB
              have HO248 := n0_
              have BK228 := n1_
              have BK229 := n2_
              have BK230 := n3_
              have BK237 := n4_
              have BK244 := n5_
              have BK252 := n6_
              have HB := n7_
              clear n0_ n1_ n2_ n3_ n4_ n5_ n6_ n7_
              (try clear hb)
              (try clear hb2)
              (try clear hk)
              (try clear hi)
              refine hK.out _ _ ⟨(blk_cell BK228.out 0).trans rfl, (blk_cell BK228.out 1).trans rfl⟩ (fun hHeld => ?_)
              clear hK K
              refine norm_ (a' := ?_) ?_ ?_
              rotate_left
              · show Act.put _ (some 86) _ = _
                simp only [Act.put, List.setIfInBounds_toArray, List.set_cons_zero, List.set_cons_succ, i64_w, i32_w]
                rfl
              refine pure_ (i := 6) (N := some 87) (v := ?_) (a' := ?_) #[true, true, true, true, true, true, true, true, true, true, true, true, false, false, false, false] rfl rfl (any_of HT_.out (by kernel_rfl)) (fun _ _ _ h => h) (Or.inl ⟨by rfl, ?_⟩) ?_ ?_
              rotate_left
              · intro w'
                go_simp
                with_reducible rfl
              rotate_left
              · simp only [Act.put, List.setIfInBounds_toArray, List.set_cons_zero, List.set_cons_succ, i64_w, i32_w]
                rfl
              refine one_ (i := 12) (N := some 93) #[true, true, true, true, true, true, true, true, true, true, true, true, true, false, false, false] rfl rfl (one_of HT_.out (by kernel_rfl)) (by decide) (fun K hK => ?_)
              refine goes_ Try.func18 (by kernel_rfl) rfl #[.agg #[.int .i32 a0_0, .slice A0_1 l0_1.length c0_1], .int .i64 (Int.tmod (wrap64 (a2_0)) 1000001), .int .i64 t255] (by rfl) rfl rfl (by (try simp only [List.map_toArray, List.map_cons, List.map_nil]); first | done | rfl | (simp only [List.length_drop, List.length_take]; rfl)) ?_
              with_reducible refine (isobathlaw05_Truth_offset.calls kj8 a0_0 _ _ l0_1 (Int.tmod (wrap64 (a2_0)) 1000001) t255 t257 _ ?side1 ?side2 A44.out).mono ?_
              (case side1 => repeat (first | exact (Kd.C_below HR0_1.out HB.out) | (with_reducible refine Kd.C_alloc ?_ _) | (with_reducible refine Kd.C_drewN ?_ _) | (with_reducible refine Kd.C_drew ?_)))
              (case side2 => exact HC0_1.out)
              rintro e w74 ⟨rfl, hb⟩
              refine ⟨_, rfl, ?_⟩
              have n0_ := Aside0.mk (Kd.N_below (by (with_reducible repeat (first | apply Kd.N_alloc | apply Kd.N_drewN | apply Kd.N_drew)); exact HO248.out) hb)
              have n1_ := Aside0.mk (blk_below (g := gb228) (o := .cells #[.int .i32 a0_0, .slice A0_1 l0_1.length c0_1] 24 (0, 0)) (by (with_reducible repeat (first | refine blk_drewN ?_ _ | refine blk_drew ?_ | refine blk_alloc ?_ _)); exact BK228.out) hb)
              have n2_ := Aside0.mk (blk_below (g := gb229) (o := .cells #[.int .i32 a1_0, .slice A1_1 l1_1.length c1_1] 24 (0, 0)) (by (with_reducible repeat (first | refine blk_drewN ?_ _ | refine blk_drew ?_ | refine blk_alloc ?_ _)); exact BK229.out) hb)
              have n3_ := Aside0.mk (blk_below (g := gb230) (o := .cells #[.int .u32 a2_0, .int .u32 a2_1] 26 (0, 0)) (by (with_reducible repeat (first | refine blk_drewN ?_ _ | refine blk_drew ?_ | refine blk_alloc ?_ _)); exact BK230.out) hb)
              have n4_ := Aside0.mk (blk_below (g := gb237) (o := .cells #[.int .i64 t231, .int .i64 t232, .slice Ao23 t233.length co23] 30 (0, 0)) (by (with_reducible repeat (first | refine blk_drewN ?_ _ | refine blk_drew ?_ | refine blk_alloc ?_ _)); exact BK237.out) hb)
              have n5_ := Aside0.mk (blk_below (g := gb244) (o := .cells #[.int .i64 t238, .int .i64 t239, .slice Ao33 t240.length co33] 30 (0, 0)) (by (with_reducible repeat (first | refine blk_drewN ?_ _ | refine blk_drew ?_ | refine blk_alloc ?_ _)); exact BK244.out) hb)
              have n6_ := Aside0.mk (blk_below (g := gb252) (o := .cells #[.int .i64 t249, .int .i64 t250] 35 (0, 0)) (by (with_reducible repeat (first | refine blk_drewN ?_ _ | refine blk_drew ?_ | refine blk_alloc ?_ _)); exact BK252.out) hb)
              have n7_ := Aside0.mk (below_step (by repeat (first | (with_reducible first | exact HB.out | apply below_alloc | apply pw_below_drewN | apply below_drew1 | refine below_set ?_ GE228.out | refine below_set ?_ GE229.out | refine below_set ?_ GE230.out | refine below_set ?_ GE237.out | refine below_set ?_ GE244.out | refine below_set ?_ GE252.out) | exact HB.out)) hb)
              clear HO248
              clear BK228
              clear BK229
              clear BK230
              clear BK237
              clear BK244
              clear BK252
              clear HB
              have HO248 := n0_
              have BK228 := n1_
              have BK229 := n2_
              have BK230 := n3_
              have BK237 := n4_
              have BK244 := n5_
              have BK252 := n6_
              have HB := n7_
              clear n0_ n1_ n2_ n3_ n4_ n5_ n6_ n7_
              (try clear hb)
              (try clear hb2)
              (try clear hk)
              (try clear hi)
              refine hK.out _ _ ⟨(blk_cell BK228.out 0).trans rfl, (blk_cell BK228.out 1).trans rfl⟩ (fun hHeld => ?_)
              clear hK K
              refine norm_ (a' := ?_) ?_ ?_
              rotate_left
              · show Act.put _ (some 93) _ = _
                simp only [Act.put, List.setIfInBounds_toArray, List.set_cons_zero, List.set_cons_succ, i64_w, i32_w]
                rfl
              refine pure_ (i := 13) (N := some 94) (v := ?_) (a' := ?_) #[true, true, true, true, true, true, true, true, true, true, true, true, true, true, false, false] rfl rfl (any_of HT_.out (by kernel_rfl)) (fun _ _ _ h => h) (Or.inl ⟨by rfl, ?_⟩) ?_ ?_
              rotate_left
              · intro w'
                go_simp
                with_reducible rfl
              rotate_left
              · simp only [Act.put, List.setIfInBounds_toArray, List.set_cons_zero, List.set_cons_succ, i64_w, i32_w]
                rfl
              refine pure_ (i := 14) (N := some 25) (v := ?_) (a' := ?_) #[true, true, true, true, true, true, true, true, true, true, true, true, true, true, true, false] rfl rfl (any_of HT_.out (by kernel_rfl)) (fun _ _ _ h => h) (Or.inl ⟨by rfl, ?_⟩) ?_ ?_
              rotate_left
              · intro w'
                go_simp
                with_reducible rfl
              rotate_left
              · simp only [Act.put, List.setIfInBounds_toArray, List.set_cons_zero, List.set_cons_succ, i64_w, i32_w]
                rfl
              refine pure_ (i := 15) (N := some 26) (v := ?_) (a' := ?_) #[true, true, true, true, true, true, true, true, true, true, true, true, true, true, true, true] rfl rfl (any_of HT_.out (by kernel_rfl)) (fun _ _ _ h => h) (Or.inl ⟨by rfl, ?_⟩) ?_ ?_
              rotate_left
              · intro w'
                go_simp
                with_reducible rfl
              rotate_left
              · simp only [Act.put, List.setIfInBounds_toArray, List.set_cons_zero, List.set_cons_succ, i64_w, i32_w]
                rfl
              refine done_ (done_of HT_.out (by kernel_rfl)) ?_
              have hcz75_0 : w74.cell? ⟨gb252, 0, none⟩ = some (.int .i64 t249) := (blk_cell BK252.out 0).trans rfl
              have hcz75_1 : w74.cell? ⟨gb252, 1, none⟩ = some (.int .i64 t250) := (blk_cell BK252.out 1).trans rfl
              have hfz75_0 := blk_frozen BK252.out 0
              have hfz75_1 := blk_frozen BK252.out 1
              try go_wp2_with (first | (go_at_call 16; (with_reducible refine (isobathlaw05_Works.calls  t258 _ A47.out).mono ?_); rintro e w76 ⟨rfl, hb⟩; have n0_ := Aside0.mk (Kd.N_below (by (with_reducible repeat (first | apply Kd.N_alloc | apply Kd.N_drewN | apply Kd.N_drew)); exact HO248.out) hb); have n1_ := Aside0.mk (blk_below (g := gb228) (o := .cells #[.int .i32 a0_0, .slice A0_1 l0_1.length c0_1] 24 (0, 0)) (by (with_reducible repeat (first | refine blk_drewN ?_ _ | refine blk_drew ?_ | refine blk_alloc ?_ _)); exact BK228.out) hb); have n2_ := Aside0.mk (blk_below (g := gb229) (o := .cells #[.int .i32 a1_0, .slice A1_1 l1_1.length c1_1] 24 (0, 0)) (by (with_reducible repeat (first | refine blk_drewN ?_ _ | refine blk_drew ?_ | refine blk_alloc ?_ _)); exact BK229.out) hb); have n3_ := Aside0.mk (blk_below (g := gb230) (o := .cells #[.int .u32 a2_0, .int .u32 a2_1] 26 (0, 0)) (by (with_reducible repeat (first | refine blk_drewN ?_ _ | refine blk_drew ?_ | refine blk_alloc ?_ _)); exact BK230.out) hb); have n4_ := Aside0.mk (blk_below (g := gb237) (o := .cells #[.int .i64 t231, .int .i64 t232, .slice Ao23 t233.length co23] 30 (0, 0)) (by (with_reducible repeat (first | refine blk_drewN ?_ _ | refine blk_drew ?_ | refine blk_alloc ?_ _)); exact BK237.out) hb); have n5_ := Aside0.mk (blk_below (g := gb244) (o := .cells #[.int .i64 t238, .int .i64 t239, .slice Ao33 t240.length co33] 30 (0, 0)) (by (with_reducible repeat (first | refine blk_drewN ?_ _ | refine blk_drew ?_ | refine blk_alloc ?_ _)); exact BK244.out) hb); have n6_ := Aside0.mk (blk_below (g := gb252) (o := .cells #[.int .i64 t249, .int .i64 t250] 35 (0, 0)) (by (with_reducible repeat (first | refine blk_drewN ?_ _ | refine blk_drew ?_ | refine blk_alloc ?_ _)); exact BK252.out) hb); have n7_ := Aside0.mk (below_step (by repeat (first | (with_reducible first | exact HB.out | apply below_alloc | apply pw_below_drewN | apply below_drew1 | refine below_set ?_ GE228.out | refine below_set ?_ GE229.out | refine below_set ?_ GE230.out | refine below_set ?_ GE237.out | refine below_set ?_ GE244.out | refine below_set ?_ GE252.out) | exact HB.out)) hb); clear HO248; clear BK228; clear BK229; clear BK230; clear BK237; clear BK244; clear BK252; clear HB; have HO248 := n0_; have BK228 := n1_; have BK229 := n2_; have BK230 := n3_; have BK237 := n4_; have BK244 := n5_; have BK252 := n6_; have HB := n7_; clear n0_ n1_ n2_ n3_ n4_ n5_ n6_ n7_; (try clear hb); (try clear hb2); (try clear hk); (try clear hi)))
              go_ret
              exact ⟨by first | rfl | (simp [errW_none, errW_some] <;> rfl) | (simp [*, errW_none, errW_some] <;> rfl), by repeat (first | (with_reducible first | exact HB.out | apply below_alloc | apply pw_below_drewN | apply below_drew1 | refine below_set ?_ GE228.out | refine below_set ?_ GE229.out | refine below_set ?_ GE230.out | refine below_set ?_ GE237.out | refine below_set ?_ GE244.out | refine below_set ?_ GE252.out) | exact HB.out)⟩
            · rw [if_neg c46] at H
              have c46b0 : decide ((wrap64 ((wrap64 (t255 * 1000000000)) + t257)) ≤ (wrap64 (t250 * 1000000000))) = false := decide_eq_false c46
              clear c46
              have hh_ := Option.some.inj H
              rw [hr_.out] at hh_
              cases hh_
          · rw [if_neg c45] at H
            have c45b0 : decide ((wrap64 (t249 * 1000000000)) ≤ (wrap64 ((wrap64 (t254 * 1000000000)) + t256))) = false := decide_eq_false c45
            clear c45
            have hh_ := Option.some.inj H
            rw [hr_.out] at hh_
            cases hh_
        · rw [if_neg c39] at H
          have c39b0 : (t251 == 0) = false := beq_eq_false_iff_ne.mpr c39
          have c39b1 : (t251 != 0) = true := bne_iff_ne.mpr c39
          have hh_ := Option.some.inj H
          rw [hr_.out] at hh_
          cases hh_

end Go.Proofs.Ytcjdhajdoikojaa.Pr
end
section
-- PRINTED BY print.sh 35421559b90ae4d0a3588c463048766b98c2df88dd9212a6774a882060cdf62d: not written by this session
-- PRINTED WORDS (module Derived/Print/Sized.lean): go-gate-2's, for the rows of laws over slices: an AI agent of Go's test side, Tue Nov 17 2026; no person has read it. Lean checks it.
namespace Go.Proofs.YtcjdhajdoikojaaW.PrintWords
open Go.ChangeShapes Go.WideShapes
end Go.Proofs.YtcjdhajdoikojaaW.PrintWords
end
section
/- What is read of an argument of a law: a datum of a type reads as a value of its kind; its whole numbers are of their kind, and its slices are within the reach. No condition. -/
namespace Go.Proofs.YtcjdhajdoikojaaW.Opens
open Go.RowKit Go.Proofs.YtcjdhajdoikojaaW.PrintWords Go.Deep Go.ChangeShapes Go.WideShapes
set_option linter.unusedVariables false
section
variable {H : Type} {enc : TypeId × Value → H} {P : Program}

/-- A datum of type t reads as a value of the kind K of which G holds. -/
def Opens {α : Type} (enc : TypeId × Value → H) (P : Program) (t : TypeId) (K : Kd α) (G : α → Prop) : Prop :=
  ∀ (w : World) (fuel : Nat) (cs : List Value) (x : DataW H × List MemPlace), DataW.trod enc P w 0 (fun _ => true) true fuel t cs = some x → (DataW.weights P t x.1).all (· ≤ reachBytes) = true → ∃ y, K.K w y cs ∧ G y

theorem Opens.int {t : TypeId} {k : IntKind} (hu : P.underlying t = some (.int k)) : Opens enc P t (Kd.int k) (fun n => (Lit.int k n).wf = true) := by
  intro w fuel cs x h _
  cases fuel with
  | zero => simp [DataW.trod] at h
  | succ n =>
    unfold DataW.trod at h
    rw [hu] at h
    split at h <;> simp_all
    obtain ⟨⟨rfl, hw⟩, _⟩ := h
    rename_i n _ _
    exact ⟨_, rfl, hw⟩
/-- The fields from offset off on. -/
def OpensFs {α : Type} (enc : TypeId × Value → H) (P : Program) (off : Nat) (fs : List Field) (K : Kd α) (G : α → Prop) : Prop :=
  ∀ (w : World) (fuel : Nat) (cs : List Value) (xs : List (DataW H × List MemPlace)), cs.length = off + K.sz → xs.length = fs.length →
    (∀ (i : Nat) (f : Field), fs[i]? = some f → DataW.trod enc P w 0 (fun _ => true) true fuel f.type ((cs.drop f.offset).take (P.cellsOf f.type)) = xs[i]?) →
    (DataW.weightsEach P (fs.map (·.type)) (xs.map (·.1))).all (· ≤ reachBytes) = true → ∃ y, K.K w y (cs.drop off) ∧ G y

theorem OpensFs.one {α : Type} {off : Nat} {f : Field} {K : Kd α} {G : α → Prop} (hoff : f.offset = off) (hsz : P.cellsOf f.type = K.sz) (h : Opens enc P f.type K G) : OpensFs enc P off [f] K G := by
  intro w fuel cs xs hl hx hi hw
  obtain ⟨x, rfl⟩ : ∃ x, xs = [x] := by
    match xs, hx with
    | [x], _ => exact ⟨x, rfl⟩
  have h1 := hi 0 f rfl
  rw [hoff, hsz, List.take_of_length_le (by simp; omega)] at h1
  exact h w fuel _ x h1 (by simpa [DataW.weightsEach] using hw)
theorem OpensFs.cons {α β : Type} {off : Nat} {f : Field} {fs : List Field} {K : Kd α} {G : α → Prop} {K' : Kd β} {G' : β → Prop} (hoff : f.offset = off) (hsz : P.cellsOf f.type = K.sz) (h : Opens enc P f.type K G) (h' : OpensFs enc P (off + K.sz) fs K' G') :
    OpensFs enc P off (f :: fs) (Kd.pair K K') (fun y => G y.1 ∧ G' y.2) := by
  intro w fuel cs xs hl hx hi hw
  obtain ⟨x, xs', rfl⟩ : ∃ x xs', xs = x :: xs' := by
    match xs, hx with
    | x :: xs', _ => exact ⟨x, xs', rfl⟩
  have hl2 : cs.length = off + (K.sz + K'.sz) := hl
  have h1 := hi 0 f rfl
  rw [hoff, hsz] at h1
  simp only [List.map_cons, DataW.weightsEach, List.all_append, Bool.and_eq_true] at hw
  obtain ⟨y, hy, gy⟩ := h w fuel _ x h1 hw.1
  obtain ⟨y', hy', gy'⟩ := h' w fuel cs xs' (by omega) (by simpa using hx) (fun i g hg => by simpa using hi (i + 1) g (by simpa using hg)) hw.2
  refine ⟨(y, y'), ⟨_, _, ?_, hy, hy'⟩, gy, gy'⟩
  rw [← List.drop_drop, List.take_append_drop]
theorem Opens.struct {α β : Type} {t : TypeId} {fs : Array Field} {K : Kd α} {G : α → Prop} {f : β → α} (g : α → β) (hu : P.underlying t = some (.struct fs)) (hsz : P.cellsOf t = K.sz) (hg : ∀ y, f (g y) = y) (h : OpensFs enc P 0 fs.toList K G) :
    Opens enc P t (Kd.iso K f) (fun z => G (f z)) := by
  intro w fuel cs x hx hw
  obtain ⟨xs, n, rfl, rfl, hl, hxl, hi⟩ := DataW.trod_struct hu hx
  obtain ⟨y, hy, gy⟩ := h w n cs xs (by omega) (by simpa using hxl) (fun i f hf => hi i f (by simpa using hf)) (by simpa [DataW.weights, hu] using hw)
  refine ⟨g y, ?_, by show G (f (g y)); rw [hg]; exact gy⟩
  show K.K w (f (g y)) cs
  rw [hg]
  simpa using hy

/-- The elements of an array from number i on. -/
def OpensAr {α : Type} (enc : TypeId × Value → H) (P : Program) (e : TypeId) (i n : Nat) (K : Kd α) (G : α → Prop) : Prop :=
  ∀ (w : World) (fuel : Nat) (cs : List Value) (xs : List (DataW H × List MemPlace)), cs.length = i * P.cellsOf e + K.sz → xs.length = n →
    (∀ (j : Nat), j < n → DataW.trod enc P w 0 (fun _ => true) true fuel e ((cs.drop ((i + j) * P.cellsOf e)).take (P.cellsOf e)) = xs[j]?) →
    (DataW.weightsAll P e (xs.map (·.1))).all (· ≤ reachBytes) = true → ∃ y, K.K w y (cs.drop (i * P.cellsOf e)) ∧ G y
theorem OpensAr.one {α : Type} {e : TypeId} {i : Nat} {K : Kd α} {G : α → Prop} (hsz : P.cellsOf e = K.sz) (h : Opens enc P e K G) : OpensAr enc P e i 1 K G := by
  intro w fuel cs xs hl hx hi hw
  obtain ⟨x, rfl⟩ : ∃ x, xs = [x] := by
    match xs, hx with
    | [x], _ => exact ⟨x, rfl⟩
  have h1 := hi 0 (by omega)
  rw [Nat.add_zero, List.take_of_length_le (by simp; omega)] at h1
  exact h w fuel _ x h1 (by simpa [DataW.weightsAll] using hw)
theorem OpensAr.cons {α β : Type} {e : TypeId} {i n : Nat} {K : Kd α} {G : α → Prop} {K' : Kd β} {G' : β → Prop} (hsz : P.cellsOf e = K.sz) (h : Opens enc P e K G) (h' : OpensAr enc P e (i + 1) n K' G') :
    OpensAr enc P e i (n + 1) (Kd.pair K K') (fun y => G y.1 ∧ G' y.2) := by
  intro w fuel cs xs hl hx hi hw
  obtain ⟨x, xs', rfl⟩ : ∃ x xs', xs = x :: xs' := by
    match xs, hx with
    | x :: xs', _ => exact ⟨x, xs', rfl⟩
  have hl2 : cs.length = i * P.cellsOf e + (K.sz + K'.sz) := hl
  have h1 := hi 0 (by omega)
  rw [Nat.add_zero] at h1
  simp only [List.map_cons, DataW.weightsAll, List.all_append, Bool.and_eq_true] at hw
  obtain ⟨y, hy, gy⟩ := h w fuel _ x h1 hw.1
  have e1 : (i + 1) * P.cellsOf e = i * P.cellsOf e + P.cellsOf e := by rw [Nat.add_mul, Nat.one_mul]
  obtain ⟨y', hy', gy'⟩ := h' w fuel cs xs' (by omega) (by simpa using hx) (fun j hj => by
    have := hi (j + 1) (by omega)
    rw [show i + (j + 1) = i + 1 + j from by omega] at this
    simpa using this) hw.2
  refine ⟨(y, y'), ⟨_, _, ?_, hy, hy'⟩, gy, gy'⟩
  rw [e1, ← List.drop_drop, List.take_append_drop]
theorem Opens.array {α β : Type} {t e : TypeId} {n : Nat} {K : Kd α} {G : α → Prop} {f : β → α} (g : α → β) (hu : P.underlying t = some (.array n e)) (hsz : P.cellsOf t = K.sz) (hg : ∀ y, f (g y) = y) (h : OpensAr enc P e 0 n K G) :
    Opens enc P t (Kd.iso K f) (fun z => G (f z)) := by
  intro w fuel cs x hx hw
  cases fuel with
  | zero => simp [DataW.trod] at hx
  | succ m =>
    unfold DataW.trod at hx
    rw [hu] at hx
    dsimp only at hx
    split at hx
    · rename_i hl
      rw [Option.map_eq_some_iff] at hx
      obtain ⟨xs, hm, rfl⟩ := hx
      obtain ⟨y, hy, gy⟩ := h w m cs xs (by omega) (by simpa using mapM_some_length hm) (fun j hj => by
        have := mapM_some_get hm j j (by simp [hj])
        simpa using this) (by simpa [DataW.weights, hu] using hw)
      refine ⟨g y, ?_, by show G (f (g y)); rw [hg]; exact gy⟩
      show K.K w (f (g y)) cs
      rw [hg]
      simpa using hy
    · cases hx

theorem list_of_lt {α : Type} {Q : Nat → α → Prop} : ∀ (n : Nat), (∀ i, i < n → ∃ y, Q i y) → ∃ ys : List α, ys.length = n ∧ ∀ i y, ys[i]? = some y → Q i y
  | 0, _ => ⟨[], rfl, fun i y h => by simp at h⟩
  | n + 1, h => by
    obtain ⟨ys, hl, hq⟩ := list_of_lt n (fun i hi => h i (by omega))
    obtain ⟨y, hy⟩ := h n (by omega)
    refine ⟨ys ++ [y], by simp [hl], fun i z hz => ?_⟩
    rw [List.getElem?_append] at hz
    split at hz
    · exact hq i z hz
    · rename_i hi
      obtain rfl : i = n := by
        have := (List.getElem?_eq_some_iff.1 hz).1
        simp at this
        omega
      simp [hl] at hz
      exact hz ▸ hy
theorem weightsAll_mem {e : TypeId} : ∀ {ds : List (DataW H)} {d : DataW H}, (DataW.weightsAll P e ds).all (· ≤ reachBytes) = true → d ∈ ds → (DataW.weights P e d).all (· ≤ reachBytes) = true
  | [], _, _, h => by cases h
  | a :: r, d, hw, h => by
    simp only [DataW.weightsAll, List.all_append, Bool.and_eq_true] at hw
    rcases List.mem_cons.1 h with rfl | h
    · exact hw.1
    · exact weightsAll_mem hw.2 h
theorem Opens.slice {α : Type} {t e : TypeId} (e' : Nat) {K : Kd α} {G : α → Prop} (hu : P.underlying t = some (.slice e)) (hsz : P.cellsOf e = K.sz) (h : Opens enc P e K G) :
    Opens enc P t (Kd.slice e' K) (fun ys => (∀ y ∈ ys, G y) ∧ ys.length * P.bytesOf e ≤ reachBytes) := by
  intro w fuel cs x hx hw
  rcases open_slice hu hx with ⟨rfl, rfl⟩ | ⟨a, len, cap, m, n, D, Pl, rfl, hb, hl, hm, hmm, rfl, hi⟩
  · exact ⟨[], ⟨none, 0, rfl, by simp, ⟨rfl, by simp, fun h => by simp at h⟩⟩, by simp, by simp⟩
  · have hmc : m = cap := by simpa using hmm
    subst hmc
    simp only [DataW.weights, hu, List.all_cons, List.all_append, Bool.and_eq_true, decide_eq_true_eq, List.length_map, List.length_range] at hw
    obtain ⟨ys, hyl, hys⟩ := list_of_lt (Q := fun i y => (∃ cs', w.cells? 0 (a.add (i * P.cellsOf e)) (P.cellsOf e) = some cs' ∧ K.K w y cs') ∧ G y) len (fun i hil => by
      obtain ⟨cs', hc, ht⟩ := hi i (by omega)
      obtain ⟨y, hy, gy⟩ := h w n cs' _ ht (weightsAll_mem hw.2.1 (List.mem_map.2 ⟨i, List.mem_range.2 hil, rfl⟩))
      exact ⟨y, ⟨cs', hc, hy⟩, gy⟩)
    refine ⟨ys, ⟨some a, m, by rw [hyl], by omega, hyl.trans hyl.symm |>.trans (by rfl), ?_, fun _ => ⟨a, rfl, fun j p hj => ?_⟩⟩, fun y hy => ?_, ?_⟩
    · unfold maxLen at hm
      omega
    · obtain ⟨⟨cs', hc, hk⟩, _⟩ := hys j p hj
      obtain ⟨_, hcl, hcell⟩ := World.cells?_some hc
      refine ⟨cs', by rw [hcl, hsz], hk, fun i u hu' => ?_⟩
      have hlt := (List.getElem?_eq_some_iff.1 hu').1
      rw [← Go.Deep.add_add, ← hsz, hcell i (by omega), hu']
    · obtain ⟨j, hj⟩ := List.getElem?_of_mem hy
      exact (hys j y hj).2
    · refine Nat.le_trans (Nat.mul_le_mul_right _ (show ys.length ≤ len + (m - len) by omega)) hw.1
/-- An argument of a law. -/
theorem Opens.arg {α : Type} {t : TypeId} {K : Kd α} {G : α → Prop} (h : Opens enc P t K G) {w : World} {v : Value} {d : DataW H} {p : List MemPlace} (ht : DataW.Trod enc P w 0 (fun _ => true) true t v d p)
    {ts : List TypeId} {ds : List (DataW H)} (hsz : (DataW.weightsEach P ts ds).all (· ≤ reachBytes) = true) {j : Nat} (hj : ts[j]? = some t) (hd : ds[j]? = some d) : ∃ y, K.K w y v.cells.toList ∧ G y := by
  obtain ⟨fuel, hf⟩ := ht
  exact h w fuel _ _ hf (List.all_eq_true.2 fun n hn => List.all_eq_true.1 hsz _ (DataW.weights_mem_each hj hd n hn))
end
end Go.Proofs.YtcjdhajdoikojaaW.Opens
end
section
/- What is known of the arguments of the laws. -/
namespace Go.Proofs.Ytcjdhajdoikojaa.Good
open Go.RowKit Go.Proofs.YtcjdhajdoikojaaW.PrintWords Go.Proofs.YtcjdhajdoikojaaW.PrintLast Go.Proofs.YtcjdhajdoikojaaW.PrintMore Go.Proofs.Ytcjdhajdoikojaa.Pr Go.Proofs.YtcjdhajdoikojaaW.Opens
set_option linter.unusedVariables false
def W24 (x : S24) : Prop := (Lit.int .i32 x.f0).wf = true ∧ ((∀ y ∈ x.f1, (Lit.int .i8 y).wf = true) ∧ x.f1.length * Try.prog.bytesOf 98 ≤ reachBytes)
theorem opens24 {H : Type} {enc : TypeId × Value → H} : Opens enc Try.prog 24 k24 W24 := Opens.struct (fun p => ⟨p.1, p.2⟩) Try.underlying24 (by kernel_rfl) (fun _ => rfl) (OpensFs.cons rfl (by kernel_rfl) (Opens.int Try.underlying21) (OpensFs.one rfl (by kernel_rfl) (Opens.slice 98 Try.underlying22 (by kernel_rfl) (Opens.int Try.underlying98))))
structure G26 where
  f0 : Int
  f1 : Int
def kG26 : Kd G26 := Kd.iso (Kd.pair (Kd.int .u32) (Kd.int .u32)) (fun x : G26 => (x.f0, x.f1))
def W26 (x : G26) : Prop := (Lit.int .u32 x.f0).wf = true ∧ (Lit.int .u32 x.f1).wf = true
theorem opens26 {H : Type} {enc : TypeId × Value → H} : Opens enc Try.prog 26 kG26 W26 := Opens.array (fun p => ⟨p.1, p.2⟩) Try.underlying26 (by kernel_rfl) (fun _ => rfl) (OpensAr.cons (by kernel_rfl) (Opens.int Try.underlying25) (OpensAr.one (by kernel_rfl) (Opens.int Try.underlying25)))
theorem kG26_open {w : World} {x : G26} {cs : List Value} (h : kG26.K w x cs) : cs = [.int .u32 x.f0, .int .u32 x.f1] := by
  obtain ⟨_, _, rfl, rfl, rfl⟩ := h
  exact rfl
def W91 (x : S91) : Prop := (Lit.int .u16 x.f0).wf = true ∧ (Lit.int .u16 x.f1).wf = true ∧ (Lit.int .u16 x.f2).wf = true ∧ (Lit.int .u16 x.f3).wf = true
theorem opens91 {H : Type} {enc : TypeId × Value → H} : Opens enc Try.prog 91 k91 W91 := Opens.array (fun p => ⟨p.1, p.2.1, p.2.2.1, p.2.2.2⟩) Try.underlying91 (by kernel_rfl) (fun _ => rfl) (OpensAr.cons (by kernel_rfl) (Opens.int Try.underlying47) (OpensAr.cons (by kernel_rfl) (Opens.int Try.underlying47) (OpensAr.cons (by kernel_rfl) (Opens.int Try.underlying47) (OpensAr.one (by kernel_rfl) (Opens.int Try.underlying47)))))
def W93 (x : S93) : Prop := (Lit.int .u32 x.f0).wf = true ∧ (Lit.int .u16 x.f1).wf = true ∧ (Lit.int .u16 x.f2).wf = true ∧ (Lit.int .u16 x.f3).wf = true ∧ W91 x.f4
theorem opens93 {H : Type} {enc : TypeId × Value → H} : Opens enc Try.prog 93 k93 W93 := Opens.struct (fun p => ⟨p.1, p.2.1, p.2.2.1, p.2.2.2.1, p.2.2.2.2⟩) Try.underlying93 (by kernel_rfl) (fun _ => rfl) (OpensFs.cons rfl (by kernel_rfl) (Opens.int Try.underlying25) (OpensFs.cons rfl (by kernel_rfl) (Opens.int Try.underlying47) (OpensFs.cons rfl (by kernel_rfl) (Opens.int Try.underlying47) (OpensFs.cons rfl (by kernel_rfl) (Opens.int Try.underlying47) (OpensFs.one rfl (by kernel_rfl) opens91)))))
end Go.Proofs.Ytcjdhajdoikojaa.Good
end
section
/- The arithmetic of clocks: no number leaves its range, so what is computed is what is meant. -/
namespace Go.Proofs.Ytcjdhajdoikojaa.Clk
open Go.RowKit Go.Proofs.YtcjdhajdoikojaaW.PrintWords Go.Proofs.YtcjdhajdoikojaaW.PrintMore Go.Proofs.Ytcjdhajdoikojaa.Pr

theorem wrap_id {n : Int} (h0 : -9223372036854775808 ≤ n) (h1 : n ≤ 9223372036854775807) : wrap64 n = n := by
  unfold wrap64
  omega
theorem mx_max (a b : Int) : mx a b = max a b := by
  unfold mx
  split <;> omega
theorem mn_min (a b : Int) : mn a b = min a b := by
  unfold mn
  split <;> omega
/-- The growth for a difference that is not negative. -/
def gro (rate d : Int) : Int := rate * (d / 1000000000) + (rate * (d % 1000000000) + 999999999) / 1000000000
theorem mul_bound {a b A B : Int} (h0 : 0 ≤ a) (h1 : a ≤ A) (h2 : 0 ≤ b) (h3 : b ≤ B) : 0 ≤ a * b ∧ a * b ≤ A * B :=
  ⟨Int.mul_nonneg h0 h2, Int.mul_le_mul h1 h3 h2 (Int.le_trans h0 h1)⟩
theorem gro_range {rate d : Int} (hr0 : 0 ≤ rate) (hr1 : rate ≤ 1000000) (hd0 : 0 ≤ d) (hd1 : d ≤ 2251799813685248) : 0 ≤ gro rate d ∧ gro rate d ≤ 2251801000000 := by
  unfold gro
  have h1 := mul_bound hr0 hr1 (show 0 ≤ d / 1000000000 by omega) (show d / 1000000000 ≤ 2251799 by omega)
  have h2 := mul_bound hr0 hr1 (show 0 ≤ d % 1000000000 by omega) (show d % 1000000000 ≤ 999999999 by omega)
  generalize rate * (d / 1000000000) = x at *
  generalize rate * (d % 1000000000) = y at *
  omega
theorem growI_eq {rate d : Int} (hr0 : 0 ≤ rate) (hr1 : rate ≤ 1000000) (hd0 : -2251799813685248 ≤ d) (hd1 : d ≤ 2251799813685248) : growI rate d = gro rate (max d (-d)) := by
  unfold growI clock_growth.f
  rw [Option.getD_some, wrap_id (n := -d) (by omega) (by omega), mx_max]
  have hm0 : 0 ≤ max d (-d) := by omega
  have hm1 : max d (-d) ≤ 2251799813685248 := by omega
  generalize max d (-d) = m at *
  have h1 := mul_bound hr0 hr1 (show 0 ≤ m / 1000000000 by omega) (show m / 1000000000 ≤ 2251799 by omega)
  have h2 := mul_bound hr0 hr1 (show 0 ≤ m % 1000000000 by omega) (show m % 1000000000 ≤ 999999999 by omega)
  have e1 : Int.tdiv m 1000000000 = m / 1000000000 := Int.tdiv_eq_ediv_of_nonneg hm0
  have e2 : Int.tmod m 1000000000 = m % 1000000000 := Int.tmod_eq_emod_of_nonneg hm0
  rw [e1, e2, wrap_id (n := m / 1000000000) (by omega) (by omega)]
  unfold gro
  generalize rate * (m / 1000000000) = x at *
  generalize rate * (m % 1000000000) = y at *
  rw [wrap_id (n := x) (by omega) (by omega), wrap_id (n := y) (by omega) (by omega), wrap_id (n := y + 1000000000) (by omega) (by omega), wrap_id (n := y + 1000000000 - 1) (by omega) (by omega)]
  have e3 : Int.tdiv (y + 1000000000 - 1) 1000000000 = (y + 1000000000 - 1) / 1000000000 := Int.tdiv_eq_ediv_of_nonneg (by omega)
  rw [e3, show y + 1000000000 - 1 = y + 999999999 by omega, wrap_id (n := (y + 999999999) / 1000000000) (by omega) (by omega), wrap_id (by omega) (by omega)]

/-- An anchor whose numbers are in their ranges. -/
def VA (a : S105) : Prop := 0 ≤ a.f1 ∧ a.f1 ≤ 1125899906842624 ∧ -1073741824 ≤ a.f0.f0 ∧ a.f0.f0 ≤ a.f0.f1 ∧ a.f0.f1 ≤ 1073741824
theorem okS_iff {lo hi : Int} : okS lo hi = true ↔ lo ≤ hi ∧ -1073741824 ≤ lo ∧ hi ≤ 1073741824 := by
  unfold okS
  simp only [Bool.not_eq_true', Bool.or_eq_false_iff, decide_eq_false_iff_not]
  omega
theorem va_anchor {rate : Int} {x : S46} (h : okE rate x = true) : VA (anchorI rate x) := by
  have hb := okE_back h
  unfold okE at h
  simp only [Bool.and_eq_true, okS_iff] at h
  exact ⟨hb.1, hb.2, h.2.2.1, h.2.1, h.2.2.2⟩
theorem faceE_rate {par rate : Int} {xs : List S46} (h : faceE par rate xs = 0) : -1 ≤ par ∧ 0 ≤ rate ∧ rate ≤ 1000000 := by
  unfold faceE at h
  by_cases hl : xs.length < 1 ∨ xs.length > 64
  · rw [if_pos hl] at h
    cases h
  rw [if_neg hl] at h
  by_cases hp : par < -1 ∨ rate < 0 ∨ rate > 1000000
  · rw [if_pos hp] at h
    cases h
  omega
theorem va_all {par rate : Int} {xs : List S46} (h : faceE par rate xs = 0) : ∀ a ∈ xs.map (anchorI rate), VA a := by
  intro a ha
  obtain ⟨x, hx, rfl⟩ := List.mem_map.1 ha
  exact va_anchor ((faceE_one h).2 x hx)
/-- The difference of two readings, without its sign. -/
def dis (s t : Int) : Int := max (t - s) (-(t - s))
theorem seenI_eq {rate t : Int} {a : S105} (hr0 : 0 ≤ rate) (hr1 : rate ≤ 1000000) (ha : VA a) (ht0 : -1125899906842624 ≤ t) (ht1 : t ≤ 2251799813685248) :
    seenI rate a t = ⟨a.f0.f0 - gro rate (dis a.f1 t), a.f0.f1 + gro rate (dis a.f1 t)⟩ := by
  obtain ⟨h1, h2, h3, h4, h5⟩ := ha
  unfold seenI shiftI
  rw [wrap_id (n := t - a.f1) (by omega) (by omega), growI_eq hr0 hr1 (by omega) (by omega), show max (t - a.f1) (-(t - a.f1)) = dis a.f1 t from rfl]
  have hg := gro_range hr0 hr1 (d := dis a.f1 t) (by unfold dis; omega) (by unfold dis; omega)
  generalize gro rate (dis a.f1 t) = g at *
  rw [Int.add_zero, Int.add_zero, wrap_id (n := a.f0.f0) (by omega) (by omega), wrap_id (n := a.f0.f1) (by omega) (by omega), wrap_id (n := a.f0.f0 - g) (by omega) (by omega), wrap_id (n := a.f0.f1 + g) (by omega) (by omega)]
theorem meetF_two {x y : S35} (h1 : -9223372036854775808 ≤ x.f0) (h2 : x.f1 ≤ 9223372036854775807) : meetF [x, y] = (max x.f0 y.f0, min x.f1 y.f1) := by
  unfold meetF
  simp only [List.foldl_cons, List.foldl_nil, mx_max, mn_min]
  rw [show max (-9223372036854775808) x.f0 = x.f0 by omega, show min (9223372036854775807) x.f1 = x.f1 by omega]
/-- Two anchors are apart. -/
def apartA (rate : Int) (a b : S105) : Bool := decide (b.f0.f1 + gro rate (dis a.f1 b.f1) < a.f0.f0) || decide (a.f0.f1 + gro rate (dis a.f1 b.f1) < b.f0.f0)
theorem conI_eq {rate i k : Int} {ys : List S105} (hr0 : 0 ≤ rate) (hr1 : rate ≤ 1000000) (hne : i ≠ k) (hi : VA (rd_T105 ys i)) (hk : VA (rd_T105 ys k)) : conI rate ys i k = apartA rate (rd_T105 ys i) (rd_T105 ys k) := by
  unfold conI
  rw [if_neg hne]
  generalize rd_T105 ys i = a at *
  generalize rd_T105 ys k = b at *
  obtain ⟨b1, b2, b3, b4, b5⟩ := hk
  rw [seenI_eq hr0 hr1 hi (by omega) (by omega)]
  obtain ⟨a1, a2, a3, a4, a5⟩ := hi
  unfold apartA
  have hg := gro_range hr0 hr1 (d := dis a.f1 b.f1) (by unfold dis; omega) (by unfold dis; omega)
  generalize gro rate (dis a.f1 b.f1) = g at *
  rw [meetF_two (by show _ ≤ a.f0.f0 - g; omega) (by show a.f0.f1 + g ≤ _; omega)]
  dsimp only
  rw [Bool.eq_iff_iff]
  simp only [Bool.not_eq_true', decide_eq_false_iff_not, Bool.or_eq_true, decide_eq_true_eq]
  omega
theorem rd_mem {ys : List S105} {i : Int} (h0 : 0 ≤ i) (h1 : i < (ys.length : Int)) : rd_T105 ys i ∈ ys := by
  unfold rd_T105
  rw [List.getD_eq_getElem?_getD, List.getElem?_eq_getElem (by omega)]
  exact List.getElem_mem _
/-- What the pair that is found says. -/
theorem mem_pairsL {n : Nat} {p : Int × Int} : p ∈ pairsL n ↔ 0 ≤ p.1 ∧ p.1 < p.2 ∧ p.2 < (n : Int) := by
  unfold pairsL
  rw [List.mem_flatMap]
  constructor
  · rintro ⟨k, hk, hp⟩
    obtain ⟨i, hi, rfl⟩ := List.mem_map.1 hp
    have := List.mem_range.1 hk
    have := List.mem_range.1 hi
    dsimp only
    omega
  · rintro ⟨h0, h1, h2⟩
    refine ⟨p.2.toNat, List.mem_range.2 (by omega), List.mem_map.2 ⟨p.1.toNat, List.mem_range.2 (by omega), ?_⟩⟩
    ext
    · dsimp only; omega
    · dsimp only; omega
end Go.Proofs.Ytcjdhajdoikojaa.Clk
end
section
/- How the offset of a clock changes with the reading: behind the last exchange it becomes no narrower; halving finds the first reading. -/
namespace Go.Proofs.Ytcjdhajdoikojaa.Clk
open Go.RowKit Go.Proofs.YtcjdhajdoikojaaW.PrintWords Go.Proofs.YtcjdhajdoikojaaW.PrintMore Go.Proofs.Ytcjdhajdoikojaa.Pr

theorem gro_ceil (rate d : Int) : gro rate d = (rate * d + 999999999) / 1000000000 := by
  unfold gro
  have e : rate * d = rate * (d % 1000000000) + 1000000000 * (rate * (d / 1000000000)) := by
    conv => lhs; rw [← Int.emod_add_mul_ediv d 1000000000]
    rw [Int.mul_add, Int.mul_left_comm]
  rw [e]
  generalize rate * (d % 1000000000) = y
  generalize rate * (d / 1000000000) = x
  omega
/-- The common part of spans that are given by their ends. -/
def meetU {α : Type} (lo hi : α → Int) (o : Int × Int) (l : List α) : Int × Int := l.foldl (fun o a => (max o.1 (lo a), min o.2 (hi a))) o
theorem meetU_range {α : Type} {lo hi : α → Int} {A B : Int} : ∀ (l : List α) (o : Int × Int), A ≤ o.1 → o.1 ≤ B → A ≤ o.2 → o.2 ≤ B → (∀ a ∈ l, (A ≤ lo a ∧ lo a ≤ B) ∧ (A ≤ hi a ∧ hi a ≤ B)) → (A ≤ (meetU lo hi o l).1 ∧ (meetU lo hi o l).1 ≤ B) ∧ (A ≤ (meetU lo hi o l).2 ∧ (meetU lo hi o l).2 ≤ B)
  | [], o, h1, h2, h3, h4, _ => ⟨⟨h1, h2⟩, h3, h4⟩
  | a :: l, o, h1, h2, h3, h4, h => by
    have ha := h a List.mem_cons_self
    exact meetU_range l _ (by dsimp only; omega) (by dsimp only; omega) (by dsimp only; omega) (by dsimp only; omega) (fun b hb => h b (List.mem_cons_of_mem _ hb))
/-- The ends of an anchor that is seen at a reading. -/
def loA (rate t : Int) (a : S105) : Int := a.f0.f0 - gro rate (dis a.f1 t)
def hiA (rate t : Int) (a : S105) : Int := a.f0.f1 + gro rate (dis a.f1 t)
def top : Int × Int := (-9223372036854775808, 9223372036854775807)
theorem foldl_meetU {rate t : Int} (hr0 : 0 ≤ rate) (hr1 : rate ≤ 1000000) (ht0 : -1125899906842624 ≤ t) (ht1 : t ≤ 2251799813685248) : ∀ (ys : List S105) (o : Int × Int), (∀ a ∈ ys, VA a) → (ys.map fun a => seenI rate a t).foldl (fun o a => (mx o.1 a.f0, mn o.2 a.f1)) o = meetU (loA rate t) (hiA rate t) o ys
  | [], _, _ => rfl
  | a :: l, o, h => by
    rw [List.map_cons, List.foldl_cons, seenI_eq hr0 hr1 (h a List.mem_cons_self) ht0 ht1, mx_max, mn_min]
    exact foldl_meetU hr0 hr1 ht0 ht1 l _ (fun b hb => h b (List.mem_cons_of_mem _ hb))
theorem atI_eq {rate t : Int} {ys : List S105} (hr0 : 0 ≤ rate) (hr1 : rate ≤ 1000000) (ht0 : -1125899906842624 ≤ t) (ht1 : t ≤ 2251799813685248) (hv : ∀ a ∈ ys, VA a) : atI rate ys t = meetU (loA rate t) (hiA rate t) top ys := foldl_meetU hr0 hr1 ht0 ht1 ys _ hv
theorem ends_range {rate t : Int} {a : S105} (hr0 : 0 ≤ rate) (hr1 : rate ≤ 1000000) (ht0 : -1125899906842624 ≤ t) (ht1 : t ≤ 2251799813685248) (ha : VA a) : (-2260000000000 ≤ loA rate t a ∧ loA rate t a ≤ 2260000000000) ∧ (-2260000000000 ≤ hiA rate t a ∧ hiA rate t a ≤ 2260000000000) := by
  obtain ⟨h1, h2, h3, h4, h5⟩ := ha
  have hg := gro_range hr0 hr1 (d := dis a.f1 t) (by unfold dis; omega) (by unfold dis; omega)
  unfold loA hiA
  omega
theorem atI_range {rate t : Int} {ys : List S105} (hr0 : 0 ≤ rate) (hr1 : rate ≤ 1000000) (ht0 : -1125899906842624 ≤ t) (ht1 : t ≤ 2251799813685248) (hv : ∀ a ∈ ys, VA a) (h1 : 1 ≤ ys.length) : (-2260000000000 ≤ (atI rate ys t).1 ∧ (atI rate ys t).1 ≤ 2260000000000) ∧ (-2260000000000 ≤ (atI rate ys t).2 ∧ (atI rate ys t).2 ≤ 2260000000000) := by
  rw [atI_eq hr0 hr1 ht0 ht1 hv]
  cases ys with
  | nil => simp at h1
  | cons a l =>
    have ha := ends_range hr0 hr1 ht0 ht1 (hv a List.mem_cons_self)
    exact meetU_range l _ (by show _ ≤ max (-9223372036854775808) _; omega) (by show max (-9223372036854775808) _ ≤ _; omega) (by show _ ≤ min 9223372036854775807 _; omega) (by show min 9223372036854775807 _ ≤ _; omega) (fun b hb => ends_range hr0 hr1 ht0 ht1 (hv b (List.mem_cons_of_mem _ hb)))
end Go.Proofs.Ytcjdhajdoikojaa.Clk
end
section
/- Valid exchanges and their offsets, in clean numbers. -/
namespace Go.Proofs.Ytcjdhajdoikojaa.Clk
open Go.RowKit Go.Proofs.YtcjdhajdoikojaaW.PrintWords Go.Proofs.YtcjdhajdoikojaaW.PrintMore Go.Proofs.Ytcjdhajdoikojaa.Pr

theorem okT_iff {t : Int} : okT t = true ↔ 0 ≤ t ∧ t ≤ 1125899906842624 := by
  unfold okT
  simp only [Bool.and_eq_true, decide_eq_true_eq]
theorem okX_iff {x : S46} : okX x = true ↔ (0 ≤ x.f0 ∧ x.f0 ≤ x.f3 ∧ x.f3 ≤ 1125899906842624) ∧ (0 ≤ x.f1 ∧ x.f1 ≤ x.f2 ∧ x.f2 ≤ 1125899906842624) ∧ (0 ≤ x.f4.f0 ∧ x.f4.f0 ≤ x.f4.f1 ∧ x.f4.f1 ≤ 1073741824) ∧ (0 ≤ x.f5.f0 ∧ x.f5.f0 ≤ x.f5.f1 ∧ x.f5.f1 ≤ 1073741824) := by
  unfold okX
  simp only [Bool.and_eq_true, okT_iff, okS_iff, Bool.not_eq_true', decide_eq_false_iff_not]
  omega
/-- The offset by an exchange, in clean numbers. -/
def offC (rate : Int) (x : S46) : Int × Int :=
  (max (x.f1 - x.f0 - x.f4.f1 - gro rate (x.f3 - x.f0)) (x.f2 - x.f3 + x.f5.f0), min (x.f1 - x.f0 - x.f4.f0 + gro rate (x.f3 - x.f0)) (x.f2 - x.f3 + x.f5.f1))
theorem offsetI_eq {rate : Int} {x : S46} (hr0 : 0 ≤ rate) (hr1 : rate ≤ 1000000) (h : okX x = true) : offsetI x rate = offC rate x := by
  obtain ⟨⟨a1, a2, a3⟩, ⟨b1, b2, b3⟩, ⟨c1, c2, c3⟩, d1, d2, d3⟩ := okX_iff.1 h
  unfold offsetI forthI homeI shiftI offC
  rw [wrap_id (n := x.f3 - x.f0) (by omega) (by omega), growI_eq hr0 hr1 (by omega) (by omega), show max (x.f3 - x.f0) (-(x.f3 - x.f0)) = x.f3 - x.f0 by omega]
  have hg := gro_range hr0 hr1 (d := x.f3 - x.f0) (by omega) (by omega)
  generalize gro rate (x.f3 - x.f0) = g at *
  simp (disch := omega) only [wrap_id]
  rw [meetF_two (by dsimp only; omega) (by dsimp only; omega)]
  dsimp only
  ext
  · dsimp only; omega
  · dsimp only; omega
theorem rd_lt {xs : List S46} {i : Nat} (h : i < xs.length) : rd_T46 xs (i : Int) = xs[i] := by
  unfold rd_T46
  rw [List.getD_eq_getElem?_getD, Int.toNat_natCast, List.getElem?_eq_getElem h]
  rfl
/-- Which exchanges are valid for a clock of a rate, in clean numbers. -/
theorem okE_iff {rate : Int} {x : S46} (hr0 : 0 ≤ rate) (hr1 : rate ≤ 1000000) : okE rate x = true ↔ okX x = true ∧ okS (offC rate x).1 (offC rate x).2 = true := by
  unfold okE
  simp only [Bool.and_eq_true, decide_eq_true_eq]
  constructor
  · rintro ⟨⟨h1, h2⟩, h3⟩
    rw [offsetI_eq hr0 hr1 h1] at h3
    exact ⟨h1, h3⟩
  · rintro ⟨h1, h3⟩
    rw [offsetI_eq hr0 hr1 h1]
    exact ⟨⟨h1, (okS_iff.1 h3).1⟩, h3⟩
/-- What is known of a valid clock's anchors. -/
theorem anchor_eq {rate : Int} {x : S46} (hr0 : 0 ≤ rate) (hr1 : rate ≤ 1000000) (h : okX x = true) : anchorI rate x = ⟨⟨(offC rate x).1, (offC rate x).2⟩, x.f3⟩ := by
  unfold anchorI
  rw [offsetI_eq hr0 hr1 h]
theorem faceE_all {par rate : Int} {xs : List S46} (h : faceE par rate xs = 0) : ∀ x ∈ xs, okE rate x = true := by
  have hr := faceE_rate h
  have hl := faceE_len h
  have h1 := (faceE_one h).1
  unfold faceE at h
  rw [if_neg (by omega), if_neg (by omega)] at h
  by_cases ha : xs.all (okE rate) = true
  · exact List.all_eq_true.1 ha
  · rw [if_neg ha] at h
    cases h
end Go.Proofs.Ytcjdhajdoikojaa.Clk
end
section
/- The offset of a valid and sound clock, in clean numbers: the common part of what its exchanges say. -/
namespace Go.Proofs.Ytcjdhajdoikojaa.Clk
open Go.RowKit Go.Proofs.YtcjdhajdoikojaaW.PrintWords Go.Proofs.YtcjdhajdoikojaaW.PrintMore Go.Proofs.Ytcjdhajdoikojaa.Pr
theorem meetU_map {α β : Type} (lo hi : β → Int) (f : α → β) : ∀ (l : List α) (o : Int × Int), meetU lo hi o (l.map f) = meetU (fun x => lo (f x)) (fun x => hi (f x)) o l
  | [], _ => rfl
  | _ :: l, _ => meetU_map lo hi f l _
theorem meetU_congr {α : Type} {lo hi lo' hi' : α → Int} : ∀ (l : List α) (o : Int × Int), (∀ a ∈ l, lo a = lo' a ∧ hi a = hi' a) → meetU lo hi o l = meetU lo' hi' o l
  | [], _, _ => rfl
  | a :: l, o, h => by
    have ha := h a List.mem_cons_self
    show meetU lo hi (max o.1 (lo a), min o.2 (hi a)) l = meetU lo' hi' (max o.1 (lo' a), min o.2 (hi' a)) l
    rw [ha.1, ha.2]
    exact meetU_congr l _ (fun b hb => h b (List.mem_cons_of_mem _ hb))
/-- The ends of what an exchange says at a reading. -/
def loX (rate t : Int) (x : S46) : Int := (offC rate x).1 - gro rate (dis x.f3 t)
def hiX (rate t : Int) (x : S46) : Int := (offC rate x).2 + gro rate (dis x.f3 t)
theorem at_meetI {par rate t : Int} {xs : List S46} (hf : faceE par rate xs = 0) (ht0 : -1125899906842624 ≤ t) (ht1 : t ≤ 2251799813685248) : atI rate (xs.map (anchorI rate)) t = meetU (loX rate t) (hiX rate t) top xs := by
  obtain ⟨_, hr0, hr1⟩ := faceE_rate hf
  rw [atI_eq hr0 hr1 ht0 ht1 (va_all hf), meetU_map]
  refine meetU_congr xs _ fun x hx => ?_
  have hE := faceE_all hf x hx
  rw [anchor_eq hr0 hr1 ((okE_iff hr0 hr1).1 hE).1]
  exact ⟨rfl, rfl⟩
end Go.Proofs.Ytcjdhajdoikojaa.Clk
end
section
/- The true offset of a clock: it changes no faster than the rate, and every exchange that is made of it holds it. -/
namespace Go.Proofs.Ytcjdhajdoikojaa.Clk
open Go.RowKit Go.Proofs.YtcjdhajdoikojaaW.PrintWords Go.Proofs.YtcjdhajdoikojaaW.PrintMore Go.Proofs.Ytcjdhajdoikojaa.Pr

theorem tdiv_bound {rate s : Int} (hr0 : 0 ≤ rate) (h0 : -128 ≤ s) (h1 : s ≤ 128) : -rate ≤ Int.tdiv (rate * s) 128 ∧ Int.tdiv (rate * s) 128 ≤ rate := by
  have a1 := Int.mul_le_mul_of_nonneg_left h1 hr0
  have a2 := Int.mul_le_mul_of_nonneg_left h0 hr0
  generalize rate * s = x at *
  rw [Int.tdiv_eq_ediv]
  simp only [show Int.sign 128 = 1 from rfl]
  split <;> omega
/-- How many readings of part i lie before a reading. -/
def partD (t : Int) (i : Nat) : Int := min 1000000 (max 0 (t - (i : Int) * 1000000))
def pieceSum (rate t : Int) : List Int → Nat → Int
  | [], _ => 0
  | s :: l, i => partD t i * Int.tdiv (rate * s) 128 + pieceSum rate t l (i + 1)
def clampC (t : Int) (i n : Nat) : Int := min ((n : Int) * 1000000) (max 0 (t - (i : Int) * 1000000))
theorem clamp_cons (t : Int) (i n : Nat) : clampC t i (n + 1) = partD t i + clampC t (i + 1) n := by
  unfold clampC partD
  omega
theorem mul_abs {k rate x : Int} (h0 : -rate ≤ k) (h1 : k ≤ rate) (hx : 0 ≤ x) : -(rate * x) ≤ x * k ∧ x * k ≤ rate * x := by
  have a1 := Int.mul_le_mul_of_nonneg_left h1 hx
  have a2 := Int.mul_le_mul_of_nonneg_left h0 hx
  rw [Int.mul_neg] at a2
  rw [Int.mul_comm rate x]
  omega
theorem piece_lip {rate s t : Int} (hr0 : 0 ≤ rate) (hst : s ≤ t) : ∀ (l : List Int) (i : Nat), (∀ x ∈ l, -128 ≤ x ∧ x ≤ 128) → -(rate * (clampC t i l.length - clampC s i l.length)) ≤ pieceSum rate t l i - pieceSum rate s l i ∧ pieceSum rate t l i - pieceSum rate s l i ≤ rate * (clampC t i l.length - clampC s i l.length)
  | [], i, _ => by
    have h : ∀ t, clampC t i 0 = 0 := fun t => by unfold clampC; omega
    rw [List.length_nil, h, h]
    simp [pieceSum]
  | x :: l, i, h => by
    have ih := piece_lip hr0 hst l (i + 1) (fun y hy => h y (List.mem_cons_of_mem _ hy))
    have hx := h x List.mem_cons_self
    have hk := tdiv_bound hr0 hx.1 hx.2
    have hd : 0 ≤ partD t i - partD s i := by unfold partD; omega
    have hm := mul_abs hk.1 hk.2 hd
    rw [List.length_cons, clamp_cons, clamp_cons]
    have e : pieceSum rate t (x :: l) i - pieceSum rate s (x :: l) i = (partD t i - partD s i) * Int.tdiv (rate * x) 128 + (pieceSum rate t l (i + 1) - pieceSum rate s l (i + 1)) := by
      show partD t i * Int.tdiv (rate * x) 128 + pieceSum rate t l (i + 1) - (partD s i * Int.tdiv (rate * x) 128 + pieceSum rate s l (i + 1)) = _
      rw [Int.sub_mul]
      omega
    rw [e, show partD t i + clampC t (i + 1) l.length - (partD s i + clampC s (i + 1) l.length) = (partD t i - partD s i) + (clampC t (i + 1) l.length - clampC s (i + 1) l.length) by omega, Int.mul_add]
    omega
/-- The true offset, in clean numbers. -/
def truthC (start : Int) (slow : List Int) (rate t : Int) : Int := start * 1000000000 + pieceSum rate t (slow.take 20) 0
theorem truth_lip {start rate s t : Int} {slow : List Int} (hr0 : 0 ≤ rate) (hs : ∀ x ∈ slow, -128 ≤ x ∧ x ≤ 128) (hst : s ≤ t) : -(rate * (t - s)) ≤ truthC start slow rate t - truthC start slow rate s ∧ truthC start slow rate t - truthC start slow rate s ≤ rate * (t - s) := by
  have h := piece_lip hr0 hst (slow.take 20) 0 (fun x hx => hs x (List.mem_of_mem_take hx))
  have hc : clampC t 0 (slow.take 20).length - clampC s 0 (slow.take 20).length ≤ t - s := by unfold clampC; omega
  have hm := Int.mul_le_mul_of_nonneg_left hc hr0
  unfold truthC
  omega
theorem rd_int_lt {l : List Int} {i : Nat} (h : i < l.length) : rd l (i : Int) = l[i] := by
  unfold rd
  rw [List.getD_eq_getElem?_getD, Int.toNat_natCast, List.getElem?_eq_getElem h]
  rfl
theorem tof_loop_eq {rate t start : Int} {slow : List Int} (hr0 : 0 ≤ rate) (hr1 : rate ≤ 1000000) (ht0 : -1000000000000000 ≤ t) (ht1 : t ≤ 1000000000000000) (hs : ∀ x ∈ slow, -128 ≤ x ∧ x ≤ 127) : ∀ (m i k : Nat) (acc : Int), i + m = 20 → m + 1 ≤ k → -2147483648000000000 - (i : Int) * 1000000000000 ≤ acc → acc ≤ 2147483648000000000 + (i : Int) * 1000000000000 →
    isobathlaw05_Truth_offset.l0 k rate t acc (i : Int) start slow = some (acc + pieceSum rate t ((slow.take 20).drop i) i) ∧ (-2147483648000000000 - 20 * 1000000000000 ≤ acc + pieceSum rate t ((slow.take 20).drop i) i ∧ acc + pieceSum rate t ((slow.take 20).drop i) i ≤ 2147483648000000000 + 20 * 1000000000000) := by
  intro m
  induction m with
  | zero =>
    intro i k acc h hk h0 h1
    obtain ⟨k, rfl⟩ : ∃ q, k = q + 1 := ⟨k - 1, by omega⟩
    have hd : (slow.take 20).drop i = [] := List.drop_of_length_le (by rw [List.length_take]; omega)
    rw [isobathlaw05_Truth_offset.l0, if_neg (show ¬ ((i : Int) < 20) by omega), hd]
    refine ⟨?_, by show _ ≤ acc + 0 ∧ acc + 0 ≤ _; omega⟩
    split <;> simp [pieceSum]
  | succ m ih =>
    intro i k acc h hk h0 h1
    obtain ⟨k, rfl⟩ : ∃ q, k = q + 1 := ⟨k - 1, by omega⟩
    by_cases hi : i < slow.length
    · have hd : (slow.take 20).drop i = slow[i] :: (slow.take 20).drop (i + 1) := by
        rw [List.drop_eq_getElem_cons (by rw [List.length_take]; omega), List.getElem_take]
      have hx := hs slow[i] (List.getElem_mem hi)
      have hk1 := tdiv_bound hr0 hx.1 (show slow[i] ≤ 128 by omega)
      have hp := mul_bound hr0 hr1 (show 0 ≤ slow[i] + 128 by omega) (show slow[i] + 128 ≤ 255 by omega)
      rw [Int.mul_add] at hp
      have hD : 0 ≤ partD t i ∧ partD t i ≤ 1000000 := by unfold partD; omega
      have hm := mul_abs hk1.1 hk1.2 hD.1
      have hrD := mul_bound hr0 hr1 hD.1 hD.2
      rw [isobathlaw05_Truth_offset.l0, if_pos (by omega), if_pos (by omega), if_pos (by omega), rd_int_lt hi, wrap_id (n := slow[i]) (by omega) (by omega), wrap_id (n := rate * slow[i]) (by omega) (by omega), wrap_id (n := Int.tdiv (rate * slow[i]) 128) (by omega) (by omega), wrap_id (n := (i : Int) * 1000000) (by omega) (by omega), wrap_id (n := t - (i : Int) * 1000000) (by omega) (by omega), mn_min, mx_max]
      have e : min 1000000 (max 0 (t - (i : Int) * 1000000)) = partD t i := rfl
      rw [e, wrap_id (n := partD t i * Int.tdiv (rate * slow[i]) 128) (by omega) (by omega), wrap_id (n := acc + _) (by omega) (by omega), wrap_id (n := (i : Int) + 1) (by omega) (by omega), show ((i : Int) + 1) = ((i + 1 : Nat) : Int) by omega]
      have hh := ih (i + 1) k (acc + partD t i * Int.tdiv (rate * slow[i]) 128) (by omega) (by omega) (by omega) (by omega)
      have e2 : acc + pieceSum rate t ((slow.take 20).drop i) i = acc + partD t i * Int.tdiv (rate * slow[i]) 128 + pieceSum rate t ((slow.take 20).drop (i + 1)) (i + 1) := by
        rw [hd]
        show acc + (partD t i * Int.tdiv (rate * slow[i]) 128 + pieceSum rate t ((slow.take 20).drop (i + 1)) (i + 1)) = _
        omega
      rw [e2]
      exact hh
    · have hd : (slow.take 20).drop i = [] := List.drop_of_length_le (by rw [List.length_take]; omega)
      rw [isobathlaw05_Truth_offset.l0, if_neg (by omega), hd]
      exact ⟨by simp [pieceSum], by show _ ≤ acc + 0 ∧ acc + 0 ≤ _; omega⟩
theorem tof_eq {rate t start : Int} {slow : List Int} (hr0 : 0 ≤ rate) (hr1 : rate ≤ 1000000) (ht0 : -1000000000000000 ≤ t) (ht1 : t ≤ 1000000000000000) (hs : ∀ x ∈ slow, -128 ≤ x ∧ x ≤ 127) (h0 : -2147483648 ≤ start) (h1 : start ≤ 2147483647) :
    (∀ k, 21 ≤ k → isobathlaw05_Truth_offset.f k start slow rate t = some (truthC start slow rate t)) ∧ tofI start slow rate t = truthC start slow rate t ∧ (-2147503648000000000 ≤ truthC start slow rate t ∧ truthC start slow rate t ≤ 2147503648000000000) := by
  have hh : ∀ k, 21 ≤ k → _ := fun k hk => tof_loop_eq hr0 hr1 ht0 ht1 hs 20 0 k (start * 1000000000) (by omega) hk (start := start) (by omega) (by omega)
  have hw : wrap64 (wrap64 start * 1000000000) = start * 1000000000 := by
    rw [wrap_id (n := start) (by omega) (by omega), wrap_id (by omega) (by omega)]
  have hf : ∀ k, 21 ≤ k → isobathlaw05_Truth_offset.f k start slow rate t = some (truthC start slow rate t) := fun k hk => by
    unfold isobathlaw05_Truth_offset.f truthC
    rw [hw]
    have := (hh k hk).1
    rw [List.drop_zero] at this
    exact this
  refine ⟨hf, ?_, ?_⟩
  · have := hf 30 (by omega)
    rw [tof_some] at this
    exact Option.some.inj this
  · have := (hh 30 (by omega)).2
    rw [List.drop_zero] at this
    unfold truthC
    omega
theorem downI_eq {a : Int} (h0 : -9000000000000000000 ≤ a) (h1 : a ≤ 9000000000000000000) : downI a = a / 1000000000 := by
  unfold downI isobathlaw05_down.f
  rw [Int.tmod_eq_emod, Int.tdiv_eq_ediv]
  simp only [show Int.sign 1000000000 = 1 from rfl]
  by_cases h : 0 ≤ a ∨ (1000000000 : Int) ∣ a
  · rw [if_pos h, if_pos h, if_neg (by omega), Option.getD_some, wrap_id (by omega) (by omega)]
    omega
  · rw [if_neg h, if_neg h, if_pos (by simp; omega), Option.getD_some, wrap_id (n := a / 1000000000 + 1) (by omega) (by omega), wrap_id (by omega) (by omega)]
    omega
theorem upwI_eq {a : Int} (h0 : -9000000000000000000 ≤ a) (h1 : a ≤ 9000000000000000000) : upwI a = -((-a) / 1000000000) := by
  unfold upwI
  rw [wrap_id (n := -a) (by omega) (by omega), downI_eq (by omega) (by omega), wrap_id (by omega) (by omega)]
/-- The exchange of a talk. -/
def talkX (start : Int) (slow : List Int) (rate : Int) (x : S93) : S46 :=
  ⟨xSent x.f0, xHeard start slow rate x.f0 x.f2, xAns start slow rate x.f0 x.f1 x.f3, xBack x.f0 x.f1, ⟨xLo x.f2 x.f4.f0, xHi x.f2 x.f4.f1⟩, ⟨xLo x.f3 x.f4.f2, xHi x.f3 x.f4.f3⟩⟩
/-- An exchange holds the truth at its reading. -/
def HoldsX (rate : Int) (T : Int → Int) (x : S46) : Prop := (offC rate x).1 * 1000000000 ≤ T x.f3 ∧ T x.f3 ≤ (offC rate x).2 * 1000000000
theorem gro_mul {rate d : Int} : rate * d ≤ gro rate d * 1000000000 := by
  rw [gro_ceil]
  omega
end Go.Proofs.Ytcjdhajdoikojaa.Clk
end
section
-- PRINTED by print.py (a twelfth state) out of the translation. Not trusted: Lean checks it.
namespace Go.Proofs.Ytcjdhajdoikojaa.Pr
open Go.RowKit Go.Proofs.YtcjdhajdoikojaaW.PrintWords Go.Proofs.YtcjdhajdoikojaaW.PrintLast Go.Proofs.YtcjdhajdoikojaaW.PrintMore
attribute [local go_sem] max2_int min2_int max_two min_two
set_option linter.unusedVariables false
set_option linter.unusedSimpArgs false

/-! ### isobathref05_Offset: function 28 -/
end Go.Proofs.Ytcjdhajdoikojaa.Pr
end
section
-- PRINTED by print.py (a twelfth state) out of the translation. Not trusted: Lean checks it.
namespace Go.Proofs.Ytcjdhajdoikojaa.Pr
open Go.RowKit Go.Proofs.YtcjdhajdoikojaaW.PrintWords Go.Proofs.YtcjdhajdoikojaaW.PrintLast Go.Proofs.YtcjdhajdoikojaaW.PrintMore
attribute [local go_sem] max2_int min2_int max_two min_two
set_option linter.unusedVariables false
set_option linter.unusedSimpArgs false

/-! ### isobathref05_at: function 70 -/
end Go.Proofs.Ytcjdhajdoikojaa.Pr
end
