/- Part 11 of the proof of TopCurrents: what the functions compute. No condition. -/
import Derived.Test.YthglkoddmpicdaaTcTopCurrents3
import Derived.Test.YthglkoddmpicdaaTcTopCurrents10
import Derived.Test.YthglkoddmpicdaaTcTopCurrents4
set_option linter.unusedVariables false
set_option linter.unusedSimpArgs false
section
namespace Go.Proofs.Ythglkoddmpicdaa.Pr
open Go.RowKit Go.Proofs.YthglkoddmpicdaaW.PrintWords Go.Proofs.YthglkoddmpicdaaW.PrintLast Go.Proofs.YthglkoddmpicdaaW.PrintMore
attribute [local go_sem] max2_int min2_int max_two min_two max_four
set_option linter.unusedVariables false
set_option linter.unusedSimpArgs false

/-! ### bound_Hull: function 16 -/
def bound_Hull.f (k : Nat) (a0_0 : Int) (a0_1 : Int) (a1_0 : Int) (a1_1 : Int) : Option (Int × Int × Int) := (bound_check.f k (([(⟨a0_0, a0_1⟩ : S27), (⟨a1_0, a1_1⟩ : S27)] : List (S27)))).bind fun t238 => (if t238 = 0 then ((bound_least.f (([a0_0, a0_1, a1_0, a1_1] : List Int))).bind fun bt242 => (some (bt242.1, bt242.2, 0))) else (some (0, 0, t238)))
set_option maxHeartbeats 8000000 in
set_option maxRecDepth 100000 in
theorem bound_Hull.calls (k : Nat) (a0_0 : Int) (a0_1 : Int) (a1_0 : Int) (a1_1 : Int) (r1 : Int) (r2 : Int) (r3 : Int) (w : World) (h : bound_Hull.f k a0_0 a0_1 a1_0 a1_1 = some (r1, r2, r3)) :
  Calls Try.prog 16 #[.agg #[.int .i64 a0_0, .int .i64 a0_1], .agg #[.int .i64 a1_0, .int .i64 a1_1]] w fun e w' => e = .returned (.tuple #[.agg #[.int .i64 r1, .int .i64 r2], .int .i64 r3]) ∧ Below w.heap.size w w' := by
 have hu27 := Try.underlying27
 have HB := Aside0.mk (Below.refl w.heap.size w)
 have H : ((bound_check.f k (([(⟨a0_0, a0_1⟩ : S27), (⟨a1_0, a1_1⟩ : S27)] : List (S27)))).bind fun t238 => (if t238 = 0 then ((bound_least.f (([a0_0, a0_1, a1_0, a1_1] : List Int))).bind fun bt242 => (some (bt242.1, bt242.2, 0))) else (some (0, 0, t238)))) = some (r1, r2, r3) := h
 clear h
 obtain ⟨y235, hy235⟩ : ∃ y_ : List (S27), y_ = (([(⟨a0_0, a0_1⟩ : S27), (⟨a1_0, a1_1⟩ : S27)] : List (S27))) := ⟨_, rfl⟩
 replace H : ((bound_check.f k y235).bind fun t238 => (if t238 = 0 then ((bound_least.f (([a0_0, a0_1, a1_0, a1_1] : List Int))).bind fun bt242 => (some (bt242.1, bt242.2, 0))) else (some (0, 0, t238)))) = some (r1, r2, r3) := by first | (rw [hy235]; with_reducible exact H) | (have H2_ := (Option.bind_some _ _).symm.trans H; rw [hy235]; with_reducible exact H2_) | (have H2_ := (Option.bind_some _ _).symm.trans H; with_reducible exact H2_) | with_reducible exact H | (rw [hy235]; exact H) | exact H
 have Ny235 := Aside0.mk hy235
 clear hy235
 replace H := Option.bind_eq_some_iff.mp H
 obtain ⟨t238, A30, H⟩ := H
 replace H : (if t238 = 0 then ((bound_least.f (([a0_0, a0_1, a1_0, a1_1] : List Int))).bind fun bt242 => (some (bt242.1, bt242.2, 0))) else (some (0, 0, t238))) = some (r1, r2, r3) := H
 have A3 := Aside0.mk A30
 clear A30
 by_cases c4 : t238 = 0
 ·rw [if_pos c4] at H
  have c4b0 : (t238 == 0) = true := beq_iff_eq.mpr c4
  have c4b1 : (t238 != 0) = false := bne_eq_false_iff_eq.mpr c4
  clear c4
  obtain ⟨y239, hy239⟩ : ∃ y_ : List Int, y_ = (([a0_0, a0_1, a1_0, a1_1] : List Int)) := ⟨_, rfl⟩
  replace H : ((bound_least.f y239).bind fun bt242 => (some (bt242.1, bt242.2, 0))) = some (r1, r2, r3) := by first | (rw [hy239]; with_reducible exact H) | (have H2_ := (Option.bind_some _ _).symm.trans H; rw [hy239]; with_reducible exact H2_) | (have H2_ := (Option.bind_some _ _).symm.trans H; with_reducible exact H2_) | with_reducible exact H | (rw [hy239]; exact H) | exact H
  have Ny239 := Aside0.mk hy239
  clear hy239
  replace H := Option.bind_eq_some_iff.mp H
  obtain ⟨⟨t242, t243⟩, A50, H⟩ := H
  replace H : (some (t242, t243, 0)) = some (r1, r2, r3) := H
  have A5 := Aside0.mk A50
  clear A50
  simp only [Option.some.injEq, Prod.mk.injEq] at H
  obtain ⟨rfl, rfl, rfl⟩ := H
  go_enter Try.func16, Try.ntmps16
  go_wp2_with (first | ((with_reducible refine gate_dst (N := 2) rfl ?_); refine box_event (by rfl) (N := 2) (by rfl) (cs := #[.int .i64 a0_0, .int .i64 a0_1]) (t := 27) zq1 ?_; intro gb232 hg w6 hbox hb; have BK232 := Aside0.mk (hbox); have GW232 := zgs HB hg; have GE232 := zgs HB hg; replace HB := zbs HB hb; clear hb hbox hg) | ((with_reducible refine gate_dst (N := 3) rfl ?_); refine box_event (by rfl) (N := 3) (by rfl) (cs := #[.int .i64 a1_0, .int .i64 a1_1]) (t := 27) zq1 ?_; intro gb233 hg w7 hbox hb; have BK233 := Aside0.mk (hbox); have GW233 := zgs HB hg; have GE233 := zgs HB hg; have NB232_233 := znp BK232 hg; have NB233_232 := znq BK232 hg; replace BK232 := zbb BK232 hb; replace HB := zbs HB hb; clear hb hbox hg) | ((with_reducible refine gate_dst (N := 4) rfl ?_); refine box_event (by rfl) (N := 4) (by rfl) (cs := #[.int .i64 0, .int .i64 0]) (t := 27) zq1 ?_; intro gb234 hg w8 hbox hb; have BK234 := Aside0.mk (hbox); have GW234 := zgs HB hg; have GE234 := zgs HB hg; have NB232_234 := znp BK232 hg; have NB234_232 := znq BK232 hg; have NB233_234 := znp BK233 hg; have NB234_233 := znq BK233 hg; replace BK232 := zbb BK232 hb; replace BK233 := zbb BK233 hb; replace HB := zbs HB hb; clear hb hbox hg; have hnb9 := NB232_233.out; have hnc9 := NB233_232.out; have hnb10 := NB232_234.out; have hnc10 := NB234_232.out; obtain ⟨hcz11_0, hcz11_1, hfz11_0, hfz11_1⟩ := zce2 BK232.out; have hnb12 := NB233_234.out; have hnc12 := NB234_233.out; obtain ⟨hcz13_0, hcz13_1, hfz13_0, hfz13_1⟩ := zce2 BK233.out) | ((with_reducible refine gate_dst (N := 9) rfl ?_); refine Kd.R_lit k27 _ 27 (by rfl) (N := 9) (by rfl) (xs := ([(⟨a0_0, a0_1⟩ : S27), (⟨a1_0, a1_1⟩ : S27)] : List (S27))) (inner := [.int .i64 a0_0, .int .i64 a0_1, .int .i64 a1_0, .int .i64 a1_1]) (ok := fun _ => True) (okp := fun _ => True) zq1 zq7 (fun _ hk => hk) trivial (Below.refl _ _) (Nat.le_refl _) (by simp) ?_; intro v236 w14 ho15 hb hg_ hnew_; clear hg_ hnew_; (first | rw [← Ny235.out] at ho15 | (simp only [Int.reduceToNat] at ho15; rw [← Ny235.out] at ho15)); have HO237 := Aside0.mk (Kd.R_lower (Kd.R_newB (Kd.R_newB (Kd.R_newB ho15 (g := gb232) (o := .cells #[.int .i64 a0_0, .int .i64 a0_1] 27 (0, 0)) zbf) (g := gb233) (o := .cells #[.int .i64 a1_0, .int .i64 a1_1] 27 (0, 0)) zbf) (g := gb234) (o := .cells #[.int .i64 0, .int .i64 0] 27 (0, 0)) zbf) (below_size zbz)); replace BK232 := zbb BK232 hb; replace BK233 := zbb BK233 hb; replace BK234 := zbb BK234 hb; replace HB := zbs HB hb; clear hb ho15; obtain ⟨Ao16, co16, eo16⟩ := Kd.R_slice HO237.out; subst eo16) | ((with_reducible refine gate_callee (f := 59) rfl ?_); refine goesL_ (some 10) rfl rfl Try.func59 zq0 rfl #[.slice Ao16 y235.length co16] rfl zq6 ?_; (with_reducible refine (bound_check.calls k _ _ y235 t238 _ ?side1 ?side2 A3.out).mono ?_); (case side1 => repeat (first | exact (Kd.R_reads' HO237.out).2.2 | (with_reducible refine Kd.C_alloc ?_ _) | (with_reducible refine Kd.C_drewN ?_ _) | (with_reducible refine Kd.C_drew ?_))); (case side2 => exact (Kd.R_reads' HO237.out).2.1); rintro e w17 ⟨rfl, hb⟩; refine ⟨_, rfl, ?_⟩; replace HO237 := zrb HO237 hb; replace BK232 := zbb BK232 hb; replace BK233 := zbb BK233 hb; replace BK234 := zbb BK234 hb; replace HB := zbs HB hb; (try clear hb); (try clear hb2); (try clear hk); (try clear hi); obtain ⟨hcz18_0, hcz18_1, hfz18_0, hfz18_1⟩ := zce2 BK232.out; obtain ⟨hcz19_0, hcz19_1, hfz19_0, hfz19_1⟩ := zce2 BK233.out) | ((with_reducible refine gate_dst (N := 23) rfl ?_); refine Kd.R_lit (Kd.int .i64) _ 2 (by rfl) (N := 23) (by rfl) (xs := ([a0_0, a0_1, a1_0, a1_1] : List Int)) (inner := [.int .i64 a0_0, .int .i64 a0_1, .int .i64 a1_0, .int .i64 a1_1]) (ok := fun _ => True) (okp := fun _ => True) zq1 (by exact (Reps.one (show Kd.M (Kd.int .i64) _ _ _ a0_0 [.int .i64 a0_0] from rfl) (Reps.one (show Kd.M (Kd.int .i64) _ _ _ a0_1 [.int .i64 a0_1] from rfl) (Reps.one (show Kd.M (Kd.int .i64) _ _ _ a1_0 [.int .i64 a1_0] from rfl) (Reps.one (show Kd.M (Kd.int .i64) _ _ _ a1_1 [.int .i64 a1_1] from rfl) (Reps.none _ _)))))) (fun _ hk => hk) trivial (Below.refl _ _) (Nat.le_refl _) (by simp) ?_; intro v240 w20 ho21 hb hg_ hnew_; clear hg_ hnew_; (first | rw [← Ny239.out] at ho21 | (simp only [Int.reduceToNat] at ho21; rw [← Ny239.out] at ho21)); have HO241 := Aside0.mk (Kd.R_lower ho21 (below_size zbz)); replace HO237 := zrb HO237 hb; replace BK232 := zbb BK232 hb; replace BK233 := zbb BK233 hb; replace BK234 := zbb BK234 hb; replace HB := zbs HB hb; clear hb ho21; obtain ⟨Ao22, co22, eo22⟩ := Kd.R_slice HO241.out; subst eo22) | ((with_reducible refine gate_callee (f := 61) rfl ?_); refine goesL_ (some 24) rfl rfl Try.func61 zq0 rfl #[.slice Ao22 y239.length co22] rfl zq6 ?_; (with_reducible refine (bound_least.calls _ _ y239 t242 t243 _ ?side1 ?side2 A5.out).mono ?_); (case side1 => repeat (first | exact (Kd.R_reads' HO241.out).2.2 | (with_reducible refine Kd.C_alloc ?_ _) | (with_reducible refine Kd.C_drewN ?_ _) | (with_reducible refine Kd.C_drew ?_))); (case side2 => exact (Kd.R_reads' HO241.out).2.1); rintro e w23 ⟨rfl, hb⟩; refine ⟨_, rfl, ?_⟩; replace HO237 := zrb HO237 hb; replace HO241 := zrb HO241 hb; replace BK232 := zbb BK232 hb; replace BK233 := zbb BK233 hb; replace BK234 := zbb BK234 hb; replace HB := zbs HB hb; (try clear hb); (try clear hb2); (try clear hk); (try clear hi); obtain ⟨hcz24_0, hcz24_1, hfz24_0, hfz24_1⟩ := zce2 BK234.out))
  refine bodyPost_ret (results_ct rfl _ _ gb234 27 #[.int .i64 t242, .int .i64 t243] (0, 0) _ rfl (by (with_reducible repeat (first | refine blk_drewN ?_ _ | refine blk_drew ?_ | refine blk_alloc ?_ _)); refine blk_put (cs := #[.int .i64 t242, .int .i64 0]) ?_ 1 _ rfl; (with_reducible repeat (first | refine blk_drewN ?_ _ | refine blk_drew ?_ | refine blk_alloc ?_ _)); refine blk_put (cs := #[.int .i64 0, .int .i64 0]) ?_ 0 _ rfl; (with_reducible repeat (first | refine blk_drewN ?_ _ | refine blk_drew ?_ | refine blk_alloc ?_ _)); exact BK234.out) Try.underlying27 rfl zq0) rfl ?_
  exact ⟨zq2, zbz⟩
 ·rw [if_neg c4] at H
  have c4b0 : (t238 == 0) = false := beq_eq_false_iff_ne.mpr c4
  have c4b1 : (t238 != 0) = true := bne_iff_ne.mpr c4
  simp only [Option.some.injEq, Prod.mk.injEq] at H
  obtain ⟨rfl, rfl, rfl⟩ := H
  go_enter Try.func16, Try.ntmps16
  go_wp2_with (first | ((with_reducible refine gate_dst (N := 2) rfl ?_); refine box_event (by rfl) (N := 2) (by rfl) (cs := #[.int .i64 a0_0, .int .i64 a0_1]) (t := 27) zq1 ?_; intro gb232 hg w25 hbox hb; have BK232 := Aside0.mk (hbox); have GW232 := zgs HB hg; have GE232 := zgs HB hg; replace HB := zbs HB hb; clear hb hbox hg) | ((with_reducible refine gate_dst (N := 3) rfl ?_); refine box_event (by rfl) (N := 3) (by rfl) (cs := #[.int .i64 a1_0, .int .i64 a1_1]) (t := 27) zq1 ?_; intro gb233 hg w26 hbox hb; have BK233 := Aside0.mk (hbox); have GW233 := zgs HB hg; have GE233 := zgs HB hg; have NB232_233 := znp BK232 hg; have NB233_232 := znq BK232 hg; replace BK232 := zbb BK232 hb; replace HB := zbs HB hb; clear hb hbox hg) | ((with_reducible refine gate_dst (N := 4) rfl ?_); refine box_event (by rfl) (N := 4) (by rfl) (cs := #[.int .i64 0, .int .i64 0]) (t := 27) zq1 ?_; intro gb234 hg w27 hbox hb; have BK234 := Aside0.mk (hbox); have GW234 := zgs HB hg; have GE234 := zgs HB hg; have NB232_234 := znp BK232 hg; have NB234_232 := znq BK232 hg; have NB233_234 := znp BK233 hg; have NB234_233 := znq BK233 hg; replace BK232 := zbb BK232 hb; replace BK233 := zbb BK233 hb; replace HB := zbs HB hb; clear hb hbox hg; have hnb28 := NB232_233.out; have hnc28 := NB233_232.out; have hnb29 := NB232_234.out; have hnc29 := NB234_232.out; obtain ⟨hcz30_0, hcz30_1, hfz30_0, hfz30_1⟩ := zce2 BK232.out; have hnb31 := NB233_234.out; have hnc31 := NB234_233.out; obtain ⟨hcz32_0, hcz32_1, hfz32_0, hfz32_1⟩ := zce2 BK233.out) | ((with_reducible refine gate_dst (N := 9) rfl ?_); refine Kd.R_lit k27 _ 27 (by rfl) (N := 9) (by rfl) (xs := ([(⟨a0_0, a0_1⟩ : S27), (⟨a1_0, a1_1⟩ : S27)] : List (S27))) (inner := [.int .i64 a0_0, .int .i64 a0_1, .int .i64 a1_0, .int .i64 a1_1]) (ok := fun _ => True) (okp := fun _ => True) zq1 zq7 (fun _ hk => hk) trivial (Below.refl _ _) (Nat.le_refl _) (by simp) ?_; intro v236 w33 ho34 hb hg_ hnew_; clear hg_ hnew_; (first | rw [← Ny235.out] at ho34 | (simp only [Int.reduceToNat] at ho34; rw [← Ny235.out] at ho34)); have HO237 := Aside0.mk (Kd.R_lower (Kd.R_newB (Kd.R_newB (Kd.R_newB ho34 (g := gb232) (o := .cells #[.int .i64 a0_0, .int .i64 a0_1] 27 (0, 0)) zbf) (g := gb233) (o := .cells #[.int .i64 a1_0, .int .i64 a1_1] 27 (0, 0)) zbf) (g := gb234) (o := .cells #[.int .i64 0, .int .i64 0] 27 (0, 0)) zbf) (below_size zbz)); replace BK232 := zbb BK232 hb; replace BK233 := zbb BK233 hb; replace BK234 := zbb BK234 hb; replace HB := zbs HB hb; clear hb ho34; obtain ⟨Ao35, co35, eo35⟩ := Kd.R_slice HO237.out; subst eo35) | ((with_reducible refine gate_callee (f := 59) rfl ?_); refine goesL_ (some 10) rfl rfl Try.func59 zq0 rfl #[.slice Ao35 y235.length co35] rfl zq6 ?_; (with_reducible refine (bound_check.calls k _ _ y235 t238 _ ?side1 ?side2 A3.out).mono ?_); (case side1 => repeat (first | exact (Kd.R_reads' HO237.out).2.2 | (with_reducible refine Kd.C_alloc ?_ _) | (with_reducible refine Kd.C_drewN ?_ _) | (with_reducible refine Kd.C_drew ?_))); (case side2 => exact (Kd.R_reads' HO237.out).2.1); rintro e w36 ⟨rfl, hb⟩; refine ⟨_, rfl, ?_⟩; replace HO237 := zrb HO237 hb; replace BK232 := zbb BK232 hb; replace BK233 := zbb BK233 hb; replace BK234 := zbb BK234 hb; replace HB := zbs HB hb; (try clear hb); (try clear hb2); (try clear hk); (try clear hi); obtain ⟨hcz37_0, hcz37_1, hfz37_0, hfz37_1⟩ := zce2 BK234.out))
  refine bodyPost_ret (results_ct rfl _ _ gb234 27 #[.int .i64 0, .int .i64 0] (0, 0) _ rfl (by (with_reducible repeat (first | refine blk_drewN ?_ _ | refine blk_drew ?_ | refine blk_alloc ?_ _)); refine blk_put (cs := #[.int .i64 0, .int .i64 0]) ?_ 1 _ rfl; (with_reducible repeat (first | refine blk_drewN ?_ _ | refine blk_drew ?_ | refine blk_alloc ?_ _)); refine blk_put (cs := #[.int .i64 0, .int .i64 0]) ?_ 0 _ rfl; (with_reducible repeat (first | refine blk_drewN ?_ _ | refine blk_drew ?_ | refine blk_alloc ?_ _)); exact BK234.out) Try.underlying27 rfl zq0) rfl ?_
  exact ⟨zq2, zbz⟩

end Go.Proofs.Ythglkoddmpicdaa.Pr
end
section
/- Which seas are valid: what the program answers. -/
namespace Go.Proofs.Ythglkoddmpicdaa.Gl
open Go.RowKit Go.Shelf Go.Proofs.YthglkoddmpicdaaW.PrintWords Go.Proofs.YthglkoddmpicdaaW.PrintLast Go.Proofs.YthglkoddmpicdaaW.PrintMore Go.Proofs.Ythglkoddmpicdaa.Pr Go.Proofs.YthglkoddmpicdaaW.Round
set_option linter.unusedVariables false
set_option linter.unusedSimpArgs false
attribute [local go_sem] max2_int min2_int max_two min_two max_four
def btwB (x lo hi : Int) : Bool := decide (lo ≤ x) && decide (x ≤ hi)
theorem btwB_iff {x lo hi : Int} : btwB x lo hi = true ↔ lo ≤ x ∧ x ≤ hi := by unfold btwB; simp
theorem btw_any (x lo hi : Int) (w : World) : Calls Try.prog 63 #[.int .i64 x, .int .i64 lo, .int .i64 hi] w (RetB (.bool (btwB x lo hi)) w) :=
 (glider_between.calls x lo hi (btwB x lo hi) w (by
  unfold glider_between.f btwB
  by_cases h : x ≥ lo
  ·rw [if_pos h, show decide (lo ≤ x) = true from decide_eq_true h]; simp
  ·rw [if_neg h, show decide (lo ≤ x) = false from decide_eq_false h]; simp)).mono fun _ _ h => ⟨h.1, h.2.below⟩
/-- Is a span valid? -/
def okS (lo hi : Int) : Bool := !(decide (lo > hi) || decide (lo < -1073741824) || decide (hi > 1073741824))
theorem okS_iff {lo hi : Int} : okS lo hi = true ↔ lo ≤ hi ∧ -1073741824 ≤ lo ∧ hi ≤ 1073741824 := by
 unfold okS
 simp only [Bool.not_eq_true', Bool.or_eq_false_iff, decide_eq_false_iff_not]
 omega
theorem check_span (k : Nat) (lo hi : Int) : bound_Check.f (k + 2) lo hi = some (if okS lo hi then 0 else 2) := by
 unfold bound_Check.f bound_check.f okS
 simp only [bound_check.l0, rd_T27]
 by_cases h1 : hi < lo
 ·simp [h1]
  try omega
 ·by_cases h2 : lo < -1073741824
  ·simp [h1, h2]
   try omega
  ·by_cases h3 : 1073741824 < hi
   ·simp [h1, h2, h3]
   ·have h3' : hi ≤ 1073741824 := by omega
    have h2' : -1073741824 ≤ lo := by omega
    have h1' : lo ≤ hi := by omega
    simp [h1, h2, h3, wrap64, h3', h2', h1']
def bndB (lo hi a b : Int) : Bool := okS lo hi && decide (a ≤ lo) && decide (hi ≤ b)
theorem bnd_some (k : Nat) (lo hi a b : Int) : glider_bounded.f (k + 2) lo hi a b = some (bndB lo hi a b) := by
 unfold glider_bounded.f bndB
 rw [check_span, Option.bind_some]
 cases okS lo hi with
 | false => rfl
 | true =>
  by_cases h : lo ≥ a
  ·rw [if_pos rfl, if_pos rfl, if_pos h, show decide (a ≤ lo) = true from decide_eq_true h]; simp
  ·rw [if_pos rfl, if_pos rfl, if_neg h, show decide (a ≤ lo) = false from decide_eq_false h]; simp
theorem bnd_any (lo hi a b : Int) (w : World) : Calls Try.prog 109 #[.agg #[.int .i64 lo, .int .i64 hi], .int .i64 a, .int .i64 b] w (RetB (.bool (bndB lo hi a b)) w) := glider_bounded.calls 2 _ _ _ _ _ w (bnd_some 0 lo hi a b)
theorem findIdx_at {α : Type} {p : α → Bool} {l : List α} {k : Nat} {x : α} (hk : l[k]? = some x) (h0 : (l.take k).any p = false) (hx : p x = true) : l.findIdx? p = some k := by
 have hlt := (List.getElem?_eq_some_iff.1 hk).1
 rw [List.findIdx?_eq_some_iff_getElem]
 refine ⟨hlt, by rw [(List.getElem?_eq_some_iff.1 hk).2]; exact hx, fun j hj => ?_⟩
 have := List.any_eq_false.1 h0 l[j] (by rw [List.mem_take_iff_getElem]; exact ⟨j, by omega, rfl⟩)
 simpa using this
/-- The first one, or -1. -/
def idxI {α : Type} (p : α → Bool) (l : List α) : Int := match l.findIdx? p with | none => -1 | some i => i
theorem idxI_any {α : Type} (p : α → Bool) (l : List α) : (idxI p l < 0 ∧ l.any p = false) ∨ (0 ≤ idxI p l ∧ l.any p = true) := by
 unfold idxI
 cases h : l.findIdx? p with
 | none =>
  refine .inl ⟨by decide, ?_⟩
  rw [List.any_eq_false]
  intro x hx
  have := List.findIdx?_eq_none_iff.1 h x hx
  simp [this]
 | some i =>
  obtain ⟨h1, h2, _⟩ := List.findIdx?_eq_some_iff_getElem.1 h
  exact .inr ⟨by dsimp only; omega, List.any_eq_true.2 ⟨_, List.getElem_mem h1, h2⟩⟩
section
variable {P : Program} {Q : Exit → Act → World → Prop} {ops : Array Oper}
end

set_option maxRecDepth 100000 in
set_option maxHeartbeats 2000000 in
theorem idx33_any (gs : Nat) (lb : Array Value) (g : S33 → Bool) (A : Option Addr) (c : Nat) (l : List S33) (w : World) (hC : Kd.C k33 w A l.length l) (hc : l.length ≤ c)
  (egs : ∀ args w, (callFunc gs args).run Try.prog w = .ok (.enter gs args) w)
  (hg : ∀ x W, Below w.heap.size w W → Calls Try.prog gs (#[.agg #[.int .i64 x.f0.f0, .int .i64 x.f0.f1, .int .i64 x.f1.f0, .int .i64 x.f1.f1]] ++ lb) W (RetB (.bool (g x)) W)) :
  Calls Try.prog 155 #[.slice A l.length c, .func (.func gs) #[] lb] w (RetB (.int .i64 (idxI g l)) w) := by
 have hu33 := Try.underlying33
 have hu27 := Try.underlying27
 have hb := hC.2.1
 have HI : Hid (idxI g l = match l.findIdx? g with | none => -1 | some i => (i : Int)) := Lib.hid rfl
 go_enter Try.func155, Try.ntmps155
 go_wp2
 go_loopw [8] (fun i wr => ∃ (k : Nat), k ≤ l.length ∧ i = .int .i64 k ∧ Hid ((l.take k).any g = false) ∧ Below w.heap.size w wr) (fun i _ => l.length - (intOf i).toNat)
 case atStart => exact ⟨0, Nat.zero_le _, rfl, Lib.hid (by simp), Below.refl _ _⟩
 case round =>
  obtain ⟨k, hk, rfl, HA, mB⟩ := hrel
  by_cases hlt : k < l.length
  ·obtain ⟨ad, rfl, hx0, hx1, hx2, hx3⟩ := at_T33 hC k (by omega) (by omega)
   simp only [Int.toNat_natCast] at hx0 hx1 hx2 hx3
   replace hx0 := (mB.cell (World.block_lt_of_cell? w _ hx0)).trans hx0
   replace hx1 := (mB.cell (World.block_lt_of_cell? w _ hx1)).trans hx1
   replace hx2 := (mB.cell (World.block_lt_of_cell? w _ hx2)).trans hx2
   replace hx3 := (mB.cell (World.block_lt_of_cell? w _ hx3)).trans hx3
   have hlk : l[k]? = some (rd_T33 l (k : Int)) := by simp [rd_T33, List.getD_eq_getElem?_getD, hlt]
   have htk : l.take (k + 1) = l.take k ++ [rd_T33 l (k : Int)] := by rw [List.take_add_one, hlk]; rfl
   generalize rd_T33 l (k : Int) = x at *
   have HT := Lib.hid htk
   have HK := Lib.hid hlk
   clear htk hlk
   go_wp2_with fail
   have hcon := hg x wr mB
   (with_reducible refine hcon.mono ?_)
   clear hcon hx0 hx1 hx2 hx3
   rintro e W1 ⟨rfl, hb1⟩
   replace mB := below_step mB hb1
   clear hb1
   cases hbx : g x with
   | true =>
    have HE := Lib.hid (HI.out.trans (by rw [findIdx_at HK.out HA.out hbx]))
    clear hbx
    go_wp2
    go_ret
    exact ⟨by rw [HE.out]; rfl, mB⟩
   | false =>
    have HB := Lib.hid hbx
    clear hbx
    go_wp2
    go_roundw
    case rel => exact ⟨k + 1, by omega, by simp, Lib.hid (by rw [HT.out, List.any_append, HA.out, List.any_cons, HB.out]; rfl), mB⟩
    case measure => simp [intOf]; omega
  ·obtain rfl : k = l.length := by omega
   rw [List.take_length] at HA
   have hn : l.findIdx? g = none := by
    rw [List.findIdx?_eq_none_iff]
    intro x hx
    have := List.any_eq_false.1 HA.out x hx
    simpa using this
   have HE := Lib.hid (HI.out.trans (by rw [hn]))
   clear hn
   go_wp2
   go_ret
   exact ⟨by rw [HE.out]; rfl, mB⟩
set_option maxHeartbeats 1000000 in
theorem cont33_any (gs : Nat) (lb : Array Value) (g : S33 → Bool) (A : Option Addr) (c : Nat) (l : List S33) (w : World) (hC : Kd.C k33 w A l.length l) (hc : l.length ≤ c)
  (egs : ∀ args w, (callFunc gs args).run Try.prog w = .ok (.enter gs args) w)
  (hg : ∀ x W, Below w.heap.size w W → Calls Try.prog gs (#[.agg #[.int .i64 x.f0.f0, .int .i64 x.f0.f1, .int .i64 x.f1.f0, .int .i64 x.f1.f1]] ++ lb) W (RetB (.bool (g x)) W)) :
  Calls Try.prog 111 #[.slice A l.length c, .func (.func gs) #[] lb] w (RetB (.bool (l.any g)) w) := by
 have hcon := idx33_any gs lb g A c l w hC hc egs hg
 clear hg egs
 go_enter Try.func111, Try.ntmps111
 go_wp2_with fail
 (with_reducible refine hcon.mono ?_)
 clear hcon
 rintro e W1 ⟨rfl, mB⟩
 rcases idxI_any g l with ⟨h1, h2⟩ | ⟨h1, h2⟩
 ·have HA := Lib.hid h2
  have hd : decide (0 ≤ idxI g l) = false := decide_eq_false (by omega)
  clear h1 h2
  go_wp2
  go_ret
  exact ⟨by rw [HA.out]; rfl, mB⟩
 ·have HA := Lib.hid h2
  have hd : decide (0 ≤ idxI g l) = true := decide_eq_true (by omega)
  clear h1 h2
  go_wp2
  go_ret
  exact ⟨by rw [HA.out]; rfl, mB⟩

/-- Is a current not valid? -/
def badC (most : Int) (c : S33) : Bool := !bndB c.f0.f0 c.f0.f1 (-most) most || !bndB c.f1.f0 c.f1.f1 (-most) most
set_option maxRecDepth 100000 in
set_option maxHeartbeats 2000000 in
theorem cs1_any (g1 : Nat) (s : Sea) (A7 A8 : Option Addr) (c7 c8 : Nat) (c : S33) (w : World) (hm0 : 0 ≤ s.most) (hm1 : s.most ≤ 5000) (hB : Blk w g1 #[.int .i64 s.nx, .int .i64 s.ny, .int .i64 s.cell, .int .i64 s.slot, .int .i64 s.slots, .int .i64 s.layers, .int .i64 s.most, .slice A7 s.shores.length c7, .slice A8 s.currents.length c8] 25) :
  Calls Try.prog 112 #[.agg #[.int .i64 c.f0.f0, .int .i64 c.f0.f1, .int .i64 c.f1.f0, .int .i64 c.f1.f1], .pointer (some ⟨g1, 0, none⟩)] w (RetB (.bool (badC s.most c)) w) := by
 have hu33 := Try.underlying33
 have hu27 := Try.underlying27
 have HB : Hid (badC s.most c = (!bndB c.f0.f0 c.f0.f1 (-s.most) s.most || !bndB c.f1.f0 c.f1.f1 (-s.most) s.most)) := Lib.hid rfl
 have c6 : ∀ o_, (w.alloc o_).cell? ⟨g1, 6, none⟩ = some (.int .i64 s.most) := fun o_ => (blk_cell (blk_alloc hB o_) 6).trans rfl
 go_enter Try.func112, Try.ntmps112
 go_wp2_with fail
 clear c6
 have m1 := hB
 clear hB
 have hl_1 := blk_lt m1
 have m2 : Blk (w.alloc (.cells #[.int .i64 c.f0.f0, .int .i64 c.f0.f1, .int .i64 c.f1.f0, .int .i64 c.f1.f1] 33)) (w.heap.size) #[.int .i64 c.f0.f0, .int .i64 c.f0.f1, .int .i64 c.f1.f0, .int .i64 c.f1.f1] 33 := (by have h_ := blk_new w (.cells #[.int .i64 c.f0.f0, .int .i64 c.f0.f1, .int .i64 c.f1.f0, .int .i64 c.f1.f1] 33); first | exact h_ | (simp only [World.size_alloc] at h_; exact h_))
 replace m1 : Blk (w.alloc (.cells #[.int .i64 c.f0.f0, .int .i64 c.f0.f1, .int .i64 c.f1.f0, .int .i64 c.f1.f1] 33)) g1 #[.int .i64 s.nx, .int .i64 s.ny, .int .i64 s.cell, .int .i64 s.slot, .int .i64 s.slots, .int .i64 s.layers, .int .i64 s.most, .slice A7 s.shores.length c7, .slice A8 s.currents.length c8] 25 := (blk_alloc m1 _)
 have mB : Below w.heap.size w (w.alloc (.cells #[.int .i64 c.f0.f0, .int .i64 c.f0.f1, .int .i64 c.f1.f0, .int .i64 c.f1.f1] 33)) := (below_alloc (Below.refl w.heap.size w) _)
 have hsz_ : w.heap.size ≤ w.heap.size := Nat.le_refl _
 generalize hW_ : (w.alloc (.cells #[.int .i64 c.f0.f0, .int .i64 c.f0.f1, .int .i64 c.f1.f0, .int .i64 c.f1.f1] 33)) = W1 at m1 m2 mB ⊢
 clear hW_
 generalize hg2 : w.heap.size = g2 at m2 ⊢
 have hn_1_2 : g1 ≠ g2 := by omega
 have hn_2_1 : g2 ≠ g1 := hn_1_2.symm
 have hG2 : w.heap.size ≤ g2 := by omega
 clear hsz_ hl_1
 try clear hg2
 have hs_W1 : w.heap.size ≤ W1.heap.size := mB.size
 have hcon := bnd_any c.f0.f0 c.f0.f1 (-s.most) s.most W1
 (with_reducible refine hcon.mono ?_)
 clear hcon
 rintro e W2 ⟨rfl, hb⟩
 replace m1 := blk_below m1 hb
 replace m2 := blk_below m2 hb
 replace mB := below_step mB hb
 clear hb
 have hs_W2 : w.heap.size ≤ W2.heap.size := mB.size
 cases h0 : bndB c.f0.f0 c.f0.f1 (-s.most) s.most with
 | false =>
  have HR := Lib.hid (HB.out.trans (by rw [h0]; rfl : _ = true))
  clear h0 HB
  go_wp2
  go_ret
  exact ⟨zq19, mB⟩
 | true =>
  have H0 := Lib.hid h0
  clear h0
  obtain ⟨c2_0, c2_1, c2_2, c2_3⟩ := zcs4 m2
  have c6 := (blk_cell m1 6).trans rfl
  go_wp2_with fail
  clear c2_0 c2_1 c2_2 c2_3 c6
  have hcon := bnd_any c.f1.f0 c.f1.f1 (-s.most) s.most W2
  (with_reducible refine hcon.mono ?_)
  clear hcon
  rintro e W3 ⟨rfl, hb⟩
  replace m1 := blk_below m1 hb
  replace m2 := blk_below m2 hb
  replace mB := below_step mB hb
  clear hb
  have hs_W3 : w.heap.size ≤ W3.heap.size := mB.size
  cases h1 : bndB c.f1.f0 c.f1.f1 (-s.most) s.most with
  | false =>
   have HR := Lib.hid (HB.out.trans (by rw [H0.out, h1]; rfl : _ = true))
   clear h1 HB
   go_wp2
   go_ret
   exact ⟨zq19, mB⟩
  | true =>
   have HR := Lib.hid (HB.out.trans (by rw [H0.out, h1]; rfl : _ = false))
   clear h1 HB
   go_wp2
   go_ret
   exact ⟨zq19, mB⟩

/-- Is a sea valid? -/
def seaB (s : Sea) : Bool := btwB s.nx 1 12 && btwB s.ny 1 12 && btwB s.cell 100 65536 && btwB s.slot 1 1048576 && btwB s.slots 1 16 && btwB s.layers 1 3 && btwB s.most 0 5000 && decide ((s.shores.length : Int) = s.nx * s.ny) && decide ((s.currents.length : Int) = s.slots * s.layers * (s.nx * s.ny)) && !s.currents.any (badC s.most)
def seaE (s : Sea) : Int := if seaB s then 0 else 2
set_option maxRecDepth 100000 in
set_option maxHeartbeats 8000000 in
theorem sea_any (s : Sea) (A7 A8 : Option Addr) (c7 c8 : Nat) (w : World) (h7 : s.shores.length ≤ c7) (hC7 : Kd.C Kd.bool w A7 s.shores.length s.shores) (h8 : s.currents.length ≤ c8) (hC8 : Kd.C k33 w A8 s.currents.length s.currents) :
  Calls Try.prog 50 #[.agg #[.int .i64 s.nx, .int .i64 s.ny, .int .i64 s.cell, .int .i64 s.slot, .int .i64 s.slots, .int .i64 s.layers, .int .i64 s.most, .slice A7 s.shores.length c7, .slice A8 s.currents.length c8]] w (RetB (.int .i64 (seaE s)) w) := by
 have hu25 := Try.underlying25
 have hb7 := hC7.2.1
 have hb8 := hC8.2.1
 have HE : Hid (seaE s = if seaB s then 0 else 2) := Lib.hid rfl
 have HB : Hid (seaB s = (btwB s.nx 1 12 && btwB s.ny 1 12 && btwB s.cell 100 65536 && btwB s.slot 1 1048576 && btwB s.slots 1 16 && btwB s.layers 1 3 && btwB s.most 0 5000 && decide ((s.shores.length : Int) = s.nx * s.ny) && decide ((s.currents.length : Int) = s.slots * s.layers * (s.nx * s.ny)) && !s.currents.any (badC s.most))) := Lib.hid rfl
 go_enter Try.func50, Try.ntmps50
 go_wp2_with fail
 have m1 : Blk (w.alloc (.cells #[.int .i64 s.nx, .int .i64 s.ny, .int .i64 s.cell, .int .i64 s.slot, .int .i64 s.slots, .int .i64 s.layers, .int .i64 s.most, .slice A7 s.shores.length c7, .slice A8 s.currents.length c8] 25)) (w.heap.size) #[.int .i64 s.nx, .int .i64 s.ny, .int .i64 s.cell, .int .i64 s.slot, .int .i64 s.slots, .int .i64 s.layers, .int .i64 s.most, .slice A7 s.shores.length c7, .slice A8 s.currents.length c8] 25 := zq21
 have mB : Below w.heap.size w (w.alloc (.cells #[.int .i64 s.nx, .int .i64 s.ny, .int .i64 s.cell, .int .i64 s.slot, .int .i64 s.slots, .int .i64 s.layers, .int .i64 s.most, .slice A7 s.shores.length c7, .slice A8 s.currents.length c8] 25)) := (below_alloc (Below.refl w.heap.size w) _)
 have hsz_ : w.heap.size ≤ w.heap.size := Nat.le_refl _
 generalize hW_ : (w.alloc (.cells #[.int .i64 s.nx, .int .i64 s.ny, .int .i64 s.cell, .int .i64 s.slot, .int .i64 s.slots, .int .i64 s.layers, .int .i64 s.most, .slice A7 s.shores.length c7, .slice A8 s.currents.length c8] 25)) = W0 at m1 mB ⊢
 clear hW_
 generalize hg1 : w.heap.size = g1 at m1 ⊢
 have hG1 : w.heap.size ≤ g1 := by omega
 clear hsz_
 try clear hg1
 have hs_W0 : w.heap.size ≤ W0.heap.size := mB.size
 have hcon := btw_any s.nx 1 12 W0
 (with_reducible refine hcon.mono ?_)
 clear hcon
 rintro e W1 ⟨rfl, hb⟩
 replace m1 := blk_below m1 hb
 replace mB := below_step mB hb
 clear hb
 have hs_W1 : w.heap.size ≤ W1.heap.size := mB.size
 cases h_ : btwB s.nx 1 12 with
 | false =>
  have HZ : Hid (seaE s = 2) := Lib.hid (by rw [HE.out, HB.out, h_]; simp)
  clear h_ HE HB
  go_wp2
  go_ret
  exact ⟨zq22, mB⟩
 | true =>
  have b0 := btwB_iff.1 h_
  have H0 := Lib.hid h_
  clear h_
  obtain ⟨c1_0, c1_1, c1_2, c1_3, c1_4, c1_5, c1_6, c1_7, c1_8⟩ := zcs9 m1
  go_wp2_with fail
  clear c1_0 c1_1 c1_2 c1_3 c1_4 c1_5 c1_6 c1_7 c1_8
  have hcon := btw_any s.ny 1 12 W1
  (with_reducible refine hcon.mono ?_)
  clear hcon
  rintro e W2 ⟨rfl, hb⟩
  replace m1 := blk_below m1 hb
  replace mB := below_step mB hb
  clear hb
  have hs_W2 : w.heap.size ≤ W2.heap.size := mB.size
  cases h_ : btwB s.ny 1 12 with
  | false =>
   have HZ : Hid (seaE s = 2) := Lib.hid (by rw [HE.out, HB.out, H0.out, h_]; simp)
   clear h_ HE HB
   go_wp2
   go_ret
   exact ⟨zq22, mB⟩
  | true =>
   have b1 := btwB_iff.1 h_
   have H1 := Lib.hid h_
   clear h_
   obtain ⟨c1_0, c1_1, c1_2, c1_3, c1_4, c1_5, c1_6, c1_7, c1_8⟩ := zcs9 m1
   go_wp2_with fail
   clear c1_0 c1_1 c1_2 c1_3 c1_4 c1_5 c1_6 c1_7 c1_8
   have hcon := btw_any s.cell 100 65536 W2
   (with_reducible refine hcon.mono ?_)
   clear hcon
   rintro e W3 ⟨rfl, hb⟩
   replace m1 := blk_below m1 hb
   replace mB := below_step mB hb
   clear hb
   have hs_W3 : w.heap.size ≤ W3.heap.size := mB.size
   cases h_ : btwB s.cell 100 65536 with
   | false =>
    have HZ : Hid (seaE s = 2) := Lib.hid (by rw [HE.out, HB.out, H0.out, H1.out, h_]; simp)
    clear h_ HE HB
    go_wp2
    go_ret
    exact ⟨zq22, mB⟩
   | true =>
    have b2 := btwB_iff.1 h_
    have H2 := Lib.hid h_
    clear h_
    obtain ⟨c1_0, c1_1, c1_2, c1_3, c1_4, c1_5, c1_6, c1_7, c1_8⟩ := zcs9 m1
    go_wp2_with fail
    clear c1_0 c1_1 c1_2 c1_3 c1_4 c1_5 c1_6 c1_7 c1_8
    have hcon := btw_any s.slot 1 1048576 W3
    (with_reducible refine hcon.mono ?_)
    clear hcon
    rintro e W4 ⟨rfl, hb⟩
    replace m1 := blk_below m1 hb
    replace mB := below_step mB hb
    clear hb
    have hs_W4 : w.heap.size ≤ W4.heap.size := mB.size
    cases h_ : btwB s.slot 1 1048576 with
    | false =>
     have HZ : Hid (seaE s = 2) := Lib.hid (by rw [HE.out, HB.out, H0.out, H1.out, H2.out, h_]; simp)
     clear h_ HE HB
     go_wp2
     go_ret
     exact ⟨zq22, mB⟩
    | true =>
     have b3 := btwB_iff.1 h_
     have H3 := Lib.hid h_
     clear h_
     obtain ⟨c1_0, c1_1, c1_2, c1_3, c1_4, c1_5, c1_6, c1_7, c1_8⟩ := zcs9 m1
     go_wp2_with fail
     clear c1_0 c1_1 c1_2 c1_3 c1_4 c1_5 c1_6 c1_7 c1_8
     have hcon := btw_any s.slots 1 16 W4
     (with_reducible refine hcon.mono ?_)
     clear hcon
     rintro e W5 ⟨rfl, hb⟩
     replace m1 := blk_below m1 hb
     replace mB := below_step mB hb
     clear hb
     have hs_W5 : w.heap.size ≤ W5.heap.size := mB.size
     cases h_ : btwB s.slots 1 16 with
     | false =>
      have HZ : Hid (seaE s = 2) := Lib.hid (by rw [HE.out, HB.out, H0.out, H1.out, H2.out, H3.out, h_]; simp)
      clear h_ HE HB
      go_wp2
      go_ret
      exact ⟨zq22, mB⟩
     | true =>
      have b4 := btwB_iff.1 h_
      have H4 := Lib.hid h_
      clear h_
      obtain ⟨c1_0, c1_1, c1_2, c1_3, c1_4, c1_5, c1_6, c1_7, c1_8⟩ := zcs9 m1
      go_wp2_with fail
      clear c1_0 c1_1 c1_2 c1_3 c1_4 c1_5 c1_6 c1_7 c1_8
      have hcon := btw_any s.layers 1 3 W5
      (with_reducible refine hcon.mono ?_)
      clear hcon
      rintro e W6 ⟨rfl, hb⟩
      replace m1 := blk_below m1 hb
      replace mB := below_step mB hb
      clear hb
      have hs_W6 : w.heap.size ≤ W6.heap.size := mB.size
      cases h_ : btwB s.layers 1 3 with
      | false =>
       have HZ : Hid (seaE s = 2) := Lib.hid (by rw [HE.out, HB.out, H0.out, H1.out, H2.out, H3.out, H4.out, h_]; simp)
       clear h_ HE HB
       go_wp2
       go_ret
       exact ⟨zq22, mB⟩
      | true =>
       have b5 := btwB_iff.1 h_
       have H5 := Lib.hid h_
       clear h_
       obtain ⟨c1_0, c1_1, c1_2, c1_3, c1_4, c1_5, c1_6, c1_7, c1_8⟩ := zcs9 m1
       go_wp2_with fail
       clear c1_0 c1_1 c1_2 c1_3 c1_4 c1_5 c1_6 c1_7 c1_8
       have hcon := btw_any s.most 0 5000 W6
       (with_reducible refine hcon.mono ?_)
       clear hcon
       rintro e W7 ⟨rfl, hb⟩
       replace m1 := blk_below m1 hb
       replace mB := below_step mB hb
       clear hb
       have hs_W7 : w.heap.size ≤ W7.heap.size := mB.size
       cases h_ : btwB s.most 0 5000 with
       | false =>
        have HZ : Hid (seaE s = 2) := Lib.hid (by rw [HE.out, HB.out, H0.out, H1.out, H2.out, H3.out, H4.out, H5.out, h_]; simp)
        clear h_ HE HB
        go_wp2
        go_ret
        exact ⟨zq22, mB⟩
       | true =>
        have b6 := btwB_iff.1 h_
        have H6 := Lib.hid h_
        clear h_
        have p1 := mul_in (show 0 ≤ s.nx by omega) b0.2 (show 0 ≤ s.ny by omega) b1.2
        have p2 := mul_in (show 0 ≤ s.slots by omega) b4.2 (show 0 ≤ s.layers by omega) b5.2
        have p3 := mul_in p2.1 p2.2 p1.1 p1.2
        have e1 : wrap64 (s.nx * s.ny) = s.nx * s.ny := by unfold wrap64; omega
        have HN := Lib.hid e1
        try rw [e1]
        clear e1
        by_cases q7 : (s.shores.length : Int) = s.nx * s.ny
        case neg =>
         have h_ : decide ((s.shores.length : Int) = s.nx * s.ny) = false := decide_eq_false q7
         have e_ : ((s.shores.length : Int) == s.nx * s.ny) = false := beq_eq_false_iff_ne.2 q7
         have e2_ : ((s.shores.length : Int) != s.nx * s.ny) = true := by rw [bne, e_]; rfl
         clear q7
         obtain ⟨c1_0, c1_1, c1_2, c1_3, c1_4, c1_5, c1_6, c1_7, c1_8⟩ := zcs9 m1
         have HZ : Hid (seaE s = 2) := Lib.hid (by rw [HE.out, HB.out, H0.out, H1.out, H2.out, H3.out, H4.out, H5.out, H6.out, h_]; simp)
         clear h_ HE HB
         go_wp2
         go_ret
         exact ⟨zq22, mB⟩
        case pos =>
         have h_ : decide ((s.shores.length : Int) = s.nx * s.ny) = true := decide_eq_true q7
         have H7 := Lib.hid h_
         have f7 : ((s.shores.length : Int) == s.nx * s.ny) = true := beq_iff_eq.2 q7
         have g7 : ((s.shores.length : Int) != s.nx * s.ny) = false := by rw [bne, f7]; rfl
         clear h_ q7
         by_cases q8 : (s.currents.length : Int) = s.slots * s.layers * (s.nx * s.ny)
         case neg =>
          have h_ : decide ((s.currents.length : Int) = s.slots * s.layers * (s.nx * s.ny)) = false := decide_eq_false q8
          have e_ : ((s.currents.length : Int) == s.slots * s.layers * (s.nx * s.ny)) = false := beq_eq_false_iff_ne.2 q8
          have e2_ : ((s.currents.length : Int) != s.slots * s.layers * (s.nx * s.ny)) = true := by rw [bne, e_]; rfl
          clear q8
          obtain ⟨c1_0, c1_1, c1_2, c1_3, c1_4, c1_5, c1_6, c1_7, c1_8⟩ := zcs9 m1
          have HZ : Hid (seaE s = 2) := Lib.hid (by rw [HE.out, HB.out, H0.out, H1.out, H2.out, H3.out, H4.out, H5.out, H6.out, H7.out, h_]; simp)
          clear h_ HE HB
          go_wp2
          go_ret
          exact ⟨zq22, mB⟩
         case pos =>
          have h_ : decide ((s.currents.length : Int) = s.slots * s.layers * (s.nx * s.ny)) = true := decide_eq_true q8
          have H8 := Lib.hid h_
          have f8 : ((s.currents.length : Int) == s.slots * s.layers * (s.nx * s.ny)) = true := beq_iff_eq.2 q8
          have g8 : ((s.currents.length : Int) != s.slots * s.layers * (s.nx * s.ny)) = false := by rw [bne, f8]; rfl
          clear h_ q8
          obtain ⟨c1_0, c1_1, c1_2, c1_3, c1_4, c1_5, c1_6, c1_7, c1_8⟩ := zcs9 m1
          go_wp2_with fail
          clear c1_0 c1_1 c1_2 c1_3 c1_4 c1_5 c1_6 c1_7 c1_8
          have hcon := cont33_any 112 #[.pointer (some ⟨g1, 0, none⟩)] (badC s.most) A8 c8 s.currents W7 (Kd.C_below hC8 mB) h8 (enters_of Try.func112 zq0 rfl) (fun x W hW => cs1_any g1 s A7 A8 c7 c8 x W b6.1 b6.2 (blk_below m1 hW))
          (with_reducible refine hcon.mono ?_)
          clear hcon
          rintro e W8 ⟨rfl, hb⟩
          replace m1 := blk_below m1 hb
          replace mB := below_step mB hb
          clear hb
          have hs_W8 : w.heap.size ≤ W8.heap.size := mB.size
          cases h_ : s.currents.any (badC s.most) with
          | true =>
           have HZ : Hid (seaE s = 2) := Lib.hid (by rw [HE.out, HB.out, H0.out, H1.out, H2.out, H3.out, H4.out, H5.out, H6.out, H7.out, H8.out, h_]; simp)
           clear h_ HE HB
           go_wp2
           go_ret
           exact ⟨zq22, mB⟩
          | false =>
           have HZ : Hid (seaE s = 0) := Lib.hid (by rw [HE.out, HB.out, H0.out, H1.out, H2.out, H3.out, H4.out, H5.out, H6.out, H7.out, H8.out, h_]; simp)
           clear h_ HE HB
           go_wp2
           go_ret
           exact ⟨zq22, mB⟩
end Go.Proofs.Ythglkoddmpicdaa.Gl
end
section
/- A span that is moved for a dive. -/
namespace Go.Proofs.Ythglkoddmpicdaa.Gl
open Go.RowKit Go.Shelf Go.Proofs.YthglkoddmpicdaaW.PrintWords Go.Proofs.YthglkoddmpicdaaW.PrintLast Go.Proofs.YthglkoddmpicdaaW.PrintMore Go.Proofs.Ythglkoddmpicdaa.Pr Go.Proofs.YthglkoddmpicdaaW.Round
set_option linter.unusedVariables false
set_option linter.unusedSimpArgs false
attribute [local go_sem] max2_int min2_int max_two min_two max_four
def upM (x : Int) : Int := -((-x) / 1000000)
end Go.Proofs.Ythglkoddmpicdaa.Gl
end
section
/- The cells that a box touches, one after another. -/
namespace Go.Proofs.Ythglkoddmpicdaa.Gl
open Go.RowKit Go.Shelf Go.Proofs.YthglkoddmpicdaaW.PrintWords Go.Proofs.YthglkoddmpicdaaW.PrintLast Go.Proofs.YthglkoddmpicdaaW.PrintMore Go.Proofs.Ythglkoddmpicdaa.Pr Go.Proofs.YthglkoddmpicdaaW.Round
set_option linter.unusedVariables false
set_option linter.unusedSimpArgs false
attribute [local go_sem] max2_int min2_int max_two min_two max_four
attribute [local go_sem] Oper.semAt_some
def rowT (nx i0 : Int) (n : Nat) (k : Int) : List Int := (List.range n).map fun j : Nat => k * nx + (i0 + (j : Int))
def allT (nx i0 : Int) (n : Nat) (k0 : Int) (m : Nat) : List Int := (List.range m).flatMap fun r : Nat => rowT nx i0 n (k0 + (r : Int))
def uptoT (nx i0 : Int) (n : Nat) (k0 : Int) (q j : Nat) : List Int := allT nx i0 n k0 q ++ rowT nx i0 j (k0 + (q : Int))
theorem uptoT_zero (nx i0 : Int) (n : Nat) (k0 : Int) : uptoT nx i0 n k0 0 0 = [] := rfl
theorem uptoT_row (nx i0 : Int) (n : Nat) (k0 : Int) (q : Nat) : uptoT nx i0 n k0 q 0 = allT nx i0 n k0 q := by unfold uptoT rowT; simp
theorem uptoT_succ (nx i0 : Int) (n : Nat) (k0 : Int) (q j : Nat) : uptoT nx i0 n k0 q (j + 1) = uptoT nx i0 n k0 q j ++ [(k0 + (q : Int)) * nx + (i0 + (j : Int))] := by
 unfold uptoT rowT
 rw [List.range_succ, List.map_append, List.map_singleton, List.append_assoc]
theorem allT_succ (nx i0 : Int) (n : Nat) (k0 : Int) (q : Nat) : allT nx i0 n k0 (q + 1) = uptoT nx i0 n k0 q n := by
 unfold uptoT allT
 rw [List.range_succ, List.flatMap_append, List.flatMap_singleton]
theorem allT_pre (nx i0 : Int) (n : Nat) (k0 : Int) : ∀ (d q : Nat), allT nx i0 n k0 q <+: allT nx i0 n k0 (q + d)
 | 0, q => List.prefix_refl _
 | d + 1, q => by
  refine (allT_pre nx i0 n k0 d q).trans ?_
  rw [show q + (d + 1) = (q + d) + 1 by omega, allT_succ]
  exact List.prefix_append _ _
theorem uptoT_pre {nx i0 : Int} {n : Nat} {k0 : Int} {m q j : Nat} (hq : q < m) (hj : j ≤ n) : uptoT nx i0 n k0 q j <+: allT nx i0 n k0 m := by
 have h1 : uptoT nx i0 n k0 q j <+: uptoT nx i0 n k0 q n := by
  unfold uptoT
  refine (List.prefix_append_right_inj _).2 ?_
  unfold rowT
  refine List.IsPrefix.map _ ?_
  rw [show n = j + (n - j) by omega, List.range_add]
  exact List.prefix_append _ _
 rw [← allT_succ] at h1
 have h2 := allT_pre nx i0 n k0 (m - (q + 1)) (q + 1)
 rw [show q + 1 + (m - (q + 1)) = m by omega] at h2
 exact h1.trans h2
/-- The number of a cell. -/
abbrev CellN (s : Sea) := { c : Int // 0 ≤ c ∧ c < s.nx * s.ny }
/-- The cells that a box touches. -/
def touchL (s : Sea) (x : S29) : List Int := allT s.nx (numI s.cell x.f0 s.nx).1 ((numI s.cell x.f0 s.nx).2 + 1 - (numI s.cell x.f0 s.nx).1).toNat (numI s.cell x.f1 s.ny).1 ((numI s.cell x.f1 s.ny).2 + 1 - (numI s.cell x.f1 s.ny).1).toNat
def AllT (s : Sea) (x : S29) (xs : List (CellN s)) : Prop := xs.map Subtype.val = touchL s x
def PreT (s : Sea) (x : S29) (xs : List (CellN s)) : Prop := xs.map Subtype.val <+: touchL s x
theorem numI_in {c : Int} {a : S27} {most : Int} (hc : 1 ≤ c) (h0 : 0 ≤ a.f0) (h1 : 0 ≤ a.f1) (hm : 1 ≤ most) : (0 ≤ (numI c a most).1 ∧ (numI c a most).1 ≤ most - 1) ∧ (0 ≤ (numI c a most).2 ∧ (numI c a most).2 ≤ most - 1) := by
 have d0 := div_in h0 hc
 have d1 := div_in h1 hc
 unfold numI firstI
 dsimp only
 split <;> omega
/-- A box in the sea. -/
def InSea (s : Sea) (x : S29) : Prop := (0 ≤ x.f0.f0 ∧ x.f0.f0 ≤ 1099511627776) ∧ (0 ≤ x.f0.f1 ∧ x.f0.f1 ≤ 1099511627776) ∧ (0 ≤ x.f1.f0 ∧ x.f1.f0 ≤ 1099511627776) ∧ (0 ≤ x.f1.f1 ∧ x.f1.f1 ≤ 1099511627776)
set_option maxHeartbeats 1000000 in
theorem touched_any (b : Nat) (x : S29) (w : World) : Calls Try.prog 113 #[.pointer (some ⟨b, 0, none⟩), .agg #[.int .i64 x.f0.f0, .int .i64 x.f0.f1, .int .i64 x.f1.f0, .int .i64 x.f1.f1]] w fun e w' => e = .returned (.func (.func 156) #[] #[.pointer (some ⟨w.heap.size, 0, none⟩), .pointer (some ⟨w.heap.size + 1, 0, none⟩)]) ∧ w' = (w.alloc (.cells #[.pointer (some ⟨b, 0, none⟩)] 118)).alloc (.cells #[.int .i64 x.f0.f0, .int .i64 x.f0.f1, .int .i64 x.f1.f0, .int .i64 x.f1.f1] 29) := by
 have hu29 := Try.underlying29
 go_enter Try.func113, Try.ntmps113
 go_wp2
 go_ret
 exact ⟨rfl, rfl⟩
theorem row_in {nx ny k : Int} (hx : 1 ≤ nx) (h0 : 0 ≤ k) (h1 : k ≤ ny - 1) : 0 ≤ k * nx ∧ k * nx ≤ nx * ny - nx := by
 refine ⟨Int.mul_nonneg h0 (by omega), ?_⟩
 have h := Int.mul_le_mul_of_nonneg_right h1 (show 0 ≤ nx by omega)
 rw [Int.sub_mul, Int.one_mul, Int.mul_comm ny nx] at h
 exact h

/-- What the iterator reads. -/
def Env (w0 : World) (bp bx b : Nat) (x : S29) (W : World) : Prop := Below w0.heap.size w0 W ∧ Blk W bp #[.pointer (some ⟨b, 0, none⟩)] 118 ∧ Blk W bx #[.int .i64 x.f0.f0, .int .i64 x.f0.f1, .int .i64 x.f1.f0, .int .i64 x.f1.f1] 29
theorem Env.below {w0 : World} {bp bx b : Nat} {x : S29} {W W1 : World} (h : Env w0 bp bx b x W) (hb : Below W.heap.size W W1) : Env w0 bp bx b x W1 := ⟨below_step h.1 hb, h.2.1.below hb, h.2.2.below hb⟩
set_option maxRecDepth 100000 in
set_option maxHeartbeats 4000000 in
theorem touched1_in (n : Nat) (hn : 1 ≤ n) (l bp bx : Nat) (w0 : World) (b : Nat) (s : Sea) (v : Veh) (x : S29) (hT : TripAt w0 b s v) (hS : SeaN s) (hx : InSea s x) (Kp : World → World → Prop) (hKp : ∀ A B, Kp A B → Env w0 bp bx b x A → Env w0 bp bx b x B) (J Jx : List (CellN s) → World → Prop)
  (hY : ∀ pre c W, J pre W → pre.length < (touchL s x).length → YieldAt Fence.wide (n - 1) Try.prog l #[.int .i64 c.1] W fun e W' =>
   (e = .returned (.bool true) ∧ J (pre ++ [c]) W' ∧ Kp W W') ∨ (e = .returned (.bool false) ∧ Jx (pre ++ [c]) W'))
  (hJa : ∀ (f : List (CellN s)) W W', J f W → Below W.heap.size W W' → J f W')
  (W : World) (hE : Env w0 bp bx b x W) (h0 : J [] W) :
  CallsIn Fence.wide n Try.prog 156 #[.func (.yield l) #[] #[], .pointer (some ⟨bp, 0, none⟩), .pointer (some ⟨bx, 0, none⟩)] W fun e W' => (∃ v, e = .returned v) ∧
   ((∃ xs, AllT s x xs ∧ J xs W') ∨ (∃ pre, PreT s x pre ∧ Jx pre W')) := by
 have hu29 := Try.underlying29
 have hu27 := Try.underlying27
 obtain ⟨⟨x0, x1⟩, ⟨x2, x3⟩, ⟨x4, x5⟩, x6, x7⟩ := hx
 have hcl := hS.cell
 have hnx := hS.nx
 have hny := hS.ny
 have gI := numI_in (c := s.cell) (a := x.f0) (most := s.nx) (by omega) x0 x2 hnx.1
 have gK := numI_in (c := s.cell) (a := x.f1) (most := s.ny) (by omega) x4 x6 hny.1
 have kN := fun W (h : TripAt W b s v) => numbers_any b s v x.f0 s.nx W h hS x0 x1 x2 x3 hnx.1 hnx.2
 have kM := fun W (h : TripAt W b s v) => numbers_any b s v x.f1 s.ny W h hS x4 x5 x6 x7 hny.1 hny.2
 have hAll : touchL s x = allT s.nx (numI s.cell x.f0 s.nx).1 ((numI s.cell x.f0 s.nx).2 + 1 - (numI s.cell x.f0 s.nx).1).toNat (numI s.cell x.f1 s.ny).1 ((numI s.cell x.f1 s.ny).2 + 1 - (numI s.cell x.f1 s.ny).1).toNat := rfl
 generalize numI s.cell x.f0 s.nx = I at *
 generalize numI s.cell x.f1 s.ny = K at *
 obtain ⟨i0, i1⟩ := I
 obtain ⟨k0, k1⟩ := K
 dsimp only at gI gK kN kM hAll
 obtain ⟨⟨i2, i3⟩, i4, i5⟩ := gI
 obtain ⟨⟨k2, k3⟩, k4, k5⟩ := gK
 have HAll := Lib.hid hAll
 clear hAll hcl
 have hE0 := hE
 obtain ⟨hb0, mP, mX⟩ := hE0
 obtain ⟨A7, c7, A8, c8, mT, _⟩ := hT.below hb0
 clear hb0
 refine callsIn_of_wp Try.func156 rfl trivial ?_ rfl
 simp only [Try.ntmps156, List.size_toArray, List.length_cons, List.length_nil, Nat.reduceAdd, Nat.reduceSub, Array.replicate_succ, Array.replicate_zero, List.push_toArray, List.append_toArray, List.nil_append, List.cons_append]
 gi_wp2_with fail
 refine wpIn_only (wpIn_wide.2 ?_)
 replace mT := blk_drew mT
 replace mP := blk_drew mP
 replace mX := blk_drew mX
 replace h0 := hJa _ _ _ h0 (below_drew1 (Below.refl _ _))
 replace hE := hE.below (below_drew1 (Below.refl _ _))
 refine start_ (n := 14) (S := fun w' => w'.cell? ⟨bp, 0, none⟩ = some (.pointer (some ⟨b, 0, none⟩)) ∧ w'.cell? ⟨bx, 0, none⟩ = some (.int .i64 x.f0.f0) ∧ w'.cell? ⟨bx, 1, none⟩ = some (.int .i64 x.f0.f1) ∧ w'.cell? ⟨b, 0, none⟩ = some (.int .i64 s.nx)) (ds := []) #[false, false, false, false, false, false, false, false, false, false, false, false, false, false] zq0 rfl rfl ⟨((blk_cell mP 0).trans rfl), ((blk_cell mX 0).trans rfl), ((blk_cell mX 1).trans rfl), ((blk_cell mT 0).trans rfl)⟩ (fun hHeld => ?_)
 generalize hWd : World.drew _ = Wx at *
 clear hWd
 refine zpz (i := 1) (N := some 12) zq0 ?_
 refine ztz (i := 0) (N := some 11) zq0 hHeld ?_
 refine ztz (i := 2) (N := some 13) zq0 hHeld ?_
 refine ztz (i := 3) (N := some 14) zq0 hHeld ?_
 refine zpz (i := 4) (N := some 15) zq0 ?_
 refine zpz (i := 5) (N := some 16) zq0 ?_
 refine zpz (i := 6) (N := some 17) zq0 ?_
 refine ztz (i := 7) (N := some 18) zq0 hHeld ?_
 refine one_ (i := 8) (N := some 19) #[true, true, true, true, true, true, true, true, true, false, false, false, false, false] rfl rfl zq0 (by decide) (fun K hK => ?_)
 have hcon_ := kN Wx (hT.below hE.1)
 refine goes_ Try.func157 zq0 rfl #[.pointer (some ⟨b, 0, none⟩), .agg #[.int .i64 x.f0.f0, .int .i64 x.f0.f1], .int .i64 s.nx] (by rfl) rfl rfl (by simp only [List.map_toArray, List.map_cons, List.map_nil]; rfl) ?_
 with_reducible refine (hcon_).mono ?_
 rintro e W1 ⟨rfl, hb2⟩
 refine ⟨_, rfl, ?_⟩
 clear hcon_
 replace mT := blk_below mT hb2
 replace mP := blk_below mP hb2
 replace mX := blk_below mX hb2
 replace h0 := hJa _ _ _ h0 hb2
 replace hE := hE.below hb2
 clear hb2
 refine hK.out _ _ ⟨((blk_cell mP 0).trans rfl), ((blk_cell mX 0).trans rfl), ((blk_cell mX 1).trans rfl), ((blk_cell mT 0).trans rfl)⟩ (fun hHeld => ?_)
 clear hK K
 refine norm_ (by show Act.put _ (some 19) _ = _; simp only [Act.put, List.setIfInBounds_toArray, List.set_cons_zero, List.set_cons_succ, i64_w, i32_w]; rfl) ?_
 refine zpz (i := 9) (N := some 10) zq0 ?_
 refine zpz (i := 10) (N := some 20) zq0 ?_
 refine zpz (i := 11) (N := some 21) zq0 ?_
 refine zpz (i := 12) (N := some 4) zq0 ?_
 refine zpz (i := 13) (N := some 5) zq0 ?_
 refine done_ zq0 ?_
 refine onlyN_normal ?_
 gi_wp2_with fail
 refine wpIn_only (wpIn_wide.2 ?_)
 replace mT := blk_drew mT
 replace mP := blk_drew mP
 replace mX := blk_drew mX
 replace h0 := hJa _ _ _ h0 (below_drew1 (Below.refl _ _))
 replace hE := hE.below (below_drew1 (Below.refl _ _))
 refine start_ (n := 14) (S := fun w' => w'.cell? ⟨bp, 0, none⟩ = some (.pointer (some ⟨b, 0, none⟩)) ∧ w'.cell? ⟨bx, 2, none⟩ = some (.int .i64 x.f1.f0) ∧ w'.cell? ⟨bx, 3, none⟩ = some (.int .i64 x.f1.f1) ∧ w'.cell? ⟨b, 1, none⟩ = some (.int .i64 s.ny)) (ds := []) #[false, false, false, false, false, false, false, false, false, false, false, false, false, false] zq0 rfl rfl ⟨((blk_cell mP 0).trans rfl), ((blk_cell mX 2).trans rfl), ((blk_cell mX 3).trans rfl), ((blk_cell mT 1).trans rfl)⟩ (fun hHeld => ?_)
 generalize hWd : World.drew _ = Wx at *
 clear hWd
 refine zpz (i := 1) (N := some 24) zq0 ?_
 refine ztz (i := 0) (N := some 23) zq0 hHeld ?_
 refine ztz (i := 2) (N := some 25) zq0 hHeld ?_
 refine ztz (i := 3) (N := some 26) zq0 hHeld ?_
 refine zpz (i := 4) (N := some 27) zq0 ?_
 refine zpz (i := 5) (N := some 28) zq0 ?_
 refine zpz (i := 6) (N := some 29) zq0 ?_
 refine ztz (i := 7) (N := some 30) zq0 hHeld ?_
 refine one_ (i := 8) (N := some 31) #[true, true, true, true, true, true, true, true, true, false, false, false, false, false] rfl rfl zq0 (by decide) (fun K hK => ?_)
 have hcon_ := kM Wx (hT.below hE.1)
 refine goes_ Try.func157 zq0 rfl #[.pointer (some ⟨b, 0, none⟩), .agg #[.int .i64 x.f1.f0, .int .i64 x.f1.f1], .int .i64 s.ny] (by rfl) rfl rfl (by simp only [List.map_toArray, List.map_cons, List.map_nil]; rfl) ?_
 with_reducible refine (hcon_).mono ?_
 rintro e W2 ⟨rfl, hb2⟩
 refine ⟨_, rfl, ?_⟩
 clear hcon_
 replace mT := blk_below mT hb2
 replace mP := blk_below mP hb2
 replace mX := blk_below mX hb2
 replace h0 := hJa _ _ _ h0 hb2
 replace hE := hE.below hb2
 clear hb2
 refine hK.out _ _ ⟨((blk_cell mP 0).trans rfl), ((blk_cell mX 2).trans rfl), ((blk_cell mX 3).trans rfl), ((blk_cell mT 1).trans rfl)⟩ (fun hHeld => ?_)
 clear hK K
 refine norm_ (by show Act.put _ (some 31) _ = _; simp only [Act.put, List.setIfInBounds_toArray, List.set_cons_zero, List.set_cons_succ, i64_w, i32_w]; rfl) ?_
 refine zpz (i := 9) (N := some 22) zq0 ?_
 refine zpz (i := 10) (N := some 32) zq0 ?_
 refine zpz (i := 11) (N := some 33) zq0 ?_
 refine zpz (i := 12) (N := some 6) zq0 ?_
 refine zpz (i := 13) (N := some 7) zq0 ?_
 refine done_ zq0 ?_
 refine onlyN_normal ?_
 clear mT mP mX kN kM
 gi_wp2
 gi_loopw [8] (fun i wr => ∃ (q : Nat) (pre : List (CellN s)), q ≤ (k1 + 1 - k0).toNat ∧ i = .int .i64 (k0 + (q : Int)) ∧ Hid (pre.map Subtype.val = uptoT s.nx i0 (i1 + 1 - i0).toNat k0 q 0) ∧ Env w0 bp bx b x wr ∧ J pre wr) (fun i _ => (k1 + 1 - intOf i).toNat)
 case atStart => exact ⟨0, [], Nat.zero_le _, by simp, Lib.hid (by rw [uptoT_zero]; rfl), hE, h0⟩
 case round =>
  clear hE h0
  obtain ⟨q, pre, hq, rfl, HP, hE, hJs⟩ := hrel
  by_cases hlt : k0 + (q : Int) ≤ k1
  ·gi_wp2
   gi_loopw [9] (fun i wr2 => ∃ (j : Nat) (pre2 : List (CellN s)), j ≤ (i1 + 1 - i0).toNat ∧ i = .int .i64 (i0 + (j : Int)) ∧ Hid (pre2.map Subtype.val = uptoT s.nx i0 (i1 + 1 - i0).toNat k0 q j) ∧ Env w0 bp bx b x wr2 ∧ J pre2 wr2) (fun i _ => (i1 + 1 - intOf i).toNat)
   case atStart => exact ⟨0, pre, Nat.zero_le _, by simp, HP, hE, hJs⟩
   case round =>
    clear hE hJs
    obtain ⟨j, pre2, hj, rfl, HQ, hE, hJ2⟩ := hrel
    by_cases hjk : i0 + (j : Int) ≤ i1
    ·have hlen : pre2.length < (touchL s x).length := by
      have h1 := uptoT_pre (nx := s.nx) (i0 := i0) (k0 := k0) (show q < (k1 + 1 - k0).toNat by omega) (show j + 1 ≤ (i1 + 1 - i0).toNat by omega)
      have h2 := h1.length_le
      rw [uptoT_succ, ← HQ.out, ← HAll.out] at h2
      simp at h2
      omega
     have hr := row_in (ny := s.ny) (k := k0 + (q : Int)) hnx.1 (by omega) (by omega)
     have hxy := mul_in (show 0 ≤ s.nx by omega) hnx.2 (show 0 ≤ s.ny by omega) hny.2
     obtain ⟨fn, tmps, assign, body, hy, hR⟩ := hY pre2 ⟨(k0 + (q : Int)) * s.nx + (i0 + (j : Int)), by omega, by omega⟩ _ hJ2 hlen
     dsimp only at hy
     have hE0 := hE
     obtain ⟨hb0, mP, _⟩ := hE0
     obtain ⟨A7, c7, A8, c8, mT, _⟩ := hT.below hb0
     clear hb0
     have cP := (blk_cell mP 0).trans rfl
     have cT := (blk_cell mT 0).trans rfl
     clear mT mP
     gi_wp2
     refine hR.mono ?_
     rintro e W3 (⟨rfl, hJ3, hk3⟩ | ⟨rfl, hJx3⟩)
     ·clear cP cT
      have hE3 := hKp _ _ hk3 hE
      clear hk3 hE
      gi_wp2
      go_roundw
      case rel => exact ⟨j + 1, _, by omega, by simp; omega, Lib.hid (by rw [List.map_append, HQ.out, uptoT_succ]; rfl), hE3, hJ3⟩
      case measure => simp [intOf]; omega
     ·gi_wp2
      refine bodyPost_ret (results_none rfl _ _ _) rfl ?_
      refine ⟨⟨_, rfl⟩, .inr ⟨_, ?_, hJx3⟩⟩
      show List.map Subtype.val _ <+: _
      rw [List.map_append, HQ.out, List.map_singleton, ← uptoT_succ, HAll.out]
      exact uptoT_pre (by omega) (by omega)
    ·obtain rfl : j = (i1 + 1 - i0).toNat := by omega
     gi_wp2
     go_roundw
     case rel => exact ⟨q + 1, pre2, by omega, by simp; omega, Lib.hid (by rw [HQ.out, uptoT_row, ← allT_succ]), hE, hJ2⟩
     case measure => simp [intOf]; omega
  ·obtain rfl : q = (k1 + 1 - k0).toNat := by omega
   gi_wp2
   go_end0
   exact ⟨⟨_, rfl⟩, .inl ⟨pre, by unfold AllT; rw [HAll.out, HP.out, uptoT_row], hJs⟩⟩
end Go.Proofs.Ythglkoddmpicdaa.Gl
end
section
/- Does a box touch a shore? -/
namespace Go.Proofs.Ythglkoddmpicdaa.Gl
open Go.RowKit Go.Shelf Go.Proofs.YthglkoddmpicdaaW.PrintWords Go.Proofs.YthglkoddmpicdaaW.PrintLast Go.Proofs.YthglkoddmpicdaaW.PrintMore Go.Proofs.Ythglkoddmpicdaa.Pr Go.Proofs.YthglkoddmpicdaaW.Round
set_option linter.unusedVariables false
set_option linter.unusedSimpArgs false
attribute [local go_sem] max2_int min2_int max_two min_two max_four
attribute [local go_sem] Oper.semAt_some
theorem Blk.belowH {W W1 : World} {b : Nat} {c : Array Value} {t : TypeId} (h : W.heap[b]? = some (.cells c t (0, 0))) (hb : Below W.heap.size W W1) : Blk W1 b c t := (hb.block b (Array.getElem?_eq_some_iff.1 h).1).trans h
theorem blk_grownO {B b : Nat} {c : Array Value} {t : TypeId} {X Y : World} {row : Option Nat} (hs : Blk X b c t) (hg : X.grownBy Y row) (hr : ∀ r, row = some r → B ≤ r ∧ ∃ o : Obj, X.heap[r]? = some o ∧ o.isCells = false) : Blk Y b c t :=
 (hg.block b (Array.getElem?_eq_some_iff.1 hs).1 (fun e => by obtain ⟨_, o, ho, hc⟩ := hr b e.symm; rw [show X.heap[b]? = _ from hs] at ho; cases ho; cases hc)).trans hs
theorem keepsFrom_below {B : Nat} {W W1 : World} (hb : Below W.heap.size W W1) : KeepsFrom B W W1 :=
 ⟨hb.size, fun k o _ h0 _ => (hb.block k (Array.getElem?_eq_some_iff.1 h0).1).trans h0⟩
theorem blk_ownFrom {β : Type} (B b : Nat) (f : β → Array Value) (t : TypeId) : OwnFrom B (fun s W => Blk W b (f s) t) := fun s X Y row hs hg hr => blk_grownO hs hg hr
end Go.Proofs.Ythglkoddmpicdaa.Gl
end
