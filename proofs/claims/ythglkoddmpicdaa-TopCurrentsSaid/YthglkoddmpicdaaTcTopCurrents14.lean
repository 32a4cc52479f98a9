/- Part 14 of the proof of TopCurrents: what the functions compute. No condition. -/
import Derived.Test.YthglkoddmpicdaaTcTopCurrents3
import Derived.Test.YthglkoddmpicdaaTcTopCurrents13
import Derived.Test.YthglkoddmpicdaaTcTopCurrents10
import Derived.Test.YthglkoddmpicdaaTcTopCurrents11
import Derived.Test.YthglkoddmpicdaaTcTopCurrents4
set_option linter.unusedVariables false
set_option linter.unusedSimpArgs false
section
/- The current at a box is bounded. -/
namespace Go.Proofs.Ythglkoddmpicdaa.Gl
open Go.RowKit Go.Shelf Go.Proofs.YthglkoddmpicdaaW.PrintWords Go.Proofs.YthglkoddmpicdaaW.PrintLast Go.Proofs.YthglkoddmpicdaaW.PrintMore Go.Proofs.Ythglkoddmpicdaa.Pr Go.Proofs.YthglkoddmpicdaaW.Round
set_option linter.unusedVariables false
set_option linter.unusedSimpArgs false
attribute [local go_sem] max2_int min2_int max_two min_two max_four
/-- All currents are bounded. -/
def CurB (s : Sea) : Prop := ∀ c ∈ s.currents, (-5000 ≤ c.f0.f0 ∧ c.f0.f0 ≤ 5000) ∧ (-5000 ≤ c.f0.f1 ∧ c.f0.f1 ≤ 5000) ∧ (-5000 ≤ c.f1.f0 ∧ c.f1.f0 ≤ 5000) ∧ (-5000 ≤ c.f1.f1 ∧ c.f1.f1 ≤ 5000) ∧ c.f0.f0 ≤ c.f0.f1 ∧ c.f1.f0 ≤ c.f1.f1
end Go.Proofs.Ythglkoddmpicdaa.Gl
end
section
/- The reach of a dive. -/
namespace Go.Proofs.Ythglkoddmpicdaa.Gl
open Go.RowKit Go.Shelf Go.Proofs.YthglkoddmpicdaaW.PrintWords Go.Proofs.YthglkoddmpicdaaW.PrintLast Go.Proofs.YthglkoddmpicdaaW.PrintMore Go.Proofs.Ythglkoddmpicdaa.Pr Go.Proofs.YthglkoddmpicdaaW.Round
set_option linter.unusedVariables false
set_option linter.unusedSimpArgs false
attribute [local go_sem] max2_int min2_int max_two min_two max_four
/-- A box whose numbers are not too large. -/
def SmallB (x : S29) : Prop := (-1099511627776 ≤ x.f0.f0 ∧ x.f0.f0 ≤ 1099511627776) ∧ (-1099511627776 ≤ x.f0.f1 ∧ x.f0.f1 ≤ 1099511627776) ∧ (-1099511627776 ≤ x.f1.f0 ∧ x.f1.f0 ≤ 1099511627776) ∧ (-1099511627776 ≤ x.f1.f1 ∧ x.f1.f1 ≤ 1099511627776)
end Go.Proofs.Ythglkoddmpicdaa.Gl
end
section
/- The box in which a dive ends. -/
namespace Go.Proofs.Ythglkoddmpicdaa.Gl
open Go.RowKit Go.Shelf Go.Proofs.YthglkoddmpicdaaW.PrintWords Go.Proofs.YthglkoddmpicdaaW.PrintLast Go.Proofs.YthglkoddmpicdaaW.PrintMore Go.Proofs.Ythglkoddmpicdaa.Pr Go.Proofs.YthglkoddmpicdaaW.Round
set_option linter.unusedVariables false
set_option linter.unusedSimpArgs false
attribute [local go_sem] max2_int min2_int max_two min_two max_four
end Go.Proofs.Ythglkoddmpicdaa.Gl
end
section
/- A dive. -/
namespace Go.Proofs.Ythglkoddmpicdaa.Gl
open Go.RowKit Go.Shelf Go.Proofs.YthglkoddmpicdaaW.PrintWords Go.Proofs.YthglkoddmpicdaaW.PrintLast Go.Proofs.YthglkoddmpicdaaW.PrintMore Go.Proofs.Ythglkoddmpicdaa.Pr Go.Proofs.YthglkoddmpicdaaW.Round
set_option linter.unusedVariables false
set_option linter.unusedSimpArgs false
attribute [local go_sem] max2_int min2_int max_two min_two max_four
/-- A valid sea. -/
structure SeaV (s : Sea) : Prop where
 n : SeaN s
 sh : (s.shores.length : Int) = s.nx * s.ny
 cu : (s.currents.length : Int) = s.slots * s.layers * (s.nx * s.ny)
 cb : CurB s
/-- A box whose numbers are in order and not too large. -/
def BoxOK (x : S29) : Prop := SmallB x ∧ x.f0.f0 ≤ x.f0.f1 ∧ x.f1.f0 ≤ x.f1.f1
end Go.Proofs.Ythglkoddmpicdaa.Gl
end
section
namespace Go.Proofs.Ythglkoddmpicdaa.Pr
open Go.RowKit Go.Proofs.YthglkoddmpicdaaW.PrintWords Go.Proofs.YthglkoddmpicdaaW.PrintLast Go.Proofs.YthglkoddmpicdaaW.PrintMore
attribute [local go_sem] max2_int min2_int max_two min_two max_four
set_option linter.unusedVariables false
set_option linter.unusedSimpArgs false

/-! ### bound_amount: function 84 -/
def bound_amount.f (a0 : Int) : Option (Int) := some (mx a0 (wrap64 (-a0)))
set_option maxHeartbeats 8000000 in
set_option maxRecDepth 100000 in
theorem bound_amount.calls (a0 : Int) (r : Int) (w : World) (h : bound_amount.f a0 = some r) :
  Calls Try.prog 84 #[.int .i64 a0] w fun e w' => e = .returned (.int .i64 r) ∧ Below w.heap.size w w' := by
 have HB := Aside0.mk (Below.refl w.heap.size w)
 have H : (some (mx a0 (wrap64 (-a0)))) = some r := h
 clear h
 obtain ⟨ji2, hji2⟩ : ∃ j_ : Int, (mx a0 (wrap64 (-a0))) = j_ := ⟨_, rfl⟩
 replace H : (some ji2) = some r := by first | (rw [hji2] at H; exact H) | (simp only [hji2] at H ⊢; exact H)
 have hji2_ : (if a0 < (wrap64 (-a0)) then (wrap64 (-a0)) else a0) = ji2 := hji2
 obtain rfl := Option.some.inj H
 go_enter Try.func84, Try.ntmps84
 go_wp2
 go_ret
 exact ⟨by first | rfl | (simp [errW_none, errW_some] <;> rfl) | (simp only [← hji2]; first | rfl | (simp [errW_none, errW_some] <;> rfl)) | (simp [*, errW_none, errW_some] <;> rfl), zbz⟩

end Go.Proofs.Ythglkoddmpicdaa.Pr
end
section
namespace Go.Proofs.Ythglkoddmpicdaa.Pr
open Go.RowKit Go.Proofs.YthglkoddmpicdaaW.PrintWords Go.Proofs.YthglkoddmpicdaaW.PrintLast Go.Proofs.YthglkoddmpicdaaW.PrintMore
attribute [local go_sem] max2_int min2_int max_two min_two max_four
set_option linter.unusedVariables false
set_option linter.unusedSimpArgs false

/-! ### bound_CheckBox: function 51 -/
def bound_CheckBox.f (k : Nat) (a0_0 : Int) (a0_1 : Int) (a0_2 : Int) (a0_3 : Int) : Option (Int) := (bound_check.f k (([(⟨a0_0, a0_1⟩ : S27), (⟨a0_2, a0_3⟩ : S27)] : List (S27)))).bind fun t147 => (if t147 = 0 then ((bound_amount.f a0_0).bind fun t148 => ((bound_amount.f a0_1).bind fun t149 => ((bound_amount.f a0_2).bind fun t150 => ((bound_amount.f a0_3).bind fun t151 => (if (mx (mx (mx t148 t149) t150) t151) > 268435456 then (some 2) else (some 0)))))) else (some t147))
def bound_CheckBox.T4 : Bool × List (List Nat × List Nat) := (true, [([], []), ([0], [0]), ([1], [1]), ([2], [2]), ([], []), ([4], [4]), ([5], [5]), ([6, 3], [6]), ([], []), ([8], [8]), ([9], [9]), ([10, 7], [10]), ([], []), ([12], [12]), ([13], [13]), ([14, 11], [14]), ([3, 7, 11, 15], [3, 7, 11, 15]), ([16], [16])])
def bound_CheckBox.B4 : List Nat := [0, 1, 3, 7, 0, 16, 48, 127, 0, 256, 768, 2047, 0, 4096, 12288, 32767, 65535, 131071]
theorem bound_CheckBox.tab4 : rtab .any (opsOf Try.f51 4) = bound_CheckBox.T4 := by kernel_rfl
theorem bound_CheckBox.bits4 : waitsOk bound_CheckBox.T4.2 bound_CheckBox.B4 = true := by kernel_rfl
set_option maxHeartbeats 8000000 in
set_option maxRecDepth 100000 in
theorem bound_CheckBox.calls (k : Nat) (a0_0 : Int) (a0_1 : Int) (a0_2 : Int) (a0_3 : Int) (r : Int) (w : World) (h : bound_CheckBox.f k a0_0 a0_1 a0_2 a0_3 = some r) :
  Calls Try.prog 51 #[.agg #[.int .i64 a0_0, .int .i64 a0_1, .int .i64 a0_2, .int .i64 a0_3]] w fun e w' => e = .returned (.int .i64 r) ∧ Below w.heap.size w w' := by
 have hu29 := Try.underlying29
 have hu27 := Try.underlying27
 have HB := Aside0.mk (Below.refl w.heap.size w)
 have H : ((bound_check.f k (([(⟨a0_0, a0_1⟩ : S27), (⟨a0_2, a0_3⟩ : S27)] : List (S27)))).bind fun t147 => (if t147 = 0 then ((bound_amount.f a0_0).bind fun t148 => ((bound_amount.f a0_1).bind fun t149 => ((bound_amount.f a0_2).bind fun t150 => ((bound_amount.f a0_3).bind fun t151 => (if (mx (mx (mx t148 t149) t150) t151) > 268435456 then (some 2) else (some 0)))))) else (some t147))) = some r := h
 clear h
 obtain ⟨y144, hy144⟩ : ∃ y_ : List (S27), y_ = (([(⟨a0_0, a0_1⟩ : S27), (⟨a0_2, a0_3⟩ : S27)] : List (S27))) := ⟨_, rfl⟩
 replace H : ((bound_check.f k y144).bind fun t147 => (if t147 = 0 then ((bound_amount.f a0_0).bind fun t148 => ((bound_amount.f a0_1).bind fun t149 => ((bound_amount.f a0_2).bind fun t150 => ((bound_amount.f a0_3).bind fun t151 => (if (mx (mx (mx t148 t149) t150) t151) > 268435456 then (some 2) else (some 0)))))) else (some t147))) = some r := by first | (rw [hy144]; with_reducible exact H) | (have H2_ := (Option.bind_some _ _).symm.trans H; rw [hy144]; with_reducible exact H2_) | (have H2_ := (Option.bind_some _ _).symm.trans H; with_reducible exact H2_) | with_reducible exact H | (rw [hy144]; exact H) | exact H
 have Ny144 := Aside0.mk hy144
 clear hy144
 replace H := Option.bind_eq_some_iff.mp H
 obtain ⟨t147, A20, H⟩ := H
 replace H : (if t147 = 0 then ((bound_amount.f a0_0).bind fun t148 => ((bound_amount.f a0_1).bind fun t149 => ((bound_amount.f a0_2).bind fun t150 => ((bound_amount.f a0_3).bind fun t151 => (if (mx (mx (mx t148 t149) t150) t151) > 268435456 then (some 2) else (some 0)))))) else (some t147)) = some r := H
 have A2 := Aside0.mk A20
 clear A20
 by_cases c3 : t147 = 0
 ·rw [if_pos c3] at H
  have c3b0 : (t147 == 0) = true := beq_iff_eq.mpr c3
  have c3b1 : (t147 != 0) = false := bne_eq_false_iff_eq.mpr c3
  clear c3
  replace H := Option.bind_eq_some_iff.mp H
  obtain ⟨t148, A40, H⟩ := H
  replace H : ((bound_amount.f a0_1).bind fun t149 => ((bound_amount.f a0_2).bind fun t150 => ((bound_amount.f a0_3).bind fun t151 => (if (mx (mx (mx t148 t149) t150) t151) > 268435456 then (some 2) else (some 0))))) = some r := H
  have A4 := Aside0.mk A40
  clear A40
  replace H := Option.bind_eq_some_iff.mp H
  obtain ⟨t149, A50, H⟩ := H
  replace H : ((bound_amount.f a0_2).bind fun t150 => ((bound_amount.f a0_3).bind fun t151 => (if (mx (mx (mx t148 t149) t150) t151) > 268435456 then (some 2) else (some 0)))) = some r := H
  have A5 := Aside0.mk A50
  clear A50
  replace H := Option.bind_eq_some_iff.mp H
  obtain ⟨t150, A60, H⟩ := H
  replace H : ((bound_amount.f a0_3).bind fun t151 => (if (mx (mx (mx t148 t149) t150) t151) > 268435456 then (some 2) else (some 0))) = some r := H
  have A6 := Aside0.mk A60
  clear A60
  replace H := Option.bind_eq_some_iff.mp H
  obtain ⟨t151, A70, H⟩ := H
  replace H : (if (mx (mx (mx t148 t149) t150) t151) > 268435456 then (some 2) else (some 0)) = some r := H
  have A7 := Aside0.mk A70
  clear A70
  obtain ⟨ji8, hji8⟩ : ∃ j_ : Int, (mx t148 t149) = j_ := ⟨_, rfl⟩
  replace H : (if (mx (mx (ji8) t150) t151) > 268435456 then (some 2) else (some 0)) = some r := by first | (rw [hji8] at H; exact H) | (simp only [hji8] at H ⊢; exact H)
  (try rw [hji8] at A2)
  (try rw [hji8] at A4)
  (try rw [hji8] at A5)
  (try rw [hji8] at A6)
  (try rw [hji8] at A7)
  have hji8_ : (if t148 < t149 then t149 else t148) = ji8 := hji8
  obtain ⟨ji9, hji9⟩ : ∃ j_ : Int, (mx (ji8) t150) = j_ := ⟨_, rfl⟩
  replace H : (if (mx (ji9) t151) > 268435456 then (some 2) else (some 0)) = some r := by first | (rw [hji9] at H; exact H) | (simp only [hji9] at H ⊢; exact H)
  (try rw [hji9] at A2)
  (try rw [hji9] at A4)
  (try rw [hji9] at A5)
  (try rw [hji9] at A6)
  (try rw [hji9] at A7)
  have hji9_ : (if (ji8) < t150 then t150 else (ji8)) = ji9 := hji9
  obtain ⟨ji10, hji10⟩ : ∃ j_ : Int, (mx (ji9) t151) = j_ := ⟨_, rfl⟩
  replace H : (if (ji10) > 268435456 then (some 2) else (some 0)) = some r := by first | (rw [hji10] at H; exact H) | (simp only [hji10] at H ⊢; exact H)
  (try rw [hji10] at A2)
  (try rw [hji10] at A4)
  (try rw [hji10] at A5)
  (try rw [hji10] at A6)
  (try rw [hji10] at A7)
  have hji10_ : (if (ji9) < t151 then t151 else (ji9)) = ji10 := hji10
  by_cases c11 : (ji10) > 268435456
  ·rw [if_pos c11] at H
   have c11b0 : decide (268435456 < (ji10)) = true := decide_eq_true c11
   clear c11
   obtain rfl := Option.some.inj H
   go_enter Try.func51, Try.ntmps51
   try go_wp2_with (first | ((with_reducible refine gate_dst (N := 1) rfl ?_); refine box_event (by rfl) (N := 1) (by rfl) (cs := #[.int .i64 a0_0, .int .i64 a0_1, .int .i64 a0_2, .int .i64 a0_3]) (t := 29) zq1 ?_; intro gb143 hg w12 hbox hb; have BK143 := Aside0.mk (hbox); have GW143 := zgs HB hg; have GE143 := zgs HB hg; replace HB := zbs HB hb; clear hb hbox hg; obtain ⟨hcz13_0, hcz13_1, hcz13_2, hcz13_3, hfz13_0, hfz13_1, hfz13_2, hfz13_3⟩ := zce4 BK143.out) | ((with_reducible refine gate_dst (N := 8) rfl ?_); refine Kd.R_lit k27 _ 27 (by rfl) (N := 8) (by rfl) (xs := ([(⟨a0_0, a0_1⟩ : S27), (⟨a0_2, a0_3⟩ : S27)] : List (S27))) (inner := [.int .i64 a0_0, .int .i64 a0_1, .int .i64 a0_2, .int .i64 a0_3]) (ok := fun _ => True) (okp := fun _ => True) zq1 zq24 (fun _ hk => hk) trivial (Below.refl _ _) (Nat.le_refl _) (by simp) ?_; intro v145 w14 ho15 hb hg_ hnew_; clear hg_ hnew_; (first | rw [← Ny144.out] at ho15 | (simp only [Int.reduceToNat] at ho15; rw [← Ny144.out] at ho15)); have HO146 := Aside0.mk (Kd.R_lower ho15 (below_size zbz)); replace BK143 := zbb BK143 hb; replace HB := zbs HB hb; clear hb ho15; obtain ⟨Ao16, co16, eo16⟩ := Kd.R_slice HO146.out; subst eo16) | ((with_reducible refine gate_callee (f := 59) rfl ?_); refine goesL_ (some 9) rfl rfl Try.func59 zq0 rfl #[.slice Ao16 y144.length co16] rfl zq6 ?_; (with_reducible refine (bound_check.calls k _ _ y144 t147 _ ?side1 ?side2 A2.out).mono ?_); (case side1 => repeat (first | exact (Kd.R_reads' HO146.out).2.2 | (with_reducible refine Kd.C_alloc ?_ _) | (with_reducible refine Kd.C_drewN ?_ _) | (with_reducible refine Kd.C_drew ?_))); (case side2 => exact (Kd.R_reads' HO146.out).2.1); rintro e w17 ⟨rfl, hb⟩; refine ⟨_, rfl, ?_⟩; replace HO146 := zrb HO146 hb; replace BK143 := zbb BK143 hb; replace HB := zbs HB hb; (try clear hb); (try clear hb2); (try clear hk); (try clear hi)))
   replace HO146 := Aside0.mk (Kd.R_drew HO146.out)
   replace BK143 := Aside0.mk (blk_drew BK143.out)
   replace HB := Aside0.mk (below_drew1 HB.out)
   refine start_ (n := 18) (S := fun w' => w'.cell? ⟨gb143, 0, none⟩ = some (.int .i64 a0_0) ∧ w'.cell? ⟨gb143, 1, none⟩ = some (.int .i64 a0_1) ∧ w'.cell? ⟨gb143, 2, none⟩ = some (.int .i64 a0_2) ∧ w'.cell? ⟨gb143, 3, none⟩ = some (.int .i64 a0_3)) (ds := []) #[false, false, false, false, false, false, false, false, false, false, false, false, false, false, false, false, false, false] zq0 rfl rfl (zcs4 BK143.out) (fun hHeld => ?_); refine with_tabW bound_CheckBox.tab4 bound_CheckBox.bits4 (fun HT_ HW_ => ?_)
   generalize w17.drew = w18 at HO146 BK143 HB hHeld ⊢
   refine zpz (i := 0) (N := some 13) (any_of HT_.out zq0) ?_
   refine zpz (i := 1) (N := some 14) (any_of HT_.out zq0) ?_
   refine zpz (i := 4) (N := some 17) (any_of HT_.out zq0) ?_
   refine zpz (i := 5) (N := some 18) (any_of HT_.out zq0) ?_
   refine zpz (i := 8) (N := some 21) (any_of HT_.out zq0) ?_
   refine zpz (i := 9) (N := some 22) (any_of HT_.out zq0) ?_
   refine zpz (i := 12) (N := some 25) (any_of HT_.out zq0) ?_
   refine zpz (i := 13) (N := some 26) (any_of HT_.out zq0) ?_
   refine ztz (i := 2) (N := some 15) (take_ofW HT_.out HW_.out zq0) hHeld ?_
   refine ztz (i := 6) (N := some 19) (take_ofW HT_.out HW_.out zq0) hHeld ?_
   refine ztz (i := 10) (N := some 23) (take_ofW HT_.out HW_.out zq0) hHeld ?_
   refine ztz (i := 14) (N := some 27) (take_ofW HT_.out HW_.out zq0) hHeld ?_
   refine one_ (i := 3) (N := some 16) #[true, true, true, true, true, true, true, false, true, true, true, false, true, true, true, false, false, false] rfl rfl (one_of HT_.out zq0) (by decide) (fun K hK => ?_)
   refine goes_ Try.func84 zq0 rfl #[.int .i64 a0_0] (by rfl) rfl rfl zq6 ?_
   with_reducible refine (bound_amount.calls a0_0 t148 _ A4.out).mono ?_
   rintro e w19 ⟨rfl, hb⟩
   refine ⟨_, rfl, ?_⟩
   replace HO146 := zrb HO146 hb
   replace BK143 := zbb BK143 hb
   replace HB := zbs HB hb
   (try clear hb)
   (try clear hb2)
   (try clear hk)
   (try clear hi)
   refine hK.out _ _ (zcs4 BK143.out) (fun hHeld => ?_)
   clear hK K
   refine norm_ zq23 ?_
   refine one_ (i := 7) (N := some 20) #[true, true, true, true, true, true, true, true, true, true, true, false, true, true, true, false, false, false] rfl rfl (one_of HT_.out zq0) (by decide) (fun K hK => ?_)
   refine goes_ Try.func84 zq0 rfl #[.int .i64 a0_1] (by rfl) rfl rfl zq6 ?_
   with_reducible refine (bound_amount.calls a0_1 t149 _ A5.out).mono ?_
   rintro e w20 ⟨rfl, hb⟩
   refine ⟨_, rfl, ?_⟩
   replace HO146 := zrb HO146 hb
   replace BK143 := zbb BK143 hb
   replace HB := zbs HB hb
   (try clear hb)
   (try clear hb2)
   (try clear hk)
   (try clear hi)
   refine hK.out _ _ (zcs4 BK143.out) (fun hHeld => ?_)
   clear hK K
   refine norm_ zq25 ?_
   refine one_ (i := 11) (N := some 24) #[true, true, true, true, true, true, true, true, true, true, true, true, true, true, true, false, false, false] rfl rfl (one_of HT_.out zq0) (by decide) (fun K hK => ?_)
   refine goes_ Try.func84 zq0 rfl #[.int .i64 a0_2] (by rfl) rfl rfl zq6 ?_
   with_reducible refine (bound_amount.calls a0_2 t150 _ A6.out).mono ?_
   rintro e w21 ⟨rfl, hb⟩
   refine ⟨_, rfl, ?_⟩
   replace HO146 := zrb HO146 hb
   replace BK143 := zbb BK143 hb
   replace HB := zbs HB hb
   (try clear hb)
   (try clear hb2)
   (try clear hk)
   (try clear hi)
   refine hK.out _ _ (zcs4 BK143.out) (fun hHeld => ?_)
   clear hK K
   refine norm_ zq26 ?_
   refine one_ (i := 15) (N := some 28) #[true, true, true, true, true, true, true, true, true, true, true, true, true, true, true, true, false, false] rfl rfl (one_of HT_.out zq0) (by decide) (fun K hK => ?_)
   refine goes_ Try.func84 zq0 rfl #[.int .i64 a0_3] (by rfl) rfl rfl zq6 ?_
   with_reducible refine (bound_amount.calls a0_3 t151 _ A7.out).mono ?_
   rintro e w22 ⟨rfl, hb⟩
   refine ⟨_, rfl, ?_⟩
   replace HO146 := zrb HO146 hb
   replace BK143 := zbb BK143 hb
   replace HB := zbs HB hb
   (try clear hb)
   (try clear hb2)
   (try clear hk)
   (try clear hi)
   refine hK.out _ _ (zcs4 BK143.out) (fun hHeld => ?_)
   clear hK K
   refine norm_ zq27 ?_
   refine zpz (i := 16) (N := some 29) (any_of HT_.out zq0) ?_
   refine zpz (i := 17) (N := some 30) (any_of HT_.out zq0) ?_
   refine done_ (done_of HT_.out zq0) ?_
   try go_wp2
   go_ret
   exact ⟨zq28, zbz⟩
  ·rw [if_neg c11] at H
   have c11b0 : decide (268435456 < (ji10)) = false := decide_eq_false c11
   clear c11
   obtain rfl := Option.some.inj H
   go_enter Try.func51, Try.ntmps51
   try go_wp2_with (first | ((with_reducible refine gate_dst (N := 1) rfl ?_); refine box_event (by rfl) (N := 1) (by rfl) (cs := #[.int .i64 a0_0, .int .i64 a0_1, .int .i64 a0_2, .int .i64 a0_3]) (t := 29) zq1 ?_; intro gb143 hg w23 hbox hb; have BK143 := Aside0.mk (hbox); have GW143 := zgs HB hg; have GE143 := zgs HB hg; replace HB := zbs HB hb; clear hb hbox hg; obtain ⟨hcz24_0, hcz24_1, hcz24_2, hcz24_3, hfz24_0, hfz24_1, hfz24_2, hfz24_3⟩ := zce4 BK143.out) | ((with_reducible refine gate_dst (N := 8) rfl ?_); refine Kd.R_lit k27 _ 27 (by rfl) (N := 8) (by rfl) (xs := ([(⟨a0_0, a0_1⟩ : S27), (⟨a0_2, a0_3⟩ : S27)] : List (S27))) (inner := [.int .i64 a0_0, .int .i64 a0_1, .int .i64 a0_2, .int .i64 a0_3]) (ok := fun _ => True) (okp := fun _ => True) zq1 zq24 (fun _ hk => hk) trivial (Below.refl _ _) (Nat.le_refl _) (by simp) ?_; intro v145 w25 ho26 hb hg_ hnew_; clear hg_ hnew_; (first | rw [← Ny144.out] at ho26 | (simp only [Int.reduceToNat] at ho26; rw [← Ny144.out] at ho26)); have HO146 := Aside0.mk (Kd.R_lower ho26 (below_size zbz)); replace BK143 := zbb BK143 hb; replace HB := zbs HB hb; clear hb ho26; obtain ⟨Ao27, co27, eo27⟩ := Kd.R_slice HO146.out; subst eo27) | ((with_reducible refine gate_callee (f := 59) rfl ?_); refine goesL_ (some 9) rfl rfl Try.func59 zq0 rfl #[.slice Ao27 y144.length co27] rfl zq6 ?_; (with_reducible refine (bound_check.calls k _ _ y144 t147 _ ?side1 ?side2 A2.out).mono ?_); (case side1 => repeat (first | exact (Kd.R_reads' HO146.out).2.2 | (with_reducible refine Kd.C_alloc ?_ _) | (with_reducible refine Kd.C_drewN ?_ _) | (with_reducible refine Kd.C_drew ?_))); (case side2 => exact (Kd.R_reads' HO146.out).2.1); rintro e w28 ⟨rfl, hb⟩; refine ⟨_, rfl, ?_⟩; replace HO146 := zrb HO146 hb; replace BK143 := zbb BK143 hb; replace HB := zbs HB hb; (try clear hb); (try clear hb2); (try clear hk); (try clear hi)))
   replace HO146 := Aside0.mk (Kd.R_drew HO146.out)
   replace BK143 := Aside0.mk (blk_drew BK143.out)
   replace HB := Aside0.mk (below_drew1 HB.out)
   refine start_ (n := 18) (S := fun w' => w'.cell? ⟨gb143, 0, none⟩ = some (.int .i64 a0_0) ∧ w'.cell? ⟨gb143, 1, none⟩ = some (.int .i64 a0_1) ∧ w'.cell? ⟨gb143, 2, none⟩ = some (.int .i64 a0_2) ∧ w'.cell? ⟨gb143, 3, none⟩ = some (.int .i64 a0_3)) (ds := []) #[false, false, false, false, false, false, false, false, false, false, false, false, false, false, false, false, false, false] zq0 rfl rfl (zcs4 BK143.out) (fun hHeld => ?_); refine with_tabW bound_CheckBox.tab4 bound_CheckBox.bits4 (fun HT_ HW_ => ?_)
   generalize w28.drew = w29 at HO146 BK143 HB hHeld ⊢
   refine zpz (i := 0) (N := some 13) (any_of HT_.out zq0) ?_
   refine zpz (i := 1) (N := some 14) (any_of HT_.out zq0) ?_
   refine zpz (i := 4) (N := some 17) (any_of HT_.out zq0) ?_
   refine zpz (i := 5) (N := some 18) (any_of HT_.out zq0) ?_
   refine zpz (i := 8) (N := some 21) (any_of HT_.out zq0) ?_
   refine zpz (i := 9) (N := some 22) (any_of HT_.out zq0) ?_
   refine zpz (i := 12) (N := some 25) (any_of HT_.out zq0) ?_
   refine zpz (i := 13) (N := some 26) (any_of HT_.out zq0) ?_
   refine ztz (i := 2) (N := some 15) (take_ofW HT_.out HW_.out zq0) hHeld ?_
   refine ztz (i := 6) (N := some 19) (take_ofW HT_.out HW_.out zq0) hHeld ?_
   refine ztz (i := 10) (N := some 23) (take_ofW HT_.out HW_.out zq0) hHeld ?_
   refine ztz (i := 14) (N := some 27) (take_ofW HT_.out HW_.out zq0) hHeld ?_
   refine one_ (i := 3) (N := some 16) #[true, true, true, true, true, true, true, false, true, true, true, false, true, true, true, false, false, false] rfl rfl (one_of HT_.out zq0) (by decide) (fun K hK => ?_)
   refine goes_ Try.func84 zq0 rfl #[.int .i64 a0_0] (by rfl) rfl rfl zq6 ?_
   with_reducible refine (bound_amount.calls a0_0 t148 _ A4.out).mono ?_
   rintro e w30 ⟨rfl, hb⟩
   refine ⟨_, rfl, ?_⟩
   replace HO146 := zrb HO146 hb
   replace BK143 := zbb BK143 hb
   replace HB := zbs HB hb
   (try clear hb)
   (try clear hb2)
   (try clear hk)
   (try clear hi)
   refine hK.out _ _ (zcs4 BK143.out) (fun hHeld => ?_)
   clear hK K
   refine norm_ zq23 ?_
   refine one_ (i := 7) (N := some 20) #[true, true, true, true, true, true, true, true, true, true, true, false, true, true, true, false, false, false] rfl rfl (one_of HT_.out zq0) (by decide) (fun K hK => ?_)
   refine goes_ Try.func84 zq0 rfl #[.int .i64 a0_1] (by rfl) rfl rfl zq6 ?_
   with_reducible refine (bound_amount.calls a0_1 t149 _ A5.out).mono ?_
   rintro e w31 ⟨rfl, hb⟩
   refine ⟨_, rfl, ?_⟩
   replace HO146 := zrb HO146 hb
   replace BK143 := zbb BK143 hb
   replace HB := zbs HB hb
   (try clear hb)
   (try clear hb2)
   (try clear hk)
   (try clear hi)
   refine hK.out _ _ (zcs4 BK143.out) (fun hHeld => ?_)
   clear hK K
   refine norm_ zq25 ?_
   refine one_ (i := 11) (N := some 24) #[true, true, true, true, true, true, true, true, true, true, true, true, true, true, true, false, false, false] rfl rfl (one_of HT_.out zq0) (by decide) (fun K hK => ?_)
   refine goes_ Try.func84 zq0 rfl #[.int .i64 a0_2] (by rfl) rfl rfl zq6 ?_
   with_reducible refine (bound_amount.calls a0_2 t150 _ A6.out).mono ?_
   rintro e w32 ⟨rfl, hb⟩
   refine ⟨_, rfl, ?_⟩
   replace HO146 := zrb HO146 hb
   replace BK143 := zbb BK143 hb
   replace HB := zbs HB hb
   (try clear hb)
   (try clear hb2)
   (try clear hk)
   (try clear hi)
   refine hK.out _ _ (zcs4 BK143.out) (fun hHeld => ?_)
   clear hK K
   refine norm_ zq26 ?_
   refine one_ (i := 15) (N := some 28) #[true, true, true, true, true, true, true, true, true, true, true, true, true, true, true, true, false, false] rfl rfl (one_of HT_.out zq0) (by decide) (fun K hK => ?_)
   refine goes_ Try.func84 zq0 rfl #[.int .i64 a0_3] (by rfl) rfl rfl zq6 ?_
   with_reducible refine (bound_amount.calls a0_3 t151 _ A7.out).mono ?_
   rintro e w33 ⟨rfl, hb⟩
   refine ⟨_, rfl, ?_⟩
   replace HO146 := zrb HO146 hb
   replace BK143 := zbb BK143 hb
   replace HB := zbs HB hb
   (try clear hb)
   (try clear hb2)
   (try clear hk)
   (try clear hi)
   refine hK.out _ _ (zcs4 BK143.out) (fun hHeld => ?_)
   clear hK K
   refine norm_ zq27 ?_
   refine zpz (i := 16) (N := some 29) (any_of HT_.out zq0) ?_
   refine zpz (i := 17) (N := some 30) (any_of HT_.out zq0) ?_
   refine done_ (done_of HT_.out zq0) ?_
   try go_wp2
   go_ret
   exact ⟨zq28, zbz⟩
 ·rw [if_neg c3] at H
  have c3b0 : (t147 == 0) = false := beq_eq_false_iff_ne.mpr c3
  have c3b1 : (t147 != 0) = true := bne_iff_ne.mpr c3
  obtain rfl := Option.some.inj H
  go_enter Try.func51, Try.ntmps51
  go_wp2_with (first | ((with_reducible refine gate_dst (N := 1) rfl ?_); refine box_event (by rfl) (N := 1) (by rfl) (cs := #[.int .i64 a0_0, .int .i64 a0_1, .int .i64 a0_2, .int .i64 a0_3]) (t := 29) zq1 ?_; intro gb143 hg w34 hbox hb; have BK143 := Aside0.mk (hbox); have GW143 := zgs HB hg; have GE143 := zgs HB hg; replace HB := zbs HB hb; clear hb hbox hg; obtain ⟨hcz35_0, hcz35_1, hcz35_2, hcz35_3, hfz35_0, hfz35_1, hfz35_2, hfz35_3⟩ := zce4 BK143.out) | ((with_reducible refine gate_dst (N := 8) rfl ?_); refine Kd.R_lit k27 _ 27 (by rfl) (N := 8) (by rfl) (xs := ([(⟨a0_0, a0_1⟩ : S27), (⟨a0_2, a0_3⟩ : S27)] : List (S27))) (inner := [.int .i64 a0_0, .int .i64 a0_1, .int .i64 a0_2, .int .i64 a0_3]) (ok := fun _ => True) (okp := fun _ => True) zq1 zq24 (fun _ hk => hk) trivial (Below.refl _ _) (Nat.le_refl _) (by simp) ?_; intro v145 w36 ho37 hb hg_ hnew_; clear hg_ hnew_; (first | rw [← Ny144.out] at ho37 | (simp only [Int.reduceToNat] at ho37; rw [← Ny144.out] at ho37)); have HO146 := Aside0.mk (Kd.R_lower ho37 (below_size zbz)); replace BK143 := zbb BK143 hb; replace HB := zbs HB hb; clear hb ho37; obtain ⟨Ao38, co38, eo38⟩ := Kd.R_slice HO146.out; subst eo38) | ((with_reducible refine gate_callee (f := 59) rfl ?_); refine goesL_ (some 9) rfl rfl Try.func59 zq0 rfl #[.slice Ao38 y144.length co38] rfl zq6 ?_; (with_reducible refine (bound_check.calls k _ _ y144 t147 _ ?side1 ?side2 A2.out).mono ?_); (case side1 => repeat (first | exact (Kd.R_reads' HO146.out).2.2 | (with_reducible refine Kd.C_alloc ?_ _) | (with_reducible refine Kd.C_drewN ?_ _) | (with_reducible refine Kd.C_drew ?_))); (case side2 => exact (Kd.R_reads' HO146.out).2.1); rintro e w39 ⟨rfl, hb⟩; refine ⟨_, rfl, ?_⟩; replace HO146 := zrb HO146 hb; replace BK143 := zbb BK143 hb; replace HB := zbs HB hb; (try clear hb); (try clear hb2); (try clear hk); (try clear hi)))
  go_ret
  exact ⟨zq2, zbz⟩

end Go.Proofs.Ythglkoddmpicdaa.Pr
end
section
namespace Go.Proofs.Ythglkoddmpicdaa.Pr
open Go.RowKit Go.Proofs.YthglkoddmpicdaaW.PrintWords Go.Proofs.YthglkoddmpicdaaW.PrintLast Go.Proofs.YthglkoddmpicdaaW.PrintMore
attribute [local go_sem] max2_int min2_int max_two min_two max_four
set_option linter.unusedVariables false
set_option linter.unusedSimpArgs false

/-! ### glider_checkPlace: function 132 -/
end Go.Proofs.Ythglkoddmpicdaa.Pr
end
section
namespace Go.Proofs.Ythglkoddmpicdaa.Pr
open Go.RowKit Go.Proofs.YthglkoddmpicdaaW.PrintWords Go.Proofs.YthglkoddmpicdaaW.PrintLast Go.Proofs.YthglkoddmpicdaaW.PrintMore
attribute [local go_sem] max2_int min2_int max_two min_two max_four
set_option linter.unusedVariables false
set_option linter.unusedSimpArgs false

/-! ### glider_checkCourses: function 82 -/
def glider_checkCourses.l0 : Nat → Int → List (S76) → Int → Int → Option (Int)
 | 0, _, _, _, _ => none
 | k + 1, x1, x10, x11, x12 => if x12 < x11 then (if 0 ≤ x12 then (if x12 < (x10.length : Int) then (if ((rd_T76 x10 x12).f0) < 0 then (some 2) else (if ((rd_T76 x10 x12).f0) ≥ 9 then (some 2) else (if ((rd_T76 x10 x12).f1) < 0 then (some 2) else (if x1 ≥ 0 then (if ((rd_T76 x10 x12).f1) ≥ x1 then (some 2) else (glider_checkCourses.l0 k x1 x10 x11 (wrap64 (x12 + 1)))) else (glider_checkCourses.l0 k x1 x10 x11 (wrap64 (x12 + 1))))))) else (none)) else (none)) else (some 0)
end Go.Proofs.Ythglkoddmpicdaa.Pr
end
section
/- A trip, as the program makes it, or the error. -/
namespace Go.Proofs.Ythglkoddmpicdaa.Gl
open Go.RowKit Go.Shelf Go.Proofs.YthglkoddmpicdaaW.PrintWords Go.Proofs.YthglkoddmpicdaaW.PrintLast Go.Proofs.YthglkoddmpicdaaW.PrintMore Go.Proofs.Ythglkoddmpicdaa.Pr Go.Proofs.YthglkoddmpicdaaW.Round
set_option linter.unusedVariables false
set_option linter.unusedSimpArgs false
attribute [local go_sem] max2_int min2_int max_two min_two max_four
theorem wrap_id' {n : Int} (h0 : -9223372036854775808 ≤ n) (h1 : n ≤ 9223372036854775807) : wrap64 n = n := by unfold wrap64; omega
/-- Is a box valid? -/
def boxB (x : S29) : Bool := (okS x.f0.f0 x.f0.f1 && okS x.f1.f0 x.f1.f1) && (btwB x.f0.f0 (-268435456) 268435456 && btwB x.f0.f1 (-268435456) 268435456 && btwB x.f1.f0 (-268435456) 268435456 && btwB x.f1.f1 (-268435456) 268435456)
def boxE (x : S29) : Int := if boxB x then 0 else 2
theorem check_two (k : Nat) (a b : S27) : bound_check.f (k + 3) [a, b] = some (if okS a.f0 a.f1 && okS b.f0 b.f1 then 0 else 2) := by
 unfold bound_check.f
 have e1 : (([a, b] : List S27).length : Int) = 2 := rfl
 have r0 : rd_T27 [a, b] 0 = a := rfl
 have r1 : rd_T27 [a, b] 1 = b := rfl
 have w1 : wrap64 (0 + 1) = 1 := wrap_id' (by decide) (by decide)
 have w2 : wrap64 (1 + 1) = 2 := wrap_id' (by decide) (by decide)
 have step : ∀ (c : S27) (r : Option Int), (if c.f0 > c.f1 then some 2 else if c.f0 < -1073741824 then some 2 else if c.f1 > 1073741824 then some 2 else r) = if okS c.f0 c.f1 then r else some 2 := by
  intro c r
  cases h : okS c.f0 c.f1 with
  | true =>
   have := okS_iff.1 h
   rw [if_neg (by omega), if_neg (by omega), if_neg (by omega), if_pos rfl]
  | false =>
   have hn : ¬ (c.f0 ≤ c.f1 ∧ -1073741824 ≤ c.f0 ∧ c.f1 ≤ 1073741824) := fun h2 => by rw [okS_iff.2 h2] at h; cases h
   rw [show (if false = true then r else some 2) = some 2 from rfl]
   by_cases h1 : c.f0 > c.f1
   ·rw [if_pos h1]
   ·rw [if_neg h1]
    by_cases h2 : c.f0 < -1073741824
    ·rw [if_pos h2]
    ·rw [if_neg h2, if_pos (by omega)]
 simp only [bound_check.l0, e1]
 rw [if_pos (by decide), if_pos (by decide), if_pos (by decide), r0, step]
 cases ha : okS a.f0 a.f1 with
 | false => rfl
 | true =>
  rw [if_pos rfl, w1, if_pos (by decide), if_pos (by decide), if_pos (by decide), r1, step]
  cases hb : okS b.f0 b.f1 with
  | false => rfl
  | true =>
   rw [if_pos rfl, w2, if_neg (by decide)]
   rfl
theorem box_some (x : S29) : bound_CheckBox.f 4 x.f0.f0 x.f0.f1 x.f1.f0 x.f1.f1 = some (boxE x) := by
 unfold bound_CheckBox.f boxE boxB
 rw [check_two 1, Option.bind_some]
 cases h : (okS x.f0.f0 x.f0.f1 && okS x.f1.f0 x.f1.f1) with
 | false => rfl
 | true =>
  rw [Bool.and_eq_true] at h
  have h1 := okS_iff.1 h.1
  have h2 := okS_iff.1 h.2
  have am : ∀ a : Int, -1073741824 ≤ a → a ≤ 1073741824 → bound_amount.f a = some (max a (-a)) := fun a h0 h1 => by
   unfold bound_amount.f
   rw [mx_max', wrap_id' (by omega) (by omega)]
  rw [show (if (true = true) then (0 : Int) else 2) = 0 from rfl, if_pos rfl]
  simp only [am _ h1.2.1 (by omega), am _ (show -1073741824 ≤ x.f0.f1 by omega) h1.2.2, am _ h2.2.1 (by omega), am _ (show -1073741824 ≤ x.f1.f1 by omega) h2.2.2, Option.bind_some, mx_max']
  by_cases hb : max (max (max (max x.f0.f0 (-x.f0.f0)) (max x.f0.f1 (-x.f0.f1))) (max x.f1.f0 (-x.f1.f0))) (max x.f1.f1 (-x.f1.f1)) > 268435456
  ·rw [if_pos hb, if_neg]
   rw [Bool.true_and, Bool.and_eq_true, Bool.and_eq_true, Bool.and_eq_true, btwB_iff, btwB_iff, btwB_iff, btwB_iff]
   omega
  ·rw [if_neg hb, if_pos]
   rw [Bool.true_and, Bool.and_eq_true, Bool.and_eq_true, Bool.and_eq_true, btwB_iff, btwB_iff, btwB_iff, btwB_iff]
   omega
theorem box_any (x : S29) (w : World) : Calls Try.prog 51 #[.agg #[.int .i64 x.f0.f0, .int .i64 x.f0.f1, .int .i64 x.f1.f0, .int .i64 x.f1.f1]] w (RetB (.int .i64 (boxE x)) w) := bound_CheckBox.calls 4 _ _ _ _ _ w (box_some x)
/-- Is a course valid, for so many layers? -/
def crsB (layers : Int) (c : S76) : Bool := btwB c.f0 0 8 && decide (0 ≤ c.f1) && (decide (layers < 0) || decide (c.f1 < layers))
theorem crs_loop (layers : Int) (l : List S76) (hl : l.length ≤ 64) : ∀ (m i k : Nat), i + m = l.length → m < k → glider_checkCourses.l0 k layers l (l.length : Int) (i : Int) = some (if (l.drop i).all (crsB layers) then 0 else 2) := by
 intro m
 induction m with
 | zero =>
  intro i k h hk
  obtain ⟨k, rfl⟩ : ∃ q, k = q + 1 := ⟨k - 1, by omega⟩
  rw [glider_checkCourses.l0, if_neg (by omega), List.drop_of_length_le (by omega)]
  rfl
 | succ m ih =>
  intro i k h hk
  obtain ⟨k, rfl⟩ : ∃ q, k = q + 1 := ⟨k - 1, by omega⟩
  have hi : i < l.length := by omega
  have hr : rd_T76 l (i : Int) = l[i] := by
   unfold rd_T76
   rw [List.getD_eq_getElem?_getD, Int.toNat_natCast, List.getElem?_eq_getElem hi]
   rfl
  have hih := ih (i + 1) k (by omega) (by omega)
  rw [glider_checkCourses.l0, if_pos (by omega), if_pos (by omega), if_pos (by omega), hr, wrap_id' (by omega) (by omega), show ((i : Int) + 1) = ((i + 1 : Nat) : Int) by omega, hih, List.drop_eq_getElem_cons hi, List.all_cons]
  cases hb : crsB layers l[i] with
  | true =>
   have hb2 : crsB layers l[i] = true := hb
   unfold crsB at hb2
   simp only [Bool.and_eq_true, Bool.or_eq_true, decide_eq_true_eq, btwB_iff] at hb2
   rw [Bool.true_and, if_neg (by omega), if_neg (by omega), if_neg (by omega)]
   by_cases h0 : layers ≥ 0
   ·rw [if_pos h0, if_neg (by omega)]
   ·rw [if_neg h0]
  | false =>
   have hn : ¬ ((0 ≤ l[i].f0 ∧ l[i].f0 ≤ 8) ∧ 0 ≤ l[i].f1 ∧ (layers < 0 ∨ l[i].f1 < layers)) := fun h2 => by
    have : crsB layers l[i] = true := by
     unfold crsB
     simp only [Bool.and_eq_true, Bool.or_eq_true, decide_eq_true_eq, btwB_iff]
     exact ⟨⟨h2.1, h2.2.1⟩, h2.2.2⟩
    rw [this] at hb
    cases hb
   rw [Bool.false_and, if_neg (show ¬ (false = true) by decide)]
   by_cases a1 : l[i].f0 < 0
   ·rw [if_pos a1]
   ·rw [if_neg a1]
    by_cases a2 : l[i].f0 ≥ 9
    ·rw [if_pos a2]
    ·rw [if_neg a2]
     by_cases a3 : l[i].f1 < 0
     ·rw [if_pos a3]
     ·rw [if_neg a3, if_pos (by omega), if_pos (by omega)]
theorem sea_two (s : Sea) : (seaE s = 0 ∧ seaB s = true) ∨ seaE s = 2 := by
 unfold seaE
 cases seaB s
 ·exact .inr rfl
 ·exact .inl ⟨rfl, rfl⟩
theorem bndB_iff {lo hi a b : Int} : bndB lo hi a b = true ↔ (lo ≤ hi ∧ -1073741824 ≤ lo ∧ hi ≤ 1073741824) ∧ a ≤ lo ∧ hi ≤ b := by unfold bndB; simp only [Bool.and_eq_true, decide_eq_true_eq, okS_iff]; exact and_assoc
theorem seaB_ok {s : Sea} (h : seaB s = true) : SeaV s := by
 unfold seaB at h
 simp only [Bool.and_eq_true, decide_eq_true_eq, btwB_iff, Bool.not_eq_true'] at h
 obtain ⟨⟨⟨⟨⟨⟨⟨⟨⟨h0, h1⟩, h2⟩, h3⟩, h4⟩, h5⟩, h6⟩, h7⟩, h8⟩, h9⟩ := h
 refine ⟨⟨h0, h1, h2, h3, h4, h5, h6⟩, h7, h8, fun c hc => ?_⟩
 have := List.any_eq_false.1 h9 c hc
 unfold badC at this
 simp only [Bool.not_eq_true, Bool.or_eq_false_iff, Bool.not_eq_false', bndB_iff] at this
 omega
theorem boxB_ok {x : S29} (h : boxE x = 0) : BoxOK x := by
 unfold boxE at h
 cases hb : boxB x with
 | false => rw [hb] at h; cases h
 | true =>
  unfold boxB at hb
  simp only [Bool.and_eq_true, btwB_iff, okS_iff] at hb
  unfold BoxOK SmallB
  omega
end Go.Proofs.Ythglkoddmpicdaa.Gl
end
section
/- Dive and At, as the program answers. -/
namespace Go.Proofs.Ythglkoddmpicdaa.Gl
open Go.RowKit Go.Shelf Go.Proofs.YthglkoddmpicdaaW.PrintWords Go.Proofs.YthglkoddmpicdaaW.PrintLast Go.Proofs.YthglkoddmpicdaaW.PrintMore Go.Proofs.Ythglkoddmpicdaa.Pr Go.Proofs.YthglkoddmpicdaaW.Round
set_option linter.unusedVariables false
set_option linter.unusedSimpArgs false
attribute [local go_sem] max2_int min2_int max_two min_two max_four
end Go.Proofs.Ythglkoddmpicdaa.Gl
end
